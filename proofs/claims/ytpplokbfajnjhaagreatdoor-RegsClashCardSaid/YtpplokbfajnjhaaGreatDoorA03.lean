/- A part. No conditions. -/
import Derived.Test.YtpplokbfajnjhaaGreatDoorA02
import Derived.Test.YtpplokbfajnjhaaGreatDoorA01
import Derived.Sort.Grow
import Derived.Sort.Row
set_option linter.all false
open List renaming range->ah7
open Nat renaming beq->ah8,blt->aiu,ble->ai0
open Int renaming ofNat->aiC
open Array renaming replicate->ajI
open List.Perm renaming swap->aiK
open List.Pairwise renaming nil->ajO
open Eq renaming mpr->ajP
open Prod renaming fst->ajR
noncomputable section
namespace Go.al
section
variable[Ov]
section
variable{P:Program}{nt:Nat}{aB:Array Oper}{l:List bD}{ap:List Nat}
theorem pV(ac:az AV)(d:Option ah)(v:AV)(t:ah):(aO ac d v).get .ajS t=if d=some t then v else ac.get .ajS t:=by cases d with|none=>rfl|some d=>simp only[aO,az.aF];grind
theorem Ek{ac a:az AV}{x:bD}(b:∀t∈x.ka,ac.get .ajS t=a.get .ajS t):dZ ac x.guard=dZ a x.guard:=by grind[bD.ka,dZ]
theorem I4{ac a:az AV}{x:bD}(b:∀t∈x.ka,ac.get .ajS t=a.get .ajS t):j9 ac x.guard=j9 a x.guard:=by grind[bD.ka,j9]
theorem wG{x:bD}{t:ah}(a:t∈x.op.ch):t∈x.ka:=by simp[a,bD.ka]
structure kT(P:Program)(nt:Nat)(aB:Array Oper)(l:List bD)(ap:List Nat):Prop where
 hl:aB.toList.mapM (oT P nt aB)=some l
 he:yw aB=true
 eB:∀i,i<aB.size->i∈ap
 d9:vZ l (Region.before aB) ap=true
theorem I5{d c:Type}{f:d->Option c}:∀{as:List d}{bs:List c},as.mapM f=some bs->∀(i:Nat)(b:c),bs[i]?=some b->∃a,as[i]?=some a/\f a=some b|[],bs,l,i,b,hb=>by grind|a::as,bs,l,i,b,hb=>by simp only[ajx,afN,ab1,ahZ,abv]at l;obtain⟨k,h0,j,h1,rfl⟩:=l;cases i with|zero=>grind|succ i=>simpa using I5 h1 i b hb
theorem kT.op(b:kT P nt aB l ap){i:Nat}{x:bD}(a:l[i]?=some x):∃o,aB[i]?=some o/\oT P nt aB o=some x:=by have⟨o,h1,h2⟩:=I5 b.hl i x a;grind
def El(l:List bD)(b:Array Nat)(seen:List Nat)(e ac:az AV)(H:ai)(i:Nat):Prop:=
 ∃(x:bD)(a cz:List Nat)(ex:az AV),l[i]?=some x/\seen=a++i::cz/\
  (∀t,(∃k∈cz,eQ l k t)->ex.get .ajS t=ac.get .ajS t)/\(∀t,(∀k∈cz,¬eQ l k t)->ex.get .ajS t=e.get .ajS t)/\
  ((dZ ex x.guard=false/\j9 ex x.guard=true/\∀d,x.dst=some d->ac.get .ajS d=.ajS)\/
   (dZ ex x.guard=true/\∃v,(∀d,x.dst=some d->ac.get .ajS d=v)/\
    ((x.op.kQ=false/\∀H':ai,aH x.op ex H'=some (v,H'))\/
    (x.op.iV=true/\(∀j,x.op.target ex=some j->H.get j≠.none/\∀k∈seen,Mk l ac k j->fh b i k)/\∀H':ai,(∀j,x.op.target ex=some j->H'.get j=H.get j)->aH x.op ex H'=some (v,H'))\/
    (x.op.kQ=true/\∃(nv:kD)(dp:bP)(j:ah),dp.kE/\v=nv.of j/\H.get j=dp/\∀H':ai,aH x.op ex H'=some (nv.of H'.next,H'.new dp)))))
structure Dr(P:Program)(Wr:b8)(nt:Nat)(aB:Array Oper)(l:List bD)(ap:List Nat)(ab:Nat->aV)(K:Fr->ai->Prop)(bA:List ah)(bz:Option ah)(env0:az AV)
  (L:Array Bool)(seen rest:List Nat)(n:Nat)(ac:az AV)(H:ai)(epi:az AV)(pn:List ah)(ρ:aM)(w:World)(tmps:Array Value):Prop where
 gh:seen.reverse++rest=ap
 size:L.size=aB.size
 sub:∀i,In L i->i∈seen
 nP:∀i,In L i->∀j,kF aB i j->In L j
 Em:∀i∈seen,Ch l i->In L i
 run:Go.al.aB False cV ab n (oV l (Region.before aB) seen rest) ⟨ac,bA,bz⟩ H K
 rr:∀t,(∀i∈seen,¬eQ l i t)->ac.get .ajS t=env0.get .ajS t
 sF:∀t,(∀i∈seen,¬In L i->¬eQ l i t)->epi.get .ajS t=ac.get .ajS t
 yO:∀t i,i∈seen->¬In L i->eQ l i t->epi.get .ajS t=env0.get .ajS t
 pd:∀j,j∈pn↔∃i∈seen,¬In L i/\Mk l ac i j
 ka:∀i i' j,i∈seen->i'∈seen->Mk l ac i j->Mk l ac i' j->i=i'
 pW:∀i j,i∈seen->Mk l ac i j->j.am<H.next.am/\(j∈pn\/ρ j≠none)
 kE:∀i j,i∈seen->Mk l ac i j->(∀c∈seen,Ch l c->¬fh (Region.before aB) c i)->(H.get j).kE
 bS:∀i∈seen,¬In L i->El l (Region.before aB) seen env0 ac H i
 dM:∀j∈pn,ρ j=none/\¬Wr.un j/\∀k,j∉(H.get k).aK
 E:gO ρ nt epi tmps
 fQ:bo P Wr ρ (H.eG pn) w
section
variable{h:b8}{ab:Nat->aV}{K:Fr->ai->Prop}{bA:List ah}{bz:Option ah}{e:az AV}{L:Array Bool}{seen rest:List Nat}{n:Nat}{ac:az AV}{H:ai}{g:az AV}{m:List ah}{ρ:aM}{w:World}{tmps:Array Value}
theorem yP(a:kT P nt aB l ap)(b:seen.reverse++rest=ap):seen.Pairwise (λj i=>rf l (Region.before aB) i j=true)/\(∀i∈seen,∀j∈rest,rf l (Region.before aB) i j=true):=by have:=(yN a.d9).1;grind
theorem nQ(a:seen.reverse++rest=ap){i:Nat}(hi:i∈seen):i∈ap:=by grind
theorem um(a:seen.reverse++rest=ap){i:Nat}(hi:i∈rest):i∈ap:=by grind
theorem sG(a:kT P nt aB l ap){i:Nat}(hi:i∈ap):∃x,l[i]?=some x/\rh x=true:=(yN a.d9).2 i hi
theorem yQ(a:kT P nt aB l ap)(b:seen.reverse++rest=ap){i:Nat}(hi:i∈rest):i∉seen:=by intro hs;have⟨x,c,_⟩:=sG a (um b hi);exact(pc ((yP a b).2 i hs i hi) c c).1 rfl
theorem I6(b:kT P nt aB l ap)(c:seen.reverse++rest=ap){a cz:List Nat}{i:Nat}(hs:seen=a++i::cz):(∀k∈cz,rf l (Region.before aB) k i=true)/\(∀k∈a,rf l (Region.before aB) i k=true):=by have:=(yP b c).1;grind
theorem Dr.Iv(J:kT P nt aB l ap)(d:Dr P h nt aB l ap ab K bA bz e L seen rest n ac H g m ρ w tmps){i:Nat}(hi:¬In L i)(hd:∀j,kF aB i j->In L j){x:bD}{D cz:List Nat}{ex:az AV}(I:l[i]?=some x)(hs:seen=D++i::cz)(h1:∀t,(∃k∈cz,eQ l k t)->ex.get .ajS t=ac.get .ajS t)(h2:∀t,(∀k∈cz,¬eQ l k t)->ex.get .ajS t=e.get .ajS t):∀t∈x.ka,g.get .ajS t=ex.get .ajS t:=by
 intro t M;have E:=sE d.nP i hd;have⟨q,A⟩:=I6 J d.gh hs;have inj:∀{a b:Nat},a∈seen->b∈seen->eQ l a t->eQ l b t->a=b:=λO hb=>eQ.inj J.d9 (nQ d.gh O) (nQ d.gh hb);by_cases B:∃k∈seen,eQ l k t
 .have⟨k,o,s⟩:=B;have C:=o;rw[hs,adX,acT]at C;have⟨y,p,r⟩:=s;rcases C with F|rfl|F;·have G:=((pc (A k F) I p).2.2.2.1 t r M).1;have u:¬In L k:=λv=>hi (sE d.nP k (d.nP k v) i G);rw[d.yO t k o u ⟨y,p,r⟩];refine(h2 t λN f c=>?_).symm;have:=inj o (by rw[hs];simp[f]) ⟨y,p,r⟩ c;subst this;exact(pc (q k f) p I).2.1 G
  .rw[d.yO t k o hi ⟨y,p,r⟩];refine(h2 t λN f c=>?_).symm;have:=inj o (by rw[hs];simp[f]) ⟨y,p,r⟩ c;subst this;exact(pc (q k f) p p).1 rfl
  have G:=((pc (q k F) p I).2.2.1 t r).2 M;have v:=E k G;rw[h1 t ⟨k,F,y,p,r⟩];refine d.sF t λN f u c=>?_;have:=inj o f ⟨y,p,r⟩ c;subst this;exact u v
 have z:∀k∈seen,¬eQ l k t:=λk o s=>B ⟨k,o,s⟩;rw[d.sF t λk o _=>z k o,d.rr t z];exact(h2 t λk o=>z k (by rw[hs];simp[o])).symm
theorem Dr.Rr(c:kT P nt aB l ap)(d:Dr P h nt aB l ap ab K bA bz e L seen rest n ac H g m ρ w tmps){i:Nat}(f:i∈rest)(hd:∀j,kF aB i j->In L j){x:bD}(o:l[i]?=some x):∀t∈x.ka,g.get .ajS t=ac.get .ajS t:=by intro t p;refine d.sF t λk q a b=>?_;have⟨y,r,s⟩:=b;exact a (sE d.nP i hd k (((pc ((yP c d.gh).2 k q i f) r o).2.2.1 t s).2 p))
end
theorem En{o:Oper}{x:bD}(c:oT P nt aB o=some x){ac:az AV}{H:ai}{r:AV×ai}(a:aH x.op ac H=some r):bL P nt o=some x.op:=by
 have⟨_,_,_,b,_⟩:=yK c;rw[b]at a;rw[b];split at a;·trivial
 rename_i d;rw[an d];cases f:bL P nt o with|none=>simp_all[aH]|some q=>rfl
theorem Bc{o:Oper}{op:bJ}{i:Nat}{is:List Nat}{b:Frame}{a:Act}{k:List Item}{cs:List Frame}{w w':World}{c:Value}(f:aB[i]?=some o)(n:bL P nt o=some op)(hg:Region.wanted o (yielded aB a.tmps)=true)(j:(execOp a.eval o).run P w=.ok (.value c) w'\/((execOp a.eval o).run P w=.ok .skip w'/\c=undef)):Steps P (lone (b.atR a (.inRegion aB (i::is)::k)) cs w) (lone (b.atR (a.put o.dst c) (.inRegion aB is::k)) cs w'):=by
 have l:(b.atR a (.inRegion aB (i::is)::k)).finish c=b.atR (a.put o.dst c) (.inRegion aB is::k):=by rw[Frame.finish_atR,f];rfl
 have d:=stepGR_op (P:=P) (b:=b) (a:=a) (k:=k) (cs:=cs) (w:=w) (rest:=is) f hg;rw[Oper.semAt_eq _ _ _ (yL n)]at d;refine .one (step_lone_go ?_);rw[d,<-l];rcases j with p|⟨p,rfl⟩;all_goals grind[A5,D7]
theorem I7{o:Oper}{i:Nat}{is:List Nat}{b:Frame}{a:Act}{k:List Item}{cs:List Frame}{w:World}(c:aB[i]?=some o)(hg:Region.wanted o (yielded aB a.tmps)=false):Steps P (lone (b.atR a (.inRegion aB (i::is)::k)) cs w) (lone (b.atR (a.put o.dst undef) (.inRegion aB is::k)) cs w):=by have de:=stepR_op_skip (P:=P) (b:=b) (a:=a) (k:=k) (cs:=cs) (w:=w) (ops:=aB) (i:=i) (rest:=is) (by simp[c,hg]);rw[c]at de;exact .one de
theorem I8{ρ:aM}{ac:az AV}{tmps:Array Value}(c:gO ρ nt ac tmps){o:Oper}{x:bD}(b:oT P nt aB o=some x)(a:j9 ac x.guard=true):Region.wanted o (yielded aB tmps)=dZ ac x.guard:=IP (a:=⟨tmps,[]⟩) (fr:=⟨ac,[],none⟩) (ro:=none) ⟨c,trivial,trivial⟩ b a
theorem yR(a:Act)(d:Option Tmp)(c:Value):(a.put d c).defers=a.defers:=by cases d<;>rfl
theorem gO.put{ρ:aM}{ac:az AV}{a:Act}(f:gO ρ nt ac a.tmps){v:AV}{c:Value}(b:VR ρ v c)(d:Option Tmp):gO ρ nt (aO ac (d.map ah.cG) v) (a.put d c).tmps:=by cases d with|none=>exact f|some d=>exact f.set b
end
section
variable{P:Program}{nt:Nat}{aB:Array Oper}{l:List bD}{ap:List Nat}
variable{h:b8}{ab:Nat->aV}{K:Fr->ai->Prop}{bA:List ah}{bz:Option ah}{m:az AV}{L:Array Bool}{seen rest:List Nat}{n:Nat}{ac:az AV}{H:ai}{g:az AV}{f:List ah}{ρ:aM}{w:World}{tmps:Array Value}
theorem Dr.mark(F:kT P nt aB l ap)(d:Dr P h nt aB l ap ab K bA bz m L seen rest n ac H g f ρ w tmps){i:Nat}(gQ:i∈seen)(D:i<aB.size)(B:∀j,kF aB i j->In L j){c:az AV}{s:List ah}{o:aM}{w':World}{r:Array Value}(C:bZ ρ o)(p:∀t,(eQ l i t->c.get .ajS t=ac.get .ajS t)/\(¬eQ l i t->c.get .ajS t=g.get .ajS t))(u:∀j,j∈s↔j∈f/\¬Mk l ac i j)(v:∀j,Mk l ac i j->o j≠none)(y:∀j∈s,o j=none)(G:gO o nt c r)(I:bo P h o (H.eG s) w'):Dr P h nt aB l ap ab K bA bz m (L.setIfInBounds i true) seen rest n ac H c s o w' r:=by
 have b:∀j,In (L.setIfInBounds i true) j↔j=i\/In L j:=Ej (by rw[d.size];exact D);have q:∀j,¬In (L.setIfInBounds i true) j->j≠i/\¬In L j:=λj hj=>⟨λe=>hj ((b j).2 (.inl e)),λe=>hj ((b j).2 (.inr e))⟩;refine⟨d.gh,by rw[Array.size_setIfInBounds];exact d.size,?_,?_,λk a J=>(b k).2 (.inr (d.Em k a J)),d.run,d.rr,?_,?_,?_,d.ka,?_,d.kE,λk a z=>d.bS k a (q k z).2,?_,G,I⟩
 .intro j hj;rcases(b j).1 hj with e|e;·rw[e];exact gQ
  exact d.sub j e
 .intro j hj k a;rcases(b j).1 hj with e|e;·rw[e]at a;exact(b k).2 (.inr (B k a))
  exact(b k).2 (.inr (d.nP j e k a))
 .intro t M;by_cases hd:eQ l i t;·exact(p t).1 hd
  rw[(p t).2 hd];refine d.sF t λk a z=>?_;by_cases e:k=i;·rw[e];exact hd
  exact M k a λR=>(b k).1 R|>.elim e z
 .intro t k a z A;have⟨h1,h2⟩:=q k z;rw[(p t).2 λhd=>h1 (eQ.inj F.d9 (nQ d.gh a) (nQ d.gh gQ) A hd)];exact d.yO t k a h2 A
 .intro j;rw[u,d.pd];constructor;·rintro⟨⟨k,a,h1,h2⟩,h3⟩;exact⟨k,a,λR=>(b k).1 R|>.elim (λe=>h3 (e▸h2)) h1,h2⟩
  rintro⟨k,a,h1,h2⟩;have⟨N,O⟩:=q k h1;exact⟨⟨k,a,O,h2⟩,λh3=>N (d.ka k i j a gQ h2 h3)⟩
 .intro k j a Q;have⟨h1,h2⟩:=d.pW k j a Q;refine⟨h1,?_⟩;rcases h2 with h2|h2
  .by_cases hi:Mk l ac i j;·exact .inr (v j hi)
   exact .inl ((u j).2 ⟨h2,hi⟩)
  right;intro e;cases E:ρ j with|none=>exact h2 E|some x=>rw[(C _ _ E).1]at e;cases e
 intro j hj;exact⟨y j hj,(d.dM j ((u j).1 hj).1).2⟩
theorem kD.wH{n:kD}{i:ah}{c:Value}(k:VR ρ (n.of i) c):ρ i≠none:=by
 cases n with
 |aD=>obtain⟨b,x,e,_⟩:=VR.l9 k;grind
 |slice a b e=>
  simp only[kD.of]at k;cases c with
  |slice ad d j=>cases ad with|none=>trivial|some ad=>grind[VR]
  |_=>trivial
 |map=>obtain⟨b,e,_⟩:=VR.oY k;grind
theorem ke(H:ai)(f:List ah)(j:ah):(H.eG f).get j=if j∈f then .none else H.get j:=ai.ud f H j
theorem Dr.Rt(hR:kT P nt aB l ap)(d:Dr P h nt aB l ap ab K bA bz m L seen rest n ac H g f ρ w tmps){i:Nat}(gQ:i∈seen)(hi:¬In L i)(B:∀j,kF aB i j->In L j){b:Frame}{a:Act}(ha:a.tmps=tmps)(is:List Nat)(k:List Item)(cs:List Frame):∃(u:aM)(w':World)(a':Act)(S:az AV)(F:List ah),bZ ρ u/\dj h w w'/\a'.defers=a.defers/\Steps P (lone (b.atR a (.inRegion aB (i::is)::k)) cs w) (lone (b.atR a' (.inRegion aB is::k)) cs w')/\Dr P h nt aB l ap ab K bA bz m (L.setIfInBounds i true) seen rest n ac H S F u w' a'.tmps:=by
 subst ha;have⟨x,cd,cz,ex,hx,hs,h1,h2,z⟩:=d.bS i gQ hi;have⟨o,Q,av⟩:=hR.op hx;have⟨xd,_⟩:=yK av;have a2:i<aB.size:=by
  rcases aiU i aB.size with q|q;·exact q
  rw[ai3 q]at Q;cases Q
 have a6:=d.Iv hR hi B hx hs h1 h2;have b7:j9 ex x.guard=true:=by
  rcases z with⟨_,cn,_⟩|⟨cn,_⟩;·exact cn
  exact Ec cn
 have a8:Region.wanted o (yielded aB a.tmps)=dZ ex x.guard:=by rw[I8 d.E av (by rw[I4 a6];exact b7)];exact Ek a6
 have T:∀H',aH x.op g H'=aH x.op ex H':=λH'=>Eg (λp hp=>a6 p (wG hp)) H';have V:∀{v:AV},(∀t,x.dst=some t->ac.get .ajS t=v)->∀t,(eQ l i t->(aO g x.dst v).get .ajS t=ac.get .ajS t)/\(¬eQ l i t->(aO g x.dst v).get .ajS t=g.get .ajS t):=by
  intro v N t;rw[pV];refine⟨λ⟨y,O,dy⟩=>?_,λhn=>?_⟩;·rw[hx]at O;injection O with O;subst O;rw[aG dy,N t dy]
  rw[an λe=>hn ⟨x,hx,e⟩]
 have J:∀j,Mk l ac i j->x.op.kQ=true/\∃t,x.dst=some t/\gZ (ac.get .ajS t)=some j:=by rintro j⟨y,t,O,g1,g2,g3⟩;rw[hx]at O;injection O with O;subst O;exact⟨g1,t,g2,g3⟩
 have G:∀j∈f,j.am<H.next.am:=λj hj=>by have⟨k',ba,_,M⟩:=(d.pd j).1 hj;exact(d.pW k' j ba M).1
 have W:∀j∈f,∀k,j∉((H.eG f).get k).aK:=λj hj k hk=>by
  rw[ke]at hk;split at hk;·cases hk
  exact(d.dM j hj).2.2 k hk
 have I:(H.eG f).next=H.next:=ai.iK _ _;have Y:∀{v:AV},x.op.kQ=false->aH x.op g (H.eG f)=some (v,H.eG f)->(∀t,x.dst=some t->ac.get .ajS t=v)->dZ ex x.guard=true->∃(u:aM)(w':World)(a':Act)(S:az AV)(F:List ah),bZ ρ u/\dj h w w'/\a'.defers=a.defers/\Steps P (lone (b.atR a (.inRegion aB (i::is)::k)) cs w) (lone (b.atR a' (.inRegion aB is::k)) cs w')/\Dr P h nt aB l ap ab K bA bz m (L.setIfInBounds i true) seen rest n ac H S F u w' a'.tmps:=by intro v M A N hg;have bb:=d.fQ.iY (hl:=λ_=>False) (dd:=λj=>j∈f) (λ_ cn=>cn.elim) (λj hj=>⟨by rw[ke,aG hj],(d.dM j hj).1,by rw[I];exact G j hj,W j hj⟩) rfl (λ_=>.inl rfl) (λ_ cn=>cn.elim);have C:=En av A;have⟨c,w',X,u,s,aw,R,hK⟩:=yJ (dk.mk d.E bb) C A;have⟨u1,u2⟩:=d.fQ.Ei (hl:=λ_=>False) (λ_ cn=>cn.elim) s R hK (H2:=H.eG f) rfl (λ_ cn=>cn.elim) (λ_ _=>rfl);refine⟨u,w',a.put o.dst c,aO g x.dst v,f,s,u2,yR ..,Bc Q C (by rw[a8];exact hg) X,?_⟩;refine d.mark hR gQ a2 B s (V N) (λj=>⟨λhj=>⟨hj,λcn=>by rw[M]at J;have:=(J j cn).1;cases this⟩,λhj=>hj.1⟩) (λj cn=>by rw[M]at J;have:=(J j cn).1;cases this) (λj hj=>(R.dM j (.inr hj)).2) ?_ u1;rw[xd];exact(d.E.mono s).put aw o.dst
 rcases z with⟨hg,_,N⟩|⟨hg,v,N,z⟩
 .refine⟨ρ,w,a.put o.dst undef,aO g x.dst .ajS,f,bZ.refl ρ,dj.refl h w,yR ..,I7 Q (by rw[a8];exact hg),?_⟩;have bv:∀j,¬Mk l ac i j:=λj cn=>by have⟨_,t,g1,g2⟩:=J j cn;rw[N t g1]at g2;simp[AV.ajS,gZ]at g2
  refine d.mark hR gQ a2 B (bZ.refl ρ) (V N) (λj=>⟨λhj=>⟨hj,bv j⟩,λhj=>hj.1⟩) (λj cn=>absurd cn (bv j)) (λj hj=>(d.dM j hj).1) ?_ d.fQ;rw[xd];exact d.E.put (VR.ajS ρ) o.dst
 rcases z with⟨M,A⟩|⟨hr,b',A⟩|⟨M,nv,dp,D,O,rfl,b3,A⟩;·exact Y (v:=v) M (by rw[T];exact A (H.eG f)) N hg
 .refine Y (v:=v) (wF hr).2.1 ?_ N hg;rw[T];refine A (H.eG f) λj hj=>?_;rw[ke,an];intro ca;have⟨k',ba,hn,b4⟩:=(d.pd j).1 ca;exact hn (sE d.nP i B k' ((b' j hj).2 k' ba b4))
 have⟨x',ax,b6⟩:=sG hR (nQ d.gh gQ);rw[hx]at ax;injection ax with ax;subst ax;obtain⟨t0,bc⟩:∃t,x.dst=some t:=by cases hd:x.dst with|some t=>exact⟨t,rfl⟩|none=>simp[rh,hd,(wE M).1,(wE M).2.2]at b6
 have Z:gZ (ac.get .ajS t0)=some D:=by rw[N t0 bc];exact kD.name nv D
 have b0:Mk l ac i D:=⟨x,t0,hx,M,bc,Z⟩;have ag:∀j,Mk l ac i j->j=D:=by intro j cn;have⟨_,t,g1,g2⟩:=J j cn;rw[bc]at g1;injection g1 with g1;subst g1;rw[Z]at g2;injection g2 with g2;exact g2.symm
 have ay:D∈f:=(d.pd D).2 ⟨i,gQ,hi,b0⟩;have r:∀j,j∈f.filter (λj=>decide (j≠D))↔j∈f/\j≠D:=λj=>by simp
 generalize cf:f.filter (λj=>decide (j≠D))=F at r;have bb:=d.fQ.iY (hl:=λ_=>False) (dd:=λj=>j∈F) (λ_ cn=>cn.elim) (λj hj=>⟨by rw[ke,aG ((r j).1 hj).1],(d.dM j ((r j).1 hj).1).1,by rw[I];exact G j ((r j).1 hj).1,W j ((r j).1 hj).1⟩) rfl (λ_=>.inl rfl) (λ_ cn=>cn.elim);have a1:∀H':ai,aH x.op g H'=some (nv.of H'.next,H'.new dp):=λH'=>by rw[T];exact A H'
 have C:=En av (a1 H);obtain⟨c,w',X,u,s,aw,R,hK⟩:=Rf bb d.E C O a1 (d.dM D ay).1 (by rw[I];exact G D ay) (by
  rintro(cn|cn|cn);·exact(d.dM D ay).2.1 cn
  .exact cn
  exact((r D).1 cn).2 rfl) (W D ay);obtain⟨u1,u2⟩:=d.fQ.Ei (hl:=λ_=>False) (λ_ cn=>cn.elim) s R hK (H2:=H.eG F) (by rw[ai.iK,ai.eH,ai.iK]) (λ_ cn=>cn.elim) (λj _=>by
  rw[ke,ai.aF,ke];by_cases e:j=D;·subst e;rw[an λcn=>((r j).1 cn).2 rfl,aG rfl];exact b3
  by_cases e':j∈f;·rw[aG ((r j).2 ⟨e',e⟩),an e,aG e']
  rw[an λcn=>e' ((r j).1 cn).1,an e,an e']);refine⟨u,w',a.put o.dst c,aO g x.dst (nv.of D),F,s,u2,yR ..,Bc Q C (by rw[a8];exact hg) X,?_⟩;refine d.mark hR gQ a2 B s (V N) (λj=>?_) (λj cn=>?_) (λj hj=>(R.dM j (.inr hj)).2) ?_ u1;·rw[r];exact⟨λcn=>⟨cn.1,λM=>cn.2 (ag j M)⟩,λcn=>⟨cn.1,λe=>cn.2 (e▸b0)⟩⟩
 .rw[ag j cn];exact kD.wH aw
 rw[xd];exact(d.E.mono s).put aw o.dst
end
section
variable{P:Program}{nt:Nat}{aB:Array Oper}{l:List bD}{ap:List Nat}
variable{r:b8}{ab:Nat->aV}{K:Fr->ai->Prop}{bA:List ah}{bz:Option ah}{s:az AV}{L:Array Bool}{seen rest:List Nat}{n:Nat}{ac:az AV}{H:ai}{p:az AV}{h:List ah}{ρ:aM}{w:World}{tmps:Array Value}
theorem Mk.Eo{ac a:az AV}{i:Nat}{j:ah}(c:∀t,eQ l i t->a.get .ajS t=ac.get .ajS t):Mk l a i j↔Mk l ac i j:=by
 constructor;·rintro⟨x,t,b,h1,h2,h3⟩;exact⟨x,t,b,h1,h2,by rw[<-c t ⟨x,b,h2⟩];exact h3⟩
 rintro⟨x,t,b,h1,h2,h3⟩;exact⟨x,t,b,h1,h2,by rw[c t ⟨x,b,h2⟩];exact h3⟩
theorem Rv(f:kT P nt aB l ap){c:Nat}{rest:List Nat}(g:seen.reverse++c::rest=ap){a ex:az AV}{i:Nat}{y:bD}{e cz:List Nat}(q:l[i]?=some y)(u:y.op.iV=true)(hs:seen=e++i::cz)(h1:∀t,(∃k∈cz,eQ l k t)->ex.get .ajS t=a.get .ajS t)(h2:∀t,(∀k∈cz,¬eQ l k t)->ex.get .ajS t=s.get .ajS t)(h0:∀t,(∀k∈c::seen,¬eQ l k t)->a.get .ajS t=s.get .ajS t):∀t∈y.ka,a.get .ajS t=ex.get .ajS t:=by
 intro t v;by_cases j:∃k∈cz,eQ l k t;·grind
 rw[h2 t λk b d=>j ⟨k,b,d⟩];refine h0 t λk b d=>?_;have⟨z,m,n⟩:=d;have gQ:i∈seen:=by rw[hs];simp
 have after:rf l (Region.before aB) i k=true->False:=λd9=>by have:=((pc d9 q m).2.2.2.1 t n v).2;rw[u]at this;cases this
 rcases acT.1 b with rfl|b;·exact after ((yP f g).2 i gQ k (acI ..))
 rw[hs,adX,acT]at b;rcases b with b|rfl|b;·grind[I6]
 .have⟨x,w,o⟩:=sG f (nQ g gQ);simp_all[rh,wF]
 exact j ⟨k,b,z,m,n⟩
theorem Dr.I9(hR:kT P nt aB l ap){c:Nat}(d:Dr P r nt aB l ap ab K bA bz s L seen (c::rest) n ac H p h ρ w tmps){x:bD}(hx:l[c]?=some x)(a2:x.op.gN=true)(ag:∀j,kF aB c j->In L j){v:AV}{H2:ai}{n':Nat}{J:aM}{w':World}{S:Array Value}(b0:bZ ρ J)(ha:∀j k,k∈seen->¬fh (Region.before aB) c k->Mk l ac k j->H2.get j=H.get j)(hI:bo P r J (H2.eG h) w')(T:∀j∈h,J j=none/\∀k,j∉(H2.get k).aK)(b3:∀j k,k∈seen->Mk l ac k j->j.am<H2.next.am)(b':∀i∈seen,¬In L i->∀y,l[i]?=some y->y.op.iV=true->dZ (aO ac x.dst v) y.guard=true->∀t,y.dst=some t->(∀j,H2.get j=H.get j)\/∃H1,aH y.op (aO ac x.dst v) H2=some ((aO ac x.dst v).get .ajS t,H1))(hE:gO J nt (aO p x.dst v) S)(b4:Go.al.aB False cV ab n' (oV l (Region.before aB) (c::seen) rest) ⟨aO ac x.dst v,bA,bz⟩ H2 K):Dr P r nt aB l ap ab K bA bz s (L.setIfInBounds c true) (c::seen) rest n' (aO ac x.dst v) H2 (aO p x.dst v) h J w' S:=by
 have⟨o,a6,cv⟩:=hR.op hx;have ca:c<aB.size:=by
  rcases aiU c aB.size with q|q;·exact q
  rw[ai3 q]at a6;cases a6
 have b:∀j,In (L.setIfInBounds c true) j↔j=c\/In L j:=Ej (by rw[d.size];exact ca);have O:∀j,¬In (L.setIfInBounds c true) j->j≠c/\¬In L j:=λj hj=>⟨λe=>hj ((b j).2 (.inl e)),λe=>hj ((b j).2 (.inr e))⟩;have a8:c∈c::rest:=acI .. ;have Z:c∉seen:=yQ hR d.gh a8;have a':∀t,eQ l c t↔x.dst=some t:=λt=>⟨λ⟨y,m,dy⟩=>by rw[hx]at m;injection m with m;subst m;exact dy,λcx=>⟨x,hx,cx⟩⟩;have F:∀i t,i∈seen->eQ l i t->x.dst≠some t:=λi t hi hd e=>Z (eQ.inj hR.d9 (nQ d.gh hi) (um d.gh a8) hd ((a' t).2 e)▸hi);have A:∀t,x.dst≠some t->(aO ac x.dst v).get .ajS t=ac.get .ajS t:=λt cx=>by rw[pV,an cx]
 have av:∀t,x.dst≠some t->(aO p x.dst v).get .ajS t=p.get .ajS t:=λt cx=>by rw[pV,an cx]
 have B:∀i j,i∈c::seen->(Mk l (aO ac x.dst v) i j↔i∈seen/\Mk l ac i j):=by
  intro i j hi;rcases acT.1 hi with e|e;·subst e;refine⟨λcx=>?_,λcx=>absurd cx.1 Z⟩;have⟨y,t,m,I,_⟩:=cx;rw[hx]at m;injection m with m;subst m;rw[(Ro a2).1]at I;cases I
  rw[Mk.Eo λt D=>A t (F i t e D)];exact⟨λcx=>⟨e,cx⟩,λcx=>cx.2⟩
 have h0:∀t,(∀k∈c::seen,¬eQ l k t)->(aO ac x.dst v).get .ajS t=s.get .ajS t:=by intro t D;rw[A t λe=>D c (acI ..) ((a' t).2 e)];exact d.rr t λk a=>D k (adT _ a)
 refine⟨by rw[<-d.gh];simp,by rw[Array.size_setIfInBounds];exact d.size,?_,?_,?_,b4,h0,?_,?_,?_,?_,?_,?_,?_,?_,hE,hI⟩
 .intro j hj;rcases(b j).1 hj with e|e;·rw[e];exact acI ..
  exact adT _ (d.sub j e)
 .intro j hj k a;rcases(b j).1 hj with e|e;·rw[e]at a;exact(b k).2 (.inr (ag k a))
  exact(b k).2 (.inr (d.nP j e k a))
 .intro j hj hc;rcases acT.1 hj with e|e;·exact(b j).2 (.inl e)
  exact(b j).2 (.inr (d.Em j e hc))
 .intro t D;by_cases e:x.dst=some t;·rw[pV,pV,aG e,aG e]
  rw[av t e,A t e];refine d.sF t λk a hn=>D k (adT _ a) λcx=>?_;rcases(b k).1 cx with e'|e';·exact Z (e'▸a)
  exact hn e'
 .intro t k a hn M;have⟨G,E⟩:=O k hn;have ba:k∈seen:=(acT.1 a).resolve_left G;rw[av t (F k t ba M)];exact d.yO t k ba E M
 .intro j;rw[d.pd];constructor;·rintro⟨k,a,G,E⟩;exact⟨k,adT _ a,λcx=>(b k).1 cx|>.elim (λe=>Z (e▸a)) G,(B k j (adT _ a)).2 ⟨a,E⟩⟩
  rintro⟨k,a,G,E⟩;have⟨g3,g4⟩:=(B k j a).1 E;exact⟨k,g3,(O k G).2,g4⟩
 .intro i i' j hi cd G E;have⟨X,Y⟩:=(B i j hi).1 G;have⟨b1,b2⟩:=(B i' j cd).1 E;exact d.ka i i' j X b1 Y b2
 .intro i j hi G;have⟨X,Y⟩:=(B i j hi).1 G;refine⟨b3 j i X Y,?_⟩;rcases(d.pW i j X Y).2 with g|g;·exact .inl g
  right;intro e;cases W:ρ j with|none=>exact g W|some z=>rw[(b0 _ _ W).1]at e;cases e
 .intro i j hi G E;have⟨X,Y⟩:=(B i j hi).1 G;rw[ha j i X (E c (acI ..) ⟨x,hx,a2⟩) Y];exact d.kE i j X Y λk a=>E k (adT _ a)
 .intro i hi hn;have⟨G,E⟩:=O i hn;have gQ:i∈seen:=(acT.1 hi).resolve_left G;have⟨y,b6,cz,ex,m,hs,h1,h2,C⟩:=d.bS i gQ E;have bb:∀t,(∃k∈cz,eQ l k t)->ex.get .ajS t=(aO ac x.dst v).get .ajS t:=by rintro t⟨k,a,M⟩;rw[A t (F k t (by rw[hs];simp[a]) M)];exact h1 t ⟨k,a,M⟩
  have Q:∀t,y.dst=some t->(aO ac x.dst v).get .ajS t=ac.get .ajS t:=λt D=>A t (F i t gQ ⟨y,m,D⟩);refine⟨y,c::b6,cz,ex,m,by rw[hs];rfl,bb,h2,?_⟩;rcases C with⟨hg,cf,hv⟩|⟨hg,u,hv,C⟩;·exact .inl ⟨hg,cf,λt D=>by rw[Q t D];exact hv t D⟩
  refine .inr ⟨hg,u,λt D=>by rw[Q t D];exact hv t D,?_⟩;rcases C with⟨I,N⟩|⟨W,ay,N⟩|⟨I,nv,dp,j0,cn,bc,b7,N⟩;·exact .inl ⟨I,N⟩
  .have bv:=Rv hR d.gh m W hs bb h2 h0;have⟨y',f,R⟩:=sG hR (nQ d.gh gQ);rw[m]at f;injection f with f;subst f;obtain⟨t0,a1⟩:∃t,y.dst=some t:=by cases hd:y.dst with|some t=>exact⟨t,rfl⟩|none=>simp[rh,hd,(wF W).1,(wF W).2.2]at R
   right;left;have aw:∀j,(∀k∈seen,Mk l ac k j->fh (Region.before aB) i k)->∀k∈c::seen,Mk l (aO ac x.dst v) k j->fh (Region.before aB) i k:=λj cx k a I=>by have⟨X,Y⟩:=(B k j a).1 I;exact cx k X Y
   rcases b' i gQ E y m W (by rw[Ek bv];exact hg) t0 a1 with V|⟨H1,ax⟩;·exact⟨W,λj hj=>⟨by rw[V];exact(ay j hj).1,aw j (ay j hj).2⟩,λH' cp=>N H' λj hj=>by rw[cp j hj,V]⟩
   rw[Q t0 a1,hv t0 a1,Eg (λcy hp=>bv cy (wG hp))]at ax;have⟨_,q2,q3⟩:=IW W ax;exact⟨W,λj hj=>⟨q2 j hj,aw j (ay j hj).2⟩,q3⟩
  right;right;refine⟨I,nv,dp,j0,cn,bc,?_,N⟩;rw[ha j0 i gQ (λhA=>E (sE d.nP c ag i hA)) ?_];·exact b7
  have⟨y',f,R⟩:=sG hR (nQ d.gh gQ);rw[m]at f;injection f with f;subst f;cases hd:y.dst with|some t=>exact⟨y,t,m,I,hd,by rw[hv t hd,bc];exact kD.name nv j0⟩|none=>simp[rh,hd,(wE I).1,(wE I).2.2]at R
 intro j hj;exact⟨(T j hj).1,(d.dM j hj).2.1,(T j hj).2⟩
theorem Dr.Rw(hR:kT P nt aB l ap)(bv:∀m,m<n->rp P ab m){c:Nat}(d:Dr P r nt aB l ap ab K bA bz s L seen (c::rest) n ac H p h ρ w tmps)(cd:Ch l c)(N:∀j,kF aB c j->In L j){b:Frame}{a:Act}(hat:a.tmps=tmps)(is:List Nat)(k:List Item)(cs:List Frame):∃(D:aM)(w':World)(a':Act)(n':Nat)(env':az AV)(H':ai)(ag:az AV)(a6:List ah),n'<=n/\bZ ρ D/\dj r w w'/\a'.defers=a.defers/\Steps P (lone (b.atR a (.inRegion aB (c::is)::k)) cs w) (lone (b.atR a' (.inRegion aB is::k)) cs w')/\Dr P r nt aB l ap ab K bA bz s (L.setIfInBounds c true) (c::seen) rest n' env' H' ag a6 D w' a'.tmps:=by
 subst hat;have⟨x,hx,a8⟩:=cd;have⟨o,Y,ba⟩:=hR.op hx;have⟨xd,_,_,xo,_⟩:=yK ba;have b4:c∈c::rest:=acI .. ;have X:=d.Rr hR b4 N hx;have J:j9 ac x.guard=true->Region.wanted o (yielded aB a.tmps)=dZ ac x.guard:=λbb=>by rw[I8 d.E ba (by rw[I4 X];exact bb)];exact Ek X
 have u:=d.run;simp only[oV,hx]at u;cases n with
 |zero=>simp only[Go.al.aB]at u
 |succ n=>
  have ax:(H.eG h).next=H.next:=ai.iK _ _;have b0:∀j∈h,j.am<H.next.am:=λj hj=>by have⟨S,F,_,W⟩:=(d.pd j).1 hj;exact(d.pW S j F W).1
  simp only[Go.al.aB,DI,a8,Bool.true_or,bi]at u;cases hg:dZ ac x.guard with
  |false=>
   rw[hg]at u J;simp only[acg,bF]at u;split at u;case isFalse=>exact u.elim
   rename_i bb;have J:=J bb;refine⟨ρ,w,a.put o.dst undef,n,aO ac x.dst .ajS,H,aO p x.dst .ajS,h,Nat.le_succ n,bZ.refl ρ,dj.refl r w,yR ..,I7 Y J,?_⟩;exact d.I9 hR hx a8 N (bZ.refl ρ) (λ_ _ _ _ _=>rfl) d.fQ (λj hj=>⟨(d.dM j hj).1,(d.dM j hj).2.2⟩) (λj k hk W=>(d.pW k j hk W).1) (λ_ _ _ _ _ _ _ _ _=>.inl λ_=>rfl) (by rw[xd];exact d.E.put (VR.ajS ρ) o.dst) u
  |true=>
   have J:=J (Ec hg);rw[hg]at u J;simp only[bi]at u;generalize b7:yu l (Region.before aB) seen c=B at u;have O:=Bb ac B H;have av:∀j,j∈ix ac B↔∃k∈seen,¬fh (Region.before aB) c k/\Mk l ac k j:=λj=>by rw[<-b7];exact I1
   have a1:∀j∈h,j∈ix ac B:=λj hj=>by have⟨S,F,T,W⟩:=(d.pd j).1 hj;exact(av j).2 ⟨S,F,λhA=>T (sE d.nP c N S hA),W⟩
   have V:∀i,(i∈ix ac B/\i∉h)->((H.eG h).get i).kE:=by rintro i⟨h1,h2⟩;have⟨S,F,T,W⟩:=(av i).1 h1;rw[ke,an h2];exact d.kE S i F W λc' cf⟨z,hz,cn⟩hA=>T (((pc ((yP hR d.gh).2 c' cf c b4) hz hx).2.2.2.2 cn).2 S hA)
   have bc:=d.fQ.iY (hl:=λi=>i∈ix ac B/\i∉h) (dd:=λj=>j∈h) V (λj hj=>⟨by rw[ke,aG hj],(d.dM j hj).1,by rw[ax];exact b0 j hj,λk hk=>by
    rw[ke]at hk;split at hk;·cases hk
    exact(d.dM j hj).2.2 k hk⟩) (H2:=(dF ac H B).1) (by rw[(O .xH).2.1,ax]) (λj=>by
    rw[(O j).1,ke];by_cases e:j∈ix ac B;·rw[aG e];exact .inr rfl
    rw[an e,an λdv=>e (a1 j dv)];exact .inl rfl) (λi hi=>by rw[(O i).1,aG hi.1]);have aq:∀{v:AV}{H1:ai}{cv:Value}{w':World}{D:aM},bZ ρ D->VR D v cv->bo P (r.iY ρ (λi=>i∈ix ac B/\i∉h) λj=>j∈h) D H1 w'->dj (r.iY ρ (λi=>i∈ix ac B/\i∉h) λj=>j∈h) w w'->Steps P (lone (b.atR a (.inRegion aB (c::is)::k)) cs w) (lone (b.atR (a.put o.dst cv) (.inRegion aB is::k)) cs w')->(if dX (aO ac x.dst v) (di H1 (dF ac H B).2) (iV l (Region.before aB) seen c)=true then Go.al.aB False cV ab n (oV l (Region.before aB) (c::seen) rest) ⟨aO ac x.dst v,bA,bz⟩ (di H1 (dF ac H B).2) K else False)->∃(D:aM)(w':World)(a':Act)(n':Nat)(env':az AV)(H':ai)(ag:az AV)(a6:List ah),n'<=n+1/\bZ ρ D/\dj r w w'/\a'.defers=a.defers/\Steps P (lone (b.atR a (.inRegion aB (c::is)::k)) cs w) (lone (b.atR a' (.inRegion aB is::k)) cs w')/\Dr P r nt aB l ap ab K bA bz s (L.setIfInBounds c true) (c::seen) rest n' env' H' ag a6 D w' a'.tmps:=by
    intro v H1 cv w' D C hv G hK de ay;split at ay;case isFalse=>exact ay.elim
    rename_i b6;have Z:∀j,(di H1 (dF ac H B).2).get j=if j∈ix ac B then H.get j else H1.get j:=λj=>((O j).2.2 H1).1;have aw:(di H1 (dF ac H B).2).next=H1.next:=((O .xH).2.2 H1).2;generalize di H1 (dF ac H B).2=H2 at ay b6 Z aw;obtain⟨u1,u2⟩:=d.fQ.Ei V C G hK (H2:=H2.eG h) (by rw[ai.iK];exact aw) (λi hi=>by rw[ke,ke,an hi.2,an hi.2,Z,aG hi.1]) (λi hi=>by
     rw[ke];by_cases e:i∈h;·rw[aG e];exact(G.un i (.inr (.inr e))).1.symm
     rw[an e,Z,an λdv=>hi ⟨dv,e⟩]);refine⟨D,w',a.put o.dst cv,n,aO ac x.dst v,H2,aO p x.dst v,h,Nat.le_succ n,C,u2,yR ..,de,?_⟩;refine d.I9 hR hx a8 N (v:=v) C (λj S F T W=>by rw[Z,aG ((av j).2 ⟨S,F,T,W⟩)]) u1 ?_ ?_ ?_ (by rw[xd];exact(d.E.mono C).put hv o.dst) ay
    .intro j hj;refine⟨(G.dM j (.inr hj)).2,λS F=>?_⟩;rw[Z]at F;split at F;·exact(d.dM j hj).2.2 S F
     exact(G.un j (.inr (.inr hj))).2.2 S F
    .intro j S F W;rw[aw];by_cases e:j∈ix ac B
     .by_cases e':j∈h;·exact(G.un j (.inr (.inr e'))).2.1
      exact(G.un j (.inr (.inl ⟨e,e'⟩))).2.1
     have hl:ρ j≠none:=((d.pW S j F W).2).resolve_left λdv=>e (a1 j dv);rcases aiU j.am H1.next.am with q|q;·exact q
     exfalso;cases hr:ρ j with|none=>exact hl hr|some z=>have:=(G.dc j q).2;rw[(C _ _ hr).1]at this;cases this
    intro i hi T y hy hr cp t ht;right;have W:=Rp (l:=l) (anc:=Region.before aB) (i:=c) hi hy hr (λhA=>T (sE d.nP c N i hA)) ht;have⟨H3,h3⟩:=I3 b6 _ W cp;exact⟨H3,h3⟩
   split at u
   .rename_i f args A;have M:bL P nt o=some (.call f args)/\vY o.op=true:=by
     rw[xo]at A;split at A;·cases A
     rename_i T;rw[A]at T;simp only[bJ.yt,ajB,aiM,Bool.not_eq_false]at T;refine⟨?_,T⟩;cases hc:bL P nt o with|none=>rw[hc]at A;cases A|some q=>rw[hc]at A;simp only[aiX]at A;rw[A]
    have⟨cc,g,ho,cx,h1,h2⟩:=IQ M.2 M.1;have R:=stepGR_op (P:=P) (b:=b) (a:=a) (k:=k) (cs:=cs) (w:=w) (rest:=is) Y J;rw[Oper.semAt_eq _ _ _ (yL M.1)]at R;have b':execOp a.eval o=mQ (a.eval g) (cc.args.map a.eval):=by simp only[execOp,ho,resolve,cx,mQ]
    rw[b']at R;have hf:gv ac f=gv p f:=mR λds hp=>(X ds (wG (by rw[A];simp[bJ.ch,hp]))).symm;have cy:args.map (gv ac)=args.map (gv p):=Ba λds hp=>(X ds (wG (by rw[A];simp only[bJ.ch,adX];exact .inr hp))).symm;have b3:aZ ρ (args.map (gv p)) (cc.args.map a.eval).toList:=by rw[Array.toList_map];exact wm d.E d.fQ h2
    obtain⟨v,H1,c',w',fr1,c9,w1,hK,⟨D,C,hv,G,I⟩,hb,hs⟩:=bv n (Nat.lt_succ_self n) u (by rw[hf];exact wl h1 d.E d.fQ) (by rw[cy];exact b3) bc (b.atR a (.inRegion aB (c::is)::k)) cs (by simp[pS,Frame.atR]);have ca:(b.atR a (.inRegion aB (c::is)::k)).finish c'=b.atR (a.put o.dst c') (.inRegion aB is::k):=by rw[Frame.finish_atR,Y];rfl
    refine aq C hv G I ?_ hK;rw[<-ca];exact .head (step_lone_go (by rw[R];exact hb)) hs
   .rename_i it A;have Q:bL P nt o=some (.j6 it):=by
     rw[xo]at A;split at A;·cases A
     cases hc:bL P nt o with|none=>rw[hc]at A;cases A|some q=>rw[hc]at A;simp only[aiX]at A;rw[A]
    split at u;·rename_i c8 dm T;rw[mR (env':=p) (x:=it) λds hp=>(X ds (wG (by rw[A];simpa[bJ.ch]using hp))).symm]at T;have⟨j,dr,hj,cE,cv,w',hr,D,C,hv,G,I⟩:=IK (dk.mk d.E bc) Q T;have u:=u j hj;simp only[cE]at u;exact aq C hv G I (Bc Y Q J hr) u
    exact u.elim
   split at u
   .rename_i v H1 cR;have a2:aH x.op p (dF ac H B).1=some (v,H1):=by rw[Eg (λds hp=>X ds (wG hp))];exact cR
    have Q:=En ba a2;have⟨cv,w',hr,D,C,hv,G,I⟩:=yJ (dk.mk d.E bc) Q a2;exact aq C hv G I (Bc Y Q J hr) u
   exact u.elim
end
section
variable{P:Program}{nt:Nat}{aB:Array Oper}{l:List bD}{ap:List Nat}
variable{f:b8}{ab:Nat->aV}{K:Fr->ai->Prop}{bA:List ah}{bz:Option ah}{g:az AV}{L:Array Bool}{seen rest:List Nat}{n:Nat}{ac:az AV}{H:ai}{h:az AV}{a:List ah}{ρ:aM}{w:World}{tmps:Array Value}
theorem Dr.I'(d:Dr P f nt aB l ap ab K bA bz g L seen rest n ac H h a ρ w tmps){j:ah}(e:H.get j≠.none):j.am<H.next.am:=by
 rcases aiU j.am H.next.am with q|q;·omega
 exfalso;have h1:=(d.fQ.dc j (by rw[ai.iK];exact q)).1;rw[ke]at h1;split at h1;·rename_i hj;have⟨k,b,_,c⟩:=(d.pd j).1 hj;have:=(d.pW k j b c).1;omega
 grind
theorem Dr.Ja(hR:kT P nt aB l ap){i:Nat}(d:Dr P f nt aB l ap ab K bA bz g L seen (i::rest) n ac H h a ρ w tmps){x:bD}(hx:l[i]?=some x)(av:x.op.gN=false){v:AV}{I:ai}{n':Nat}{pn':List ah}(C:∀j,H.get j≠.none->I.get j=H.get j)(a8:H.next.am<=I.next.am)(J:∀j,j∈pn'↔j∈a\/Mk l (aO ac x.dst v) i j)(o:∀j,Mk l (aO ac x.dst v) i j->H.next.am<=j.am/\j.am<I.next.am/\(I.get j).kE/\ρ j=none/\¬f.un j/\∀k,j∉(I.get k).aK)(hI:bo P f ρ (I.eG pn') w)(ef:∀j∈a,∀k,j∉(I.get k).aK)(hp:El l (Region.before aB) (i::seen) g (aO ac x.dst v) I i)(Z:Go.al.aB False cV ab n' (oV l (Region.before aB) (i::seen) rest) ⟨aO ac x.dst v,bA,bz⟩ I K):Dr P f nt aB l ap ab K bA bz g L (i::seen) rest n' (aO ac x.dst v) I h pn' ρ w tmps:=by
 have R:i∈i::rest:=acI .. ;have S:i∉seen:=yQ hR d.gh R;have T:¬In L i:=λa'=>S (d.sub i a');have M:∀t,eQ l i t↔x.dst=some t:=λt=>⟨λ⟨y,s,dy⟩=>by rw[hx]at s;injection s with s;subst s;exact dy,λa'=>⟨x,hx,a'⟩⟩;have D:∀k t,k∈seen->eQ l k t->x.dst≠some t:=λk t b hd e=>S (eQ.inj hR.d9 (nQ d.gh b) (um d.gh R) hd ((M t).2 e)▸b);have q:∀t,x.dst≠some t->(aO ac x.dst v).get .ajS t=ac.get .ajS t:=λt a'=>by rw[pV,an a']
 have p:∀k j,k∈seen->(Mk l (aO ac x.dst v) k j↔Mk l ac k j):=λk j b=>Mk.Eo λt z=>q t (D k t b z);have aw:∀j,Mk l (aO ac x.dst v) i j->H.get j=.none:=λj hj=>by apply ain;intro ax;have:=d.I' ax;have:=(o j hj).1;omega
 refine⟨by rw[<-d.gh];simp,d.size,λj hj=>adT _ (d.sub j hj),d.nP,?_,Z,?_,?_,?_,?_,?_,?_,?_,?_,?_,d.E,hI⟩
 .intro j hj hc;rcases acT.1 hj with e|e;·subst e;have⟨y,s,V⟩:=hc;rw[hx]at s;injection s with s;subst s;rw[av]at V;cases V
  exact d.Em j e hc
 .intro t z;rw[q t λe=>z i (acI ..) ((M t).2 e)];exact d.rr t λk b=>z k (adT _ b)
 .intro t z;rw[q t λe=>z i (acI ..) T ((M t).2 e)];exact d.sF t λk b=>z k (adT _ b)
 .intro t k b hn G;rcases acT.1 b with e|e;·subst e;have W:∀r∈seen,¬eQ l r t:=λr m hd=>D r t m hd ((M t).1 G);rw[d.sF t λr m _=>W r m];exact d.rr t W
  exact d.yO t k e hn G
 .intro j;rw[J,d.pd];constructor
  .rintro(⟨k,b,h1,h2⟩|a');·exact⟨k,adT _ b,h1,(p k j b).2 h2⟩
   exact⟨i,acI ..,T,a'⟩
  rintro⟨k,b,h1,h2⟩;rcases acT.1 b with e|e;·subst e;exact .inr h2
  exact .inl ⟨k,e,h1,(p k j e).1 h2⟩
 .intro k r j b m h1 h2;rcases acT.1 b with e|e
  .rcases acT.1 m with B|B;·rw[e,B]
   subst e;have:=(d.pW r j B ((p r j B).1 h2)).1;have:=(o j h1).1;omega
  rcases acT.1 m with B|B;·subst B;have:=(d.pW k j e ((p k j e).1 h1)).1;have:=(o j h2).1;omega
  exact d.ka k r j e B ((p k j e).1 h1) ((p r j B).1 h2)
 .intro k j b F;rcases acT.1 b with e|e;·subst e;exact⟨(o j F).2.1,.inl ((J j).2 (.inr F))⟩
  have⟨h1,h2⟩:=d.pW k j e ((p k j e).1 F);exact⟨aa,h2.imp (λa'=>(J j).2 (.inl a')) id⟩
 .intro k j b F hc;rcases acT.1 b with e|e;·subst e;exact(o j F).2.2.1
  have s:=d.kE k j e ((p k j e).1 F) λc ay=>hc c (adT _ ay);rw[C j (pU s).2.2];exact s
 .intro k b hn;rcases acT.1 b with e|e;·subst e;exact hp
  have⟨y,ag,cz,ex,s,hs,h1,h2,A⟩:=d.bS k e hn;have N:∀t,y.dst=some t->(aO ac x.dst v).get .ajS t=ac.get .ajS t:=λt z=>q t (D k t e ⟨y,s,z⟩);refine⟨y,i::ag,cz,ex,s,by rw[hs];rfl,?_,h2,?_⟩;·rintro t⟨r,m,G⟩;rw[q t (D r t (by rw[hs];simp[m]) G)];exact h1 t ⟨r,m,G⟩
  rcases A with⟨hg,a1,hv⟩|⟨hg,u,hv,A⟩;·exact .inl ⟨hg,a1,λt z=>by rw[N t z];exact hv t z⟩
  refine .inr ⟨hg,u,λt z=>by rw[N t z];exact hv t z,?_⟩;rcases A with a'|⟨hr,X,Q⟩|⟨F,nv,dp,j0,Y,a2,O,Q⟩;·exact .inl a'
  .refine .inr (.inl ⟨hr,λj hj=>?_,λH' a6=>Q H' λj hj=>by rw[a6 j hj,C j (X j hj).1]⟩);have⟨g1,g2⟩:=X j hj;refine⟨by rw[C j g1];exact g1,λr m F=>?_⟩;rcases acT.1 m with B|B;·subst B;exact absurd (aw j F) g1
   exact g2 r B ((p r j B).1 F)
  refine .inr (.inr ⟨F,nv,dp,j0,Y,a2,?_,Q⟩);rw[C j0 (by rw[O];exact(pU Y).2.2)];exact O
 intro j hj;rcases(J j).1 hj with a'|a';·exact⟨(d.dM j a').1,(d.dM j a').2.1,ef j a'⟩
 exact(o j a').2.2.2
theorem Dr.Ep(hR:kT P nt aB l ap):∀(rest:List Nat){seen:List Nat}{n:Nat}{ac:az AV}{H:ai}{a:List ah},Dr P f nt aB l ap ab K bA bz g L seen rest n ac H h a ρ w tmps->∃(B o:List Nat)(Z:Nat)(q:az AV)(H':ai)(pn':List ah),Z<=n/\Dr P f nt aB l ap ab K bA bz g L B o Z q H' h pn' ρ w tmps/\∀i r,o=i::r->Ch l i
 |[],seen,n,ac,H,a,d=>⟨seen,[],n,ac,H,a,afM n,d,λi r cv=>by grind⟩
 |i::rest,seen,n,ac,H,a,d=>by
  have av:i∈i::rest:=acI .. ;have⟨x,R,V⟩:=sG hR (um d.gh av);cases C:x.op.gN with
  |true=>exact⟨seen,i::rest,n,ac,H,a,afM n,d,λi' r cv=>by injection cv with cv _;subst cv;exact⟨x,R,C⟩⟩
  |false=>
   have c:=d.run;simp only[oV,R]at c;cases n with
   |zero=>simp only[Go.al.aB]at c
   |succ n=>
    simp only[Go.al.aB,DI,C,Bool.false_or,acg,bF,dX,bi]at c;have go:∀{q:az AV}{H':ai}{pn':List ah},Dr P f nt aB l ap ab K bA bz g L (i::seen) rest n q H' h pn' ρ w tmps->∃(B o:List Nat)(Z:Nat)(q:az AV)(H':ai)(pn':List ah),Z<=n+1/\Dr P f nt aB l ap ab K bA bz g L B o Z q H' h pn' ρ w tmps/\∀i r,o=i::r->Ch l i:=by intro q H' pn' d';have⟨s,r,m,e,cv,p,h1,h2,h3⟩:=Dr.Ep hR rest d';exact⟨s,r,m,e,cv,p,Nat.le_succ_of_le h1,h2,h3⟩
    have ba:i∉seen:=yQ hR d.gh av;have ag:∀k t,k∈seen->eQ l k t->x.dst≠some t:=λk t D hd e=>ba (eQ.inj hR.d9 (nQ d.gh D) (um d.gh av) hd ⟨x,R,e⟩▸D);have N:∀v t,(∃k∈seen,eQ l k t)->ac.get .ajS t=(aO ac x.dst v).get .ajS t:=by rintro v t⟨k,D,bb⟩;rw[pV,an (ag k t D bb)]
    have S:∀v j,Mk l (aO ac x.dst v) i j->x.op.kQ=true/\gZ v=some j:=by rintro v j⟨y,t,hy,g1,g2,g3⟩;rw[R]at hy;injection hy with hy;subst hy;rw[pV,aG g2]at g3;exact⟨g1,g3⟩
    have I:∀v t,x.dst=some t->(aO ac x.dst v).get .ajS t=v:=λv t E=>by rw[pV,aG E]
    have J:∀{v:AV}{H2:ai},(∀j,H2.get j=H.get j)->H2.next=H.next->(∀j,¬Mk l (aO ac x.dst v) i j)->El l (Region.before aB) (i::seen) g (aO ac x.dst v) H2 i->Go.al.aB False cV ab n (oV l (Region.before aB) (i::seen) rest) ⟨aO ac x.dst v,bA,bz⟩ H2 K->∃(B o:List Nat)(Z:Nat)(q:az AV)(H':ai)(pn':List ah),Z<=n+1/\Dr P f nt aB l ap ab K bA bz g L B o Z q H' h pn' ρ w tmps/\∀i r,o=i::r->Ch l i:=by intro v H2 h1 h2 h3 h4 h5;refine go (d.Ja hR R C (v:=v) (pn':=a) (λj _=>h1 j) (by rw[h2];exact afM _) (λj=>⟨.inl,λcv=>cv.resolve_right (h3 j)⟩) (λj cv=>absurd cv (h3 j)) ?_ (λj hj k=>by rw[h1];exact(d.dM j hj).2.2 k) h4 h5);exact d.fQ.congr (by rw[ai.iK,ai.iK,h2]) λj=>by rw[ke,ke,h1]
    cases hg:dZ ac x.guard with
    |false=>
     rw[hg]at c;simp only[acg,bF]at c;split at c;case isFalse=>exact c.elim
     rename_i bc;refine J (v:=.ajS) (λ_=>rfl) rfl (λj cv=>?_) ?_ c;·have:=(S _ j cv).2;simp[AV.ajS,gZ]at this
     exact⟨x,[],seen,ac,R,rfl,N _,λt E=>d.rr t E,.inl ⟨hg,bc,λt E=>I _ t E⟩⟩
    |true=>
     rw[hg]at c;simp only[bi]at c;split at c;·rename_i aw;rw[aw]at C;simp[bJ.gN]at C
     .rename_i aw;rw[aw]at C;simp[bJ.gN]at C
     split at c;case h_2=>exact c.elim
     rename_i v H1 F;cases hrd:x.op.iV with
     |true=>
      rw[hrd]at F c;simp only[bi]at F c;generalize a1:yu l (Region.before aB) seen i=O at F c;have G:=Bb ac O H;have a2:∀j,j∈ix ac O↔∃k∈seen,¬fh (Region.before aB) i k/\Mk l ac k j:=λj=>by rw[<-a1];exact I1
      have⟨q1,q2,q3⟩:=IW hrd F;subst q1;have ax:∀j,(di (dF ac H O).1 (dF ac H O).2).get j=H.get j:=λj=>by rw[((G j).2.2 _).1,(G j).1];split<;>rfl
      refine J (v:=v) ax (by rw[((G .xH).2.2 _).2,(G .xH).2.1]) (λj cv=>?_) ?_ c;·have:=(S _ j cv).1;rw[(wF hrd).2.1]at this;cases this
      refine⟨x,[],seen,ac,R,rfl,N _,λt E=>d.rr t E,.inr ⟨hg,v,λt E=>I _ t E,.inr (.inl ⟨hrd,λj hj=>?_,λH' bv=>q3 H' λj hj=>?_⟩)⟩⟩
      .have T:=q2 j hj;have X:j∉ix ac O:=λcv=>T (by rw[(G j).1,aG cv]);rw[(G j).1,an X]at T;refine⟨by rw[ax];exact T,λk D hm=>?_⟩;rcases acT.1 D with e|e;·subst e;have:=(S _ j hm).1;rw[(wF hrd).2.1]at this;cases this
       apply ain;intro hA;exact X ((a2 j).2 ⟨k,e,hA,(Mk.Eo λt E=>by rw[pV,an (ag k t e E)]).1 hm⟩)
      have T:=q2 j hj;have X:j∉ix ac O:=λcv=>T (by rw[(G j).1,aG cv]);rw[bv j hj,ax,(G j).1,an X]
     |false=>
      rw[hrd]at F c;simp only[acg,bF,dF,di]at F c;cases A:x.op.kQ with
      |false=>
       have b0:x.op.plain=true:=by
        simp only[rh,C,Bool.false_or,A,hrd,Bool.false_and,Bool.or_self,ai6]at V;rcases V with cv|cv;·exact cv
        split at cv<;>cases cv
       have⟨q1,q2⟩:=Rb b0 F;subst q1;refine J (v:=v) (λ_=>rfl) rfl (λj cv=>?_) ?_ c;·have:=(S _ j cv).1;rw[A]at this;cases this
       exact⟨x,[],seen,ac,R,rfl,N _,λt E=>d.rr t E,.inr ⟨hg,v,λt E=>I _ t E,.inl ⟨A,q2⟩⟩⟩
      |true=>
       obtain⟨nv,dp,rfl,rfl,hy,a6⟩:=Rc A F;have⟨f1,f2,f3⟩:=pU hy;have Q:∀j,(H.new dp).get j=if j=H.next then dp else H.get j:=λj=>ai.cO _ _ _;have b3:(H.new dp).next.am=H.next.am+1:=ah.eX _;have ay:H.get H.next=.none:=ain λcv=>by have:=d.I' cv;omega
       have W:∀j,Mk l (aO ac x.dst (nv.of H.next)) i j->j=H.next:=λj cv=>by have:=(S _ j cv).2;rw[kD.name]at this;injection this with this;exact this.symm
       have b4:Mk l (aO ac x.dst (nv.of H.next)) i H.next:=by cases hd:x.dst with|some t=>exact⟨x,t,R,A,hd,by rw[<-hd,I _ t hd];exact kD.name nv _⟩|none=>simp[rh,hd,C,(wE A).2.2]at V
       have a8:∀k,H.next∉((H.new dp).get k).aK:=λk D=>by
        rw[Q]at D;by_cases e:k=H.next;·rw[aG e,f2]at D;cases D
        rw[an e]at D;by_cases e':k∈a
        .have⟨k',b6,hn,hm⟩:=(d.pd k).1 e';have:=d.bS k' b6 hn;have⟨y,_,_,ex,b7,_,_,_,M⟩:=this;have⟨y',t,Y,m1,m2,m3⟩:=hm;rw[b7]at Y;injection Y with Y;subst Y;rcases M with⟨_,_,hv⟩|⟨_,u,hv,M⟩;·rw[hv t m2]at m3;simp[AV.ajS,gZ]at m3
         rcases M with⟨hm,_⟩|⟨hr,_⟩|⟨_,cn,cf,j0,b',ca,a',_⟩;·rw[m1]at hm;cases hm
         .rw[(wE m1).2.1]at hr;cases hr
         rw[hv t m2,ca,kD.name]at m3;injection m3 with m3;subst m3;rw[a',(pU b').2.1]at D;cases D
        have:=(d.fQ.aK H.next k (by rw[ke,an e'];exact D)).1;rw[ai.iK]at this;omega
       refine go (d.Ja hR R C (v:=nv.of H.next) (pn':=H.next::a) (λj hj=>by rw[Q,an (λe:j=H.next=>hj (by rw[e];exact ay))]) aa (λj=>?_) (λj cv=>?_) ?_ (λj hj k D=>?_) ?_ c);·rw[acT];exact⟨λcv=>cv.elim (λe=>.inr (e▸b4)) .inl,λcv=>cv.elim .inr λcv=>.inl (W j cv)⟩
       .rw[W j cv];refine⟨afM _,aa,by rw[Q,aG rfl];exact hy,(d.fQ.dc H.next (by rw[ai.iK];exact afM _)).2,λhu=>?_,a8⟩;have:=(d.fQ.un H.next hu).2.1;rw[ai.iK]at this;omega
       .have h0:=d.fQ;have z:∀j,((H.new dp).eG (H.next::a)).get j=(H.eG a).get j:=λj=>by
         rw[ke,ke,Q];by_cases e:j=H.next
         .subst e;rw[aG (acI ..)];split;·rfl
          exact ay.symm
         by_cases e':j∈a;·rw[aG (adT _ e'),aG e']
         rw[an (by simp[e,e']),an e,an e']
        have cp:((H.new dp).eG (H.next::a)).next.am=(H.eG a).next.am+1:=by rw[ai.iK,ai.iK];exact b3
        exact⟨λi hi=>by rw[z]at hi⊢;exact h0.dp i hi,λi j b x y cd hi hj=>by rw[z]at hi hj;rw[z,z];exact h0.ju i j b x y cd hi hj,λi j hi=>by rw[z]at hi⊢;exact⟨by have:=(h0.aK i j hi).1;omega,(h0.aK i j hi).2⟩,λi b x hi hf=>by rw[z]at hi hf;exact h0.wr i b x hi hf,λi hi=>by rw[z];exact h0.dc i aa,h0.new,h0.kC,λi b x ob hi=>by rw[z]at hi⊢;exact h0.iJ i b x ob hi,h0.d8,λi b x hi=>by rw[z]at hi;exact h0.rd i b x hi,λi hi=>by rw[z];exact⟨(h0.un i hi).1,by have:=(h0.un i hi).2.1;omega,λj=>by rw[z];exact(h0.un i hi).2.2 j⟩,h0.dM⟩
       .rw[Q]at D;split at D;·rw[f2]at D;cases D
        exact(d.dM j hj).2.2 k D
       exact⟨x,[],seen,ac,R,rfl,N _,λt E=>d.rr t E,.inr ⟨hg,_,λt E=>I _ t E,.inr (.inr ⟨A,nv,dp,H.next,hy,rfl,by rw[Q,aG rfl],a6⟩)⟩⟩
end
section
variable{P:Program}
theorem Rx{nt:Nat}{aB:Array Oper}{l:List bD}{ap:List Nat}(v:kT P nt aB l ap){I:b8}{ab:Nat->aV}{K:Fr->ai->Prop}{bA:List ah}{bz:Option ah}{B:az AV}{b:Frame}(k:List Item)(cs:List Frame):∀(f t:Nat){L:Array Bool}{seen g:List Nat}{n:Nat}{ac:az AV}{H:ai}{p:az AV}{C:List ah}{s:aM}{w:World}{a:Act},(∀m,m<n->rp P ab m)->wD L aB.size<=f->Dr P I nt aB l ap ab K bA bz B L seen g n ac H p C s w a.tmps->kS s bA a.defers->mO s bz b.roundOf->(∀i r,g=i::r->Ch l i)->gP P I s nt w b k cs (lone (b.atR a (.inRegion aB (Region.linearise.go .any aB f t L [])::k)) cs w) λj fr H=>(match j with|.none=>True|_=>False)/\K fr H:=by
 have aq:∀{L:Array Bool}{seen g:List Nat}{n:Nat}{ac:az AV}{H:ai}{p:az AV}{C:List ah}{s:aM}{w:World}{a:Act},(∀i,i<aB.size->In L i)->Dr P I nt aB l ap ab K bA bz B L seen g n ac H p C s w a.tmps->kS s bA a.defers->mO s bz b.roundOf->gP P I s nt w b k cs (lone (b.atR a (.inRegion aB []::k)) cs w) λj fr H=>(match j with|.none=>True|_=>False)/\K fr H:=by
  intro L seen g n ac H p C s w a eB d z D;have A:∀i∈ap,i<aB.size:=λi hi=>by
   have⟨x,V,_⟩:=sG v hi;have⟨o,ho,_⟩:=v.op V;rcases aiU i aB.size with q|q;·exact q
   rw[ai3 q]at ho;cases ho
  have G:g=[]:=by cases g with|nil=>rfl|cons i r=>have hi:i∈i::r:=acI .. ;exact absurd (d.sub i (eB i (A i (um d.gh hi)))) (yQ v d.gh hi)
  subst G;have J:∀i∈seen,In L i:=λi hi=>eB i (A i (nQ d.gh hi));have ag:C=[]:=List.eq_nil_iff_forall_not_mem.2 λj hj=>by have⟨i,hi,h1,_⟩:=(d.pd j).1 hj;exact h1 (J i hi)
  subst ag;have u:=d.run;simp only[oV]at u;cases n with|zero=>simp only[Go.al.aB]at u|succ n=>simp only[Go.al.aB]at u;have hE:gO s nt ac a.tmps:=⟨d.E.1,λt ht=>by rw[<-d.sF _ λi hi hn=>absurd (J i hi) hn];exact d.E.2 t ht⟩;exact .gI (.one stepR_region_end) (.A9 (fr:=⟨ac,bA,bz⟩) ⟨hE,z,D⟩ d.fQ ⟨trivial,u⟩ k cs)
 intro f;induction f with
 |zero=>intro t L seen g n ac H p C s w a h hf d z D W;refine aq (λi hi=>?_) d z D;apply ain;grind[Rn]
 |succ f ih=>
  intro t L seen g n ac H p C s w a h hf d z D W;change gP P I s nt w b k cs (lone (b.atR a (.inRegion aB (match(Region.ready .any aB L)[t %(Region.ready .any aB L).length]? with|some i=>Region.linearise.go .any aB f (t/(Region.ready .any aB L).length) (L.setIfInBounds i true) [i]|none=>[].reverse)::k)) cs w) _;cases hi:(Region.ready .any aB L)[t %(Region.ready .any aB L).length]? with
  |none=>
   have S:Region.ready .any aB L=[]:=by cases hr:Region.ready .any aB L with|nil=>rfl|cons x xs=>rw[hr]at hi;have A:t %(x::xs).length<(x::xs).length:=Nat.mod_lt _ aC;simp at hi;simp at A;omega
   exact aq (Rl d.size v.he S) d z D
  |some i=>
   simp only[];rw[linearise_go_acc,List.reverse_singleton,List.singleton_append];have⟨h1,h2,h3⟩:=Rj d.size (List.mem_of_getElem? hi);have M:wD (L.setIfInBounds i true) aB.size<=f:=by have:=Rm d.size h1 h2;omega
   by_cases gQ:i∈seen;·have⟨av,w',a',T,aw,F,X,Y,Z,g5⟩:=d.Rt v gQ h2 h3 rfl (b:=b) (a:=a) (Region.linearise.go .any aB f (t/(Region.ready .any aB L).length) (L.setIfInBounds i true) []) k cs;refine .sD F X (.gI Z (ih _ h M g5 (by rw[Y];exact z.mono F) ?_ W));exact(gf.mono (nt:=nt) (fr:=⟨p,bA,bz⟩) (ro:=b.roundOf) (a:=a) F ⟨d.E,z,D⟩).R
   have N:i∈g:=by have:=v.eB i h1;rw[<-d.gh,adX,List.mem_reverse]at this;exact this.resolve_left gQ
   cases g with
   |nil=>grind
   |cons c g=>
    have O:=W c g rfl;have ax:i=c:=by
     rcases acT.1 N with e|e;·exact e
     exfalso;have⟨x,V,ay⟩:=O;have⟨y,hy,_⟩:=sG v (um d.gh N);have Q:=(yN v.d9).1;rw[<-d.gh,List.pairwise_append,ajc]at Q;have hA:=((pc (Q.2.1.1 i e) V hy).2.2.2.2 ay).1;have:=sE d.nP i h3 c hA;exact yQ v d.gh (acI ..) (d.sub c this)
    subst ax;have⟨av,w',a',n',a6,H',T,aw,g0,F,X,Y,Z,g5⟩:=d.Rw v h O h3 rfl (b:=b) (a:=a) (Region.linearise.go .any aB f (t/(Region.ready .any aB L).length) (L.setIfInBounds i true) []) k cs;have⟨a1,a2,n2,a8,H2,ba,e1,e2,e3⟩:=g5.Ep v;refine .sD F X (.gI Z (ih _ (λm hm=>h m aa) M e2 (by rw[Y];exact z.mono F) ?_ e3));exact(gf.mono (nt:=nt) (fr:=⟨p,bA,bz⟩) (ro:=b.roundOf) (a:=a) F ⟨d.E,z,D⟩).R
theorem Ry{ab:Nat->aV}{n:Nat}(e:∀m,m<n->rp P ab m):IR P ab n:=by
 intro p u H w v fr M id aB K b a f he q C k cs;simp only[uc,afN,ab1,ait,acg,bF]at f;have⟨l,hl,f⟩:=f;split at f;case isFalse=>grind
 rename_i g;simp only[ahZ,abv]at f;subst f;simp only[ah4,ai8,aiO]at g;have⟨⟨⟨F,G⟩,x⟩,y⟩:=g;generalize order l (Region.before aB) aB.size 0 []=ap at he x y;have z:kT P v aB l ap:=⟨hl,G,λi hi=>by simpa using x i hi,y⟩;have c:∀i,¬In (ajI aB.size false) i:=λi h=>by unfold In at h;simp only[aiL,Array.getElem?_replicate]at h;split at h<;>cases h
 let A:World:={w with drawn:=w.drawn+1};have d:Dr P p v aB l ap ab K fr.bA fr.bz fr.ac (ajI aB.size false) [] ap n fr.ac H fr.ac [] u A a.tmps:=⟨rfl,aC,λi h=>absurd h (c i),λi h=>absurd h (c i),λ_ h=>absurd h aie,he,λt _=>rfl,λt _=>rfl,λ_ _ h=>absurd h aie,λj=>⟨λh=>absurd h aie,λ⟨i,h,_⟩=>absurd h aie⟩,λ_ _ _ h=>absurd h aie,λ_ _ h=>absurd h aie,λ_ _ h=>absurd h aie,λ_ h=>absurd h aie,λ_ h=>absurd h aie,q.E,C.drew⟩;have⟨r,s,N,B,O,L,e1,e2,I⟩:=d.Ep z;have o:Region.schedule (P.follows .mixedOrders) aB (w.tape w.drawn (.order b.fn id))=Region.linearise.go .any aB aB.size (w.tape w.drawn (.order b.fn id)) (ajI aB.size false) []:=by
  have:(P.follows .mixedOrders||!Region.departs aB)=true:=by simpa using F
  simp only[Region.schedule,this,bi];rfl
 have de:=stepR_region_draw (P:=P) (b:=b) (a:=a) (k:=k) (cs:=cs) (w:=w) (ops:=aB) (id:=id);rw[o]at de;have J:dj p w A:=(dj.refl p w).drew;refine .sD (bZ.refl u) J (.gI (.one de) (Rx z k cs aB.size _ (λm Q=>e m aa) ?_ e2 q.D q.R I));grind[wD,Nat.le_trans,List.length_filter_le]
theorem yS{ab:Nat->aV}(d:iX P ab):∀n,(∀m,m<=n->rp P ab m)/\wA P ab n/\A8 P ab n
 |0=>by
  refine⟨λm e=>?_,?_,?_⟩;·have:m=0:=aa;subst this;intro f g H w j args K fv argv he;trivial
  .intro f g H w h fr c cc K b a i he;trivial
  intro f g H w h fr l is aB K b a k he;trivial
 |n+1=>by have⟨h1,h2,h3⟩:=yS d n;have i:rp P ab (n+1):=Ra d h2;refine⟨λm e=>?_,Q' d h2 h3 (Ry λm e=>h1 m aa) (h1 n (afM n)),Q6 (h1 n (afM n)) h3⟩;grind
end
end
end Go.al
namespace Go.al.K
section
variable{g:Type}
theorem jg(n:Nat)(k:Nat->Prop):dU n k=k n:=by cases n<;>rfl
theorem sH(n:Int)(k:Int->Prop):lM n k=k n:=by cases n<;>simp only[lM,jg]
theorem wI:∀(p:ah)(k:ah->Prop),oM p k=k p|.xH,_=>rfl|.xO p,k=>wI p λp=>k (.xO p)|.xI p,k=>wI p λp=>k (.xI p)
theorem Er:∀(p:ah)(k:ah->Prop),yh p k=k p.succ|.xH,_=>rfl|.xO _,_=>rfl|.xI p,k=>Er p λp=>k (.xO p)
theorem gj(b:Bool)(x y:Prop):dG b x y=if b=true then x else y:=by cases b<;>simp[dG]
theorem Jb(b:Bool)(k:Bool->Prop):vP b k=k b:=by cases b<;>rfl
theorem Bd(d:g):∀p:ah,(az.aR:az g).get d p=d|.xH=>rfl|.xO p=>Bd d p|.xI p=>Bd d p
theorem wJ(d:g):∀(p:ah)(t:az g)(k:g->Prop),tW d p t k=k (t.get d p)|.xH,.aR,_=>rfl|.xH,.node _ _ _,_=>rfl|.xO p,.aR,k=>by show k d=k ((az.aR:az g).get d p);rw[Bd]|.xO p,.node l _ _,k=>wJ d p l k|.xI p,.aR,k=>by show k d=k ((az.aR:az g).get d p);rw[Bd]|.xI p,.node _ _ r,k=>wJ d p r k
theorem sI(d:g):∀(p:ah)(v:g)(t:az g)(k:az g->Prop),tY d p v t k=k (t.set d p v)|.xH,_,.aR,_=>rfl|.xH,_,.node _ _ _,_=>rfl|.xO p,v,.aR,k=>sI d p v .aR λl=>k (.node l d .aR)|.xO p,v,.node l w r,k=>sI d p v l λl=>k (.node l w r)|.xI p,v,.aR,k=>sI d p v .aR λr=>k (.node .aR d r)|.xI p,v,.node l w r,k=>sI d p v r λr=>k (.node l w r)
theorem wK(d:g):∀(t:az g)(n:Nat)(k:g->Prop),oN d t n k=k (t.bp d n)|.aR,n,k=>by rfl|.node l v r,0,k=>rfl|.node l v r,m+1,k=>by show dG (ah8 (Nat.mod m 2) 0) (oN d l (Nat.div m 2) k) (oN d r (Nat.div m 2) k)=_;rw[gj,wK d l,wK d r];simp only[az.bp];show(if ah8 (m % 2) 0=true then k (l.bp d (m/2))else k (r.bp d (m/2)))=_;by_cases h:m % 2=0;all_goals simp_all
theorem Jc(d x:g)(t:az g)(k:az g->Prop):CY d x t k=k (.node t.left x t.right):=by cases t<;>rfl
theorem yT(d:g):∀(f n:Nat)(x:g)(t:az g)(k:az g->Prop),t8 d f n x t k=k (t.lI d f n x)
 |0,0,x,t,k=>Jc d x t k
 |0,n+1,x,t,k=>rfl
 |f+1,0,x,t,k=>Jc d x t k
 |f+1,m+1,x,t,k=>by
  show dG (ah8 (Nat.mod m 2) 0) (lK d (t8 d f) (Nat.div m 2) x t k) (rK d (t8 d f) (Nat.div m 2) x t k)=_;have hl:lK d (t8 d f) (Nat.div m 2) x t k=k (.node (t.left.lI d f (m/2) x) (t.val d) t.right):=by cases t with|aR=>exact yT d f (m/2) x .aR λl=>k (.node l d .aR)|node l w r=>exact yT d f (m/2) x l λl=>k (.node l w r)
  have a:rK d (t8 d f) (Nat.div m 2) x t k=k (.node t.left (t.val d) (t.right.lI d f (m/2) x)):=by cases t with|aR=>exact yT d f (m/2) x .aR λr=>k (.node .aR d r)|node l w r=>exact yT d f (m/2) x r λr=>k (.node l w r)
  rw[gj,hl,a];simp only[az.lI];show(if ah8 (m % 2) 0=true then _ else _)=_;by_cases h:m % 2=0;all_goals simp_all
theorem Jd:∀(l:List Nat)(k:List Nat->Prop),Aw l k=k l|[],_=>rfl|n::l,k=>by show dU n (λn=>Aw l λl=>k (n::l))=_;rw[jg,Jd l]
def Be(l:List AV):(List AV->Prop)->Prop:=
 AV.rec_1 (motive_1:=λ_=>(AV->Prop)->Prop) (motive_2:=λ_=>(List AV->Prop)->Prop)
   (λ_ c k=>c λl=>k (.tuple l))
   (λ_ c k=>c λl=>k (.agg l))
   (λb k=>vP b λb=>k (.bool b))
   (λj n k=>dU j λj=>lM n λn=>k (.int j n))
   (λs k=>Aw s λs=>k (.str s))
   (λid off k=>oM id λid=>dU off λoff=>k (.aD id off))
   (λk=>k .j5)
   (λid off len cap ex k=>oM id λid=>dU off λoff=>dU len λlen=>dU cap λcap=>vP ex λex=>k (.slice id off len cap ex))
   (λk=>k .bh)
   (λid k=>oM id λid=>k (.map id))
   (λk=>k .cL)
   (λf _ _ d e k=>dU f λf=>d λa=>e λb=>k (.func f a b))
   (λid k=>oM id λid=>k (.yield id))
   (λk=>k .nilFunc)
   (λt _ c k=>dU t λt=>c λv=>k (.iface t v))
   (λk=>k .nilIface)
   (λk=>k .bM)
   (λk=>k [])
   (λ_ _ h i k=>h λv=>i λl=>k (v::l)) l
mutual
theorem uo:∀(v:AV)(k:AV->Prop),pO v k=k v
 |.tuple l,k=>yU l λl=>k (.tuple l)
 |.agg l,k=>yU l λl=>k (.agg l)
 |.bool b,k=>Jb b λb=>k (.bool b)
 |.int j n,k=>by show dU j (λj=>lM n λn=>k (.int j n))=_;rw[jg,sH]
 |.str s,k=>Jd s λs=>k (.str s)
 |.aD i o,k=>by show oM i (λi=>dU o λo=>k (.aD i o))=_;rw[wI,jg]
 |.j5,_=>rfl
 |.slice i o l c e,k=>by show oM i (λi=>dU o λo=>dU l λl=>dU c λc=>vP e λe=>k (.slice i o l c e))=_;rw[wI,jg,jg,jg,Jb]
 |.bh,_=>rfl
 |.map i,k=>wI i λi=>k (.map i)
 |.cL,_=>rfl
 |.func f a b,k=>by show dU f (λf=>Be a λa=>Be b λb=>k (.func f a b))=_;rw[jg,yU a,yU b]
 |.yield i,k=>wI i λi=>k (.yield i)
 |.nilFunc,_=>rfl
 |.iface t v,k=>by show dU t (λt=>pO v λv=>k (.iface t v))=_;rw[jg,uo v]
 |.nilIface,_=>rfl
 |.bM,_=>rfl
theorem yU:∀(l:List AV)(k:List AV->Prop),Be l k=k l
 |[],_=>rfl
 |v::l,k=>by show pO v (λv=>Be l λl=>k (v::l))=_;rw[uo v,yU l]
end
theorem pX:∀(l:List AV)(k:List AV->Prop),mL l k=k l|[],_=>rfl|v::l,k=>by show pO v (λv=>mL l λl=>k (v::l))=_;rw[uo,pX l]
theorem gJ(ac:az AV)(x:aJ)(k:AV->Prop):eO ac x k=k (gv ac x):=by cases x with|t p=>exact wJ _ _ _ _|c v=>rfl
theorem Je(ac:az AV):∀(l:List aJ)(k:List AV->Prop),Ax ac l k=k (l.map (gv ac))|[],_=>rfl|x::l,k=>by show eO ac x (λv=>Ax ac l λl=>k (v::l))=_;rw[gJ,Je ac l];rfl
theorem yV(b:g)(k:g->Prop):iI (some b) k=k b:=rfl
theorem Es(H:ai)(i:ah)(k:bP->Prop):yi H i k=k (H.get i):=wJ _ _ _ _
theorem wL(H:ai)(i:ah)(o:bP)(k:ai->Prop):oO H i o k=k (H.set i o):=sI _ _ _ _ _
theorem sJ(H:ai)(o:bP)(k:ah->ai->Prop):mM H o k=k H.next (H.new o):=by show tY .none H.next o H.t (λt=>yh H.next λm=>k H.next ⟨t,m⟩)=_;rw[sI,Er];rfl
theorem Jf:∀(l:List ah)(H:ai)(k:ai->Prop),CZ l H k=k (H.eG l)|[],_,_=>rfl|i::l,H,k=>by show oO H i .none (λH=>CZ l H k)=_;rw[wL,Jf l];rfl
def Rz(o:bP)(k:az AV->Nat->Nat->Bool->List ah->Nat->Prop):Prop:=
 match o with
 |.cells c n e rw aK fz=>k c n e rw aK fz
 |_=>False
theorem Bf(H:ai)(i:ah)(k:az AV->Nat->Nat->Bool->List ah->Nat->Prop):ua H i k=Rz (H.get i) k:=by unfold ua;rw[Es];cases H.get i<;>rfl
theorem Et(c:az AV)(n:Nat):∀(m off:Nat)(k:List AV->Prop),Ay c n m off k=iI (fW c n off m) k
 |0,_,_=>rfl
 |m+1,off,k=>by
  show dG (aiu off n) (dU off λoff=>oN .ajS c off λv=>Ay c n m (Nat.succ off) λl=>k (v::l)) False=_;rw[gj,jg,wK,Et c n m];simp only[fW];by_cases h:off<n;·rw[aG (ajP aiV h),aG h];cases fW c n (off+1) m<;>rfl
  rw[an (λe=>h (Eq.mp aiV e)),an h];rfl
theorem Bg:∀(l:List AV)(c:az AV)(off:Nat)(k:az AV->Prop),yj l c off k=k (ez c off l)|[],_,_,_=>rfl|v::l,c,off,k=>by show dU off (λoff=>t8 .ajS off off v c λc=>yj l c (Nat.succ off) k)=_;rw[jg,yT,Bg l];rfl
theorem RA(H:ai)(i:ah)(off m:Nat)(k:List AV->Prop):Az H i off m k=iI (dE H i off m) k:=by unfold Az;rw[Bf];unfold dE;cases H.get i<;>first|rfl|exact Et _ _ _ _ _
theorem mS(a b:Bool):lh a b=(a&&b):=by cases a<;>rfl
theorem yW:∀l:List AV,vQ l=cU l|[]=>rfl|v::l=>by show lh v.cW (vQ l)=_;rw[mS,yW l];rfl
theorem ru:∀l:List g,lN l=l.length|[]=>rfl|_::l=>by show Nat.succ (lN l)=_;rw[ru l];rfl
theorem Eu(H:ai)(i:ah)(off:Nat)(l:List AV)(k:ai->Prop):vR H i off l k=iI (gF H i off l) k:=by
 unfold vR;rw[Bf];unfold gF;cases H.get i<;>(try rfl);rename_i c n e a aK fz;show C1 H i off l k c n e a aK fz=_;unfold C1;rw[gj,Jf,Bg,wL,mS,mS,mS,ru,yW];cases a with
 |false=>rfl
 |true=>
  simp only[ajB];have h1:ai0 fz off=decide (fz<=off):=by
   by_cases h:fz<=off;·rw[decide_eq_true h,aiB h]
   rw[decide_eq_false h];cases hb:ai0 fz off with|false=>rfl|true=>exact absurd (aib hb) h
  have h2:ai0 (Nat.add off l.length) n=decide (off+l.length<=n):=by
   by_cases h:off+l.length<=n;·rw[decide_eq_true h];exact aiB h
   rw[decide_eq_false h];cases hb:ai0 (Nat.add off l.length) n with|false=>rfl|true=>exact absurd (aib hb) h
  rw[h1,h2,Bool.and_assoc];cases(decide (fz<=off)&&(decide (off+l.length<=n)&&cU l))<;>rfl
theorem wM(H:ai)(l:List AV)(n a:Nat)(k:ah->ai->Prop):sn H l n a k=k H.next (H.new (.cells (cq l) n a true [] 0)):=by unfold sn;rw[Bg,jg,sJ];rfl
end
section
def il(o:Option (AV×ai))(k:KV):Prop:=
 match o with
 |some p=>k p.1 p.2
 |none=>False
theorem RB(o:bJ)(d:jr)(ac:az AV)(H:ai)(k:KV):gG o d ac H k=il (aH o ac H) k:=by unfold gG;cases aH o ac H with|none=>rfl|some p=>exact uo p.1 λv=>k v p.2
theorem RC(a bytes size:Nat)(H:ai)(n:Nat)(l:List AV)(k:KV):C2 a bytes size H n l k=il (if ah8 n 0 then some (.bh,H)else if dT (n*bytes)&&dT n then some (.slice H.next 0 n n false,H.new (.cells (cq l) (n*size) a true [] 0))else none) k:=by unfold C2;rw[gj,gj,wM,mS];cases ah8 n 0<;>(try rfl);cases(dT (n*bytes)&&dT n)<;>rfl
theorem Jg(a bytes size:Nat)(H:ai)(s:AV)(n:Nat)(l:List AV)(k:KV):yl a bytes size H s n l k=il (je a bytes size H s n l) k:=by
 unfold yl je;rw[gj,yW];cases cU l with
 |false=>rfl
 |true=>
  simp only[ait,acg,bF,bi];cases s<;>(try rfl)
  .rename_i id off len cap exact;show C4 a bytes size H n l k id off len cap exact=_;unfold C4;rw[jg,gj];show(if ai0 (len+n) cap=true then _ else _)=_;cases f:ai0 (len+n) cap with
   |true=>simp only[f,bi];unfold Hp;rw[gj,jg,Eu];cases ah8 n 0 with|true=>rfl|false=>simp only[acg,bF];show iI (gF H id (off+len*size) l) _=_;cases gF H id (off+len*size) l<;>rfl
   |false=>simp only[f,acg,bF];rw[gj,mS];show(if(dT ((len+n)*bytes)&&dT (len+n))=true then _ else _)=_;cases(dT ((len+n)*bytes)&&dT (len+n))with|false=>rfl|true=>simp only[bi,ait,acg,bF];rw[Bf];cases H.get id<;>(try rfl);rename_i c m e b aK fz;show C3 a size H l k id off len cap exact (len+n) c m e b aK fz=_;unfold C3;rw[Et];show iI (fW c m off (len*size)) _=_;simp only;cases fW c m off (len*size)with|none=>rfl|some cM=>rw[yV,pX,gj,gj,wM];cases exact with|true=>rfl|false=>simp only[acg,bF];unfold Hq;rw[gj,wL,Bg,jg,jg,sJ,mS,mS,mS];show(if ah8 len cap=true then(if(b&&(ah8 (off+cap*size) m&&(ah8 e a&&ai0 fz m)))=true then _ else False)else False)=il (if(b&&ah8 len cap&&ah8 (off+cap*size) m&&ah8 e a&&ai0 fz m)=true then _ else none) k;cases b<;>cases ah8 len cap<;>cases ah8 (off+cap*size) m<;>cases ah8 e a<;>cases ai0 fz m<;>rfl
  exact RC a bytes size H n l k
theorem RD(a b:Int)(k:Int->Prop):Hu a b k=k (a+b):=by cases a with|negSucc m=>exact sH (.negSucc m+b) k|ofNat m=>cases b with|negSucc n=>exact sH (.ofNat m+ .negSucc n) k|ofNat n=>exact jg (m+n) λs=>k (.ofNat s)
theorem RE(a b:Int)(k:Int->Prop):Hv a b k=k (a - b):=by
 cases a with
 |negSucc m=>exact sH (.negSucc m - b) k
 |ofNat m=>
  cases b with
  |negSucc n=>rfl
  |ofNat n=>
   show dG (ai0 n m) (dU (Nat.sub m n) λs=>k (.ofNat s)) (lM (.ofNat m - .ofNat n) k)=_;rw[gj,jg,sH];split;·rename_i h;have:=aib h;grind
   rfl
theorem RF(n:Int)(k:Int->Prop):Hw n k=k (fX 3 n):=by
 cases n with
 |negSucc m=>exact sH (fX 3 (.negSucc m)) k
 |ofNat m=>
  show dG (aiu m 9223372036854775808) (k (.ofNat m)) (lM (fX 3 (.ofNat m)) k)=_;rw[gj,sH];split;·rename_i h;simp only[fX,h,bi]
  rfl
theorem Jh(j:Nat)(n:Int)(k:Int->Prop):AA j n k=k (fX j n):=by simp_all[AA,gj,sH,RF,ah5]
theorem Ji(a b:Int):C5 a b=gw a b:=by cases a<;>cases b<;>rfl
theorem Jj(a b:Int):yn a b=jJ a b:=by cases a<;>cases b<;>rfl
theorem Jk(b:Bool):AB b=!b:=by cases b<;>rfl
theorem Bh(b:Bool)(k:AV->Prop):oP b k=k (.bool b):=by cases b<;>rfl
theorem RG(op:BinOp)(j:Nat)(a b:Int)(k:AV->Prop):C8 op j a b k=iI (fG op j a b) k:=by
 have gG:∀c,qX c j a b k=iI (fG c j a b) k:=λc=>by unfold qX;cases fG c j a b with|none=>rfl|some v=>exact uo v k
 cases op;·show C6 j a b k=_;unfold C6;rw[RD,Jh];rfl
 .show C7 j a b k=_;unfold C7;rw[RE,Jh];rfl
 all_goals first|exact gG _|rfl|(show oP _ k=_;rw[Bh,Ji];rfl)|(show oP _ k=_;rw[Bh,Jk,Ji];rfl)|(show oP _ k=_;rw[Bh,Jj];rfl)|(show oP _ k=_;rw[Bh,Jk,Jj];rfl)
theorem RH(op:BinOp)(j:Nat)(x y:AV)(k:AV->Prop):C9 op j x y k=iI (yf op j x y) k:=by unfold C9 Hr yf;cases x<;>(try rfl);cases y<;>(try rfl);rename_i i a l b;show dG (lh (ah8 i j) (ah8 l j)) (C8 op j a b k) False=_;rw[gj,mS,RG];simp only;cases(ah8 i j&&ah8 l j)<;>rfl
theorem Bi(o:Option AV)(H:ai)(k:KV):il (o.map λv=>(v,H)) k=iI o λv=>k v H:=by cases o<;>rfl
variable(d:jr)(ac:az AV)(H:ai)(k:KV)
theorem RI(c a b:aJ):Da c a b d ac H k=il (aH (.pick c a b) ac H) k:=by unfold Da;rw[gJ];simp only[aH];cases gv ac c<;>(try rfl);rename_i t;show dG t (eO ac a λv=>k v H) (eO ac b λv=>k v H)=_;rw[gJ,gJ];cases t<;>rfl
theorem RK(e:Nat)(x:aJ):Db e x d ac H k=il (aH (.box e x) ac H) k:=by unfold Db;rw[gJ,pX,gj,wM,yW,ru];simp only[aH];cases cU (gv ac x).cells<;>rfl
theorem RL(e:Nat)(a:List AV):Dc e a d ac H k=il (aH (.alloc e a) ac H) k:=by unfold Dc;rw[wM,ru];rfl
theorem RM(e n:Nat)(a:List AV)(b:List (Nat×Nat×aJ)):Dd e n a b d ac H k=il (aH (.buildSlice e n a b) ac H) k:=by unfold Dd;simp only[aH];cases lJ ac (dY a n) b with|none=>rfl|some l=>rw[yV,pX,gj,wM,yW,ru];simp only;cases cU l<;>rfl
theorem RN(H:ai)(id:ah)(off:Nat):dE H id off 1=(match H.get id with|.cells c n _ _ _ _=>if off<n then some [c.bp .ajS off]else none|_=>none):=by rfl
theorem RP(a:aJ):De a d ac H k=il (aH (.be a) ac H) k:=by
 unfold De;rw[gJ];simp only[aH,Bi];unfold HD ub gY;cases gv ac a<;>(try rfl);rename_i id off;show ua H id (Hz off λv=>k v H)=_;rw[Bf];simp only[RN];cases H.get id<;>(try rfl);rename_i c n e b aK fz;show dG (aiu off n) (oN .ajS c off λv=>k v H) False=_;rw[gj,wK];by_cases h:off<n;·rw[aG (ajP aiV h)];simp only[h,bi];rfl
 rw[an (λe=>h (Eq.mp aiV e))];simp only[h,bF];rfl
theorem RQ(n:Nat)(a:aJ):Df n a d ac H k=il (aH (.eF n a) ac H) k:=by unfold Df;rw[gJ];simp only[aH,Bi];unfold ub gY;cases gv ac a<;>(try rfl);rename_i id off;show Az H id off n _=_;rw[RA];simp only;cases dE H id off n<;>rfl
theorem RR(n:Nat)(a x:aJ):Dg n a x d ac H k=il (aH (.store n a x) ac H) k:=by
 unfold Dg;rw[gJ,gJ,pX];simp only[aH];cases gv ac a<;>(try rfl);rename_i id off;show dG (ah8 (lN (gv ac x).cells) n) (vR H id off (gv ac x).cells λH=>k .ajS H) False=_;rw[gj,Eu,ru];by_cases h:(gv ac x).cells.length=n;·rw[aG (by rw[h];exact aje n)];simp only[h,bi];cases gF H id off (gv ac x).cells<;>rfl
 rw[an (λe=>h (ah5 e))];simp only[h,bF];rfl
theorem RS(op:BinOp)(j:Nat)(x y:aJ):Dh op j x y d ac H k=il (aH (.arith op j x y) ac H) k:=by simp[Dh,gJ,RH,aH,Bi]
theorem RT(off:Nat)(x:aJ):Di off x d ac H k=il (aH (.iU off x) ac H) k:=by unfold Di;rw[gJ];unfold ub;simp only[aH];cases gv ac x<;>(try rfl);exact jg _ _
theorem RU(s:Nat)(x i:aJ):Dj s x i d ac H k=il (aH (.dI s x i) ac H) k:=by unfold Dj;rw[gJ,gJ];simp only[aH];cases gv ac x<;>(try rfl);cases gv ac i<;>(try rfl);rename_i z;cases z<;>(try rfl);rename_i id o len c e a j;show dG (aiu j len) (dU (Nat.add o (Nat.mul j s)) λo=>k (.aD id o) H) False=_;grind[gj,jg,il,aiu]
theorem RV:Dk d ac H k=il (aH .kw ac H) k:=by unfold Dk;rw[sJ];rfl
theorem RW(e b s:Nat)(a:List AV)(x y:aJ):Dl e b s a x y d ac H k=il (aH (.mH e b s a x y) ac H) k:=by
 unfold Dl;rw[gJ,gJ];simp only[aH];generalize gv ac x=g;generalize gv ac y=h;unfold HG;split;·rename_i l c;rw[gj,pX,wM,mS,mS,<-Bool.and_assoc];simp only;cases(ai0 l c&&dT (c*b)&&dT c)<;>rfl
 rename_i f;split;·grind
 rfl
theorem RX(e b s:Nat)(c:List AV)(m:Bool)(x y:aJ):Dm e b s c m x y d ac H k=il (aH (.append e b s c m x y) ac H) k:=by
 unfold Dm;rw[gJ,gJ,gj];simp only[aH];cases m with
 |true=>
  simp only[bi];generalize gv ac y=f;unfold HH;split;·rename_i n;rw[gj,pX,Jg,mS];simp only;cases(dT (n*b)&&dT n)<;>rfl
  rename_i a;split;·rename_i n;exact absurd rfl (a n)
  rfl
 |false=>simp only[acg,bF];cases fY H s (gv ac y)with|none=>rfl|some p=>show dU p.1 (λn=>mL p.2 λl=>yl e b s H (gv ac x) n l k)=_;rw[jg,pX,Jg]
theorem RY(s:Nat)(x y:aJ):Dp s x y d ac H k=il (aH (.copy s x y) ac H) k:=by
 unfold Dp;rw[gJ,gJ];simp only[aH];cases fY H s (gv ac y)with
 |none=>cases gv ac x<;>rfl
 |some p=>
  show Do s H k (gv ac x) p.1 p.2=_;unfold Do;cases gv ac x<;>(try rfl);rename_i id off len c e;show dU (min p.1 len) _=_;rw[jg,gj,pX,Eu];simp only;by_cases h:min p.1 len=0;·rw[aG (by rw[h];rfl)];simp only[h,bi];rfl
  rw[an (λe=>h (ah5 e))];simp only[h,bF];cases gF H id off (p.2.take (min p.1 len*s))<;>rfl
theorem RZ(x:aJ):Dq x d ac H k=il (aH (.pH x) ac H) k:=by unfold Dq;rw[gJ];unfold HI;simp only[aH];cases gv ac x<;>(try rfl);show mM _ _ _=_;rw[sJ];rfl
theorem R0(x:aJ):Ds x d ac H k=il (aH (.lZ x) ac H) k:=by
 unfold Ds;rw[gJ];unfold HJ;simp only[aH];cases gv ac x<;>(try rfl);·rename_i m;show yi H m _=_;rw[Es];simp only;cases H.get m<;>(try rfl);show mM _ _ _=_;rw[sJ];rfl
 rw[sJ];rfl
theorem Jl:∀(l:List AV)(n:Nat)(k:AV->Prop),Dt l n k=iI (nI l n) k|[],_,_=>rfl|_::_,0,_=>rfl|_::l,n+1,k=>Jl l n k
theorem R2(x:aJ)(i:Nat):Du x i d ac H k=il (aH (.extract x i) ac H) k:=by unfold Du;rw[gJ];simp only[aH];cases gv ac x<;>(try rfl);rename_i l;show Dt l i _=_;rw[Jl,Bi]
theorem R3(x:aJ):Dv x d ac H k=il (aH (.nilCheck x) ac H) k:=by unfold Dv;rw[gJ];simp only[aH];cases gv ac x<;>rfl
theorem R4(x:aJ):Dw x d ac H k=il (aH (.jd x) ac H) k:=by unfold Dw;rw[gJ];simp only[aH];cases gv ac x<;>rfl
theorem R5(o:bJ)(h:o.yt=false)(h2:∀a,o≠.j6 a):vS o d ac H k=il (aH o ac H) k:=by
 cases o;case call=>trivial
 case j6 a=>grind
 case bg x=>exact gJ _ _ _
 case pick=>exact RI d ac H k _ _ _
 case box=>exact RK d ac H k _ _
 case alloc=>exact RL d ac H k _ _
 case buildSlice=>exact RM d ac H k _ _ _ _
 case be=>exact RP d ac H k _
 case eF=>exact RQ d ac H k _ _
 case store=>exact RR d ac H k _ _ _
 case arith=>exact RS d ac H k _ _ _ _
 case iU=>exact RT d ac H k _ _
 case dI=>exact RU d ac H k _ _ _
 case kw=>exact RV d ac H k
 case mH=>exact RW d ac H k _ _ _ _ _ _
 case append=>exact RX d ac H k _ _ _ _ _ _ _
 case copy=>exact RY d ac H k _ _ _
 case pH=>exact RZ d ac H k _
 case lZ=>exact R0 d ac H k _
 case extract=>exact R2 d ac H k _ _
 case nilCheck=>exact R3 d ac H k _
 case jd=>exact R4 d ac H k _
 all_goals exact RB _ d ac H k
theorem R6(f:aJ)(args:List aJ):vS (.call f args) d ac H k=d.call (gv ac f) (args.map (gv ac)) H k:=by show eO ac f (λf=>Ax ac args λargs=>d.call f args H k)=_;rw[gJ,Je]
theorem R7(a:aJ):vS (.j6 a) d ac H k=(match qW H (gv ac a)with
 |some (cs,b)=>cV cs.length λi=>match cs[i]? with|some c=>k (b c).1 (b c).2|none=>False
 |none=>False):=by show eO ac a (λa=>HK H a k)=_;rw[gJ];rfl
end
section
theorem yX(j:bY)(x:Prop)(y:Nat->Prop)(z:Prop):vT j x y z=(match j with|.none=>x|.exit i=>y i|.ret=>z):=by cases j<;>rfl
theorem R8(v:AV)(t f:Prop):Dx v t f=(match v with|.bool true=>t|.bool false=>f|_=>False):=by cases v<;>(try rfl);rename_i b;cases b<;>rfl
theorem Jn(ac:az AV)(d:Option ah)(v:AV)(k:az AV->Prop):AC ac d v k=k (aO ac d v):=by cases d with|none=>rfl|some p=>exact sI _ _ _ _ _
theorem R9(ac:az AV)(H:ai)(l:List gX)(x:Prop):HL ac H l x=if dX ac H l=true then x else False:=by cases l with|nil=>rfl|cons a l=>exact gj _ _ _
theorem R'(ac:az AV)(g:Option (ah×Bool))(x y:Prop):Dy ac g x y=if dZ ac g=true then x else if j9 ac g=true then y else False:=by cases g with|none=>rfl|some g=>show dG (dZ ac (some g)) x (dG (j9 ac (some g)) y False)=_;simp[gj]
theorem Jo:∀(l:List AV)(p:ah)(t:az AV)(k:az AV->Prop),Dz l p t k=k (jf l p t)|[],_,_,_=>rfl|v::l,p,t,k=>by show tY .ajS p v t (λt=>yh p λp=>Dz l p t k)=_;rw[sI,Er,Jo l];rfl
theorem Ev(ac:az AV)(H:ai):∀(l:List gE)(k:List AV->Prop),yp ac H l k=iI (fc ac H l) k|[],_=>rfl|.tmp p::l,k=>by show tW .ajS p ac (λv=>yp ac H l λl=>k (v::l))=_;rw[wJ,Ev ac H l];simp only[fc];cases fc ac H l<;>rfl|.cell p g n::l,k=>by show tW .ajS p ac (λa=>iI (gY H a n g) λv=>pO v λv=>yp ac H l λl=>k (v::l))=_;rw[wJ];simp only[fc];cases gY H (ac.get .ajS p) n g with|none=>rfl|some v=>rw[yV,uo,Ev ac H l];cases fc ac H l<;>rfl
theorem Sc(l:List AV)(k:AV->Prop):DA l k=k (fZ l):=by match l with|[]=>rfl|[v]=>rfl|v::w::l=>rfl
theorem Sd(H:ai)(l:List ah)(k:ai->Prop):DB H l k=iI (iw H l) k:=by cases l<;>rfl
def Ew(o:bP)(k:LK):Prop:=
 match o with
 |.loop st bS fn ac a as bd d=>k st bS fn ac a as bd d
 |_=>False
theorem yY(H:ai)(i:ah)(k:LK):qZ H i k=Ew (H.get i) k:=by unfold qZ;rw[Es];cases H.get i<;>rfl
variable{ab:az aV}
structure yZ(ab:az aV)(n:Nat):Prop where
 exec:∀c fr H K,(dQ ab n).exec c fr H K=Go.al.exec False cV (ab.bp .none) n c fr H K
 aB:∀l fr H K,(dQ ab n).aB l fr H K=Go.al.aB False cV (ab.bp .none) n l fr H K
 call:∀f args H K,(dQ ab n).call f args H K=fu False cV (ab.bp .none) n f args H K
theorem Jp{n:Nat}(h:yZ ab n)(b:bm)(K:qY):vU (dQ ab n) b K=λj fr H=>match j with|.none=>Go.al.exec False cV (ab.bp .none) n b fr H K|j=>K j fr H:=by funext j fr H;unfold vU;rw[yX,h.exec];cases j<;>rfl
theorem Se{n:Nat}(h:yZ ab n)(c:bm)(fr:Fr)(H:ai)(K:qY):(dQ ab (n+1)).exec c fr H K=Go.al.exec False cV (ab.bp .none) (n+1) c fr H K:=by
 cases c with
 |skip=>simp only[Go.al.exec];rfl
 |region l=>show(dQ ab n).aB l fr H (K .none)=_;rw[h.aB];simp only[Go.al.exec]
 |seq a b=>show(dQ ab n).exec a fr H (vU (dQ ab n) b K)=_;rw[h.exec,Jp h];simp only[Go.al.exec];rfl
 |cond c a b=>show eO fr.ac c (λv=>Dx v ((dQ ab n).exec a fr H K) ((dQ ab n).exec b fr H K))=_;rw[gJ,R8,h.exec,h.exec];simp only[Go.al.exec];rfl
 |block id b=>show(dQ ab n).exec b fr H (DC id K)=_;rw[h.exec];simp only[Go.al.exec];congr 1;funext j fr H;unfold DC;rw[yX];cases j with|none=>rfl|exit i=>exact gj _ _ _|ret=>rfl
 |loop b=>show(dQ ab n).exec b fr H (vU (dQ ab n) (.loop b) K)=_;rw[h.exec,Jp h];simp only[Go.al.exec];rfl
 |rangeFunc f e as bd=>
  have go:∀(fr:Fr)(H:ai)(d:ah)(ac:az AV),vV (dQ ab n) ac e as bd (gv fr.ac f) K fr H d=fu False cV (ab.bp .none) n (gv fr.ac f) [.yield H.next] (H.new (.loop .ready .none 0 ac e as bd d)) λ_ H'=>match H'.get H.next with
   |.loop st bS fn ac e as bd d=>match st with|.busy=>False|_=>K bS fr (H'.set H.next (.loop .exhausted bS fn ac e as bd d))
   |_=>False:=by intro fr H d ac;unfold vV;rw[sJ,h.call];congr 1;funext v H';rw[yY];cases H'.get H.next<;>(try rfl);rename_i st bS fn ac e as bd d;unfold Ew DD;simp only[wL];cases st<;>rfl
  show eO fr.ac f (λfv=>Option.rec (motive:=λ_=>Prop) (mM H (.deferred false) λm H=>vV (dQ ab n) fr.ac e as bd fv K ⟨fr.ac,m::fr.bA,fr.bz⟩ H m) (λl=>qZ H l λ_ _ _ _ _ _ _ d=>vV (dQ ab n) fr.ac e as bd fv K fr H d) fr.bz)=_;rw[gJ];simp only[Go.al.exec];cases k:fr.bz with|none=>show mM H (.deferred false) _=_;rw[sJ];exact go ⟨fr.ac,H.next::fr.bA,none⟩ (H.new (.deferred false)) H.next fr.ac|some l=>show qZ H l _=_;rw[yY];simp only;cases H.get l<;>(try rfl);exact go fr H _ fr.ac
 |exit id=>simp only[Go.al.exec];rfl
 |ret=>simp only[Go.al.exec];rfl
 |dL t=>show oN .none ab t (λg=>aV.rec (motive:=λ_=>Prop) False (λ_ _ _=>False) (λ_=>False) (AF fr H K) g)=_;rw[wK];simp only[Go.al.exec];cases ab.bp .none t<;>(try rfl);rename_i g;show AF fr H K g=_;unfold AF;show iI (g fr.ac H) _=_;simp only;cases g fr.ac H<;>rfl
theorem Sf{n:Nat}(h:yZ ab n)(l:List bD)(fr:Fr)(H:ai)(K:Fr->ai->Prop):(dQ ab (n+1)).aB l fr H K=Go.al.aB False cV (ab.bp .none) (n+1) l fr H K:=by
 cases l with
 |nil=>simp only[Go.al.aB];rfl
 |cons o l=>
  show Dy fr.ac o.guard (DE (dQ ab n) o.op fr.ac H o.iu (after (dQ ab n) l K o.dst o.re fr.ac fr.bA fr.bz)) (AC fr.ac o.dst .ajS λac=>(dQ ab n).aB l ⟨ac,fr.bA,fr.bz⟩ H K)=_;rw[R',Jn,h.aB];simp only[Go.al.aB];congr 1;have b:∀(s:List (ah×bP))(v:AV)(H:ai),after (dQ ab n) l K o.dst o.re fr.ac fr.bA fr.bz v (di H s)=if dX (aO fr.ac o.dst v) (di H s) o.re=true then Go.al.aB False cV (ab.bp .none) n l {fr with ac:=aO fr.ac o.dst v} (di H s) K else False:=by intro s v H;unfold after;rw[Jn,R9,h.aB]
  have i:DE (dQ ab n) o.op fr.ac H o.iu (after (dQ ab n) l K o.dst o.re fr.ac fr.bA fr.bz)=vS o.op (dQ ab n) fr.ac (dF fr.ac H o.iu).1 λv H'=>after (dQ ab n) l K o.dst o.re fr.ac fr.bA fr.bz v (di H' (dF fr.ac H o.iu).2):=by cases o.iu<;>rfl
  rw[i];have j:(λv H'=>after (dQ ab n) l K o.dst o.re fr.ac fr.bA fr.bz v (di H' (dF fr.ac H o.iu).2))=λv H'=>if dX (aO fr.ac o.dst v) (di H' (dF fr.ac H o.iu).2) o.re=true then Go.al.aB False cV (ab.bp .none) n l {fr with ac:=aO fr.ac o.dst v} (di H' (dF fr.ac H o.iu).2) K else False:=by funext v H';exact b _ v H'
  rw[j];split;·rename_i f args a;rw[a,R6,h.call]
  .rename_i g a;rw[a,R7];rfl
  rename_i c d;rw[R5 _ _ _ _ _ (by cases a:o.op<;>first|rfl|exact absurd a (c _ _)) (λg e=>d g e)];cases aH o.op fr.ac (dF fr.ac H o.iu).1<;>rfl
theorem Sg{n:Nat}(h:yZ ab n)(f:AV)(args:List AV)(H:ai)(K:KV):(dQ ab (n+1)).call f args H K=fu False cV (ab.bp .none) (n+1) f args H K:=by
 cases f<;>(try(simp only[fu];rfl))
 .rename_i f first a;show oN .none ab f (λg=>mL (first++args++a) λall=>aV.rec (motive:=λ_=>Prop) False (AG (dQ ab n) H K all) (AH H K all) (λ_=>False) g)=_;rw[wK,pX];simp only[fu];cases ab.bp .none f<;>(try rfl)
  .rename_i m c body;show AG (dQ ab n) H K (first++args++a) m c body=_;unfold AG;rw[gj,ru,Jo,h.exec];simp only;congr 2;funext j fr H;have k:DF c K fr H=(match iw H fr.bA with
    |some H=>match fc fr.ac H c with|some l=>K (fZ l) H|none=>False
    |none=>False):=by show DB H fr.bA (λH=>yp fr.ac H c λl=>DA l λv=>K v H)=_;rw[Sd];cases iw H fr.bA with|none=>rfl|some o=>rw[yV,Ev];simp only;cases fc fr.ac o c with|none=>rfl|some l=>rw[yV,Sc]
   unfold HM;rw[yX,k];cases j<;>rfl
  rename_i g;show AH H K (first++args++a) g=_;unfold AH;simp only;cases g (first++args++a) H with|none=>rfl|some p=>exact uo p.1 λv=>K v p.2
 rename_i l;show DH (dQ ab n) args H K l=_;unfold DH;rw[yY];simp only[fu];cases H.get l<;>(try rfl);rename_i st bS fn ac b as bd d;show yq st (dG (ah8 (lN args) (lN b)) ((dQ ab n).exec as ⟨l7 b args ac,[],some l⟩ H (yr (dQ ab n) l bd K)) False) False False=_;cases st<;>(try rfl);show dG (ah8 (lN args) (lN b)) ((dQ ab n).exec as ⟨l7 b args ac,[],some l⟩ H (yr (dQ ab n) l bd K)) False=_;rw[gj,ru,ru,h.exec];simp only;have q:yr (dQ ab n) l bd K=λj fr H=>match j,H.get l with
  |.none,.loop .ready bS fn ac b as bd' d=>Go.al.exec False cV (ab.bp .none) n bd fr (H.set l (.loop .busy bS fn ac b as bd' d)) λj _ H=>match H.get l with
   |.loop _ _ fn ac b as bd d=>match j with|.none=>K (.bool true) (H.set l (.loop .ready .none fn ac b as bd d))|j=>K (.bool false) (H.set l (.loop .done j fn ac b as bd d))
   |_=>False
  |_,_=>False:=by funext j fr H;unfold yr;rw[yX];cases j with|none=>simp only;unfold HN;rw[yY];cases H.get l<;>(try rfl);rename_i st bS fn ac b as bd' d;show yq st _ False False=_;cases st<;>(try rfl);show oO H l (.loop .busy bS fn ac b as bd' d) (λH=>(dQ ab n).exec bd fr H (DG l K))=_;rw[wL,h.exec];simp only;congr 1;funext j r H;unfold DG;rw[yY];cases H.get l<;>(try rfl);unfold Ew;simp only;rw[yX];cases j<;>simp only[wL]|exit i=>cases H.get l<;>rfl|ret=>cases H.get l<;>rfl
 rw[q];by_cases hl:args.length=b.length;·rw[aG (by rw[hl];exact aje _),aG hl];rfl
 rw[an (λe=>hl (ah5 e)),an hl]
theorem Bj(ab:az aV):∀n,yZ ab n|0=>⟨λc fr H K=>by rfl,λl fr H K=>by rfl,λf args H K=>by rfl⟩|n+1=>⟨Se (Bj ab n),Sf (Bj ab n),Sg (Bj ab n)⟩
end
end Go.al.K
namespace Go.al
section
variable{ab:Nat->aV}
structure Bk(ab:Nat->aV)(n:Nat):Prop where
 exec:∀{c fr H K K' m},n<=m->(∀j fr H,K j fr H->K' j fr H)->exec False cV ab n c fr H K->exec False cV ab m c fr H K'
 aB:∀{l fr H K K' m},n<=m->(∀fr H,K fr H->K' fr H)->Go.al.aB False cV ab n l fr H K->Go.al.aB False cV ab m l fr H K'
 call:∀{f args H K K' m},n<=m->(∀v H,K v H->K' v H)->fu False cV ab n f args H K->fu False cV ab m f args H K'
theorem Sh{n:Nat}(h:Bk ab n){c:bm}{fr:Fr}{H:ai}{K p:bY->Fr->ai->Prop}{m:Nat}(g:n<=m)(e:∀j fr H,K j fr H->p j fr H)(he:exec False cV ab (n+1) c fr H K):exec False cV ab (m+1) c fr H p:=by
 cases c with
 |skip=>simp only[exec]at he⊢;exact e _ _ _ he
 |region l=>simp only[exec]at he⊢;exact h.aB g (e _) he
 |seq a b=>simp only[exec]at he⊢;refine h.exec g (λj fr H hj=>?_) he;cases j with|none=>exact h.exec g e hj|exit i=>exact e _ _ _ hj|ret=>exact e _ _ _ hj
 |cond c a b=>
  simp only[exec]at he⊢;split at he;·exact h.exec g e he
  .exact h.exec g e he
  exact he.elim
 |block id b=>simp only[exec]at he⊢;refine h.exec g (λj fr H hj=>?_) he;cases j with|none=>exact e _ _ _ hj|exit i=>simp only at hj⊢;split at hj<;>rename_i hi<;>simp only[hi,bi,bF,acg]<;>exact e _ _ _ hj|ret=>exact e _ _ _ hj
 |loop b=>simp only[exec]at he⊢;refine h.exec g (λj fr H hj=>?_) he;cases j with|none=>exact h.exec g e hj|exit i=>exact e _ _ _ hj|ret=>exact e _ _ _ hj
 |rangeFunc f o as bd=>
  simp only[exec]at he⊢;have go:∀(fr:Fr)(l:ah)(v:AV)(H':ai),(match H'.get l with
   |.loop st bS fn ac o as bd d=>match st with|.busy=>False|_=>K bS fr (H'.set l (.loop .exhausted bS fn ac o as bd d))
   |_=>False)->(match H'.get l with
   |.loop st bS fn ac o as bd d=>match st with|.busy=>False|_=>p bS fr (H'.set l (.loop .exhausted bS fn ac o as bd d))
   |_=>False):=by
   intro fr l v H' k;cases q:H'.get l with
   |loop st bS fn ac o as bd d=>rw[q]at k;cases st<;>first|exact k.elim|exact e _ _ _ k
   |_=>rw[q]at k;exact k.elim
  cases r:fr.bz with
  |none=>rw[r]at he;exact h.call g (λv H' k=>go _ _ v H' k) he
  |some l=>
   rw[r]at he;simp only at he⊢;split at he;·exact h.call g (λv H' k=>go _ _ v H' k) he
   exact he.elim
 |exit id=>simp only[exec]at he⊢;exact e _ _ _ he
 |ret=>simp only[exec]at he⊢;exact e _ _ _ he
 |dL t=>
  simp only[exec]at he⊢;split at he
  .split at he;·exact e _ _ _ he
   exact he.elim
  exact he.elim
theorem Si{n:Nat}(h:Bk ab n){l:List bD}{fr:Fr}{H:ai}{K c:Fr->ai->Prop}{m:Nat}(d:n<=m)(e:∀fr H,K fr H->c fr H)(he:Go.al.aB False cV ab (n+1) l fr H K):Go.al.aB False cV ab (m+1) l fr H c:=by
 cases l with
 |nil=>simp_all[Go.al.aB]
 |cons o l=>
  simp only[Go.al.aB]at he⊢;have b:∀(s:List (ah×bP))(v:AV)(H:ai),(if dX (aO fr.ac o.dst v) (di H s) o.re=true then Go.al.aB False cV ab n l {fr with ac:=aO fr.ac o.dst v} (di H s) K else False)->(if dX (aO fr.ac o.dst v) (di H s) o.re=true then Go.al.aB False cV ab m l {fr with ac:=aO fr.ac o.dst v} (di H s) c else False):=by
   intro s v H a;split at a;·rename_i f;rw[aG f];exact h.aB d e a
   exact a.elim
  split at he
  .rename_i hg;rw[aG hg];split at he;·exact h.call d (λv H' a=>b _ v H' a) he
   all_goals grind
  rename_i hg;rw[an hg];split at he;·rename_i hd;rw[aG hd];exact h.aB d e he
  grind
theorem Sj{n:Nat}(h:Bk ab n){f:AV}{args:List AV}{H:ai}{K e:KT}{m:Nat}(a:n<=m)(b:∀v H,K v H->e v H)(he:fu False cV ab (n+1) f args H K):fu False cV ab (m+1) f args H e:=by
 cases f<;>(try(simp only[fu]at he;done))
 .simp only[fu]at he⊢;split at he;·omega
  .omega
  .grind
  split at he;·rename_i c;rw[aG c];refine h.exec a (λj fr H hj=>?_) he;grind
  grind
 rename_i l;simp only[fu]at he⊢;split at he
 .split at he
  .split at he
   .rename_i hl;rw[aG hl];refine h.exec a (λj fr H hj=>?_) he;split at hj
    .refine h.exec a (λj fr H hj=>?_) hj;split at hj
     .split at hj;·exact b _ _ hj
      cases j<;>first|exact b _ _ hj|skip
      all_goals first|exact b _ _ hj|(rename_i d;exact absurd rfl d)
     exact hj.elim
    exact hj.elim
   exact he.elim
  exact he.elim
 exact he.elim
theorem mono(ab:Nat->aV):∀n,Bk ab n|0=>⟨λ_ _ he=>by trivial,λ_ _ he=>by trivial,λ_ _ he=>by trivial⟩|n+1=>by have h:=mono ab n;refine⟨λb a he=>?_,λb a he=>?_,λb a he=>?_⟩;all_goals rename_i m;cases m with|zero=>omega|succ m=>first|exact Sh h aa a he|exact Si h aa a he|exact Sj h aa a he
end
section
variable[Ov]
variable{ab:Nat->aV}
abbrev Xc(ab:Nat->aV)(n:Nat)(c:bm)(fr:Fr)(H:ai)(K:bY->Fr->ai->Prop):Prop:=exec False cV ab n c fr H K
abbrev Xo(ab:Nat->aV)(n:Nat)(l:List bD)(fr:Fr)(H:ai)(K:Fr->ai->Prop):Prop:=Go.al.aB False cV ab n l fr H K
abbrev Xf(ab:Nat->aV)(n:Nat)(f:AV)(args:List AV)(H:ai)(K:KT):Prop:=fu False cV ab n f args H K
theorem Xo.nil{n:Nat}{fr:Fr}{H:ai}{K:Fr->ai->Prop}(h:K fr H):Xo ab (n+1) [] fr H K:=by trivial
theorem Xo.op{n:Nat}{d:Option ah}{op:bJ}{l:List bD}{ac:az AV}{bA:List ah}{bz:Option ah}{H H':ai}{v:AV}{K:Fr->ai->Prop}(he:aH op ac H=some (v,H'))(h:Xo ab n l ⟨aO ac d v,bA,bz⟩ H' K):Xo ab (n+1) (⟨d,op,none,[],[]⟩::l) ⟨ac,bA,bz⟩ H K:=by simp only[Xo,Go.al.aB,dZ,dF,di,dX,bi];grind[aH]
theorem Xo.next{n:Nat}{d:Option ah}{a:aJ}{l:List bD}{ac:az AV}{bA:List ah}{bz:Option ah}{H:ai}{cs:List (Option aW)}{aft:Option aW->AV×ai}{K:Fr->ai->Prop}(he:qW H (gv ac a)=some (cs,aft))(h:∀c∈cs,Xo ab n l ⟨aO ac d (aft c).1,bA,bz⟩ (aft c).2 K):Xo ab (n+1) (⟨d,.j6 a,none,[],[]⟩::l) ⟨ac,bA,bz⟩ H K:=by simp only[Xo,Go.al.aB,dZ,dF,di,dX,bi,he];grind
theorem Xo.call{n:Nat}{d:Option ah}{f:aJ}{args:List aJ}{l:List bD}{ac:az AV}{bA:List ah}{bz:Option ah}{H:ai}{K:Fr->ai->Prop}(h:Xf ab n (gv ac f) (args.map (gv ac)) H λv H'=>Xo ab n l ⟨aO ac d v,bA,bz⟩ H' K):Xo ab (n+1) (⟨d,.call f args,none,[],[]⟩::l) ⟨ac,bA,bz⟩ H K:=by trivial
theorem Xc.region{n:Nat}{l:List bD}{fr:Fr}{H:ai}{K:bY->Fr->ai->Prop}(h:Xo ab n l fr H (K .none)):Xc ab (n+1) (.region l) fr H K:=by trivial
theorem Xc.seq{n:Nat}{a b:bm}{fr:Fr}{H:ai}{K:bY->Fr->ai->Prop}(h:Xc ab n a fr H λj fr H=>match j with|.none=>Xc ab n b fr H K|j=>K j fr H):Xc ab (n+1) (.seq a b) fr H K:=by trivial
theorem Xc.mono{n m:Nat}(h:n<=m){c:bm}{fr:Fr}{H:ai}{K a:bY->Fr->ai->Prop}(b:∀j fr H,K j fr H->a j fr H)(he:Xc ab n c fr H K):Xc ab m c fr H a:=(Go.al.mono ab n).exec h b he
theorem Xo.mono{n m:Nat}(h:n<=m){l:List bD}{fr:Fr}{H:ai}{K a:Fr->ai->Prop}(b:∀fr H,K fr H->a fr H)(he:Xo ab n l fr H K):Xo ab m l fr H a:=(Go.al.mono ab n).aB h b he
theorem Xf.mono{n m:Nat}(h:n<=m){f:AV}{args:List AV}{H:ai}{K a:KT}(b:∀v H,K v H->a v H)(he:Xf ab n f args H K):Xf ab m f args H a:=(Go.al.mono ab n).call h b he
theorem Xc.loop{n:Nat}{b:bm}{fr:Fr}{H:ai}{K:bY->Fr->ai->Prop}(h:Xc ab n b fr H λj fr H=>match j with|.none=>Xc ab n (.loop b) fr H K|j=>K j fr H):Xc ab (n+1) (.loop b) fr H K:=by trivial
theorem Xc.mT{n:Nat}{c:aJ}{a b:bm}{fr:Fr}{H:ai}{K:bY->Fr->ai->Prop}(d:gv fr.ac c=.bool true)(h:Xc ab n a fr H K):Xc ab (n+1) (.cond c a b) fr H K:=by simp[d,h,Xc,exec]
theorem Xc.lO{n:Nat}{c:aJ}{a b:bm}{fr:Fr}{H:ai}{K:bY->Fr->ai->Prop}(d:gv fr.ac c=.bool false)(h:Xc ab n b fr H K):Xc ab (n+1) (.cond c a b) fr H K:=by simp[d,h,Xc,exec]
theorem Xc.block{n:Nat}{id:Nat}{b:bm}{fr:Fr}{H:ai}{K:bY->Fr->ai->Prop}(h:Xc ab n b fr H λj fr H=>match j with|.exit i=>if ah8 i id then K .none fr H else K (.exit i) fr H|j=>K j fr H):Xc ab (n+1) (.block id b) fr H K:=by trivial
theorem Xc.skip{n:Nat}{fr:Fr}{H:ai}{K:bY->Fr->ai->Prop}(h:K .none fr H):Xc ab (n+1) .skip fr H K:=by trivial
theorem Xc.exit{n id:Nat}{fr:Fr}{H:ai}{K:bY->Fr->ai->Prop}(h:K (.exit id) fr H):Xc ab (n+1) (.exit id) fr H K:=by trivial
theorem Xc.ret{n:Nat}{fr:Fr}{H:ai}{K:bY->Fr->ai->Prop}(h:K .ret fr H):Xc ab (n+1) .ret fr H K:=by trivial
theorem Xc.hZ{n m:Nat}{a b:bm}{fr:Fr}{H:ai}{K:bY->Fr->ai->Prop}{k:Nat}(c:n<=k)(d:m<=k)(h:Xc ab n a fr H λj fr H=>match j with|.none=>Xc ab m b fr H K|j=>K j fr H):Xc ab (k+1) (.seq a b) fr H K:=by refine Xc.seq (h.mono c λj fr H hj=>?_);cases j with|none=>exact hj.mono d λ_ _ _ h=>h|exit i=>omega|ret=>omega
def pe(a c:Nat)(d b ok e ex kv:ah)(body:bm):bm:=
 .block a (.loop (.seq (.region [⟨some b,.j6 (.t d),none,[],[]⟩,⟨some ok,.extract (.t b) 0,none,[],[]⟩])
   (.seq (.cond (.t ok) .skip (.exit a)) (.block c (.seq (.region [⟨some e,.qT (.t d),none,[],[]⟩,⟨some ex,.extract (.t e) 0,none,[],[]⟩,⟨some kv,.bg (.t ex),none,[],[]⟩]) body)))))
theorem Jq:∀{es:List aW}{e:aW}(i0:Nat),e∈es->(es.map (·.born)).Nodup->∃i,pK e.born es i0=some (i0+i)/\es[i]?=some e
 |[],_,_,h,_=>by grind
 |a::es,e,i0,h,b=>by
  rw[ah2,aiz]at b;rcases acT.1 h with h|h;·simp[h,pK,aje]
  have c:¬a.born=e.born:=λhe=>b.1 (by rw[he];exact aio h);have⟨i,h1,h2⟩:=Jq (i0+1) h b.2;refine⟨i+1,?_,by grind⟩;have:ah8 a.born e.born=false:=by cases hb:ah8 a.born e.born with|false=>rfl|true=>exact absurd (ah5 hb) c
  simp only[pK,this,acg,bF,h1];grind
def jh(es:List aW)(seen:List Nat):List aW:=es.filter λe=>!seen.contains e.born
theorem Sk{es:List aW}{seen:List Nat}{e:aW}(he:e∈jh es seen):(jh es (seen++[e.born])).length<(jh es seen).length:=by
 have h1:jh es (seen++[e.born])=(jh es seen).filter λx=>!(x.born==e.born):=by simp only[jh,List.filter_filter];congr 1;funext x;simp only[List.contains_append,Bool.not_or,List.contains_cons,List.contains_nil,Bool.or_false];rw[Bool.and_comm]
 rw[h1];refine List.length_filter_lt_length_iff_exists.2 ⟨e,he,aC⟩
theorem Jr{H:ai}{id m:ah}{es:List aW}{b:Nat}{seen:List Nat}(hi:H.get id=.mapIter (some m) b seen b)(g:H.get m=.map es b)(d:∀e∈es,e.born<b):∃f,qW H (.aD id 0)=some ((if(jh es seen).isEmpty then[none]else[])++(jh es seen).map some,f)/\f none=(.tuple [.bool false],H)/\∀e,f (some e)=(.tuple [.bool true,e.key,e.val],H.set id (.mapIter (some m) b (seen++[e.born]) b)):=by
 have eB:¬((!seen.isEmpty&&!es.isEmpty&&es.all λe=>ai0 b e.born)=true):=by intro h;simp only[ah4,ai8]at h;cases es with|nil=>simp at h|cons a es=>have:=aib (h.2 a (acI ..));have:=d a (acI ..);omega
 have h1:(jh es seen).filter (λe=>aiu e.born b)=jh es seen:=List.filter_eq_self.2 λe he=>ajP aiV (d e (ajE.1 he).1);have h2:(jh es seen).filter (λe=>!aiu e.born b)=[]:=List.filter_eq_nil_iff.2 λe he=>by have:aiu e.born b=true:=ajP aiV (d e (ajE.1 he).1);simp[this]
 refine⟨λc=>match c with|some e=>(.tuple [.bool true,e.key,e.val],H.set id (.mapIter (some m) b (seen++[e.born]) b))|none=>(.tuple [.bool false],H),?_,rfl,λe=>rfl⟩;simp only[qW,hi,g];rw[an eB];show some ((if((jh es seen).filter (λe=>aiu e.born b)).isEmpty then[none]else[])++((jh es seen).filter (λe=>aiu e.born b)++(jh es seen).filter (λe=>!aiu e.born b)).map some,_)=_;grind
theorem Js{g r:Nat}{p f ok u ex kv:ah}{body:bm}(X:g≠r)(R:p≠f)(S:p≠ok)(Y:f≠ok)(Z:u≠ex){es:List aW}{b:Nat}{id m:ah}(hb:(es.map (·.born)).Nodup)(w:∀e∈es,e.born<b){bA:List ah}{bz:Option ah}{K:bY->Fr->ai->Prop}(I:List Nat->az AV->ai->Prop)(y:∀seen ac H,I seen ac H->ac.get .ajS p=.aD id 0/\H.get id=.mapIter (some m) b seen b/\H.get m=.map es b)(d:Nat)(step:∀seen ac H e,I seen ac H->e∈es->e.born∉seen->Xc ab d body ⟨((((ac.set .ajS f (.tuple [.bool true,e.key,e.val])).set .ajS ok (.bool true)).set .ajS u (.tuple [e.key,e.val])).set .ajS ex e.key).set .ajS kv e.key,bA,bz⟩ (H.set id (.mapIter (some m) b (seen++[e.born]) b)) λj fr H'=>j=.none/\fr.bA=bA/\fr.bz=bz/\I (seen++[e.born]) fr.ac H')(aq:∀seen ac H,I seen ac H->(∀e∈es,e.born∈seen)->K .none ⟨(ac.set .ajS f (.tuple [.bool false])).set .ajS ok (.bool false),bA,bz⟩ H):∀(k:Nat)seen ac H,I seen ac H->(jh es seen).length<=k->Xc ab (d+15+k) (pe g r p f ok u ex kv body) ⟨ac,bA,bz⟩ H K:=by
 have A:∀(k:Nat)seen ac H,I seen ac H->(jh es seen).length<=k->Xc ab (d+14+k) (.loop (.seq (.region [⟨some f,.j6 (.t p),none,[],[]⟩,⟨some ok,.extract (.t f) 0,none,[],[]⟩]) (.seq (.cond (.t ok) .skip (.exit g)) (.block r (.seq (.region [⟨some u,.qT (.t p),none,[],[]⟩,⟨some ex,.extract (.t u) 0,none,[],[]⟩,⟨some kv,.bg (.t ex),none,[],[]⟩]) body))))) ⟨ac,bA,bz⟩ H λj fr H=>j=.exit g/\K .none fr H:=by
  intro k;induction k with
  |zero=>intro seen ac H s C;have⟨h1,h2,h3⟩:=y seen ac H s;have⟨F,B,D,a3⟩:=Jr h2 h3 w;have n:jh es seen=[]:=aih aa;rw[n]at B;refine Xc.loop (n:=d+13) ?_;refine Xc.seq (n:=d+12) (Xc.region (n:=d+11) (Xo.next (n:=d+10) (by rw[show gv ac (.t p)=ac.get .ajS p from rfl,h1];exact B) ?_));intro c o;simp only[List.isEmpty_nil,bi,ajh,aiS,abP]at o;subst o;rw[D];refine Xo.op (n:=d+9) (v:=.bool false) (H':=H) (by simp[aH,gv,aO,az.aF,nI]) (Xo.nil (n:=d+8) (Xc.seq (n:=d+11) (Xc.lO (n:=d+10) (by simp[gv,aO,az.aF]) (Xc.exit (n:=d+9) ⟨by trivial,aq seen ac H s λe he=>?_⟩))));apply ain;intro v;have:e∈jh es seen:=ajE.2 ⟨he,by simpa using v⟩;rw[n]at this;cases this
  |succ k T=>
   intro seen ac H s C;have⟨h1,h2,h3⟩:=y seen ac H s;have⟨F,B,D,a3⟩:=Jr h2 h3 w;refine Xc.loop (n:=d+14+k) ?_;refine Xc.mono (n:=d+14) (K:=λj fr H=>match j with|.none=>exec False cV ab (d+14+k) (.loop (.seq (.region [⟨some f,.j6 (.t p),none,[],[]⟩,⟨some ok,.extract (.t f) 0,none,[],[]⟩]) (.seq (.cond (.t ok) .skip (.exit g)) (.block r (.seq (.region [⟨some u,.qT (.t p),none,[],[]⟩,⟨some ex,.extract (.t u) 0,none,[],[]⟩,⟨some kv,.bg (.t ex),none,[],[]⟩]) body))))) fr H λj fr H=>j=.exit g/\K .none fr H|j=>j=.exit g/\K .none fr H) aa (λ_ _ _ h=>h) ?_;refine Xc.seq (n:=d+13) (Xc.region (n:=d+12) (Xo.next (n:=d+11) (by rw[show gv ac (.t p)=ac.get .ajS p from rfl,h1];exact B) ?_));intro c o;cases c with
   |none=>
    have n:jh es seen=[]:=by cases hu:jh es seen with|nil=>rfl|cons a l=>rw[hu]at o;simp at o
    rw[D];refine Xo.op (n:=d+10) (v:=.bool false) (H':=H) (by simp[aH,gv,aO,az.aF,nI]) (Xo.nil (n:=d+9) (Xc.seq (n:=d+12) (Xc.lO (n:=d+11) (by simp[gv,aO,az.aF]) (Xc.exit (n:=d+10) ⟨by trivial,aq seen ac H s λe he=>?_⟩))));apply ain;intro v;have:e∈jh es seen:=ajE.2 ⟨he,by simpa using v⟩;rw[n]at this;cases this
   |some e=>
    have q:e∈jh es seen:=by
     rw[adX]at o;rcases o with o|o;·split at o<;>simp at o
     rw[aia]at o;have⟨x,V,E⟩:=o;injection E with E;subst E;exact V
    have jv:e∈es:=(ajE.1 q).1;have G:e.born∉seen:=by have:=(ajE.1 q).2;simpa using this
    rw[a3];refine Xo.op (n:=d+10) (v:=.bool true) (H':=H.set id (.mapIter (some m) b (seen++[e.born]) b)) (by simp[aH,gv,aO,az.aF,nI]) (Xo.nil (n:=d+9) (Xc.seq (n:=d+12) (Xc.mT (n:=d+11) (by simp[gv,aO,az.aF]) (Xc.skip (n:=d+10) (Xc.block (n:=d+11) ?_)))));have⟨i,z,J⟩:=Jq 0 jv hb;rw[aif]at z;have L:id≠m:=λe=>by rw[e,h3]at h2;cases h2
    have M:(H.set id (.mapIter (some m) b (seen++[e.born]) b)).get id=.mapIter (some m) b (seen++[e.born]) b:=by rw[ai.aF,aG rfl]
    have N:(H.set id (.mapIter (some m) b (seen++[e.born]) b)).get m=.map es b:=by rw[ai.aF,an (λh=>L h.symm)];exact h3
    refine Xc.seq (n:=d+10) (Xc.region (n:=d+9) (Xo.op (n:=d+8) (v:=.tuple [e.key,e.val]) (H':=H.set id (.mapIter (some m) b (seen++[e.born]) b)) ?_ ?_));·simp only[aH,gv,aO,az.aF,an S,an R,h1,M,N,List.getLast?_append,List.getLast?_singleton,Option.some_or,aje,bi,z,J]
    refine Xo.op (n:=d+7) (v:=e.key) (H':=H.set id (.mapIter (some m) b (seen++[e.born]) b)) (by simp[aH,gv,aO,az.aF,nI]) (Xo.op (n:=d+6) (v:=e.key) (H':=H.set id (.mapIter (some m) b (seen++[e.born]) b)) (by simp[aH,gv,aO,az.aF]) (Xo.nil (n:=d+5) (Xc.mono (n:=d) (m:=d+10) aa ?_ (step seen ac H e s jv G))));rintro j fr H'⟨rfl,P,Q,W⟩;have O:fr=⟨fr.ac,bA,bz⟩:=by cases fr;simp only at P Q;subst P;subst Q;rfl
    rw[O];refine T (seen++[e.born]) fr.ac H' W ?_;have:=Sk q;omega
 intro k seen ac H s C;rw[show d+15+k=d+14+k+1 by omega];refine Xc.block (n:=d+14+k) (Xc.mono (afM _) ?_ (A k seen ac H s C));simp_all
end
section
def Ex:AV->AV->Bool
 |.bool a,.bool b=>a==b
 |.int j (.ofNat a),.int k (.ofNat b)=>ah8 j k&&ah8 a b
 |.cL,.cL=>true
 |.bh,.bh=>true
 |_,_=>false
def iM:aJ->aJ->Bool
 |.t p,.t q=>ah.beq p q
 |.c a,.c b=>Ex a b
 |_,_=>false
def wN:List aJ->List aJ->Bool
 |[],[]=>true
 |a::l,b::m=>iM a b&&wN l m
 |_,_=>false
def Ey:bJ->bJ->Bool
 |.bg x,.bg y=>iM x y
 |.extract x i,.extract y j=>iM x y&&ah8 i j
 |.qT x,.qT y=>iM x y
 |.j6 x,.j6 y=>iM x y
 |.lZ x,.lZ y=>iM x y
 |.be x,.be y=>iM x y
 |.dI s x i,.dI t y j=>ah8 s t&&iM x y&&iM i j
 |.arith .neq k x i,.arith .neq l y j=>ah8 k l&&iM x y&&iM i j
 |.jI .int x i u,.jI .int y j v=>iM x y&&iM i j&&iM u v
 |.eq a .map x i,.eq b .map y j=>(a==b)&&iM x y&&iM i j
 |.kw,.kw=>true
 |.store n x i,.store m y j=>ah8 n m&&iM x y&&iM i j
 |.iU n x,.iU m y=>ah8 n m&&iM x y
 |.jd x,.jd y=>iM x y
 |.call f l,.call g m=>iM f g&&wN l m
 |_,_=>false
def Ez:Option ah->Option ah->Bool
 |none,none=>true
 |some p,some q=>ah.beq p q
 |_,_=>false
def EA:bD->bD->Bool
 |⟨d,o,none,[],[]⟩,⟨e,p,none,[],[]⟩=>Ez d e&&Ey o p
 |_,_=>false
def wO:List bD->List bD->Bool
 |[],[]=>true
 |a::l,b::m=>EA a b&&wO l m
 |_,_=>false
def kG:bm->bm->Bool
 |.skip,.skip=>true
 |.region l,.region m=>wO l m
 |.seq a b,.seq c d=>kG a c&&kG b d
 |.cond x a b,.cond y c d=>iM x y&&kG a c&&kG b d
 |.block i a,.block j b=>ah8 i j&&kG a b
 |.loop a,.loop b=>kG a b
 |.exit i,.exit j=>ah8 i j
 |.dL i,.dL j=>ah8 i j
 |_,_=>false
theorem Sn{a b:AV}(h:Ex a b=true):a=b:=by unfold Ex at h;split at h;all_goals simp_all
theorem mU{a b:aJ}(h:iM a b=true):a=b:=by unfold iM at h;grind[ah.fg,Sn]
theorem Jt:∀{l m:List aJ},wN l m=true->l=m|[],[],_=>rfl|a::l,b::m,h=>by simp only[wN,ah4]at h;rw[mU h.1,Jt h.2]|[],_::_,h=>by simp[wN]at h|_::_,[],h=>by simp[wN]at h
theorem Sp{a b:bJ}(h:Ey a b=true):a=b:=by unfold Ey at h;split at h<;>(try simp only[ah4,beq_iff_eq]at h)<;>first|(cases h;done)|rfl|(rw[mU h];done)|(rw[mU h.1,ah5 h.2];done)|(rw[ah5 h.1.1,mU h.1.2,mU h.2];done)|(rw[mU h.1.1,mU h.1.2,mU h.2];done)|(rw[h.1.1,mU h.1.2,mU h.2];done)|(rw[ah5 h.1,mU h.2];done)|(rw[mU h.1,Jt h.2];done)
theorem Sq{a b:Option ah}(h:Ez a b=true):a=b:=by unfold Ez at h;grind[ah.fg]
theorem Sr{a b:bD}(h:EA a b=true):a=b:=by
 unfold EA at h;split at h;·simp only[ah4]at h;grind[Sq,Sp]
 grind
theorem Ju:∀{l m:List bD},wO l m=true->l=m|[],[],_=>rfl|a::l,b::m,h=>by simp only[wO,ah4]at h;rw[Sr h.1,Ju h.2]|[],_::_,h=>by simp[wO]at h|_::_,[],h=>by simp[wO]at h
theorem Ss:∀{a b:bm},kG a b=true->a=b:=by intro a;induction a with|skip=>intro b h;cases b<;>simp[kG]at h;rfl|region l=>intro b h;cases b<;>simp[kG]at h;rw[Ju h]|seq x y d e=>intro b h;cases b<;>simp[kG]at h;rw[d h.1,e h.2]|cond c x y d e=>intro b h;cases b<;>simp[kG]at h;rw[mU h.1.1,d h.1.2,e h.2]|block i x g=>intro b h;cases b<;>simp[kG]at h;rw[h.1,g h.2]|loop x g=>intro b h;cases b<;>simp[kG]at h;rw[g h]|exit i=>intro b h;cases b<;>simp[kG]at h;rw[h]|dL i=>intro b h;cases b<;>simp[kG]at h;rw[h]|rangeFunc f j as bd _ _=>intro b h;cases b<;>simp[kG]at h|ret=>intro b h;cases b<;>simp[kG]at h
def wP(b:bm):List (Nat×bm)->Option Nat
 |[]=>none
 |(t,c)::l=>if kG b c then some t else wP b l
def y6(t:Nat):List (Nat×bm)->bm
 |[]=>.skip
 |(u,c)::l=>if ah8 u t then c else y6 t l
theorem St(l:List (Nat×bm))(a:(l.map (·.1)).Nodup)(b:bm)(t:Nat)(h:wP b l=some t):b=y6 t l:=by
 induction l with
 |nil=>trivial
 |cons p l d=>
  have⟨u,c⟩:=p;simp only[wP]at h;rw[ah2,aiz]at a;split at h;·rename_i he;injection h with h;subst h;simp only[y6,aje,bi];exact Ss he
  have e:t∈l.map (·.1):=by
   clear d a;induction l with
   |nil=>simp[wP]at h
   |cons q l d=>
    have⟨g,c2⟩:=q;simp only[wP]at h;split at h;·injection h with h;subst h;simp
    exact adT _ (d h)
  have f:ah8 u t=false:=by cases hb:ah8 u t with|false=>rfl|true=>exact absurd (ah5 hb▸e) a.1
  simp_all[y6,acg,bF]
@[reducible]def Su(l:List (Nat×bm))(a:(l.map (·.1)).Nodup):Ov:=⟨λb=>wP b l,λt=>y6 t l,St l a⟩
def dB:bP->Option (List aW)
 |.map es _=>some es
 |.cS es=>some es
 |_=>none
def iz:List aW->Option (List Int)
 |[]=>some []
 |e::es=>match e.key,iz es with
  |.int 3 k,some l=>some (k::l)
  |_,_=>none
def rA:List aW->Option (List Int)
 |[]=>some []
 |e::es=>match e.key,e.val,rA es with
  |.int 3 k,.bool true,some l=>some (k::l)
  |_,_,_=>none
def fH(x:Int):List Int->Bool
 |[]=>false
 |y::l=>gw x y||fH x l
def y7:List Int->Bool
 |[]=>true
 |x::l=>!fH x l&&y7 l
def mV(x:Int)(l:List Int):List Int:=if fH x l then l else l++[x]
def fx:List Int->List Int->List Int
 |[],l=>l
 |x::a,l=>fx a (mV x l)
def du(l:List Int):List aW:=l.map λk=>⟨.int 3 k,.bool true,0⟩
def jw(ac:az AV):List ah->az AV
 |[]=>ac
 |p::l=>jw (ac.set .ajS p .bM) l
def iA(H:ai)(i:ah):Option (List Int):=
 match dB (H.get i)with
 |some es=>match rA es with
  |some l=>if y7 l then some l else none
  |none=>none
 |none=>none
def iB(H:ai)(i:ah):Option (List Int):=
 match dB (H.get i)with
 |some es=>match iz es with
  |some l=>if y7 l then some l else none
  |none=>none
 |none=>none
def aY(H:ai)(i:ah)(o:Nat):Option AV:=
 match H.get i with
 |.cells c n _ _ _ _=>if aiu o n then some (c.bp .ajS o)else none
 |_=>none
def mW(H:ai):AV->Option AV
 |.aD i o=>aY H i o
 |_=>none
def ln(H:ai)(s:AV)(x:Int):Option AV:=
 match s,x with
 |.slice i o n _ _,.ofNat j=>if aiu j n then aY H i (o+j)else none
 |_,_=>none
def uq(H:ai)(s:AV):List Int->Option (List Int)
 |[]=>some []
 |x::l=>match ln H s x,uq H s l with
  |some (.int 3 r),some a=>some (r::a)
  |_,_=>none
def ai.skip(H:ai):ai:=⟨H.t,H.next.succ⟩
variable[Ov]
theorem pY(x:Int):∀l:List Int,fH x l=true↔x∈l|[]=>by simp[fH]|y::l=>by simp only[fH,ai6,pY x l,acT];simp[dV]
theorem ur:∀l:List Int,y7 l=true↔l.Nodup|[]=>by trivial|x::l=>by simp only[y7,ah4,aiM,ur l,aiz,<-pY];simp
theorem y8(x y:Int)(l:List Int):y∈mV x l↔y=x\/y∈l:=by unfold mV;split;all_goals simp_all[pY,id,or_comm]
theorem Sv{x:Int}{l:List Int}(h:l.Nodup):(mV x l).Nodup:=by grind[mV,pY,List.nodup_append,List.mem_singleton]
theorem mc(y:Int):∀(a l:List Int),y∈fx a l↔y∈a\/y∈l|[],l=>by simp[fx]|x::a,l=>by simp only[fx,mc y a,y8,acT];grind
theorem pf:∀(a:List Int){l:List Int},l.Nodup->(fx a l).Nodup|[],_,h=>h|_::a,_,h=>pf a (Sv h)
end
abbrev sl(t:Nat):ah:=ah.cG t
abbrev bH(d:Nat)(o:bJ):bD:=⟨some (sl d),o,none,[],[]⟩
abbrev oU(o:bJ):bD:=⟨none,o,none,[],[]⟩
abbrev tt(t:Nat):aJ:=.t (sl t)
def Sw:bm:=.region [bH 42 (.bg (tt 6)),bH 43 (.be (tt 4)),bH 44 (.bg (tt 7)),bH 45 (.dI 1 (tt 43) (tt 44)),bH 46 (.be (tt 45)),oU (.jI .int (tt 42) (tt 46) (.c (.bool true)))]
def Sx:bm:=.region [bH 33 (.be (tt 3)),bH 34 (.bg (tt 5)),bH 35 (.dI 1 (tt 33) (tt 34)),bH 36 (.be (tt 35)),bH 37 (.lZ (tt 36))]
def Sy:bm:=pe 2 3 (sl 37) (sl 38) (sl 39) (sl 40) (sl 41) (sl 7) Sw
def Sz:bm:=.seq Sx Sy
def Bm:List ah:=[sl 7,sl 33,sl 34,sl 35,sl 36,sl 37,sl 38,sl 39,sl 40,sl 41,sl 42,sl 43,sl 44,sl 45,sl 46]
def Bn(ac:az AV)(H:ai):Option (az AV×ai):=
 match mW H (ac.get .ajS (sl 3)),ac.get .ajS (sl 5),mW H (ac.get .ajS (sl 4)),ac.get .ajS (sl 6)with
 |some a,.int _ v,some b,.map N=>match ln H a v with
  |some (.map m)=>if ah.beq m N then none else match iB H m,iA H N with
   |some ks,some t0=>match uq H b ks with
    |some c=>some (jw ac Bm,(H.set N (.cS (du (fx c t0)))).skip)
    |none=>none
   |_,_=>none
  |_=>none
 |_,_,_,_=>none
def SA:bm:=.seq (.region [bH 37 (.bg (tt 6)),bH 38 (.bg (tt 5)),bH 39 (.arith .neq 3 (tt 37) (tt 38))])
  (.cond (tt 39) (.region [bH 40 (.be (tt 3)),bH 41 (.bg (tt 5)),bH 42 (.dI 1 (tt 40) (tt 41)),bH 43 (.be (tt 42)),bH 44 (.bg (tt 6)),oU (.jI .int (tt 43) (tt 44) (.c (.bool true)))]) .skip)
def SB:bm:=.region [bH 31 (.bg (tt 4)),bH 32 (.lZ (tt 31))]
def SC:bm:=pe 4 5 (sl 32) (sl 33) (sl 34) (sl 35) (sl 36) (sl 6) SA
def SD:bm:=.seq SB SC
def rB:List ah:=[sl 6,sl 31,sl 32,sl 33,sl 34,sl 35,sl 36,sl 37,sl 38,sl 39,sl 40,sl 41,sl 42,sl 43,sl 44]
def fR(v:Int):List Int->List Int
 |[]=>[]
 |x::l=>if gw x v then fR v l else x::fR v l
def sK(ac:az AV)(H:ai):Option (az AV×ai):=
 match ac.get .ajS (sl 4),ac.get .ajS (sl 5),mW H (ac.get .ajS (sl 3))with
 |.map m,.int 3 v,some a=>match ln H a v with
  |some (.map N)=>if ah.beq m N then none else match iB H m,iA H N with
   |some ks,some t0=>some (jw ac rB,(H.set N (.cS (du (fx (fR v ks) t0)))).skip)
   |_,_=>none
  |_=>none
 |_,_,_=>none
def Jv:bm:=.seq (.seq (.region [bH 22 (.be (tt 3)),bH 23 (.bg (tt 5)),bH 24 (.dI 1 (tt 22) (tt 23)),bH 25 (.be (tt 24)),bH 26 (.eq false .map (tt 25) (.c .cL))])
   (.cond (tt 26) (.region [bH 27 (.be (tt 3)),bH 28 (.bg (tt 5)),bH 29 .kw,bH 30 (.dI 1 (tt 27) (tt 28)),oU (.store 1 (tt 30) (tt 29))]) .skip)) (.dL 1001)
def SE:bm:=.region [bH 16 (.bg (tt 4)),bH 17 (.lZ (tt 16))]
def SF:bm:=pe 2 3 (sl 17) (sl 18) (sl 19) (sl 20) (sl 21) (sl 5) Jv
def SG:bm:=.seq SE SF
def nR:List ah:=[sl 5,sl 6]++(ah7 29).map λi=>sl (16+i)
def sL(c:az AV)(o n:Nat)(m:ah)(ks:List Int)(b:ai):List Int->az AV->ai->Option (az AV×ai)
 |[],a,H'=>some (a,H')
 |k::l,a,H'=>
  match k with
  |.ofNat j=>if aiu j n then match c.bp .ajS (o+j)with
    |.cL=>sL c o n m ks b l (ez a (o+j) [.map H'.next]) (H'.new (.cS (du (fR k ks))))
    |.map N=>if ah.beq N m then none else match iA b N with
     |some t0=>sL c o n m ks b l a (H'.set N (.cS (du (fx (fR k ks) t0))))
     |none=>none
    |_=>none
   else none
  |_=>none
def jx(c:az AV)(o:Nat):List Int->List ah
 |[]=>[]
 |k::l=>match c.bp .ajS (o+k.toNat)with
  |.map N=>N::jx c o l
  |_=>jx c o l
def wQ(p:ah):List ah->Bool
 |[]=>false
 |q::l=>ah.beq p q||wQ p l
def Bo:List ah->Bool
 |[]=>true
 |p::l=>!wQ p l&&Bo l
def wR(ac:az AV)(H:ai):Option (az AV×ai):=
 match ac.get .ajS (sl 4),ac.get .ajS (sl 3)with
 |.map m,.aD a o3=>match aY H a o3 with
  |some (.slice i o n _ _)=>match iA H m,H.get i with
   |some ks,.cells c b e true [] fz=>if !ah.beq a i&&ai0 fz o&&ai0 (o+n) b&&Bo (jx c o ks)then
     match sL c o n m ks H ks c H with
     |some (d,H')=>some (jw ac nR,((H'.set i (.cells d b e true [] fz)).set m (.cS (du ks))).skip)
     |none=>none
    else none
   |_,_=>none
  |_=>none
 |_,_=>none
def SH:bm:=.region [bH 62 (.be (tt 11)),bH 63 (.bg (tt 16)),bH 64 (.iU 1 (tt 7)),bH 65 (.be (tt 64)),bH 66 (.jd (tt 65)),bH 67 (.call (tt 62) [tt 63,tt 66])]
def Jw:bm:=.region [bH 53 (.be (tt 5)),bH 54 (.bg (tt 15)),bH 55 (.dI 1 (tt 53) (tt 54)),bH 56 (.be (tt 55)),bH 57 (.lZ (tt 56))]
def Jx:bm:=pe 6 7 (sl 57) (sl 58) (sl 59) (sl 60) (sl 61) (sl 16) SH
def SJ:bm:=.seq Jw Jx
def y9:List ah:=sl 16::(ah7 15).map λi=>sl (53+i)
def SK:bm:=.region [bH 85 (.be (tt 11)),bH 86 (.bg (tt 19)),bH 87 (.call (tt 85) [tt 86,.c (.int 3 (.ofNat 0))])]
def Jy:bm:=.region [bH 76 (.be (tt 5)),bH 77 (.bg (tt 17)),bH 78 (.dI 1 (tt 76) (tt 77)),bH 79 (.be (tt 78)),bH 80 (.lZ (tt 79))]
def Jz:bm:=pe 8 9 (sl 80) (sl 81) (sl 82) (sl 83) (sl 84) (sl 19) SK
def SL:bm:=.seq Jy Jz
def za:List ah:=sl 19::(ah7 12).map λi=>sl (76+i)
def jM(H:ai)(i:ah):Option (List (Int×Int)):=
 match dB (H.get i)with
 |some es=>go es
 |none=>none
where go:List aW->Option (List (Int×Int))
 |[]=>some []
 |e::es=>match e.key,e.val,go es with
  |.int 3 k,.int 3 v,some l=>some ((k,v)::l)
  |_,_,_=>none
def eg(pl:List (Int×Int))(bu:Int):List Int->List Int
 |[]=>[]
 |v::l=>if pg pl bu v then v::eg pl bu l else eg pl bu l
where pg(pl:List (Int×Int))(bu v:Int):Bool:=
 match pl with
 |[]=>true
 |(k,g)::pl=>if gw v k then !jJ g bu else pg pl bu v
def kH(t0:List Int):List Int->Bool
 |[]=>false
 |v::l=>!fH v t0||kH t0 l
def kI(H:ai)(q:ah):AV->Option AV
 |.aD i o=>if ah.beq i q then none else aY H i o
 |_=>none
def rC(H:ai)(q:ah)(s:AV)(x:Int):Option AV:=
 match s with
 |.slice i _ _ _ _=>if ah.beq i q then none else ln H s x
 |_=>none
def wS(dl:Nat)(bu:ah->Option Int)(to:Nat)(ch:List ah)(ac:az AV)(H:ai):Option (az AV×ai):=
 match mW H (ac.get .ajS (sl 11))with
 |some (.func f [] [c1,c2,c3,.aD a no])=>if ah8 f dl then
  match kI H a (ac.get .ajS (sl 5)),ac.get .ajS (sl to),kI H a (ac.get .ajS (sl 11)),kI H a c1,kI H a c2,kI H a c3,bu a with
  |some g,.int _ t,some _,some (.map d),some h,some (.int _ b),some bu=>
   match rC H a g t,rC H a h b,H.get a with
   |some (.map m),some (.map N),.cells c n e true [] fz=>
    if ah.beq d N||ah.beq m d||!(ai0 fz no&&aiu no n)then none else
    match iB H m,iB H d,jM H d,iA H N,c.bp .ajS no with
    |some ks,some _,some pl,some t0,.bool i=>
     some (jw ac ch,((H.set N (.cS (du (fx (eg pl bu ks) t0)))).set a (.cells (ez c no [.bool (i||kH t0 (eg pl bu ks))]) n e true [] fz)).skip)
    |_,_,_,_,_=>none
   |_,_,_=>none
  |_,_,_,_,_,_,_=>none
  else none
 |_=>none
def Bp(dl:Nat)(ac:az AV)(H:ai):Option (az AV×ai):=
 wS dl (λa=>match ac.get .ajS (sl 7)with
 |.aD i o=>if ah.beq i a then none else match aY H i (o+1)with
  |some (.slice _ _ n _ _)=>some (.ofNat n)
  |some .bh=>some (.ofNat 0)
  |_=>none
 |_=>none) 15 y9 ac H
def Bq(dl:Nat)(ac:az AV)(H:ai):Option (az AV×ai):=wS dl (λ_=>some (.ofNat 0)) 17 za ac H
def lq(x:Int):List Int->List Int
 |[]=>[x]
 |y::l=>if jJ y x then y::lq x l else x::y::l
def eI:List Int->List Int
 |[]=>[]
 |x::l=>lq x (eI l)
def ut(args:List AV)(H:ai):Option (AV×ai):=
 match args with
 |[.cL]=>some (.bh,H)
 |[.map m]=>match iB H m with
  |some []=>some (.bh,H)
  |some ks=>if ai0 ks.length 1000 then some (.slice H.next 0 ks.length ks.length false,H.new (.cells (cq ((eI ks).map λn=>.int 3 n)) ks.length 3 true [] 0))else none
  |none=>none
 |_=>none
def uu(args:List AV)(H:ai):Option (AV×ai):=
 match args with
 |[.iface t (.map m)]=>match H.get m with
  |.map es c=>some (.iface t (.map H.next),H.new (.map es c))
  |_=>none
 |_=>none
def SM:List (Nat×bm):=[(1001,SD),(1002,SG),(1003,Sz),(1004,SJ),(1005,SL)]
instance afZ:Ov:=Su SM bx
section
variable[Ov]
variable{P:Program}{d:b8}{ρ:aM}{H:ai}{w:World}{nt:Nat}
theorem zb:∀(l:List ah)(ac:az AV)(t:ah),(jw ac l).get .ajS t=if t∈l then .bM else ac.get .ajS t
 |[],ac,t=>by simp[jw]
 |p::l,ac,t=>by
  rw[jw,zb l,az.aF];by_cases h:t∈l;·simp[h]
  by_cases e:t=p<;>simp[h,e]
theorem JA:iX P λ_=>.none:=by refine⟨?_,?_,?_⟩<;>(intros;rename_i h;cases h)
theorem SN{ab:Nat->aV}(q:iX P ab){c1 c2:Code}{x y:bm}(h1:dH P nt c1=some x)(h2:dH P nt c2=some y){n:Nat}{fr:Fr}{K:bY->Fr->ai->Prop}{b:Frame}{a:Act}(he:Xc ab n (.seq x y) fr H K)(r:gf ρ nt fr b.roundOf a)(s:bo P d ρ H w)(k:List Item)(cs:List Frame):gP P d ρ nt w b k cs (lone (b.atR a (.code (.seq c1 c2)::k)) cs w) K:=by cases n with|zero=>trivial|succ n=>have c:wA P ab n:=(yS q n).2.1;have⟨j,e,H',f,p,w',t,g,h,i,l,m,o,u⟩:=c h1 he r s (.code c2::k) cs;refine .gI (.one stepR_seq) (.gI u ?_);cases j with|none=>rw[show t=.code c2::k from o];exact .sD h m (c h2 g i l k cs)|exit id=>exact⟨.exit id,e,H',f,p,w',t,g,h,i,l,m,o.pT (λ_ _=>rfl) trivial,Steps.refl _ _⟩|ret=>exact⟨.ret,e,H',f,p,w',t,g,h,i,l,m,o.pT (λ_ _=>rfl) trivial,Steps.refl _ _⟩
theorem JB(h:bo P d ρ H w){m:ah}{es:List aW}{f:Nat}(j:H.get m=.map es f):(es.map (·.born)).Nodup/\∀e∈es,e.born<f:=by
 have⟨b,x,k,e,hl,hb,g⟩:=h.aE (i:=m) (by grind);rw[j]at g;cases k<;>simp only[OR]at g;obtain⟨_,rfl,d9,i⟩:=g;have key:∀{es:List aW}{l:List MapEntry},cr ρ es l->es.map (·.born)=l.map (·.born):=by intro es;induction es with|nil=>intro l h;cases l<;>simp[cr]at h;rfl|cons a es n=>intro l h;cases l with|nil=>simp[cr]at h|cons c l=>simp only[cr]at h;simp[h.2.2.1,n h.2.2.2]
 refine⟨by rw[key i];exact d9.1,λa o=>?_⟩;have:a.born∈es.map (·.born):=aio o;rw[key i,aia]at this;have⟨c,p,e⟩:=this;rw[<-e];exact d9.2 c p
theorem JC(l:bo P d ρ H w){m:ah}{es:List aW}(f:dB (H.get m)=some es):∃(b:List aW)(a:Nat),bo P d ρ (H.set m (.map b a)) w/\(b.map aW.kv).Perm (es.map aW.kv)/\(b.map (·.born)).Nodup/\(∀e∈b,e.born<a)/\∀{g:b8}{h:aM}{n:ai}{w':World},bo P g h n w'->n.get m=.map b a->bo P g h (n.set m (H.get m)) w':=by cases k:H.get m with|map i c=>rw[k]at f;simp only[dB,abv]at f;subst f;have hb:=JB l k;refine⟨i,c,l.congr rfl λj=>?_,ajN _,hb.1,hb.2,λh2 hg=>h2.congr rfl λj=>?_⟩;all_goals simp_all[ai.aF]|cS i=>rw[k]at f;simp only[dB,abv]at f;subst f;have⟨o,b,a,p1,p2,h1⟩:=IB l k;have hb:=JB h1 (m:=m) (by rw[ai.aF,aG rfl]);grind[D4]|_=>simp_all[dB]
theorem wT:∀{es:List aW}{ks:List Int},iz es=some ks->(∀e∈es,∃k∈ks,e.key=.int 3 k)/\∀k∈ks,∃e∈es,e.key=.int 3 k
 |[],ks,h=>by simp_all[iz,abv]
 |a::es,ks,h=>by
  simp only[iz]at h;split at h;·rename_i k l b hl;injection h with h;subst h;have⟨c,f⟩:=wT hl;grind
  grind
theorem SO{es a:List aW}{ks:List Int}(i:iz es=some ks)(h:(a.map aW.kv).Perm (es.map aW.kv)):(∀e∈a,∃k∈ks,e.key=.int 3 k)/\∀k∈ks,∃e∈a,e.key=.int 3 k:=by
 have⟨j,l⟩:=wT i;constructor;·intro e he;have:e.kv∈es.map aW.kv:=h.mem_iff.1 (aio he);rw[aia]at this;have⟨f,b,c⟩:=this;have⟨k,h1,h2⟩:=j f b;have:e.key=f.key:=(congrArg ajR c).symm;exact⟨k,h1,this.trans h2⟩
 intro k g;have⟨e,he,h2⟩:=l k g;have:e.kv∈a.map aW.kv:=h.mem_iff.2 (aio he);rw[aia]at this;have⟨f,b,c⟩:=this;have:f.key=e.key:=congrArg ajR c;exact⟨f,b,this.trans h2⟩
theorem uv{m:ah}{ks:List Int}(h:iB H m=some ks):∃es,dB (H.get m)=some es/\iz es=some ks/\ks.Nodup:=by grind[iB,ur]
def sk(k:Int):AV×AV:=(.int 3 k,.bool true)
def fi(o:bP)(ks:List Int):Prop:=ks.Nodup/\∃es,dB o=some es/\es.map aW.kv=ks.map sk
theorem JD:∀{es:List aW}{ks:List Int},rA es=some ks->es.map aW.kv=ks.map sk
 |[],ks,h=>by simp_all[rA,abv]
 |a::es,ks,h=>by
  simp only[rA]at h;split at h;·rename_i k l h1 h2 hl;injection h with h;subst h;simp only[ah2,JD hl,aW.kv,h1,h2,sk]
  grind
theorem nS{N:ah}{ks:List Int}(h:iA H N=some ks):fi (H.get N) ks:=by
 unfold iA at h;split at h
 .rename_i es jv;split at h
  .rename_i l hl;split at h;·rename_i a;injection h with h;subst h;exact⟨(ur _).1 a,es,jv,JD hl⟩
   grind
  grind
 grind
theorem EB(l:List Int):(du l).map aW.kv=l.map sk:=by simp[du,aW.kv,sk]
theorem uw{l:List Int}(h:l.Nodup):fi (.cS (du l)) l:=⟨h,du l,rfl,EB l⟩
theorem bo.ux(h:bo P d ρ H w){N:ah}{ks ks2:List Int}(hs:fi (H.get N) ks)(j:ks.Perm ks2):bo P d ρ (H.set N (.cS (du ks2))) w:=by
 have⟨_,es,he,g⟩:=hs;have f:(du ks).Perm (du ks2):=j.map _;have b:es.map aW.kv=(du ks).map aW.kv:=by rw[g,EB]
 cases a:H.get N with|map i c=>rw[a]at he;simp only[dB,abv]at he;subst he;exact D4 h a f b|cS i=>rw[a]at he;simp only[dB,abv]at he;subst he;refine h.IA (by rw[a];simp) (by rw[a];rfl) (by rw[a];rfl) rfl ?_;intro x k e;rw[a]at e;cases k<;>simp only[OR]at e⊢;have⟨h1,h2,l,h3,m⟩:=e;have⟨n,p1,p2⟩:=cX.A0 f (cX.kv b m);exact⟨⟨h1,h2,n,p1.trans h3,p2⟩,λq=>by simp[eP]⟩|_=>rw[a]at he;simp[dB]at he
theorem EC{k:Int}:∀{es:List aW}{ks:List Int},es.map aW.kv=ks.map sk->∀i0,(k∉ks->findKey .int (.int 3 k) es i0=some none)/\(k∈ks->∃i,findKey .int (.int 3 k) es i0=some (some (i0+i,.bool true))/\i<es.length/\kz (.bool true) (.int 3 k) es i=es)
 |[],[],_,i0=>by simp[findKey]
 |e::es,x::ks,h,i0=>by
  simp only[ah2,aik,aW.kv,sk,ahW]at h;have⟨⟨h1,h2⟩,h3⟩:=h;have⟨f,c⟩:=EC (k:=k) h3 (i0+1);have b:db 64 .int (.int 3 k) (.int 3 x)=some (gw k x):=by simp[db]
  by_cases a:k=x
  .subst a;refine⟨λh=>absurd (acI ..) h,λ_=>⟨0,?_,aC,?_⟩⟩;·simp[h1,b,h2,findKey,dV,beq_self_eq_true,ajC]
   simp only[kz,<-h1,<-h2]
  have g:gw k x=false:=by rw[dV];simpa using a
  refine⟨λh=>?_,λh=>?_⟩;·simp_all[findKey,adT]
  have⟨i,j,l,m⟩:=c ((acT.1 h).resolve_left a);refine⟨i+1,?_,by grind,?_⟩;all_goals grind[findKey,kz]
 |[],_::_,h,_=>by grind
 |_::_,[],h,_=>by grind
theorem ED{k:Int}:∀{es:List aW}{ks:List Int},ks.Nodup->es.map aW.kv=ks.map sk->(k∉ks->eN.go .int (.int 3 k) es=some none)/\(k∈ks->eN.go .int (.int 3 k) es=some (some (.bool true))/\(j7 .int (.int 3 k) (.bool true) es).map aW.kv=ks.map sk)
 |[],[],_,_=>by simp[eN.go]
 |e::es,x::ks,c,h=>by
  rw[aiz]at c;simp only[ah2,aik,aW.kv,sk,ahW]at h;have⟨⟨h1,h2⟩,h3⟩:=h;have⟨f,g⟩:=ED (k:=k) c.2 h3;have b:db 64 .int (.int 3 k) (.int 3 x)=some (gw k x):=by simp[db]
  by_cases a:k=x
  .subst a;have hg:=f c.1;refine⟨λh=>absurd (acI ..) h,λ_=>⟨?_,?_⟩⟩;·simp[h1,b,hg,h2,eN.go,dV,beq_self_eq_true]
   simp only[j7,kO,h1,b,dV,beq_self_eq_true,bi,(ww (v:=.bool true) hg).1,ah2,aW.kv,sk];grind
  have i:gw k x=false:=by rw[dV];simpa using a
  refine⟨λh=>?_,λh=>?_⟩;·simp_all[eN.go,adT]
  have⟨j,l⟩:=g ((acT.1 h).resolve_left a);simp_all[eN.go,j7,kO,acg,bF,ah2,aW.kv,sk]
 |[],_::_,_,h=>by grind
 |_::_,[],_,h=>by grind
theorem wU(ac:az AV)(v:AV):gv ac (.c v)=v:=rfl
theorem EE{ac:az AV}{om ok_:aJ}{N:ah}{x:Int}{ks:List Int}(q:gv ac om=.map N)(r:gv ac ok_=.int 3 x)(hs:fi (H.get N) ks):∃H',aH (.jI .int om ok_ (.c (.bool true))) ac H=some (.ajS,H')/\H'.next=H.next/\(∀j,j≠N->H'.get j=H.get j)/\fi (H'.get N) (mV x ks)/\∀es c,H.get N=.map es c->∃y A,H'.get N=.map y A/\(x∈ks->H'.get N=H.get N):=by
 have⟨p,es,he,l⟩:=hs;have f:fH x ks=true↔x∈ks:=pY x ks;cases m:H.get N with
 |map g c=>
  rw[m]at he;simp only[dB,abv]at he;subst he;have⟨t,u⟩:=EC (k:=x) l 0;by_cases k:x∈ks
  .have⟨i,s,v,z⟩:=u k;rw[aif]at s;refine⟨H.set N (.map (kz (.bool true) (.int 3 x) g i) c),?_,rfl,λj hj=>by rw[ai.aF,an hj],?_,λn c2 e2=>⟨_,_,by rw[ai.aF,aG rfl],λ_=>by rw[ai.aF,aG rfl,z]⟩⟩;·have o:vO .int (.int 3 x) g i=true:=D5 rfl _ _ _ v;simp only[aH,iH,ait,acg,bF,q,r,m,s,o,bi,wU]
   rw[ai.aF,aG rfl];unfold mV;rw[aG (f.2 k)];exact⟨p,_,rfl,by rw[z];exact l⟩
  refine⟨H.set N (.map (g++[⟨.int 3 x,.bool true,c⟩]) (c+1)),?_,rfl,λj hj=>by rw[ai.aF,an hj],?_,λn c2 e2=>⟨_,_,by rw[ai.aF,aG rfl],λh=>absurd h k⟩⟩;·simp only[aH,iH,ait,acg,bF,q,r,m,t k,wU]
  rw[ai.aF,aG rfl];unfold mV;rw[an (λh=>k (f.1 h))];refine⟨?_,_,rfl,by simp[l,aW.kv,sk]⟩;rw[aiH];exact⟨p,aC,λa w b hb=>by simp only[abP]at hb;subst hb;exact λe=>k (e▸w)⟩
 |cS g=>
  rw[m]at he;simp only[dB,abv]at he;subst he;have⟨t,u⟩:=ED (k:=x) p l;by_cases k:x∈ks
  .have⟨s,v⟩:=u k;refine⟨H.set N (.cS (j7 .int (.int 3 x) (.bool true) g)),?_,rfl,λj hj=>by rw[ai.aF,an hj],?_,λn c2 e2=>by cases e2⟩;·simp only[aH,iH,ait,acg,bF,q,r,m,eN,qV,bi,s,wU]
   rw[ai.aF,aG rfl];unfold mV;rw[aG (f.2 k)];exact⟨p,_,rfl,v⟩
  refine⟨H.set N (.cS (g++[⟨.int 3 x,.bool true,0⟩])),?_,rfl,λj hj=>by rw[ai.aF,an hj],?_,λn c2 e2=>by cases e2⟩;·simp only[aH,iH,ait,acg,bF,q,r,m,eN,qV,bi,t k,wU]
  rw[ai.aF,aG rfl];unfold mV;rw[an (λh=>k (f.1 h))];refine⟨?_,_,rfl,by simp[l,aW.kv,sk]⟩;rw[aiH];exact⟨p,aC,λa w b hb=>by simp only[abP]at hb;subst hb;exact λe=>k (e▸w)⟩
 |_=>rw[m]at he;simp[dB]at he
theorem JE{ac:az AV}{om ok_:aJ}{N:ah}{x:Int}{ks:List Int}(a:gv ac om=.map N)(b:gv ac ok_=.int 3 x)(hs:fi (H.get N) ks):∃H',aH (.jI .int om ok_ (.c (.bool true))) ac H=some (.ajS,H')/\H'.next=H.next/\(∀j,j≠N->H'.get j=H.get j)/\fi (H'.get N) (mV x ks):=by grind[EE]
theorem JF{ac:az AV}{k a:aJ}{N:ah}{x:Int}{ks:List Int}(l:gv ac k=.map N)(m:gv ac a=.int 3 x)(hs:fi (H.get N) ks):aH (.lookup .int (.bool false) false k a) ac H=some (.bool (fH x ks),H):=by
 have⟨p,es,he,b⟩:=hs;have e:fH x ks=true↔x∈ks:=pY x ks;have hb:∀q:Bool,(x∈ks↔q=true)->fH x ks=q:=λq s=>by cases q<;>cases h:fH x ks<;>simp_all
 cases f:H.get N with
 |map j c=>
  rw[f]at he;simp only[dB,abv]at he;subst he;have⟨n,o⟩:=EC (k:=x) b 0;by_cases g:x∈ks;·have⟨i,r,_⟩:=o g;simp[l,m,f,r,e,g,aH,iH,ait,acg,bF]
  simp[l,m,f,n,g,hb,aH,iH,ait,acg,bF]
 |cS j=>rw[f]at he;simp only[dB,abv]at he;subst he;have⟨n,o⟩:=ED (k:=x) p b;by_cases g:x∈ks;all_goals simp_all[aH,iH,ait,acg,bF,eN,qV,bi]
 |_=>simp_all[dB]
theorem uy{i:ah}{o:Nat}{v:AV}(h:aY H i o=some v):∃c n e a aK fz,H.get i=.cells c n e a aK fz/\o<n/\c.bp .ajS o=v:=by grind[aY,Eq.mp,Nat.blt_eq]
theorem mX{H':ai}{i:ah}(h:H'.get i=H.get i)(o:Nat):aY H' i o=aY H i o:=by simp[h,aY]
theorem im{ac:az AV}{x:aJ}{i:ah}{o:Nat}{v:AV}(a:gv ac x=.aD i o)(h:aY H i o=some v):aH (.be x) ac H=some (v,H):=by have⟨c,n,e,b,aK,fz,h1,h2,h3⟩:=uy h;simp[a,h1,h2,h3,aH,gY,dE,fW]
theorem sM{a v:AV}(h:mW H a=some v):∃i o,a=.aD i o/\aY H i o=some v:=by unfold mW at h;grind
theorem zc{s v:AV}{x:Int}(h:ln H s x=some v):∃i o n c e j,s=.slice i o n c e/\x=.ofNat j/\j<n/\aY H i (o+j)=some v:=by
 unfold ln at h;split at h
 .split at h;·rename_i a;exact⟨_,_,_,_,_,_,rfl,rfl,Eq.mp aiV a,h⟩
  grind
 grind
theorem sN{ac:az AV}{x y:aJ}{i:ah}{o n c:Nat}{e:Bool}{j k:Nat}(a:gv ac x=.slice i o n c e)(b:gv ac y=.int k (.ofNat j))(hj:j<n):aH (.dI 1 x y) ac H=some (.aD i (o+j),H):=by have:aiu j n=true:=ajP aiV hj;simp[a,b,this,aH]
end
section
mutual
theorem VR.eR{r p:aM}(h:bZ r p):∀(v:AV)(c0 c:Value),VR r v c0->VR p v c->VR r v c
 |.tuple l,c0,c,d,k=>by
  cases c0<;>simp only[VR]at d
  cases c<;>simp only[VR]at k⊢
  exact aZ.eR h l _ _ d k
 |.agg l,c0,c,d,k=>by
  cases c0<;>simp only[VR]at d
  cases c<;>simp only[VR]at k⊢
  exact aZ.eR h l _ _ d k
 |.bool _,c0,c,_,k=>by cases c<;>simp only[VR]at k⊢;exact k
 |.int _ _,c0,c,_,k=>by cases c<;>simp only[VR]at k⊢;exact k
 |.str _,c0,c,_,k=>by cases c<;>simp only[VR]at k⊢;exact k
 |.aD i o,c0,c,d,k=>by
  cases c0 with
  |pointer a0=>
   cases a0 with
   |none=>simp[VR]at d
   |some a0=>
    have⟨q,s,j,_⟩:=d
    cases c with
    |pointer a=>
     cases a with
     |none=>simp[VR]at k
     |some a=>
      have⟨b,x,e,A⟩:=k
      have:=(h _ _ j).1.symm.trans e
      injection this with this;injection this with u w
      subst u;subst w
      exact⟨_,_,j,A⟩
    |_=>simp[VR]at k
  |_=>simp[VR]at d
 |.j5,c0,c,_,k=>by
  cases c with
  |pointer a=>cases a<;>simp[VR]at k⊢
  |_=>simp[VR]at k
 |.slice i o len cap ex,c0,c,d,k=>by
  cases c0 with
  |slice a0 G H=>
   cases a0 with
   |none=>simp[VR]at d
   |some a0=>
    have⟨_,_,_,_,q,s,j,_⟩:=d
    cases c with
    |slice a n m=>
     cases a with
     |none=>simp[VR]at k
     |some a=>
      have⟨h1,h2,h3,B,b,x,e,C,z⟩:=k
      have:=(h _ _ j).1.symm.trans e
      injection this with this;injection this with u w
      subst u;subst w
      have D:=(h _ _ j).2
      rw[D]at z
      exact⟨h1,h2,h3,B,_,_,j,C,z⟩
    |_=>simp[VR]at k
  |_=>simp[VR]at d
 |.bh,c0,c,_,k=>by
  cases c with
  |slice a n m=>
   unfold VR at k⊢
   split at k<;>first|trivial|(exact absurd k aC)|exact k
  |_=>simp[VR]at k
 |.map i,c0,c,d,k=>by
  cases c0 with
  |map q=>
   cases q with
   |none=>simp[VR]at d
   |some q=>
    cases c with
    |map b=>
     cases b with
     |none=>simp[VR]at k
     |some b=>
      simp only[VR]at k⊢
      have:=(h _ _ d).1.symm.trans k
      rw[d];exact this
    |_=>simp[VR]at k
  |_=>simp[VR]at d
 |.cL,c0,c,_,k=>by
  cases c with
  |map b=>cases b<;>simp[VR]at k⊢
  |_=>simp[VR]at k
 |.func f a b,c0,c,d,k=>by
  cases c0 with
  |func t0 s E=>
   cases t0 with
   |func F=>
    simp only[VR]at d
    cases c with
    |func t x y=>
     cases t with
     |func g=>
      simp only[VR]at k⊢
      exact⟨k.1,aZ.eR h a _ _ d.2.1 k.2.1,aZ.eR h b _ _ d.2.2 k.2.2⟩
     |_=>simp[VR]at k
    |_=>simp[VR]at k
   |_=>simp[VR]at d
  |_=>simp[VR]at d
 |.yield i,c0,c,d,k=>by
  cases c0 with
  |func t0 s E=>
   cases t0 with
   |yield F=>
    simp only[VR]at d
    cases c with
    |func t x y=>
     cases t with
     |yield g=>
      simp only[VR]at k⊢
      have:=(h _ _ d.1).1.symm.trans k.1
      exact⟨by rw[d.1];exact this,k.2⟩
     |_=>simp[VR]at k
    |_=>simp[VR]at k
   |_=>simp[VR]at d
  |_=>simp[VR]at d
 |.nilFunc,c0,c,_,k=>by cases c<;>simp only[VR]at k⊢
 |.iface t v,c0,c,d,k=>by
  cases c0<;>simp only[VR]at d
  cases c<;>simp only[VR]at k⊢
  exact⟨k.1,VR.eR h v _ _ d.2 k.2⟩
 |.nilIface,c0,c,_,k=>by cases c<;>simp only[VR]at k⊢
 |.bM,c0,c,_,_=>by simp only[VR]
theorem aZ.eR{e b:aM}(h:bZ e b):∀(l:List AV)(a m:List Value),aZ e l a->aZ b l m->aZ e l m
 |[],a,m,_,k=>by cases m<;>simp only[aZ]at k⊢
 |v::l,a,m,d,k=>by
  cases a with
  |nil=>simp[aZ]at d
  |cons c0 a=>
   cases m with
   |nil=>simp[aZ]at k
   |cons c m=>
    simp only[aZ]at d k⊢
    exact⟨VR.eR h v _ _ d.1 k.1,aZ.eR h l _ _ d.2 k.2⟩
end
theorem kS.eR{c b:aM}(h:bZ c b):∀{l:List ah}{a m:List Deferred},kS c l a->kS b l m->kS c l m|[],a,m,_,k=>by grind[kS]|i::l,a,m,e,k=>by cases a with|nil=>trivial|cons n a=>cases m with|nil=>trivial|cons d m=>have⟨⟨o,f,_⟩,e⟩:=e;have⟨⟨r,g,j⟩,k⟩:=k;have:=(h _ _ f).1.symm.trans g;exact⟨⟨r,by grind,j⟩,kS.eR h e k⟩
end
section
variable[Ov]
variable{P:Program}
theorem gf.off{d c:aM}{e:Nat}{fr b:Fr}{ro:Option Nat}{a f:Act}{ch:List ah}(h0:gf d e fr ro a)(g:bZ d c)(h:gf c e b ro f)(hs:∀t,t∉ch->b.ac.get .ajS t=fr.ac.get .ajS t)(j:b.bA=fr.bA):gf d e {fr with ac:=Go.al.jw fr.ac ch} ro f:=by
 refine⟨⟨h.E.1,λt i=>?_⟩,?_,h0.R⟩
 .rw[zb];split;·trivial
  rename_i k;have:=h.E.2 t i;rw[hs _ k]at this;exact VR.eR g _ _ _ (h0.E.2 t i) this
 have:=h.D;rw[j]at this;exact kS.eR g h0.D this
theorem EF:∀{l:List aW},(l.map (·.born)).Nodup->∀{x y:aW},x∈l->y∈l->x.born=y.born->x=y
 |[],_,_,_,a,_,_=>by grind
 |c::l,b,x,y,a,d,h=>by
  rw[ah2,aiz]at b;rcases acT.1 a with e1|e1<;>rcases acT.1 d with e2|e2;·grind
  .grind
  .grind
  exact EF b.2 e1 e2 h
theorem EG{ab:Nat->aV}(ht:iX P ab){Q:b8}{F:aM}{H I:ai}{w:World}{R:Nat}{fr:Fr}{b:Frame}{a:Act}{c1 c2:Code}{V body:bm}{v x:Nat}{i g ok A ex kv:ah}(h1:dH P R c1=some V)(h2:dH P R c2=some (pe v x i g ok A ex kv body))(ag:v≠x)(d1:i≠g)(d2:i≠ok)(d3:g≠ok)(d4:i≠A)(d5:A≠ex)(d6:i≠ex)(d7:i≠kv){ch:List ah}(s1:g∈ch)(s2:ok∈ch)(s3:A∈ch)(s4:ex∈ch)(s5:kv∈ch)(hF:gf F R fr b.roundOf a)(hI:bo P Q F H w){m:ah}{es:List aW}{ks:List Int}(hm:dB (H.get m)=some es)(hk:iz es=some ks)(W S:Nat)(N:∀d c,Xc ab W V fr (H.set m (.map d c)) λj fr1 H1=>j=.none/\fr1.bA=fr.bA/\fr1.bz=fr.bz/\(∀t,t∉ch->fr1.ac.get .ajS t=fr.ac.get .ajS t)/\fr1.ac.get .ajS i=.aD H.next 0/\H1=(H.set m (.map d c)).new (.mapIter (some m) c [] c))(J:List aW->Nat->List Int->ai->Prop)(J0:∀d c,(d.map aW.kv).Perm (es.map aW.kv)->J d c [] ((H.set m (.map d c)).new (.mapIter (some m) c [] c)))(av:∀d c l H1 o,J d c l H1->J d c l (H1.set H.next o))(Jm:∀d c l H1,J d c l H1->H1.get m=.map d c)(z:∀d c l ac H1 k,k∈ks->J d c l H1->(∀t,t∉ch->ac.get .ajS t=fr.ac.get .ajS t)->ac.get .ajS kv=.int 3 k->Xc ab S body ⟨ac,fr.bA,fr.bz⟩ H1 λj fr1 r=>j=.none/\fr1.bA=fr.bA/\fr1.bz=fr.bz/\(∀t,t∉ch->fr1.ac.get .ajS t=fr.ac.get .ajS t)/\fr1.ac.get .ajS i=ac.get .ajS i/\r.get H.next=H1.get H.next/\J d c (l++[k]) r)(aq:∀d c l H1 h w',(∀k,k∈l↔k∈ks)->J d c l H1->bZ F h->bo P Q h H1 w'->(∀{K:b8}{h:aM}{r:ai}{w':World},bo P K h r w'->r.get m=.map d c->bo P K h (r.set m (H.get m)) w')->∃p,bZ F p/\bo P Q p I w')(k:List Item)(cs:List Frame):gP P Q F R w b k cs (lone (b.atR a (.code (.seq c1 c2)::k)) cs w) λj fr1 H1=>j=.none/\fr1={fr with ac:=jw fr.ac ch}/\H1=I:=by
 have⟨d,c,aw,hp,hb,ax,eR⟩:=JC hI hm;have⟨ay,a2⟩:=SO hk hp;have run:Xc ab (W+(S+15+d.length)+1) (.seq V (pe v x i g ok A ex kv body)) fr (H.set m (.map d c)) λj fr1 H1=>j=.none/\fr1.bA=fr.bA/\(∀t,t∉ch->fr1.ac.get .ajS t=fr.ac.get .ajS t)/\∃l,(∀k,k∈l↔k∈ks)/\J d c l H1:=by
  refine Xc.hZ (n:=W) (m:=S+15+d.length) aa aa ((N d c).mono (afM _) ?_);rintro j fr1 H1⟨rfl,g1,g2,g3,g4,rfl⟩;have O:fr1=⟨fr1.ac,fr.bA,fr.bz⟩:=by cases fr1;simp only at g1 g2;subst g1;subst g2;rfl
  rw[O];refine Js ag d1 d2 d3 d5 hb ax (id:=H.next) (m:=m) (I:=λseen ac H1=>(∀t,t∉ch->ac.get .ajS t=fr.ac.get .ajS t)/\ac.get .ajS i=.aD H.next 0/\H1.get H.next=.mapIter (some m) c seen c/\∃l,(∀k,k∈l->k∈ks)/\(∀e∈d,e.born∈seen->∃k∈l,e.key=.int 3 k)/\J d c l H1) ?_ S ?_ ?_ d.length [] fr1.ac _ ?_ ?_;·rintro seen ac H1⟨T,s,G,l,B,C,u⟩;exact⟨s,G,Jm _ _ _ _ u⟩
  .rintro seen ac H1 e⟨T,s,G,l,B,C,u⟩he a8;have⟨X,L,q⟩:=ay e he;refine(z d c l _ _ X L (av _ _ _ _ _ u) ?_ ?_).mono (afM _) ?_;·intro t f;have Y:t≠g:=λe=>f (e▸s1);have Z:t≠ok:=λe=>f (e▸s2);have n3:t≠A:=λe=>f (e▸s3);have n4:t≠ex:=λe=>f (e▸s4);have n5:t≠kv:=λe=>f (e▸s5);simp only[az.aF,an Y,an Z,an n3,an n4,an n5];exact T t f
   .rw[az.aF,aG rfl];exact q
   rintro j ba r⟨r1,r2,r3,r4,r5,r6,r7⟩;refine⟨r1,r2,r3,r4,?_,?_,l++[X],?_,?_,r7⟩;·rw[r5];simp only[az.aF,an d1,an d2,an d4,an d6,an d7];exact s
   .rw[r6,ai.aF,aG rfl]
   .intro D y;rcases adX.1 y with n|n;·exact B D n
    rw[abP]at n;rw[n];exact L
   intro e' M a6;rcases adX.1 a6 with n|n;·obtain⟨D,a1,E⟩:=C e' M n;exact⟨D,ah1 _ a1,E⟩
   rw[abP]at n;have:e'=e:=by exact EF hb M he n
   subst this;exact⟨X,aid _ (abP.2 rfl),q⟩
  .rintro seen ac H1⟨T,s,G,l,B,C,u⟩eB;refine⟨rfl,rfl,?_,l,λD=>⟨B D,λy=>?_⟩,u⟩;·intro t f;have Y:t≠g:=λe=>f (e▸s1);have Z:t≠ok:=λe=>f (e▸s2);simp only[az.aF,an Y,an Z];exact T t f
   have⟨e,he,q⟩:=a2 D y;have⟨k2,a1,E⟩:=C e he (eB e he);rw[q]at E;injection E with _ E;rw[E];exact a1
  .exact⟨g3,g4,by rw[ai.cO,ai.eH,aG rfl],[],aC,aC,J0 d c hp⟩
  exact List.length_filter_le ..
 obtain⟨j,fr1,H1,h,a',w',t,⟨rfl,e1,e2,l,e3,e4⟩,s,G,B,C,u,q7⟩:=SN ht h1 h2 run hF aw k cs;have⟨p,x2,I2⟩:=aq d c l H1 h w' e3 e4 s B eR;exact⟨.none,_,_,p,a',w',t,⟨rfl,rfl,rfl⟩,x2,(gf.off hF s G e2 e1).mono x2,I2,C,u,q7⟩
end
section
section
variable[Ov]
variable{P:Program}
theorem JG{ab:Nat->aV}(ht:iX P ab){Wr:b8}{R:aM}{H:ai}{w:World}{M:Nat}{fr:Fr}{b:Frame}{a:Act}{c1 c2:Code}{xh body:bm}{G I:Nat}{i r ok O ex kv:ah}(h1:dH P M c1=some xh)(h2:dH P M c2=some (pe G I i r ok O ex kv body))(V:G≠I)(d1:i≠r)(d2:i≠ok)(d3:r≠ok)(d4:i≠O)(d5:O≠ex)(d6:i≠ex)(d7:i≠kv){ch:List ah}(s1:r∈ch)(s2:ok∈ch)(s3:O∈ch)(s4:ex∈ch)(s5:kv∈ch)(hF:gf R M fr b.roundOf a)(Q:bo P Wr R H w){m N:ah}{ks t0 s:List Int}(hk:iB H m=some ks)(hN:iA H N=some t0)(y:m≠N)(nh fb:Nat)(L:∀f c,Xc ab nh xh fr (H.set m (.map f c)) λj fr1 H1=>j=.none/\fr1.bA=fr.bA/\fr1.bz=fr.bz/\(∀t,t∉ch->fr1.ac.get .ajS t=fr.ac.get .ajS t)/\fr1.ac.get .ajS i=.aD H.next 0/\H1=(H.set m (.map f c)).new (.mapIter (some m) c [] c))(one:Int->Int->Prop)(A:∀ac H1 k d,k∈ks->(∀j,j≠N->j≠m->j≠H.next->H1.get j=H.get j)->fi (H1.get N) d->(∀t,t∉ch->ac.get .ajS t=fr.ac.get .ajS t)->ac.get .ajS kv=.int 3 k->Xc ab fb body ⟨ac,fr.bA,fr.bz⟩ H1 λj fr1 H2=>j=.none/\fr1.bA=fr.bA/\fr1.bz=fr.bz/\(∀t,t∉ch->fr1.ac.get .ajS t=fr.ac.get .ajS t)/\fr1.ac.get .ajS i=ac.get .ajS i/\H2.next=H1.next/\(∀j,j≠N->H2.get j=H1.get j)/\∃g,fi (H2.get N) g/\∀x,x∈g↔x∈d\/one k x)(hx:s.Nodup)(W:∀x,x∈s↔x∈t0\/∃k∈ks,one k x)(k:List Item)(cs:List Frame):gP P Wr R M w b k cs (lone (b.atR a (.code (.seq c1 c2)::k)) cs w) λj fr1 H1=>j=.none/\fr1={fr with ac:=jw fr.ac ch}/\H1=(H.set N (.cS (du s))).skip:=by
 have⟨es,S,X,ax⟩:=uv hk;have J:=nS hN;have z:N≠H.next:=λe=>by have:=(Q.dc H.next (afM _)).1;have⟨_,q,n,_⟩:=J;rw[e,this]at n;simp[dB]at n
 have K:m≠H.next:=λe=>by have:=(Q.dc H.next (afM _)).1;rw[<-e]at this;rw[this]at S;simp[dB]at S
 refine EG ht h1 h2 V d1 d2 d3 d4 d5 d6 d7 s1 s2 s3 s4 s5 hF Q S X nh fb L (J:=λf c l H1=>H1.next=H.next.succ/\(∀j,j≠N->j≠m->j≠H.next->H1.get j=H.get j)/\H1.get m=.map f c/\∃d,fi (H1.get N) d/\∀x,x∈d↔x∈t0\/∃k∈l,one k x) ?_ ?_ ?_ ?_ ?_ k cs
 .intro f c _;refine⟨rfl,λj D E B=>?_,?_,t0,?_,aC⟩;·rw[ai.cO,ai.eH,an B,ai.aF,an E]
  .rw[ai.cO,ai.eH,an K,ai.aF,aG rfl]
  rw[ai.cO,ai.eH,an z,ai.aF,an (ajJ y)];exact J
 .rintro f c l H1 o⟨n,u,v,d,C,F⟩;refine⟨n,λj D E B=>?_,?_,d,?_,F⟩;·rw[ai.aF,an B];exact u j D E B
  .rw[ai.aF,an K];exact v
  rw[ai.aF,an z];exact C
 .rintro f c l H1⟨n,u,v,_⟩;exact v
 .rintro f c l ac H1 kk Y⟨n,u,v,d,C,F⟩he Z;refine(A ac H1 kk d Y u C he Z).mono (afM _) ?_;rintro j fr1 H2⟨r1,r2,r3,r4,r5,r6,T,g,r8,r9⟩;refine⟨r1,r2,r3,r4,r5,T _ (ajJ z),r6.trans n,λj D E B=>(T j D).trans (u j D E B),(T m y).trans v,g,r8,λx=>?_⟩;rw[r9,F];simp only[adX,abP];constructor
  .rintro((h|⟨p,h1,h2⟩)|h);·exact .inl h
   .exact .inr ⟨p,.inl h1,h2⟩
   exact .inr ⟨kk,.inr rfl,h⟩
  rintro(h|⟨p,h1|h1,h2⟩);·exact .inl (.inl h)
  .exact .inl (.inr ⟨p,h1,h2⟩)
  exact .inr (h1▸h2)
 rintro f c l H1 ag w' hl⟨n,u,v,d,C,F⟩av aw eR;refine⟨ag,av,?_⟩;have i1:=eR aw v;have hp:d.Perm s:=(List.perm_ext_iff_of_nodup C.1 hx).2 λx=>by
  rw[F,W];constructor
  .rintro(h|⟨p,h1,h2⟩);·exact .inl h
   exact .inr ⟨p,(hl p).1 h1,h2⟩
  rintro(h|⟨p,h1,h2⟩);·exact .inl h
  exact .inr ⟨p,(hl p).2 h1,h2⟩
 have i2:=i1.ux (N:=N) (ks:=d) (ks2:=s) (by rw[ai.aF,an (ajJ y)];exact C) hp;refine i2.sub (H2:=(H.set N (.cS (du s))).skip) (by exact n.symm) λj=>?_;show(H.set N (.cS (du s))).get j=_\/(H.set N (.cS (du s))).get j=_;simp only[ai.aF];by_cases e1:j=N;·left;simp[e1]
 by_cases e2:j=m;·left;simp[e1,e2]
 by_cases e3:j=H.next;·right;simp only[an e1];rw[e3];exact(Q.dc _ (afM _)).1
 left;simp only[an e1,an e2];exact(u j e1 e2 e3).symm
theorem jN{H:ai}{i m:ah}{o:Nat}{v:AV}(h:aY H i o=some v){es:List aW}(b:dB (H.get m)=some es):i≠m:=by have⟨c,n,e,a,aK,fz,h1,_⟩:=uy h;rintro rfl;simp_all[dB]
theorem uz{P:Program}{a:b8}{b:aM}{H:ai}{w:World}(d:bo P a b H w){i:ah}{o:Nat}{v:AV}(h:aY H i o=some v):i≠H.next:=by have⟨c,n,e,f,aK,fz,h1,_⟩:=uy h;rintro rfl;rw[(d.dc _ (afM _)).1]at h1;cases h1
theorem zd{H:ai}{N:ah}{t:List Int}(h:iA H N=some t):∃es,dB (H.get N)=some es:=by obtain⟨_,es,h,_⟩:=nS h;grind
theorem Br{H:ai}{N:ah}{t:List Int}(h:iB H N=some t):∃es,dB (H.get N)=some es:=by grind[uv]
theorem wV{H:ai}{i m:ah}{o:Nat}{x:bP}(h:i≠m):aY (H.set m x) i o=aY H i o:=mX (by rw[ai.aF,an h]) o
theorem JH{H:ai}{s:AV}:∀{ks b:List Int},uq H s ks=some b->∀x,x∈b↔∃k∈ks,ln H s k=some (.int 3 x)
 |[],b,h,x=>by simp only[uq,abv]at h;subst h;simp
 |y::l,b,h,x=>by
  simp only[uq]at h;split at h
  .rename_i r d h1 h2;injection h with h;subst h;rw[acT,JH h2 x];constructor
   .rintro(rfl|⟨k,c,a⟩);·exact⟨y,acI ..,h1⟩
    exact⟨k,adT _ c,a⟩
   rintro⟨k,c,a⟩;rcases acT.1 c with e|e;·subst e;rw[h1]at a;injection a with a;injection a with _ a;exact .inl a.symm
   exact .inr ⟨k,e,a⟩
  cases h
theorem JI{H:ai}{s:AV}:∀{ks a:List Int},uq H s ks=some a->∀k∈ks,∃x,ln H s k=some (.int 3 x)
 |[],_,_,k,b=>by grind
 |y::l,a,h,k,b=>by
  simp only[uq]at h;split at h
  .rename_i r c h1 h2;rcases acT.1 b with e|e;·grind
   exact JI h2 k e
  grind
end
theorem bE{a b:Nat}:ah.cG a=ah.cG b↔a=b:=⟨ah.bE,λh=>h▸rfl⟩
theorem SP{P:Program}:ul P 1003 Bn:=by
 intro Wr ρ H H' w nt fr c1 c2 x y S b a E i F hg T z k cs;injection F with V W;subst V;subst W;unfold Bn at hg;split at hg;case h_2=>cases hg
 rename_i X Y v q N Z g2 g3 g4;split at hg;case h_2=>cases hg
 rename_i m g5;split at hg;·cases hg
 rename_i l;have l:m≠N:=λe=>l (by rw[e];exact ah.fg.2 rfl);split at hg;case h_2=>cases hg
 rename_i ks t0 O A;split at hg;case h_2=>cases hg
 rename_i rs Q;injection hg with hg;injection hg with G I;subst G;subst I;have⟨i3,o3,e3,c3⟩:=sM Z;have⟨B,o4,e4,c4⟩:=sM g3;have⟨is,os,ns,ag,av,js,e5,e6,e7,c5⟩:=zc g5;have⟨ms,f⟩:=Br O;have⟨Ns,o⟩:=zd A;have aw:fr=⟨fr.ac,fr.bA,fr.bz⟩:=rfl;refine(JG JA E i (ch:=Bm) bx bx bx bx bx bx bx bx bx bx bx bx bx T z O A l 20 20 ?_ (λk x=>ln H q k=some (.int 3 x)) ?_ (pf rs (nS A).1) ?_ k cs).mono ?_
 .intro d c;refine Xo.op (n:=18) (v:=X) (H':=H.set m (.map d c)) (im e3 (by rw[wV (jN c3 f)];exact c3)) ?_;refine Xo.op (n:=17) (v:=.int Y v) (H':=H.set m (.map d c)) (by simp[aH,gv,aO,az.aF,bE,g2]) ?_;refine Xo.op (n:=16) (v:=.aD is (os+js)) (H':=H.set m (.map d c)) (sN (by simp[gv,aO,az.aF,bE];exact e5) (by simp[gv,aO,az.aF,bE];exact⟨rfl,e6⟩) e7) ?_;refine Xo.op (n:=15) (v:=.map m) (H':=H.set m (.map d c)) (im (by simp[gv,aO,az.aF,bE];exact⟨rfl,rfl⟩) (by rw[wV (jN c5 f)];exact c5)) ?_;refine Xo.op (n:=14) (v:=.aD H.next 0) (H':=(H.set m (.map d c)).new (.mapIter (some m) c [] c)) (by simp[aH,gv,aO,az.aF,bE,ai.aF];rfl) (Xo.nil (n:=13) ?_);refine⟨rfl,rfl,rfl,?_,?_,rfl⟩;·intro t n;simp only[Bm,acT,aie,or_false,not_or]at n;simp[aO,az.aF,n]
  simp[aO,az.aF,bE]
 .intro ac H1 C J K g p he L;have⟨r,R⟩:=JI Q C K;have⟨s,o2,n2,ax,ay,D,b1,b2,b3,u⟩:=zc R;have M:aY H1 B o4=some q:=by rw[mX (g B (jN c4 o) (jN c4 f) (uz z c4))];exact c4
  have i:aY H1 s (o2+D)=some (.int 3 r):=by rw[mX (g s (jN u o) (jN u f) (uz z u))];exact u
  have h6:ac.get .ajS (sl 6)=.map N:=by rw[he _ bx];exact g4
  have h4:ac.get .ajS (sl 4)=.aD B o4:=by rw[he _ bx];exact e4
  obtain⟨H2,u1,u2,u3,u4⟩:=JE (H:=H1) (N:=N) (x:=r) (ks:=J) (ac:=((((ac.set .ajS (sl 42) (.map N)).set .ajS (sl 43) q).set .ajS (sl 44) (.int 3 C)).set .ajS (sl 45) (.aD s (o2+D))).set .ajS (sl 46) (.int 3 r)) (om:=tt 42) (ok_:=tt 46) (by simp[gv,az.aF,bE]) (by simp[gv,az.aF,bE]) p;refine Xo.op (n:=18) (v:=.map N) (H':=H1) (by simp[aH,gv,h6]) ?_;refine Xo.op (n:=17) (v:=q) (H':=H1) (im (by simp[gv,aO,az.aF,bE];exact h4) M) ?_;refine Xo.op (n:=16) (v:=.int 3 C) (H':=H1) (by simp[aH,gv,aO,az.aF,bE];exact L) ?_;refine Xo.op (n:=15) (v:=.aD s (o2+D)) (H':=H1) (sN (by simp[gv,aO,az.aF,bE];exact b1) (by simp[gv,aO,az.aF,bE];exact⟨rfl,b2⟩) b3) ?_;refine Xo.op (n:=14) (v:=.int 3 r) (H':=H1) (im (by simp[gv,aO,az.aF,bE]) i) (Xo.op (n:=13) (v:=.ajS) (H':=H2) u1 (Xo.nil (n:=12) ⟨rfl,rfl,rfl,?_,?_,u2,u3,_,u4,?_⟩));·intro t n;rw[<-he t n];simp only[Bm,acT,aie,or_false,not_or]at n;simp[aO,az.aF,n]
  .simp[aO,az.aF,bE]
  intro x;rw[y8,R];constructor
  .rintro(h|h);·exact .inr (h▸rfl)
   exact .inl h
  rintro(h|h);·exact .inr h
  injection h with h;injection h with _ h;exact .inl h.symm
 .intro x;rw[mc,JH Q,or_comm]
 rintro j fr1 H1⟨rfl,rfl,rfl⟩;exact⟨rfl,rfl,rfl⟩
end
theorem rD(v y:Int):∀l:List Int,y∈fR v l↔y∈l/\y≠v
 |[]=>by simp[fR]
 |x::l=>by
  simp only[fR];split
  .rename_i h;rw[dV]at h;have h:x=v:=by simpa using h
   rw[rD v y l,acT];constructor;·rintro⟨h1,h2⟩;exact⟨.inr h1,h2⟩
   rintro⟨h1|h1,h2⟩;·exact absurd (h1.trans h) h2
   exact⟨h1,h2⟩
  rename_i h;rw[dV]at h;have h:x≠v:=by simpa using h
  rw[acT,rD v y l,acT];constructor
  .rintro(h1|⟨h1,h2⟩);·exact⟨.inl h1,h1▸h⟩
   exact⟨.inr h1,h2⟩
  rintro⟨h1|h1,h2⟩;·exact .inl h1
  exact .inr ⟨h1,h2⟩
theorem Bs{v:Int}:∀{l:List Int},l.Nodup->(fR v l).Nodup
 |[],_=>by trivial
 |x::l,h=>by
  rw[aiz]at h;simp only[fR];split;·exact Bs h.2
  rw[aiz,rD];exact⟨λq=>h.1 q.1,Bs h.2⟩
theorem JJ{P:Program}:ul P 1001 sK:=by
 intro Wr ρ H H' w nt fr c1 c2 x y O b a D E F hg Q u k cs;injection F with R S;subst R;subst S;unfold sK at hg;split at hg;case h_2=>cases hg
 rename_i m v z T V W;split at hg;case h_2=>cases hg
 rename_i N X;split at hg;·cases hg
 rename_i n;have n:m≠N:=λe=>n (by rw[e];exact ah.fg.2 rfl);split at hg;case h_2=>cases hg
 rename_i ks t0 L A;injection hg with hg;injection hg with G I;subst G;subst I;have⟨B,o3,Y,c3⟩:=sM W;have⟨is,os,ns,ag,av,C,Z,e6,e7,c5⟩:=zc X;have⟨ms,o⟩:=Br L;have⟨Ns,p⟩:=zd A;have aw:fr=⟨fr.ac,fr.bA,fr.bz⟩:=rfl;refine(JG JA D E (ch:=rB) bx bx bx bx bx bx bx bx bx bx bx bx bx Q u L A n 20 30 ?_ (λk x=>x=k/\k≠v) ?_ (pf (fR v ks) (nS A).1) ?_ k cs).mono ?_
 .intro q c;refine Xo.op (n:=18) (v:=.map m) (H':=H.set m (.map q c)) (by simp[aH,gv,T]) ?_;refine Xo.op (n:=17) (v:=.aD H.next 0) (H':=(H.set m (.map q c)).new (.mapIter (some m) c [] c)) (by simp[aH,gv,aO,az.aF,bE,ai.aF];rfl) (Xo.nil (n:=16) ?_);refine⟨rfl,rfl,rfl,?_,?_,rfl⟩;·intro t f;simp only[rB,acT,aie,or_false,not_or]at f;simp[aO,az.aF,f]
  simp[aO,az.aF,bE]
 .intro ac H1 g r ax i l he s;have J:aY H1 B o3=some z:=by rw[mX (i B (jN c3 p) (jN c3 o) (uz u c3))];exact c3
  have K:aY H1 is (os+C)=some (.map N):=by rw[mX (i is (jN c5 p) (jN c5 o) (uz u c5))];exact c5
  have M:ac.get .ajS (sl 5)=.int 3 v:=by rw[he _ bx];exact V
  have h3:ac.get .ajS (sl 3)=.aD B o3:=by rw[he _ bx];exact Y
  refine Xc.hZ (n:=28) (m:=28) (k:=29) aa aa (Xc.region (n:=27) ?_);refine Xo.op (n:=26) (v:=.int 3 g) (H':=H1) (by simp[aH,gv];exact s) ?_;refine Xo.op (n:=25) (v:=.int 3 v) (H':=H1) (by simp[aH,gv,aO,az.aF,bE];exact M) ?_;by_cases d:g=v
  .have hb:gw g v=true:=by rw[dV];simpa using d
   refine Xc.lO (n:=27) (by simp[gv,aO,az.aF,bE,hb]) (Xc.skip (n:=26) ⟨rfl,rfl,rfl,?_,?_,rfl,λ_ _=>rfl,r,l,λx=>⟨.inl,λh=>h.elim id λh=>absurd d h.2⟩⟩);·intro t f;rw[<-he t f];simp only[rB,acT,aie,or_false,not_or]at f;simp[aO,az.aF,f]
   simp[aO,az.aF,bE]
  have hb:gw g v=false:=by rw[dV];simpa using d
  obtain⟨H2,u1,u2,u3,u4⟩:=JE (H:=H1) (N:=N) (x:=g) (ks:=r) (ac:=((((((((ac.set .ajS (sl 37) (.int 3 g)).set .ajS (sl 38) (.int 3 v)).set .ajS (sl 39) (.bool (!gw g v))).set .ajS (sl 40) z).set .ajS (sl 41) (.int 3 v)).set .ajS (sl 42) (.aD is (os+C))).set .ajS (sl 43) (.map N)).set .ajS (sl 44) (.int 3 g))) (om:=tt 43) (ok_:=tt 44) (by simp[gv,az.aF,bE]) (by simp[gv,az.aF,bE]) l;refine Xc.mT (n:=27) (by simp[gv,aO,az.aF,bE,hb]) (Xc.region (n:=26) ?_);refine Xo.op (n:=25) (v:=z) (H':=H1) (im (by simp[gv,aO,az.aF,bE];exact h3) J) ?_;refine Xo.op (n:=24) (v:=.int 3 v) (H':=H1) (by simp[aH,gv,aO,az.aF,bE];exact M) ?_;refine Xo.op (n:=23) (v:=.aD is (os+C)) (H':=H1) (sN (by simp[gv,aO,az.aF,bE];exact Z) (by simp[gv,aO,az.aF,bE];exact⟨rfl,e6⟩) e7) ?_;refine Xo.op (n:=22) (v:=.map N) (H':=H1) (im (by simp[gv,aO,az.aF,bE]) K) ?_;refine Xo.op (n:=21) (v:=.int 3 g) (H':=H1) (by simp[aH,gv,aO,az.aF,bE];exact s) ?_;refine Xo.op (n:=20) (v:=.ajS) (H':=H2) u1 (Xo.nil (n:=19) ⟨rfl,rfl,rfl,?_,?_,u2,u3,_,u4,λx=>?_⟩);·intro t f;rw[<-he t f];simp only[rB,acT,aie,or_false,not_or]at f;simp[aO,az.aF,f]
  .simp[aO,az.aF,bE]
  rw[y8];constructor
  .rintro(h|h);·exact .inr ⟨h,d⟩
   exact .inl h
  rintro(h|h);·exact .inr h
  exact .inl h.1
 .intro x;rw[mc,rD];constructor
  .rintro(⟨h,h'⟩|h);·exact .inr ⟨x,h,rfl,h'⟩
   exact .inl h
  rintro(h|⟨k,h1,h2,h3⟩);·exact .inr h
  exact .inl ⟨h2▸h1,h2▸h3⟩
 rintro j fr1 H1⟨rfl,rfl,rfl⟩;exact⟨rfl,rfl,rfl⟩
section
def ze(a:Nat):bm:=.seq (.region [bH 11 (.be (tt 2)),bH 12 (.bg (tt 0)),bH 13 (.lookup .int (.int 3 (.ofNat 0)) true (tt 11) (tt 12)),bH 10 (.bg (tt 13)),bH 14 (.extract (tt 10) 0),bH 15 (.extract (tt 10) 1),bH 8 (.bg (tt 14)),bH 9 (.bg (tt 15))])
  (.seq (.region [bH 16 (.bg (tt 9)),bH 17 (.unary .not (tt 16)),bH 18 (.bg (tt 17)),⟨some (sl 19),.bg (tt 8),some (sl 18,false),[],[]⟩,⟨some (sl 20),.bg (tt 1),some (sl 18,false),[],[]⟩,⟨some (sl 21),.arith .geq 3 (tt 19) (tt 20),some (sl 18,false),[],[]⟩,bH 22 (.pick (tt 18) (.c (.bool true)) (tt 21))])
  (.cond (tt 22) (.region [bH 23 (.be (tt 3)),bH 24 (.be (tt 4)),bH 25 (.dI 1 (tt 23) (tt 24)),bH 26 (.be (tt 25)),bH 27 (.bg (tt 0)),bH 28 (.call (.c (.func a [] [])) [tt 26,tt 27]),bH 29 (.bg (tt 28)),⟨some (sl 30),.be (tt 5),some (sl 29,false),[],[]⟩,bH 31 (.pick (tt 29) (.c (.bool true)) (tt 30)),oU (.store 1 (tt 5) (tt 31))]) .skip))
def wX:bm:=.seq (.region [bH 4 (.bg (.c (.bool false)))]) (.seq (.region [bH 6 (.bg (tt 0)),bH 7 (.bg (tt 1)),bH 8 (.lookup .int (.bool false) false (tt 6) (tt 7)),bH 9 (.unary .not (tt 8)),bH 5 (.bg (tt 9))])
  (.seq (.region [bH 10 (.bg (tt 0)),bH 11 (.bg (tt 1)),oU (.jI .int (tt 10) (tt 11) (.c (.bool true)))]) (.seq (.region [bH 12 (.bg (tt 5)),bH 4 (.bg (tt 12))]) .ret)))
def mY(dl a:Nat):Nat->aV:=λf=>if ah8 f dl then .code 32 [] (ze a)else if ah8 f a then .code 13 [.tmp (sl 4)] wX else .none
section
variable[Ov]
variable{ab:Nat->aV}
theorem Xo.Bt{n:Nat}{d:Option ah}{op:bJ}{g:Option (ah×Bool)}{l:List bD}{ac:az AV}{bA:List ah}{bz:Option ah}{H H':ai}{v:AV}{K:Fr->ai->Prop}(hg:dZ ac g=true)(he:aH op ac H=some (v,H'))(h:Xo ab n l ⟨aO ac d v,bA,bz⟩ H' K):Xo ab (n+1) (⟨d,op,g,[],[]⟩::l) ⟨ac,bA,bz⟩ H K:=by simp only[Xo,Go.al.aB,hg,dF,di,dX,bi];grind[aH]
theorem Xo.Bu{n:Nat}{d:Option ah}{op:bJ}{g:Option (ah×Bool)}{l:List bD}{ac:az AV}{bA:List ah}{bz:Option ah}{H:ai}{K:Fr->ai->Prop}(hg:dZ ac g=false)(hd:j9 ac g=true)(h:Xo ab n l ⟨aO ac d .ajS,bA,bz⟩ H K):Xo ab (n+1) (⟨d,op,g,[],[]⟩::l) ⟨ac,bA,bz⟩ H K:=by simp[hg,hd,h,Xo,Go.al.aB,acg,bF,bi]
theorem Xf.code{n b:Nat}{f:Nat}{first args a:List AV}{c:List gE}{body:bm}{H:ai}{K:KT}(d:ab f=.code b c body)(hl:(first++args++a).length<=b)(h:Xc ab n body ⟨jf (first++args++a) .xH .aR,[],none⟩ H λj fr H'=>(match j with|.exit _=>False|_=>True)/\fr.bA=[]/\∃l,fc fr.ac H' c=some l/\K (fZ l) H'):Xf ab (n+1) (.func f first a) args H K:=by simp only[Xf,fu,d];rw[aG (aiB hl)];refine Xc.mono (afM _) ?_ h;rintro j fr H'⟨h1,h2,l,h3,e⟩;grind[iw]
def ia(pl:List (Int×Int))(v:Int):Int×Bool:=
 match pl with
 |[]=>(0,false)
 |(k,g)::pl=>if gw v k then(g,true)else ia pl v
theorem JK(bu v:Int):∀pl,eg.pg pl bu v=(!(ia pl v).2||!jJ (ia pl v).1 bu)
 |[]=>by rfl
 |(k,g)::pl=>by
  simp only[eg.pg,ia];split;·rfl
  exact JK bu v pl
theorem SQ{pl:List (Int×Int)}{v:Int}(h:v∉pl.map (·.1)):ia pl v=(0,false):=by
 induction pl with
 |nil=>rfl
 |cons a pl b=>
  have⟨k,g⟩:=a;simp only[ah2,acT,not_or]at h;have:gw v k=false:=by rw[dV];simpa using h.1
  simp[this,b,h,ia,acg,bF]
theorem JL:∀{es:List aW}{pl:List (Int×Int)}{ks:List Int},jM.go es=some pl->iz es=some ks->ks=pl.map (·.1)
 |[],pl,ks,h,b=>by simp only[jM.go,iz,abv]at h b;subst h;subst b;rfl
 |a::es,pl,ks,h,b=>by
  simp only[jM.go]at h;split at h
  .rename_i k v l h1 h2 h3;injection h with h;subst h;simp only[iz,h1]at b;split at b;·rename_i e f c d;injection b with b;subst b;injection c with _ c;rw[ah2,<-JL h3 d,c]
   cases b
  cases h
theorem JM{v:Int}:∀{es:List aW}{pl:List (Int×Int)},jM.go es=some pl->∀i0,((ia pl v).2=false->findKey .int (.int 3 v) es i0=some none)/\((ia pl v).2=true->∃i,findKey .int (.int 3 v) es i0=some (some (i,.int 3 (ia pl v).1)))
 |[],pl,h,i0=>by simp_all[jM.go,abv,ia,findKey]
 |a::es,pl,h,i0=>by
  simp only[jM.go]at h;split at h
  .rename_i k g l h1 h2 h3;injection h with h;subst h;have b:db 64 .int (.int 3 v) (.int 3 k)=some (gw v k):=by simp[db]
   cases hb:gw v k with|true=>simp[hb,h1,b,h2,ia,bi,findKey]|false=>simp only[ia,hb,acg,bF,findKey,h1,b];exact JM h3 (i0+1)
  grind
theorem JN{v:Int}:∀{es:List aW}{pl:List (Int×Int)},jM.go es=some pl->(pl.map (·.1)).Nodup->((ia pl v).2=false->eN.go .int (.int 3 v) es=some none)/\((ia pl v).2=true->eN.go .int (.int 3 v) es=some (some (.int 3 (ia pl v).1)))
 |[],pl,h,_=>by simp_all[jM.go,abv,ia,eN.go]
 |a::es,pl,h,b=>by
  simp only[jM.go]at h;split at h
  .rename_i k g l h1 h2 h3;injection h with h;subst h;simp only[ah2,aiz]at b;have c:db 64 .int (.int 3 v) (.int 3 k)=some (gw v k):=by simp[db]
   have⟨d,e⟩:=JN (v:=v) h3 b.2;cases hb:gw v k with|true=>simp_all[dV,SQ,ia,bi,eN.go]|false=>simp_all[ia,acg,bF,eN.go]
  grind
theorem SR{ac:az AV}{n b:aJ}{H:ai}{e:ah}{v:Int}{pl:List (Int×Int)}{l:List Int}(o:gv ac n=.map e)(p:gv ac b=.int 3 v)(h1:jM H e=some pl)(h2:iB H e=some l):aH (.lookup .int (.int 3 (.ofNat 0)) true n b) ac H=some (.tuple [.int 3 (ia pl v).1,.bool (ia pl v).2],H):=by
 have⟨es,e1,e2,r⟩:=uv h2;unfold jM at h1;rw[e1]at h1;have d:(pl.map (·.1)).Nodup:=by rw[<-JL h1 e2];exact r
 have⟨q,f⟩:=JM (v:=v) h1 0;have⟨s,t⟩:=JN (v:=v) h1 d;have u:(ia pl v).2=false->(ia pl v).1=0:=by
  clear q f s t h1 d;induction pl with
  |nil=>intro _;rfl
  |cons a pl w=>
   have⟨k,g⟩:=a;simp only[ia];split;·intro h;cases h
   exact w
 cases j:H.get e with
 |map m c=>rw[j]at e1;simp only[dB,abv]at e1;subst e1;cases hb:(ia pl v).2 with|true=>have⟨i,f⟩:=f hb;simp[o,p,j,f,aH,iH,ait,acg,bF,bi]|false=>simp[u,hb,o,p,j,q,aH,iH,ait,acg,bF,bi]
 |cS m=>rw[j]at e1;simp only[dB,abv]at e1;subst e1;cases hb:(ia pl v).2 with|true=>simp_all[aH,iH,ait,acg,bF,eN,qV,bi]|false=>simp_all[aH,iH,ait,acg,bF,eN,qV,bi]
 |_=>simp_all[dB]
end
end
section
variable[Ov]
variable{ab:Nat->aV}
theorem SS{a:Nat}(f:ab a=.code 13 [.tmp (sl 4)] wX){H:ai}{N:ah}{v:Int}{ks:List Int}(hs:fi (H.get N) ks){K:KT}(g:∀b:ai,b.next=H.next->(∀j,j≠N->b.get j=H.get j)->fi (b.get N) (mV v ks)->(∀es c,H.get N=.map es c->v∈ks->b.get N=H.get N)->K (.bool (!fH v ks)) b):Xf ab 30 (.func a [] []) [.map N,.int 3 v] H K:=by
 refine Xf.code (n:=29) f aC ?_;show Xc ab 29 wX ⟨(az.aR.set .ajS (sl 0) (.map N)).set .ajS (sl 1) (.int 3 v),[],none⟩ H _;generalize d:(az.aR.set AV.ajS (sl 0) (.map N)).set .ajS (sl 1) (.int 3 v)=ac;have h0:ac.get .ajS (sl 0)=.map N:=by rw[<-d];simp[az.aF,bE]
 have h1:ac.get .ajS (sl 1)=.int 3 v:=by rw[<-d];simp[az.aF,bE]
 refine Xc.hZ (n:=28) (m:=28) (k:=28) aC aC (Xc.region (n:=27) (Xo.op (n:=26) (v:=.bool false) (H':=H) (by rfl) (Xo.nil (n:=25) (Xc.hZ (n:=27) (m:=27) (k:=27) aC aC (Xc.region (n:=26) (Xo.op (n:=25) (v:=.map N) (H':=H) (by simp[h0,aH,gv,aO,az.aF,bE]) (Xo.op (n:=24) (v:=.int 3 v) (H':=H) (by simp[h1,aH,gv,aO,az.aF,bE]) (Xo.op (n:=23) (v:=.bool (fH v ks)) (H':=H) (JF (N:=N) (x:=v) (by rfl) (by rfl) hs) (Xo.op (n:=22) (v:=.bool (!fH v ks)) (H':=H) (by rfl) (Xo.op (n:=21) (v:=.bool (!fH v ks)) (H':=H) (by rfl) (Xo.nil (n:=20) (Xc.hZ (n:=26) (m:=26) (k:=26) aC aC (Xc.region (n:=25) ?_)))))))))))));obtain⟨b,i,k,l,m,n⟩:=EE (H:=H) (N:=N) (x:=v) (ks:=ks) (ac:=aO (aO (aO (aO (aO (aO (aO (aO ac (some (sl 4)) (.bool false)) (some (sl 6)) (.map N)) (some (sl 7)) (.int 3 v)) (some (sl 8)) (.bool (fH v ks))) (some (sl 9)) (.bool (!fH v ks))) (some (sl 5)) (.bool (!fH v ks))) (some (sl 10)) (.map N)) (some (sl 11)) (.int 3 v)) (om:=tt 10) (ok_:=tt 11) (by rfl) (by rfl) hs;refine Xo.op (n:=24) (v:=.map N) (H':=H) (by simp[h0,aH,gv,aO,az.aF,bE]) (Xo.op (n:=23) (v:=.int 3 v) (H':=H) (by simp[h1,aH,gv,aO,az.aF,bE]) (Xo.op (n:=22) (v:=.ajS) (H':=b) i (Xo.nil (n:=21) (Xc.hZ (n:=25) (m:=25) (k:=25) aC aC (Xc.region (n:=24) (Xo.op (n:=23) (v:=.bool (!fH v ks)) (H':=b) (by rfl) (Xo.op (n:=22) (v:=.bool (!fH v ks)) (H':=b) (by rfl) (Xo.nil (n:=21) (Xc.ret (n:=24) ⟨trivial,rfl,[.bool (!fH v ks)],?_,g b k l m λes c e h=>(n es c e).elim λ_ h1=>h1.elim λ_ h2=>h2.2 h⟩)))))))));rfl
theorem SU{H:ai}{a:ah}{no n fz:Nat}{c:az AV}{e:Nat}(h:H.get a=.cells c n e true [] fz)(h1:fz<=no)(h2:no<n)(b:Bool):gF H a no [.bool b]=some (H.set a (.cells (ez c no [.bool b]) n e true [] fz)):=by
 unfold gF;rw[h];have e1:decide (fz<=no)=true:=by simpa using h1
 have e2:decide (no+([.bool b]:List AV).length<=n)=true:=by simp;omega
 simp only[e1,e2,ajB];rfl
theorem JO{dl g:Nat}(R:ab dl=.code 32 [] (ze g))(S:ab g=.code 13 [.tmp (sl 4)] wX){H:ai}{c1 c2 c3 s2:AV}{pm k N:ah}{no n fz kb e:Nat}{pl:List (Int×Int)}{pks ks:List Int}{v bu b:Int}{c:az AV}{q:Bool}(E:mW H c1=some (.map pm))(F:mW H c2=some s2)(G:mW H c3=some (.int kb b))(T:jM H pm=some pl)(V:iB H pm=some pks)(W:ln H s2 b=some (.map N))(D:H.get k=.cells c n e true [] fz)(X:fz<=no)(Q:no<n)(B:c.bp .ajS no=.bool q)(hs:fi (H.get N) ks){K:KT}(w:∀(r:AV)(m:ai)C c2,m.next=H.next->(∀j,j≠N->j≠k->m.get j=H.get j)->fi (m.get N) C->(∀x,x∈C↔x∈ks\/(x=v/\eg.pg pl bu v=true))->m.get k=.cells c2 n e true [] fz->(∀i,i≠no->c2.bp .ajS i=c.bp .ajS i)->c2.bp .ajS no=.bool (q||(eg.pg pl bu v&&!fH v ks))->(∀es c,H.get N=.map es c->v∈ks->m.get N=H.get N)->K r m):Xf ab 80 (.func dl [] [c1,c2,c3,.aD k no]) [.int 3 v,.int 3 bu] H K:=by
 obtain⟨I,o1,rfl,E⟩:=sM E;obtain⟨z,o2,rfl,F⟩:=sM F;obtain⟨A,o3,rfl,G⟩:=sM G;have⟨is,os,ns,ag,av,Y,Z,e6,e7,c5⟩:=zc W;have s:N≠k:=by rintro rfl;have⟨_,_,h,_⟩:=hs;rw[D]at h;simp[dB]at h
 have gq:aY H k no=some (.bool q):=by unfold aY;rw[D];simp only[ajP aiV Q,bi,B]
 refine Xf.code (n:=79) R aC ?_;show Xc ab 79 (ze g) ⟨(((((az.aR.set .ajS (sl 0) (.int 3 v)).set .ajS (sl 1) (.int 3 bu)).set .ajS (sl 2) (.aD I o1)).set .ajS (sl 3) (.aD z o2)).set .ajS (sl 4) (.aD A o3)).set .ajS (sl 5) (.aD k no),[],none⟩ H _;generalize o:(((((az.aR.set AV.ajS (sl 0) (.int 3 v)).set .ajS (sl 1) (.int 3 bu)).set .ajS (sl 2) (.aD I o1)).set .ajS (sl 3) (.aD z o2)).set .ajS (sl 4) (.aD A o3)).set .ajS (sl 5) (.aD k no)=ac;have h0:ac.get .ajS (sl 0)=.int 3 v:=by rw[<-o];simp[az.aF,bE]
 have h1:ac.get .ajS (sl 1)=.int 3 bu:=by rw[<-o];simp[az.aF,bE]
 have h2:ac.get .ajS (sl 2)=.aD I o1:=by rw[<-o];simp[az.aF,bE]
 have h3:ac.get .ajS (sl 3)=.aD z o2:=by rw[<-o];simp[az.aF,bE]
 have h4:ac.get .ajS (sl 4)=.aD A o3:=by rw[<-o];simp[az.aF,bE]
 have h5:ac.get .ajS (sl 5)=.aD k no:=by rw[<-o];simp[az.aF,bE]
 rw[JK]at w;generalize hg:(ia pl v).1=p at w;generalize hi:(ia pl v).2=ii at w;have t:=λ(ac:az AV)(om M:aJ)(hm:gv ac om=.map pm)(hk:gv ac M=.int 3 v)=>SR (H:=H) hm hk T V;rw[hg,hi]at t;refine Xc.hZ (n:=70) (m:=70) (k:=78) aC aC (Xc.region (n:=69) (Xo.op (n:=68) (v:=.map pm) (H':=H) (im (by trivial) E) (Xo.op (n:=67) (v:=.int 3 v) (H':=H) (by simp[h0,aH,gv,aO,az.aF,bE]) (Xo.op (n:=66) (v:=.tuple [.int 3 p,.bool ii]) (H':=H) (t _ _ _ (by rfl) (by rfl)) (Xo.op (n:=65) (v:=.tuple [.int 3 p,.bool ii]) (H':=H) (by rfl) (Xo.op (n:=64) (v:=.int 3 p) (H':=H) (by rfl) (Xo.op (n:=63) (v:=.bool ii) (H':=H) (by rfl) (Xo.op (n:=62) (v:=.int 3 p) (H':=H) (by rfl) (Xo.op (n:=61) (v:=.bool ii) (H':=H) (by rfl) (Xo.nil (n:=60) ?_))))))))));generalize o:aO (aO (aO (aO (aO (aO (aO (aO ac (some (sl 11)) (.map pm)) (some (sl 12)) (.int 3 v)) (some (sl 13)) (.tuple [.int 3 p,.bool ii])) (some (sl 10)) (.tuple [.int 3 p,.bool ii])) (some (sl 14)) (.int 3 p)) (some (sl 15)) (.bool ii)) (some (sl 8)) (.int 3 p)) (some (sl 9)) (.bool ii)=a;have k0:a.get .ajS (sl 0)=.int 3 v:=by rw[<-o];simp[aO,az.aF,bE];exact h0
 have k1:a.get .ajS (sl 1)=.int 3 bu:=by rw[<-o];simp[aO,az.aF,bE];exact h1
 have k3:a.get .ajS (sl 3)=.aD z o2:=by rw[<-o];simp[aO,az.aF,bE];exact h3
 have k4:a.get .ajS (sl 4)=.aD A o3:=by rw[<-o];simp[aO,az.aF,bE];exact h4
 have k5:a.get .ajS (sl 5)=.aD k no:=by rw[<-o];simp[aO,az.aF,bE];exact h5
 have k8:a.get .ajS (sl 8)=.int 3 p:=by rw[<-o];simp[aO,az.aF,bE]
 have k9:a.get .ajS (sl 9)=.bool ii:=by rw[<-o];simp[aO,az.aF,bE]
 have cond:∀d:az AV,d.get .ajS (sl 22)=.bool (!ii||!jJ p bu)->d.get .ajS (sl 0)=.int 3 v->d.get .ajS (sl 3)=.aD z o2->d.get .ajS (sl 4)=.aD A o3->d.get .ajS (sl 5)=.aD k no->Xc ab 60 (.cond (tt 22) (.region [bH 23 (.be (tt 3)),bH 24 (.be (tt 4)),bH 25 (.dI 1 (tt 23) (tt 24)),bH 26 (.be (tt 25)),bH 27 (.bg (tt 0)),bH 28 (.call (.c (.func g [] [])) [tt 26,tt 27]),bH 29 (.bg (tt 28)),⟨some (sl 30),.be (tt 5),some (sl 29,false),[],[]⟩,bH 31 (.pick (tt 29) (.c (.bool true)) (tt 30)),oU (.store 1 (tt 5) (tt 31))]) .skip) ⟨d,[],none⟩ H λj fr H'=>(match j with|.exit _=>False|_=>True)/\fr.bA=[]/\∃l,fc fr.ac H' []=some l/\K (fZ l) H':=by
  intro d u m0 m3 m4 J;cases hl:(!ii||!jJ p bu)with
  |false=>rw[hl]at u w;refine Xc.lO (n:=59) (by simp[gv];exact u) (Xc.skip (n:=58) ⟨trivial,rfl,[],rfl,w _ H ks c rfl (λ_ _ _=>rfl) hs aC D (λ_ _=>rfl) (by simpa using B) (λ_ _ _ _=>rfl)⟩)
  |true=>
   rw[hl]at u w;refine Xc.mT (n:=59) (by simp[gv];exact u) (Xc.region (n:=58) ?_);refine Xo.op (n:=57) (v:=s2) (H':=H) (im (by simp[gv];exact m3) F) ?_;refine Xo.op (n:=56) (v:=.int kb b) (H':=H) (im (by simp[gv,aO,az.aF,bE];exact m4) G) ?_;refine Xo.op (n:=55) (v:=.aD is (os+Y)) (H':=H) (sN (by simp[gv,aO,az.aF,bE];exact Z) (by simp[gv,aO,az.aF,bE];exact⟨rfl,e6⟩) e7) ?_;refine Xo.op (n:=54) (v:=.map N) (H':=H) (im (by simp[gv,aO,az.aF,bE]) c5) ?_;refine Xo.op (n:=53) (v:=.int 3 v) (H':=H) (by simp[aH,gv,aO,az.aF,bE];exact m0) ?_;refine Xo.call (n:=52) ?_;simp only[gv,aO,az.aF,bE,ah2,ajh];refine Xf.mono (n:=30) aa (λ_ _ h=>h) (SS S hs λm w1 L w3 w4=>?_);have O:m.get k=.cells c n e true [] fz:=by rw[L _ (ajJ s)];exact D
   have P:aY m k no=some (.bool q):=by rw[mX (L k (ajJ s))];exact gq
   refine Xo.op (n:=51) (v:=.bool (!fH v ks)) (H':=m) (by simp[aH,gv,aO,az.aF,bE]) ?_;have aq:∀f:az AV,f.get .ajS (sl 5)=.aD k no->f.get .ajS (sl 31)=.bool (q||!fH v ks)->Xo ab 40 [oU (.store 1 (tt 5) (tt 31))] ⟨f,[],none⟩ m λfr H'=>(match bY.none with|.exit _=>False|_=>True)/\fr.bA=[]/\∃l,fc fr.ac H' []=some l/\K (fZ l) H':=by
    intro f p5 uA;refine Xo.op (n:=39) (v:=.ajS) (H':=m.set k (.cells (ez c no [.bool (q||!fH v ks)]) n e true [] fz)) ?_ (Xo.nil (n:=38) ?_);·have e1:gv f (tt 5)=.aD k no:=p5;have e2:gv f (tt 31)=.bool (q||!fH v ks):=uA;simp only[aH,e1,e2,AV.cells,air,List.length_nil,SU O X Q];rfl
    refine⟨trivial,rfl,[],rfl,w _ _ (mV v ks) (ez c no [.bool (q||!fH v ks)]) w1 (λj j1 j2=>?_) ?_ (λx=>?_) ?_ (λi hi=>?_) ?_ (λes c he hv=>by rw[ai.aF,an s];exact w4 es c he hv)⟩;·rw[ai.aF,an j2];exact L j j1
    .rw[ai.aF,an s];exact w3
    .rw[y8];simp[or_comm]
    .rw[ai.aF,aG rfl]
    .rw[li];rw[an (by simp;omega)]
    rw[li];simp
   cases y:fH v ks with|true=>rw[y]at aq;refine Xo.Bt (n:=50) (v:=.bool q) (H':=m) (by simp[dZ,aO,az.aF,bE,y]) (im (by simp[gv,aO,az.aF,bE];exact J) P) ?_;refine Xo.op (n:=49) (v:=.bool (q||!true)) (H':=m) (by simp[aH,gv,aO,az.aF,bE,y]) ?_;exact(aq _ (by simp[aO,az.aF,bE];exact J) (by simp[aO,az.aF,bE])).mono aa (λ_ _ h=>h)|false=>rw[y]at aq;refine Xo.Bu (n:=50) (by simp[dZ,aO,az.aF,bE,y]) (by simp[j9,aO,az.aF,bE,y,AV.br]) (Xo.op (n:=49) (v:=.bool (q||!false)) (H':=m) (by simp[aH,gv,aO,az.aF,bE,y]) ?_);exact(aq _ (by simp[aO,az.aF,bE];exact J) (by simp[aO,az.aF,bE])).mono aa (λ_ _ h=>h)
 refine Xc.hZ (n:=60) (m:=60) (k:=69) aC aC (Xc.region (n:=59) (Xo.op (n:=58) (v:=.bool ii) (H':=H) (by simp[k9,aH,gv]) (Xo.op (n:=57) (v:=.bool (!ii)) (H':=H) (by rfl) (Xo.op (n:=56) (v:=.bool (!ii)) (H':=H) (by rfl) ?_))));cases ii with|true=>exact Xo.Bt (n:=55) (v:=.int 3 p) (H':=H) (by rfl) (by simp[k8,aH,gv,aO,az.aF,bE]) (Xo.Bt (n:=54) (v:=.int 3 bu) (H':=H) (by rfl) (by simp[k1,aH,gv,aO,az.aF,bE]) (Xo.Bt (n:=53) (v:=.bool (!jJ p bu)) (H':=H) (by rfl) (by rfl) (Xo.op (n:=52) (v:=.bool (!jJ p bu)) (H':=H) (by rfl) (Xo.nil (n:=51) (cond _ (by rfl) (by trivial) (by trivial) (by trivial) (by trivial))))))|false=>exact Xo.Bu (n:=55) (by rfl) (by rfl) (Xo.Bu (n:=54) (by rfl) (by rfl) (Xo.Bu (n:=53) (by rfl) (by rfl) (Xo.op (n:=52) (v:=.bool true) (H':=H) (by rfl) (Xo.nil (n:=51) (cond _ (by rfl) (by trivial) (by trivial) (by trivial) (by trivial))))))
end
section
theorem zf(pl:List (Int×Int))(bu x:Int):∀l,x∈eg pl bu l↔x∈l/\eg.pg pl bu x=true
 |[]=>by simp[eg]
 |y::l=>by
  simp only[eg];split
  .rename_i h;rw[acT,zf pl bu x l,acT];constructor
   .rintro(h1|⟨h1,h2⟩);·exact⟨.inl h1,h1▸h⟩
    exact⟨.inr h1,h2⟩
   rintro⟨h1|h1,h2⟩;·exact .inl h1
   exact .inr ⟨h1,h2⟩
  rename_i h;rw[zf pl bu x l,acT];constructor;·rintro⟨h1,h2⟩;exact⟨.inr h1,h2⟩
  rintro⟨h1|h1,h2⟩;·rw[h1]at h2;exact absurd h2 h
  exact⟨h1,h2⟩
theorem EH(t0:List Int):∀l,kH t0 l=true↔∃x∈l,x∉t0
 |[]=>by simp[kH]
 |y::l=>by
  simp only[kH,ai6,EH t0 l,aiM,acT];have:fH y t0=false↔y∉t0:=by rw[<-pY];simp
  grind
section
variable[Ov]
variable{P:Program}
theorem uB{H:ai}{q:ah}{a v:AV}(h:kI H q a=some v):∃i o,a=.aD i o/\i≠q/\aY H i o=some v:=by
 unfold kI at h;split at h
 .split at h;·grind
  rename_i hb;exact⟨_,_,rfl,λe=>hb (by rw[e];exact ah.fg.2 rfl),h⟩
 grind
theorem EI{H:ai}{q:ah}{s v:AV}{x:Int}(h:rC H q s x=some v):∃i o n c e j,s=.slice i o n c e/\x=.ofNat j/\j<n/\i≠q/\aY H i (o+j)=some v:=by
 unfold rC at h;split at h
 .split at h;·grind
  rename_i hb;have⟨i,o,n,c,e,j,h1,h2,h3,a⟩:=zc h;injection h1 with b d f g k;subst b;subst d;subst f;exact⟨_,_,_,_,_,j,rfl,h2,h3,λe=>hb (by rw[e];exact ah.fg.2 rfl),a⟩
 grind
theorem bo.SV{g:b8}{c:aM}{H:ai}{w:World}(h:bo P g c H w){i:ah}{o':bP}(hi:H.get i≠.none)(j:(H.get i).jL=false)(k:(H.get i).aK=[])(d:o'.aK=[])(l:∀x a,OR P c (H.get i) x a->OR P c o' x a)(m:∀q a,eP P q (H.get i) a->eP P q o' a):bo P g c (H.set i o') w:=by have⟨b,x,a,e,hl,hb,f⟩:=h.aE hi;have:=(h.oW (w':=w) hi j e d (l x a f) (m _ _ (h.iJ i b x a hi e hb)) (by rw[D3 hb]) rfl rfl rfl).1;rw[k]at this;exact this
theorem SW{d j:Type}{f:d->j}{l k:List j}(h:l.Perm k):∀t:List d,k=t.map f->∃t':List d,l=t'.map f/\t'.Perm t:=by
 induction h with
 |nil=>intro t c;exact⟨[],rfl,by cases t<;>simp_all⟩
 |cons x _ m=>intro t c;cases t with|nil=>simp at c|cons a t=>simp only[ah2,aik]at c;have⟨t',e,p⟩:=m t c.2;exact⟨a::t',by rw[ah2,<-e,c.1],p.cons a⟩
 |swap x y l=>intro t c;match t,c with|a::b::t,c=>simp only[ah2,aik]at c;exact⟨b::a::t,by rw[ah2,ah2,c.1,c.2.1,c.2.2],aiK ..⟩|[a],c=>simp at c|[],c=>simp at c
 |trans _ _ g i=>intro t c;have⟨n,e2,p2⟩:=i t c;have⟨t1,e1,p1⟩:=g n e2;exact⟨t1,e1,p1.trans p2⟩
theorem JP{dl f:Nat}(b7:dl≠f)(ht:iX P (mY dl f)){Wr:b8}{ρ:aM}{H:ai}{w:World}{nt:Nat}{fr:Fr}{b:Frame}{a:Act}{c1 c2:Code}{xh body:bm}{ag av:Nat}{J L ok et ex kv:ah}(h1:dH P nt c1=some xh)(h2:dH P nt c2=some (pe ag av J L ok et ex kv body))(b':ag≠av)(d1:J≠L)(d2:J≠ok)(d3:L≠ok)(d4:J≠et)(d5:et≠ex)(d6:J≠ex)(d7:J≠kv){ch:List ah}(s1:L∈ch)(s2:ok∈ch)(s3:et∈ch)(s4:ex∈ch)(s5:kv∈ch)(hF:gf ρ nt fr b.roundOf a)(T:bo P Wr ρ H w){bu:Int}{b3 b4 a3 F:AV}{m pm s N:ah}{no n fz kb e:Nat}{pl:List (Int×Int)}{pks ks t0:List Int}{b6:Int}{c:az AV}{D:Bool}(g1:kI H s b3=some (.map pm))(g2:kI H s b4=some F)(g3:kI H s a3=some (.int kb b6))(g4:jM H pm=some pl)(g5:iB H pm=some pks)(g6:rC H s F b6=some (.map N))(g7:H.get s=.cells c n e true [] fz)(g8:fz<=no)(g9:no<n)(aw:c.bp .ajS no=.bool D)(hk:iB H m=some ks)(hN:iA H N=some t0)(ca:pm≠N)(cd:m≠pm)(nh fb:Nat)(bb:∀p d,Xc (mY dl f) nh xh fr (H.set m (.map p d)) λj fr1 H1=>j=.none/\fr1.bA=fr.bA/\fr1.bz=fr.bz/\(∀t,t∉ch->fr1.ac.get .ajS t=fr.ac.get .ajS t)/\fr1.ac.get .ajS J=.aD H.next 0/\H1=(H.set m (.map p d)).new (.mapIter (some m) d [] d))(Z:∀ac H1 kk(K:bY->Fr->ai->Prop),(∀j,j≠N->j≠m->j≠H.next->j≠s->H1.get j=H.get j)->(∀t,t∉ch->ac.get .ajS t=fr.ac.get .ajS t)->ac.get .ajS kv=.int 3 kk->Xf (mY dl f) 80 (.func dl [] [b3,b4,a3,.aD s no]) [.int 3 kk,.int 3 bu] H1 (λ_ H2=>∀B,(∀t,t∉ch->B.get .ajS t=ac.get .ajS t)->B.get .ajS J=ac.get .ajS J->K .none ⟨B,fr.bA,fr.bz⟩ H2)->Xc (mY dl f) fb body ⟨ac,fr.bA,fr.bz⟩ H1 K)(k:List Item)(cs:List Frame):gP P Wr ρ nt w b k cs (lone (b.atR a (.code (.seq c1 c2)::k)) cs w) λj fr1 H1=>j=.none/\fr1={fr with ac:=jw fr.ac ch}/\H1=((H.set N (.cS (du (fx (eg pl bu ks) t0)))).set s (.cells (ez c no [.bool (D||kH t0 (eg pl bu ks))]) n e true [] fz)).skip:=by
 have⟨es,V,ax,dr⟩:=uv hk;have u:=nS hN;have X:N≠H.next:=λe=>by have:=(T.dc H.next (afM _)).1;have⟨_,q,Q,_⟩:=u;rw[e,this]at Q;simp[dB]at Q
 have ay:m≠H.next:=λe=>by have:=(T.dc H.next (afM _)).1;rw[<-e]at this;rw[this]at V;simp[dB]at V
 have Y:s≠H.next:=λe=>by have:=(T.dc H.next (afM _)).1;rw[<-e,g7]at this;cases this
 have bc:N≠s:=by rintro rfl;have⟨_,_,h,_⟩:=u;rw[g7]at h;simp[dB]at h
 have S:m≠s:=by rintro rfl;rw[g7]at V;simp[dB]at V
 have⟨ds,M,_⟩:=uv g5;have cf:pm≠H.next:=λe=>by have:=(T.dc H.next (afM _)).1;rw[<-e]at this;rw[this]at M;simp[dB]at M
 have bv:pm≠s:=by rintro rfl;rw[g7]at M;simp[dB]at M
 have a1:m=N->es.map aW.kv=t0.map sk/\∀x,x∈ks↔x∈t0:=λe=>by
  have⟨_,dv,O,A⟩:=u;rw[<-e,V]at O;injection O with O;subst O;have⟨b3,b4⟩:=wT ax;refine⟨A,λx=>⟨λhx=>?_,λhx=>?_⟩⟩;·have⟨e,he,hk⟩:=b4 x hx;have:=aio (f:=aW.kv) he;rw[A]at this;have⟨y,hy,a2⟩:=aia.1 this;simp only[sk,aW.kv,hk,ahW,AV.int.injEq]at a2;rw[<-a2.1.2];exact hy
  have:=aio (f:=sk) hx;rw[<-A]at this;have⟨e,he,a6⟩:=aia.1 this;have⟨y,hy,cn⟩:=b3 e he;simp only[sk,aW.kv,cn,ahW,AV.int.injEq]at a6;rw[<-a6.1.2];exact hy
 have⟨i1,o1,e1,cp,k1⟩:=uB g1;have⟨i2,o2,e2,cv,k2⟩:=uB g2;have⟨i3,o3,e3,cx,k3⟩:=uB g3;have⟨is,os,ns,dx,dy,js,e5,e6,e7,cy,k5⟩:=EI g6;have⟨Ns,cE⟩:=zd hN;have ha:mY dl f dl=.code 32 [] (ze f):=by simp[mY]
 have hw:mY dl f f=.code 13 [.tmp (sl 4)] wX:=by
  have:ah8 f dl=false:=by cases h:ah8 f dl with|false=>rfl|true=>exact absurd (ah5 h).symm b7
  simp[mY,this]
 refine EG ht h1 h2 b' d1 d2 d3 d4 d5 d6 d7 s1 s2 s3 s4 s5 hF T V ax nh fb bb (J:=λp d l H1=>H1.next=H.next.succ/\(∀j,j≠N->j≠m->j≠H.next->j≠s->H1.get j=H.get j)/\H1.get m=.map p d/\(∀x∈l,x∈ks)/\∃g I q,fi (H1.get N) g/\(∀x,x∈g↔x∈t0\/(x∈l/\eg.pg pl bu x=true))/\H1.get s=.cells I n e true [] fz/\(∀i,i≠no->I.bp .ajS i=c.bp .ajS i)/\I.bp .ajS no=.bool q/\(q=true↔D=true\/∃x∈g,x∉t0)) ?_ ?_ ?_ ?_ ?_ k cs
 .intro p d cR;have a8:((H.set m (.map p d)).new (.mapIter (some m) d [] d)).get s=.cells c n e true [] fz:=by rw[ai.cO,ai.eH,an Y,ai.aF,an (ajJ S)];exact g7
  have a':((H.set m (.map p d)).new (.mapIter (some m) d [] d)).get m=.map p d:=by rw[ai.cO,ai.eH,an ay,ai.aF,aG rfl]
  refine⟨rfl,λj j1 j2 j3 _=>?_,a',λx hx=>(by grind),?_⟩;·simp[j3,j2,ai.cO,ai.eH,an,ai.aF]
  by_cases z:m=N
  .have⟨A,_⟩:=a1 z;have⟨g,x1,x2⟩:=SW cR t0 A;refine⟨g,c,D,?_,λx=>by grind,a8,λ_ _=>rfl,aw,?_⟩;·rw[<-z,a'];exact⟨x2.nodup_iff.2 u.1,p,rfl,x1⟩
   grind
  refine⟨t0,c,D,?_,aC,a8,λ_ _=>rfl,aw,aC⟩;simp[X,z,u,ai.cO,ai.eH,an,ai.aF,ajJ]
 .rintro p d l H1 o⟨Q,R,q3,q0,g,I,q,q4,q5,q6,q7⟩;refine⟨Q,λj j1 j2 j3 j4=>?_,?_,q0,g,I,q,?_,q5,?_,q7⟩;·simp[j3,R,j1,j2,j4,ai.aF,an]
  all_goals simp[ay,q3,X,q4,Y,q6,ai.aF,an]
 .grind
 .rintro p d l ac H1 kk dz⟨Q,R,q3,q0,g,I,q,q4,q5,q6,q7,q8,q9⟩he A;refine Z ac H1 kk _ R he A ?_;have cc:∀{i o v},aY H i o=some v->i≠s->aY H1 i o=some v:=λh W=>by rw[mX (R _ (jN h cE) (jN h V) (uz T h) W)];exact h
  have hp:H1.get pm=H.get pm:=R pm ca (ajJ cd) cf bv;refine JO ha hw (pm:=pm) (s2:=F) (N:=N) (pl:=pl) (pks:=pks) (ks:=g) (c:=I) (q:=q) (e:=e) (n:=n) (fz:=fz) (kb:=kb) (b:=b6) ?_ ?_ ?_ ?_ ?_ ?_ q6 g8 g9 q8 q4 ?_;·rw[e1];exact cc k1 cp
  .rw[e2];exact cc k2 cv
  .rw[e3];exact cc k3 cx
  .simp_all[jM]
  .simp_all[iB]
  .simp[e5,e6,e7,cc,k5,cy,ln,ajP,aiV,bi]
  intro r H2 c8 c9 r1 r2 r3 r4 r5 r6 r7 r8 B w1 w2;refine⟨rfl,rfl,rfl,λt ht=>(w1 t ht).trans (he t ht),w2,r2 _ (ajJ X) (ajJ Y),r1.trans Q,λj j1 j2 j3 j4=>(r2 j j1 j4).trans (R j j1 j2 j3 j4),?_,λx hx=>?_,c8,c9,_,r3,λx=>?_,r5,λi hi=>(r6 i hi).trans (q7 i hi),r7,?_⟩;·grind
  .grind
  .grind
  rw[ai6,ah4,q9,aiM];have hh:fH kk g=false↔kk∉g:=by rw[<-pY];simp
  grind
 rintro p d l H1 ba w' hl⟨Q,R,q3,_,g,I,q,q4,q5,q6,q7,q8,q9⟩c' dm eR;refine⟨ba,c',?_⟩;have i1:=eR dm q3;have G:∀x,x∈g↔x∈fx (eg pl bu ks) t0:=λx=>by rw[q5,mc,zf,hl,or_comm]
 have hp:g.Perm (fx (eg pl bu ks) t0):=(List.perm_ext_iff_of_nodup q4.1 (pf _ u.1)).2 G;have i2:bo P Wr ba ((H1.set m (H.get m)).set N (.cS (du (fx (eg pl bu ks) t0)))) w':=by
  by_cases z:m=N;·refine i1.ux (N:=N) (ks:=t0) (by rw[<-z,ai.aF,aG rfl,z];exact u) ((List.perm_ext_iff_of_nodup u.1 (pf _ u.1)).2 λx=>?_);rw[mc,zf];exact⟨.inr,λh=>h.elim (λh=>((a1 z).2 x).1 h.1) id⟩
  exact i1.ux (N:=N) (ks:=g) (by rw[ai.aF,an (ajJ z)];exact q4) hp
 have W:q=(D||kH t0 (eg pl bu ks)):=by
  have:q=true↔(D||kH t0 (eg pl bu ks))=true:=by
   rw[q9,ai6,EH];constructor
   .rintro(h|⟨x,h,h'⟩);·exact .inl h
    have:=(G x).1 h;rw[mc]at this;exact .inr ⟨x,this.resolve_right h',h'⟩
   rintro(h|⟨x,h,h'⟩);·exact .inl h
   exact .inr ⟨x,(G x).2 ((mc x _ _).2 (.inl h)),h'⟩
  cases q<;>cases h:(D||kH t0 (eg pl bu ks))<;>simp_all
 have E:((H1.set m (H.get m)).set N (.cS (du (fx (eg pl bu ks) t0)))).get s=.cells I n e true [] fz:=by rw[ai.aF,an (ajJ bc),ai.aF,an (ajJ S)];exact q6
 have i3:=i2.SV (i:=s) (o':=.cells (ez c no [.bool (D||kH t0 (eg pl bu ks))]) n e true [] fz) (by rw[E];simp) (by rw[E];rfl) (by rw[E];rfl) rfl (by
  intro x ob C;rw[E]at C;have b0:∀i,(ez c no [.bool (D||kH t0 (eg pl bu ks))]).bp .ajS i=I.bp .ajS i:=by
   intro i;rw[li];by_cases hi:i=no;·subst hi;rw[aG aC];rw[q8,W];simp
   rw[an (by simp;omega),q7 i hi]
  cases ob<;>simp only[OR]at C⊢;refine⟨C.1,C.2.1,λi hi=>?_,C.2.2.2⟩;rw[b0];exact C.2.2.1 i hi) (by intro q ob W;rw[E]at W;cases ob<;>simp only[eP]at W⊢;exact W);refine i3.sub (H2:=((H.set N (.cS (du (fx (eg pl bu ks) t0)))).set s (.cells (ez c no [.bool (D||kH t0 (eg pl bu ks))]) n e true [] fz)).skip) (by show H.next.succ=H1.next;exact Q.symm) λj=>?_;show((H.set N _).set s _).get j=_\/((H.set N _).set s _).get j=_;simp only[ai.aF];by_cases e0:j=s;·left;simp[e0]
 by_cases e1:j=N;·left;simp[e0,e1]
 by_cases e2:j=m;·left;simp[e0,e1,e2]
 by_cases e3:j=H.next;·right;simp only[an e1,an e0];rw[e3];exact(T.dc _ (afM _)).1
 left;simp only[an e0,an e1,an e2];exact(R j e1 e2 e3 e0).symm
end
end
theorem JQ:y9=[sl 16,sl 53,sl 54,sl 55,sl 56,sl 57,sl 58,sl 59,sl 60,sl 61,sl 62,sl 63,sl 64,sl 65,sl 66,sl 67]:=by rfl
theorem JR:za=[sl 19,sl 76,sl 77,sl 78,sl 79,sl 80,sl 81,sl 82,sl 83,sl 84,sl 85,sl 86,sl 87]:=by rfl
theorem Bv{i j:ah}(h:ah.beq i j=false):i≠j:=λe=>by grind[ah.fg]
theorem JS{dl:Nat}{k:ah->Option Int}{to:Nat}{ch:List ah}{ac d:az AV}{H H':ai}(h:wS dl k to ch ac H=some (d,H')):∃f l o a3 b no p s t i g a u q bu m N c n e fz ks j pl t0 r,f=dl/\mW H (ac.get .ajS (sl 11))=some (.func f [] [l,o,a3,.aD b no])/\kI H b (ac.get .ajS (sl 5))=some p/\ac.get .ajS (sl to)=.int s t/\kI H b (ac.get .ajS (sl 11))=some i/\kI H b l=some (.map g)/\kI H b o=some a/\kI H b a3=some (.int u q)/\k b=some bu/\rC H b p t=some (.map m)/\rC H b a q=some (.map N)/\H.get b=.cells c n e true [] fz/\g≠N/\m≠g/\fz<=no/\no<n/\iB H m=some ks/\iB H g=some j/\jM H g=some pl/\iA H N=some t0/\c.bp .ajS no=.bool r/\d=jw ac ch/\H'=((H.set N (.cS (du (fx (eg pl bu ks) t0)))).set b (.cells (ez c no [.bool (r||kH t0 (eg pl bu ks))]) n e true [] fz)).skip:=by
 unfold wS at h;split at h;case h_2=>grind
 rename_i f l o a3 b no x;split at h;case isFalse=>grind
 rename_i y;split at h;case h_2=>grind
 rename_i p s t i g a u q bu z A B C D E F;split at h;case h_2=>grind
 rename_i m N c n e fz G v w;split at h;case isTrue=>grind
 rename_i hb;simp only[ai6,aiM,Bool.and_eq_false_iff,not_or,Bool.not_eq_true,Bool.not_eq_false]at hb;have⟨⟨b2,I⟩,J,b5⟩:=hb;split at h;case h_2=>grind
 rename_i ks j pl t0 r K L M O P;injection h with h;injection h with h1 h2;exact⟨f,l,o,a3,b,no,p,s,t,i,g,a,u,q,bu,m,N,c,n,e,fz,ks,j,pl,t0,r,ah5 y,x,z,A,B,C,D,E,F,G,v,w,Bv b2,Bv I,aib J,Eq.mp aiV b5,K,L,M,O,P,h1.symm,h2.symm⟩
theorem SX{P:Program}{dl q:Nat}(M:dl≠q)(u:iX P (mY dl q)):ul P 1004 (Bp dl):=by
 intro Wr ρ H H' w nt fr c1 c2 x y ay b a O Q A hg hF hI k cs;have A:bm.seq Jw Jx=bm.seq x y:=A;injection A with C hy;subst C;subst hy;unfold Bp at hg;obtain⟨f,a2,a6,a3,L,no,s5,kt,t,a8,pm,a1,kb,b4,bu,m,N,c,n,e,fz,ks,a',pl,t0,nw,hf,v1,v2,v3,v4,v5,v6,v7,j,v9,R,S,n2,n3,n4,n5,w1,w2,w3,w4,w5,rfl,rfl⟩:=JS hg;subst hf;have⟨T,V,F,W⟩:=sM v1;have⟨i5,o5,e5,ba,c5⟩:=uB v2;have⟨bb,eS,s,G,_⟩:=uB v4;rw[F]at s;injection s with q1 q2;subst q1;subst q2;have⟨is,os,ns,bc,bv,js,e6,e7,e8,b0,c6⟩:=EI v9;have⟨ms,X⟩:=Br w1;have⟨Ns,Y⟩:=zd w4;have Z:fr=⟨fr.ac,fr.bA,fr.bz⟩:=rfl;have hat:∃r z,fr.ac.get .ajS (sl 7)=.aD r z/\r≠L/\∃D,aY H r (z+1)=some D/\∀(x:aJ)(g:az AV)(E:ai),gv g x=D->aH (.jd x) g E=some (.int 3 bu,E):=by
  split at j;case h_2=>cases j
  rename_i r z ag;split at j;·cases j
  rename_i hb;refine⟨r,z,ag,λe=>hb (by rw[e];exact ah.fg.2 rfl),?_⟩;split at j;·rename_i D B;injection j with j;subst j;exact⟨_,B,λx g E C=>by simp[aH,C]⟩
  .rename_i B;injection j with j;subst j;exact⟨_,B,λx g E C=>by simp[aH,C]⟩
  cases j
 have⟨r,z,av,aw,D,c7,I⟩:=hat;refine(JP M u O Q (ch:=y9) aC bx bx bx bx bx bx bx bx bx bx bx bx hF hI (bu:=bu) v5 v6 v7 w3 w2 R S n4 n5 w5 w1 w4 n2 n3 20 120 ?_ ?_ k cs).mono ?_
 .intro l d;rw[Z];refine Xc.region (n:=19) (Xo.op (n:=18) (v:=s5) (H':=H.set m (.map l d)) (im e5 (by grind[wV,jN])) (Xo.op (n:=17) (v:=.int kt t) (H':=H.set m (.map l d)) (by simp[v3,aH,gv,aO,az.aF,bE]) ?_));refine Xo.op (n:=16) (v:=.aD is (os+js)) (H':=H.set m (.map l d)) (sN (by trivial) (by simp[gv,aO,az.aF,bE];trivial) e8) ?_;refine Xo.op (n:=15) (v:=.map m) (H':=H.set m (.map l d)) (im (by rfl) (by grind[wV,jN])) ?_;refine Xo.op (n:=14) (v:=.aD H.next 0) (H':=(H.set m (.map l d)).new (.mapIter (some m) d [] d)) (by simp[aH,gv,aO,az.aF,bE,ai.aF];rfl) (Xo.nil (n:=13) ?_);refine⟨rfl,rfl,rfl,?_,?_,rfl⟩;·intro t u;simp only[JQ,acT,aie,or_false,not_or]at u;simp[u,aO,az.aF]
  rfl
 .intro ac H1 kk K J he ax p;have cc:∀{i o v},aY H i o=some v->i≠L->aY H1 i o=some v:=λh hq=>by rw[mX (J _ (jN h Y) (jN h X) (uz hI h) hq)];exact h
  have b3:ac.get .ajS (sl 11)=.aD T V:=by rw[he _ bx];exact F
  refine Xc.region (n:=119) ?_;have h7:ac.get .ajS (sl 7)=.aD r z:=by rw[he _ bx];exact av
  refine Xo.op (n:=118) (v:=.func f [] [a2,a6,a3,.aD L no]) (H':=H1) (im (by trivial) (cc W G)) (Xo.op (n:=117) (v:=.int 3 kk) (H':=H1) (by simp[ax,aH,gv,aO,az.aF,bE]) (Xo.op (n:=116) (v:=.aD r (z+1)) (H':=H1) (by simp[h7,aH,gv,aO,az.aF,bE]) (Xo.op (n:=115) (v:=D) (H':=H1) (im (by rfl) (cc c7 aw)) (Xo.op (n:=114) (v:=.int 3 bu) (H':=H1) (I _ _ _ (by rfl)) (Xo.call (n:=113) ?_)))));simp only[gv,aO,az.aF,bE,ah2,ajh];refine Xf.mono (n:=80) aC ?_ p;intro v E p;refine Xo.mono (n:=101) aC (λ_ _ h=>h) (Xo.nil (n:=100) (p _ ?_ ?_));·intro t u;simp only[JQ,acT,aie,or_false,not_or]at u;simp[u,aO,az.aF]
  rfl
 simp
theorem SY{P:Program}{dl l:Nat}(A:dl≠l)(q:iX P (mY dl l)):ul P 1005 (Bq dl):=by
 intro Wr ρ H H' w nt fr c1 c2 x y W b a B C r hg Y Q k cs;have r:bm.seq Jy Jz=bm.seq x y:=r;injection r with Z hy;subst Z;subst hy;unfold Bq at hg;obtain⟨f,a1,a2,a3,R,no,s5,kt,t,ag,pm,X,kb,bb,bu,m,N,c,n,e,fz,ks,av,pl,t0,nw,hf,v1,v2,v3,v4,v5,v6,v7,S,v9,D,E,n2,n3,n4,n5,T,w2,w3,V,w5,rfl,rfl⟩:=JS hg;subst hf;have⟨F,G,s,I⟩:=sM v1;have⟨i5,o5,e5,aw,c5⟩:=uB v2;have⟨ax,eS,p,u,_⟩:=uB v4;rw[s]at p;injection p with q1 q2;subst q1;subst q2;have⟨is,os,ns,ay,a6,js,e6,e7,e8,a8,c6⟩:=EI v9;have⟨ms,J⟩:=Br T;have⟨Ns,L⟩:=zd V;have M:fr=⟨fr.ac,fr.bA,fr.bz⟩:=rfl;simp only[abv]at S;subst S;refine(JP A q B C (ch:=za) aC bx bx bx bx bx bx bx bx bx bx bx bx Y Q (bu:=.ofNat 0) v5 v6 v7 w3 w2 D E n4 n5 w5 T V n2 n3 20 120 ?_ ?_ k cs).mono ?_
 .intro g d;rw[M];refine Xc.region (n:=19) (Xo.op (n:=18) (v:=s5) (H':=H.set m (.map g d)) (im e5 (by grind[wV,jN])) (Xo.op (n:=17) (v:=.int kt t) (H':=H.set m (.map g d)) (by simp[v3,aH,gv,aO,az.aF,bE]) ?_));refine Xo.op (n:=16) (v:=.aD is (os+js)) (H':=H.set m (.map g d)) (sN (by trivial) (by simp[gv,aO,az.aF,bE];trivial) e8) ?_;refine Xo.op (n:=15) (v:=.map m) (H':=H.set m (.map g d)) (im (by rfl) (by grind[wV,jN])) ?_;refine Xo.op (n:=14) (v:=.aD H.next 0) (H':=(H.set m (.map g d)).new (.mapIter (some m) d [] d)) (by simp[aH,gv,aO,az.aF,bE,ai.aF];rfl) (Xo.nil (n:=13) ?_);refine⟨rfl,rfl,rfl,?_,?_,rfl⟩;·intro t q;simp only[JR,acT,aie,or_false,not_or]at q;simp[q,aO,az.aF]
  rfl
 .intro ac H1 kk K z he O j;have cc:∀{i o v},aY H i o=some v->i≠R->aY H1 i o=some v:=λh hq=>by rw[mX (z _ (jN h L) (jN h J) (uz Q h) hq)];exact h
  have a':ac.get .ajS (sl 11)=.aD F G:=by rw[he _ bx];exact s
  refine Xc.region (n:=119) (Xo.op (n:=118) (v:=.func f [] [a1,a2,a3,.aD R no]) (H':=H1) (im (by trivial) (cc I u)) (Xo.op (n:=117) (v:=.int 3 kk) (H':=H1) (by simp[O,aH,gv,aO,az.aF,bE]) (Xo.call (n:=116) ?_)));simp only[gv,aO,az.aF,bE,ah2,ajh];refine Xf.mono (n:=80) aC ?_ j;intro v H2 j;refine Xo.mono (n:=101) aC (λ_ _ h=>h) (Xo.nil (n:=100) (j _ ?_ ?_));·intro t q;simp only[JR,acT,aie,or_false,not_or]at q;simp[q,aO,az.aF]
  rfl
 simp
section
variable[Ov]
variable{P:Program}{a:b8}{ρ:aM}{H:ai}{w:World}
def bP.lP(o:bP):Prop:=o.jL=false/\o.aK=[]/\o≠.none
theorem bo.lm(h:bo P a ρ H w){hl dd:ah->Prop}(r:∀i,hl i->(H.get i).lP)(hd:∀i,dd i->H.get i=.none/\ρ i=none/\i.am<H.next.am/\∀j,i∉(H.get j).aK){c:ai}(m:c.next=H.next)(hg:∀j,c.get j=H.get j\/c.get j=.none)(s:∀i,hl i->c.get i=.none):bo P (a.iY ρ hl dd) ρ c w:=by
 have hs:=h.sub m hg;have o:∀j,c.get j≠.none->c.get j=H.get j:=λj hj=>(hg j).resolve_right hj;have t:=Eh hg;have lm:∀j b x,c.get j≠.none->ρ j=some (b,x)->∀i y,hl i->ρ i≠some (b,y):=by
  intro j b x hj v i y hi z;have⟨n,u,g⟩:=r i hi;have p:i≠j:=λe=>hj (e▸s i hi);have q:H.get j≠.none:=by rw[<-o j hj];exact hj
  rcases h.ju i j b y x p g q z v with⟨l,_⟩|⟨l,_⟩;·have:=(h.aK i j l).2 g;rw[n]at this;cases this
  rw[u]at l;cases l
 constructor;·exact hs.dp
 .exact hs.ju
 .exact hs.aK
 .intro i b x hi A e;exact⟨hs.wr i b x hi A e,λk y f=>lm i b x hi e k y f⟩
 .exact hs.dc
 .intro k f;have d:∀i x,hl i->ρ i≠some (k,x):=λi x _ e=>by have:=h.d8 i k x e;omega
  exact⟨⟨(h.new k f).1,d⟩,⟨(h.new k f).2,d⟩⟩
 .exact hs.kC
 .exact hs.iJ
 .exact hs.d8
 .intro i b x hi e;exact⟨hs.rd i b x hi e,λk y f=>lm i b x hi e k y f⟩
 .intro i hi;rcases hi with hi|hi|hi;·exact hs.un i hi
  .have⟨n,u,g⟩:=r i hi;refine⟨s i hi,by rw[m];exact h.AJ g,λj hj=>?_⟩;have:=(h.aK i j (t i j hj)).2 g;rw[n]at this;cases this
  have⟨h0,h1,h2,h3⟩:=hd i hi;exact⟨by rcases hg i with e|e<;>rw[e];exact h0,by rw[m];exact h2,λj hj=>h3 j (t i j hj)⟩
 intro i hi;rcases hi with hi|hi;·exact⟨.inl (hs.dM i hi).1,(hs.dM i hi).2⟩
 exact⟨.inr (.inr hi),(hd i hi).2.1⟩
theorem bo.EJ(h:bo P a ρ H w){hl dd:ah->Prop}(B:∀i,hl i->(H.get i).lP){m:aM}{H':ai}{w':World}(p:bZ ρ m)(g:bo P (a.iY ρ hl dd) m H' w')(q:dj (a.iY ρ hl dd) w w'){H2:ai}(K:H2.next=H'.next)(h1:∀i,hl i->H2.get i=H.get i)(h2:∀i,¬hl i->H2.get i=H'.get i):bo P a m H2 w'/\dj a w w':=by
 have d:∀i,hl i->∃b x r,ρ i=some (b,x)/\m i=some (b,x)/\m.k b=ρ.k b/\w.heap[b]?=some r/\w'.heap[b]?=some r/\OR P ρ (H.get i) x r:=by intro i hi;have⟨b,x,r,e,E,hb,L⟩:=h.aE ((B i hi)).2.2;exact⟨b,x,r,e,(p _ _ e).1,(p _ _ e).2,hb,by rw[q.block b E λC=>C.2 i x hi e];exact hb,L⟩
 have z:∀i j,i∈(H2.get j).aK->¬hl i/\¬hl j/\i∈(H'.get j).aK:=by
  intro i j hj;by_cases f:hl j;·rw[h1 j f,(B j f).2.1]at hj;cases hj
  rw[h2 j f]at hj;exact⟨λhi=>(g.un i (.inr (.inl hi))).2.2 j hj,f,hj⟩
 refine⟨⟨?_,?_,?_,?_,?_,?_,?_,?_,?_,?_,?_,?_⟩,⟨q.os,q.tape,q.output,q.size,λk h1 C=>q.block k h1 λF=>C F.1⟩⟩
 .intro i hi;by_cases c:hl i;·grind[OR.mono]
  rw[h2 i c]at hi⊢;exact g.dp i hi
 .intro i j b x y u hi hj t n;by_cases c:hl i
  .have⟨b1,D,_,l,o,_⟩:=d i c;rw[o]at t;injection t with t;injection t with G I;subst G;subst I;by_cases f:hl j;·have⟨b2,M,_,c1,c2,_⟩:=d j f;rw[c2]at n;injection n with n;injection n with s v;subst s;subst v;rw[h1 i c]at hi⊢;rw[h1 j f]at hj⊢;exact h.ju i j _ _ _ u hi hj l c1
   rw[h2 j f]at hj;exact absurd l ((g.rd j _ y hj n).2 i _ c)
  by_cases f:hl j;·have⟨b2,M,_,c1,c2,_⟩:=d j f;rw[c2]at n;injection n with n;injection n with s v;subst s;rw[h2 i c]at hi;exact absurd c1 ((g.rd i _ x hi t).2 j _ f)
  rw[h2 i c]at hi⊢;rw[h2 j f]at hj⊢;exact g.ju i j b x y u hi hj t n
 .intro i j hj;have⟨l,o,a3⟩:=z i j hj;have⟨b1,b2⟩:=g.aK i j a3;grind
 .intro i b x hi A e;by_cases c:hl i;·have⟨b1,D,_,l,o,_⟩:=d i c;rw[o]at e;injection e with e;injection e with e1 e2;subst e1;rw[h1 i c]at hi A;exact h.wr i _ _ hi A l
  rw[h2 i c]at hi A;exact(g.wr i b x hi A e).1
 .intro i hi;rw[K]at hi;have⟨l,o⟩:=g.dc i hi;grind
 .intro k J;exact h.new k (aji q.size J)
 .exact g.kC
 .intro i b x r hi e hb;by_cases c:hl i;·have⟨b1,D,N,l,o,a3,a4,a5,_⟩:=d i c;rw[o]at e;injection e with e;injection e with e1 e2;subst e1;rw[a5]at hb;injection hb with hb;subst hb;rw[h1 i c]at hi⊢;rw[a3];exact h.iJ i _ _ _ hi l a4
  rw[h2 i c]at hi⊢;exact g.iJ i b x r hi e hb
 .exact g.d8
 .intro i b x hi e;by_cases c:hl i;·have⟨b1,D,_,l,o,_⟩:=d i c;rw[o]at e;injection e with e;injection e with e1 e2;subst e1;rw[h1 i c]at hi;exact h.rd i _ _ hi l
  rw[h2 i c]at hi;exact(g.rd i b x hi e).1
 .intro i hi;have⟨l,o,a3⟩:=g.un i (.inl hi);have c:¬hl i:=λc=>(B i c).2.2 (h.un i hi).1;grind
 intro i hi;exact⟨(h.dM i hi).1,(g.dM i (.inl hi)).2⟩
theorem OR.JT{ρ d:aM}(h:bZ ρ d){c:az AV}{n e fz:Nat}{b:Bool}{aK:List ah}{j x:Nat}{f g:Obj}(l:OR P ρ (.cells c n e b aK fz) j f)(k:OR P d (.cells c n e b aK fz) x g):OR P ρ (.cells c n e b aK fz) x g:=by cases f<;>simp only[OR]at l;cases g<;>simp only[OR]at k⊢;refine⟨k.1,k.2.1,λi hi=>?_,k.2.2.2⟩;grind[VR.eR]
theorem cX.set{ρ d:aM}:∀{l:List Int}{m:List MapEntry},cX ρ (du l) m->cX d (du l) m
 |[],[],_=>by trivial
 |k::l,c::m,h=>by
  refine⟨?_,?_,cX.set (l:=l) h.2.2⟩;·have:=h.1;cases b:c.key<;>rw[b]at this<;>simp only[VR]at this⊢;exact this
  have:=h.2.1;cases b:c.val<;>rw[b]at this<;>simp only[VR]at this⊢;exact this
 |[],_::_,h=>by trivial
 |_::_,[],h=>by trivial
theorem OR.ux{ρ f:aM}{o:bP}{ks ks2:List Int}(hs:fi o ks)(j:ks.Perm ks2){x:Nat}{e:Obj}(h:OR P ρ o x e):OR P f (.cS (du ks2)) x e:=by
 have⟨_,es,he,g⟩:=hs;have d:(du ks).Perm (du ks2):=j.map _;have b:es.map aW.kv=(du ks).map aW.kv:=by rw[g,EB]
 cases o with|map i c=>simp only[dB,abv]at he;subst he;cases e<;>simp only[OR]at h⊢;obtain⟨rfl,rfl,d9,h3⟩:=h;have⟨l,p1,p2⟩:=cX.A0 d (cX.kv b (cr.open h3));exact⟨rfl,d9,l,p1,cX.set p2⟩|cS i=>simp only[dB,abv]at he;subst he;cases e<;>simp only[OR]at h⊢;have⟨h1,h2,l,h3,k⟩:=h;have⟨m,p1,p2⟩:=cX.A0 d (cX.kv b k);exact⟨h1,h2,m,p1.trans h3,cX.set p2⟩|_=>simp[dB]at he
theorem bo.EK{f:aM}{H1 H2:ai}{w1:World}(h0:bo P a ρ H w)(M:bZ ρ f)(h1:bo P a f H1 w1)(nx:H.next.am<=H2.next.am)(m:ah->ah)(new:ah->Prop) [DecidablePred new](c:aM)(C:c=⟨λj=>if j.am<H.next.am then ρ j else if new j then f (m j)else none,f.k⟩)(v:∀j,H.next.am<=j.am->H2.get j≠.none->new j)(A:∀j,new j->H.next.am<=j.am/\j.am<H2.next.am/\H.next.am<=(m j).am/\H1.get (m j)≠.none/\(H1.get (m j)).aK=[]/\(H1.get (m j)).jL=false/\(H2.get j).aK=[]/\(H2.get j).jL=false/\(H1.get (m j)).len=(H2.get j).len/\(∀x d,OR P f (H1.get (m j)) x d->OR P c (H2.get j) x d)/\∀q d,eP P q (H1.get (m j)) d->eP P q (H2.get j) d)(inj:∀i j,new i->new j->m i=m j->i=j)(cM:∀j,j.am<H.next.am->H2.get j≠.none->H.get j≠.none/\H1.get j≠.none/\(H1.get j).aK=(H.get j).aK/\(H2.get j).aK=(H.get j).aK/\(H1.get j).jL=(H2.get j).jL/\(H1.get j).len=(H2.get j).len/\(∀x d,OR P f (H1.get j) x d->OR P c (H2.get j) x d)/\∀q d,eP P q (H1.get j) d->eP P q (H2.get j) d):bZ ρ c/\bo P a c H2 w1:=by
 have ro:∀j,j.am<H.next.am->c j=ρ j:=λj hj=>by rw[C];exact aG hj
 have rn:∀j,new j->c j=f (m j):=λj hj=>by rw[C];show(if _ then _ else _)=_;rw[an (by have:=(A j hj).1;omega),aG hj]
 have rk:c.k=f.k:=by rw[C]
 have rz:∀j,H.next.am<=j.am->¬new j->c j=none:=λj h hj=>by rw[C];show(if _ then _ else _)=_;rw[an aa,an hj]
 have I:∀j x,ρ j=some x->j.am<H.next.am:=λj x e=>by
  rcases aiU j.am H.next.am with h|h;·exact h
  rw[(h0.dc j h).2]at e;cases e
 have K:bZ ρ c:=λj x e=>⟨by rw[ro j (I j x e)];exact e,by rw[rk];exact(M j x e).2⟩;have p:∀j,H2.get j≠.none->∃t,H1.get t≠.none/\c j=f t/\(H1.get t).jL=(H2.get j).jL/\(H1.get t).len=(H2.get j).len/\(∀x d,OR P f (H1.get t) x d->OR P c (H2.get j) x d)/\(∀q d,eP P q (H1.get t) d->eP P q (H2.get j) d)/\((j.am<H.next.am/\t=j)\/(new j/\t=m j)):=by
  intro j hj;rcases aiU j.am H.next.am with hl|hl;·have⟨z,s,a3,a4,a5,N,a7,O⟩:=cM j hl hj;refine⟨j,s,?_,a5,N,a7,O,.inl ⟨hl,rfl⟩⟩;have⟨b,x,d,e,_⟩:=h0.dp j z;rw[ro j hl,e,(M _ _ e).1]
  have n:=v j hl hj;have⟨z,s,a3,a4,a5,N,a7,O,a9,S,T⟩:=A j n;exact⟨m j,a4,rn j n,N.trans O.symm,a9,S,T,.inr ⟨n,rfl⟩⟩
 have o:∀i j,i∈(H2.get j).aK->j.am<H.next.am/\i∈(H.get j).aK/\H2.get j≠.none:=by
  intro i j hi;have hj:H2.get j≠.none:=λe=>by rw[e]at hi;cases hi
  rcases aiU j.am H.next.am with hl|hl;·have⟨z,s,a3,a4,_⟩:=cM j hl hj;exact⟨hl,by rw[<-a4];exact hi,hj⟩
  have n:=v j hl hj;rw[(A j n).2.2.2.2.2.2.1]at hi;cases hi
 have l:∀i j L G,H2.get i≠.none->H2.get j≠.none->((i.am<H.next.am/\L=i)\/(new i/\L=m i))->((j.am<H.next.am/\G=j)\/(new j/\G=m j))->L∈(H1.get G).aK->i∈(H2.get j).aK:=by
  intro i j L G hi hj V W r;rcases W with⟨hl,rfl⟩|⟨n,rfl⟩
  .have⟨z,s,a3,a4,_⟩:=cM G hl hj;rw[a3]at r;rcases V with⟨X,rfl⟩|⟨D,rfl⟩;·rw[a4];exact r
   have:=(h0.aK _ _ r).1;have:=(A i D).2.2.1;omega
  rw[(A j n).2.2.2.2.1]at r;cases r
 refine⟨K,⟨?_,?_,?_,?_,?_,?_,?_,?_,?_,?_,?_,?_⟩⟩;·intro i hi;have⟨t,t1,B,_,_,t5,_⟩:=p i hi;have⟨b,x,d,e,hb,hr⟩:=h1.dp t t1;exact⟨b,x,d,by rw[B];exact e,hb,t5 x d hr⟩
 .intro i j b x y J hi hj ei ej;have⟨t,t1,B,_,t4,_,_,Q⟩:=p i hi;have⟨u,u1,u2,_,u4,_,_,R⟩:=p j hj;have Y:t≠u:=by
   rcases Q with⟨hl,rfl⟩|⟨n,rfl⟩<;>rcases R with⟨X,rfl⟩|⟨D,rfl⟩;·exact J
   .rintro rfl;have:=(A j D).2.2.1;omega
   .rintro rfl;have:=(A i n).2.2.1;omega
   exact λe=>J (inj i j n D e)
  rw[<-t4,<-u4];rcases h1.ju t u b x y Y t1 u1 (by rw[<-B];exact ei) (by rw[<-u2];exact ej)with⟨r,E⟩|⟨r,E⟩;·exact .inl ⟨l i j t u hi hj Q R r,E⟩
  exact .inr ⟨l j i u t hj hi R Q r,E⟩
 .intro i j hi;have⟨hl,r,hj⟩:=o i j hi;have hp:=h0.aK i j r;refine⟨aim hp.1 nx,λZ=>?_⟩;have⟨z,s,a3,a4,a5,_⟩:=cM i hp.1 Z;have⟨b1,b2,b3,_⟩:=cM j hl hj;rw[<-a5];exact(h1.aK i j (by rw[b3];exact r)).2 s
 .intro i b x hi hf e;have⟨t,t1,B,t3,_⟩:=p i hi;exact h1.wr t b x t1 (by rw[t3];exact hf) (by rw[<-B];exact e)
 .intro i hi;have hg:H2.get i=.none:=by apply ain;intro F;have:=(A i (v i (aji nx hi) F)).2.1;omega
  refine⟨hg,rz i (aji nx hi) λn=>?_⟩;have:=(A i n).2.1;omega
 .exact h1.new
 .intro g hg;have:=h0.kC g hg;rw[ro _ (I _ _ this)];exact this
 .intro i b x d hi e hb;have⟨t,t1,B,_,_,_,t6,_⟩:=p i hi;rw[rk];exact t6 _ _ (h1.iJ t b x d t1 (by rw[<-B];exact e) hb)
 .intro i b x e;rcases aiU i.am H.next.am with hl|hl;·rw[ro i hl]at e;exact h1.d8 i b x (M _ _ e).1
  by_cases n:new i;·rw[rn i n]at e;exact h1.d8 _ b x e
  rw[rz i hl n]at e;cases e
 .intro i b x hi e;have⟨t,t1,B,_⟩:=p i hi;exact h1.rd t b x t1 (by rw[<-B];exact e)
 .intro i hi;have⟨z,s,a3⟩:=h0.un i hi;refine⟨?_,aim s nx,λj hj=>a3 j (o i j hj).2.1⟩;apply ain;intro F;exact(cM i s F).1 z
 intro i hi;have⟨z,s⟩:=h0.dM i hi;exact⟨z,by rw[ro i (h0.un i z).2.1];exact s⟩
end
section
theorem EL(p:ah):∀l,wQ p l=true↔p∈l|[]=>by simp[wQ]|q::l=>by simp only[wQ,ai6,EL p l,ah.fg,acT]
theorem EM:∀l,Bo l=true↔l.Nodup|[]=>by trivial|p::l=>by simp only[Bo,ah4,EM l,aiz,aiM,<-EL];simp
theorem sO{c:az AV}{o:Nat}{N:ah}:∀{l:List Int},N∈jx c o l↔∃k∈l,c.bp .ajS (o+k.toNat)=.map N
 |[]=>by simp[jx]
 |k::l=>by
  simp only[jx];split
  .rename_i b h;rw[acT,sO];constructor
   .rintro(e|⟨a,h1,h2⟩);·exact⟨k,acI ..,e▸h⟩
    exact⟨a,adT _ h1,h2⟩
   rintro⟨a,h1,h2⟩;rcases acT.1 h1 with e|e;·subst e;rw[h]at h2;injection h2 with h2;exact .inl h2.symm
   exact .inr ⟨a,e,h2⟩
  rename_i h;rw[sO];constructor;·rintro⟨a,h1,h2⟩;exact⟨a,adT _ h1,h2⟩
  rintro⟨a,h1,h2⟩;rcases acT.1 h1 with e|e;·subst e;exact absurd h2 (h N)
  exact⟨a,e,h2⟩
theorem JU{c:az AV}{o:Nat}:∀{l:List Int},(jx c o l).Nodup->∀{k b:Int}{N:ah},k∈l->b∈l->c.bp .ajS (o+k.toNat)=.map N->c.bp .ajS (o+b.toNat)=.map N->k=b
 |[],_,_,_,_,h,_,_,_=>by grind
 |a::l,d,k,b,N,h1,h2,e1,e2=>by
  have e:(jx c o l).Nodup:=by
   simp only[jx]at d;split at d;·exact(aiz.1 d).2
   exact d
  rcases acT.1 h1 with f|f<;>rcases acT.1 h2 with g|g;·omega
  .simp_all[jx,absurd,sO,aiz]
  .simp_all[jx,absurd,sO,aiz]
  exact JU e f g e1 e2
theorem EN{c:az AV}{o n:Nat}{m:ah}{ks:List Int}{W:ai}:∀{l:List Int}{X:az AV}{H':ai}{K:az AV}{u:ai},sL c o n m ks W l X H'=some (K,u)->(∀N t,iA W N=some t->N.am<H'.next.am)->l.Nodup->(jx c o l).Nodup->(∀k∈l,∃j,k=.ofNat j/\j<n/\(c.bp .ajS (o+k.toNat)=.cL\/∃N t0,c.bp .ajS (o+k.toNat)=.map N/\N≠m/\iA W N=some t0/\u.get N=.cS (du (fx (fR k ks) t0))))/\H'.next.am<=u.next.am/\(∀j,j.am<H'.next.am->j∉jx c o l->u.get j=H'.get j)/\(∀j,u.next.am<=j.am->u.get j=H'.get j)/\(∀x,(∀k∈l,c.bp .ajS (o+k.toNat)=.cL->x≠o+k.toNat)->K.bp .ajS x=X.bp .ajS x)/\∃nm:Int->ah,(∀k∈l,c.bp .ajS (o+k.toNat)=.cL->H'.next.am<=(nm k).am/\(nm k).am<u.next.am/\u.get (nm k)=.cS (du (fR k ks))/\K.bp .ajS (o+k.toNat)=.map (nm k))/\(∀k a,k∈l->a∈l->c.bp .ajS (o+k.toNat)=.cL->c.bp .ajS (o+a.toNat)=.cL->nm k=nm a->k=a)/\(∀j,H'.next.am<=j.am->j.am<u.next.am->∃k∈l,c.bp .ajS (o+k.toNat)=.cL/\nm k=j)
 |[],X,H',K,u,h,_,_,_=>by obtain⟨rfl,rfl⟩:=h;exact⟨aC,afM _,λ_ _ _=>rfl,λ_ _=>rfl,λ_ _=>rfl,λ_=>.xH,aC,aC,λj h1 h2=>by omega⟩
 |k::l,X,H',K,u,h,B,w,i=>by
  rw[aiz]at w;simp only[sL]at h;split at h;case h_2=>cases h
  rename_i j;split at h;case isFalse=>cases h
  rename_i C;have C:j<n:=Eq.mp aiV C;have f:(aiC j).toNat=j:=rfl;split at h
  .rename_i g;have T:(jx c o l).Nodup:=by simp only[jx,f,g]at i;exact i
   have V:∀N t,iA W N=some t->N.am<(H'.new (.cS (du (fR (.ofNat j) ks)))).next.am:=λN t E=>by have:=B N t E;show _<H'.next.succ.am;rw[ah.eX];omega
   have⟨L,Y,F,s4,Z,nm,G,s7,M⟩:=EN h V w.2 T;have J:(H'.new (.cS (du (fR (.ofNat j) ks)))).next.am=H'.next.am+1:=ah.eX _;rw[J]at Y F G M;have D:∀a∈l,c.bp .ajS (o+a.toNat)=.cL->o+j≠o+a.toNat:=by
    intro a b _ e;obtain⟨j2,rfl,_⟩:=L a b;have:j=j2:=by have:(aiC j2).toNat=j2:=rfl;omega
    subst this;exact w.1 b
   have hc:K.bp .ajS (o+j)=.map H'.next:=by rw[Z _ D,li];simp
   have hg:u.get H'.next=.cS (du (fR (.ofNat j) ks)):=by
    rw[F H'.next aa,ai.cO,aG rfl];rw[sO];rintro⟨a,h1,h2⟩;obtain⟨j2,_,_,h3|⟨N,t0,h3,_,h4,_⟩⟩:=L a h1;·rw[h3]at h2;cases h2
    rw[h3]at h2;injection h2 with h2;subst h2;have:=B _ _ h4;omega
   have r:∀a∈l,a≠.ofNat j:=λa h e=>w.1 (e▸h);refine⟨?_,aa,?_,?_,?_,λx=>if x=.ofNat j then H'.next else nm x,?_,?_,?_⟩
   .intro k v;rcases acT.1 v with e|e;·subst e;exact⟨j,rfl,C,.inl g⟩
    exact L k e
   .intro p A y;rw[F p aa (λq=>y (by simp only[jx,f,g];exact q)),ai.cO,an (λe=>by rw[e]at A;omega)]
   .intro p A;rw[s4 p A,ai.cO,an (λe=>by rw[e]at A;omega)]
   .intro x hx;rw[Z x (λa b d=>hx a (adT _ b) d),li];have:=hx (.ofNat j) (acI ..) g;rw[f]at this;rw[an (by simp;omega)]
   .intro k v z;rcases acT.1 v with e|e;·subst e;simp only[bi];exact⟨aa,aa,hg,hc⟩
    simp only[an (r k e)];have⟨O,P,Q,q4⟩:=G k e z;exact⟨aa,P,Q,q4⟩
   .intro k a v b s d he;rcases acT.1 v with e|e<;>rcases acT.1 b with e2|e2;·rw[e,e2]
    .subst e;simp only[bi,an (r a e2)]at he;have:=(G a e2 d).1;rw[<-he]at this;omega
    .subst e2;simp only[bi,an (r k e)]at he;have:=(G k e s).1;rw[he]at this;omega
    simp only[an (r k e),an (r a e2)]at he;exact s7 k a e e2 s d he
   intro p R H;by_cases e:p=H'.next;·exact⟨.ofNat j,acI ..,g,by simp[e]⟩
   have:p.am≠H'.next.am:=λq=>e (ah.rj q);have⟨a,O,P,Q⟩:=M p aa H;exact⟨a,adT _ O,P,by simp only[an (r a O)];exact Q⟩
  .rename_i N E;split at h;case isTrue=>cases h
   rename_i I;have I:N≠m:=Bv (by simpa using I);split at h;case h_2=>cases h
   rename_i t0 S;simp only[jx,f,E]at i;rw[aiz]at i;have ag:=B N t0 S;have⟨L,Y,F,s4,Z,nm,G,s7,M⟩:=EN h B w.2 i.2;rw[ai.eH]at Y F G M;refine⟨?_,Y,?_,?_,?_,nm,?_,?_,?_⟩
   .intro k v;rcases acT.1 v with e|e;·subst e;refine⟨j,rfl,C,.inr ⟨N,t0,E,I,S,?_⟩⟩;rw[F N ag i.1,ai.aF,aG rfl]
    exact L k e
   .intro p A y;simp only[jx,f,E,acT,not_or]at y;rw[F p A y.2,ai.aF,an y.1]
   .intro p A;rw[s4 p A,ai.aF,an (λe=>by rw[e]at A;omega)]
   .intro x hx;exact Z x (λa b d=>hx a (adT _ b) d)
   .intro k v z;rcases acT.1 v with e|e;·subst e;rw[f,E]at z;cases z
    exact G k e z
   .intro k a v b s d he;rcases acT.1 v with e|e;·subst e;rw[f,E]at s;cases s
    rcases acT.1 b with e2|e2;·subst e2;rw[f,E]at d;cases d
    exact s7 k a e e2 s d he
   intro p R H;have⟨a,O,P,Q⟩:=M p R H;exact⟨a,adT _ O,P,Q⟩
  cases h
section
variable[Ov]
theorem Xc.dL{ab:Nat->aV}{n t:Nat}{g:az AV->ai->Option (az AV×ai)}{fr:Fr}{H H':ai}{a:az AV}{K:bY->Fr->ai->Prop}(b:ab t=.dL g)(hg:g fr.ac H=some (a,H'))(h:K .none {fr with ac:=a} H'):Xc ab (n+1) (.dL t) fr H K:=by simp[b,hg,h,Xc,exec]
theorem SZ{H:ai}{N:ah}{ks:List Int}(h:fi (H.get N) ks):iA H N=some ks:=by
 have⟨c,es,he,b⟩:=h;have key:∀{es:List aW}{ks:List Int},es.map aW.kv=ks.map sk->rA es=some ks:=by intro es;induction es with|nil=>intro ks h;cases ks<;>simp at h;rfl|cons a es d=>intro ks h;cases ks with|nil=>simp at h|cons k ks=>simp only[ah2,aik,aW.kv,sk,ahW]at h;simp only[rA,h.1.1,h.1.2,d h.2]
 unfold iA;rw[he];simp only[key b,(ur ks).2 c,bi]
theorem JV{H:ai}{N:ah}{ks:List Int}(h:fi (H.get N) ks):iB H N=some ks:=by
 have⟨c,es,he,b⟩:=h;have key:∀{es:List aW}{ks:List Int},es.map aW.kv=ks.map sk->iz es=some ks:=by intro es;induction es with|nil=>intro ks h;cases ks<;>simp at h;rfl|cons a es d=>intro ks h;cases ks with|nil=>simp at h|cons k ks=>simp only[ah2,aik,aW.kv,sk,ahW]at h;simp only[iz,h.1.1,d h.2]
 unfold iB;rw[he];simp only[key b,(ur ks).2 c,bi]
theorem S5{es a:List aW}{ks:List Int}(j:ks.Nodup)(h:es.map aW.kv=ks.map sk)(i:(a.map aW.kv).Perm (es.map aW.kv))(b:Nat):∃c,fi (.map a b) c/\c.Perm ks:=by
 let f:AV×AV->Int:=λp=>match p.1 with|.int _ k=>k|_=>0;have d:((a.map aW.kv).map f).Perm ks:=by
  have:=i.map f;have e:(ks.map sk).map f=ks:=by
   rw[ajy];have:(f∘sk)=id:=by funext k;rfl
   rw[this,List.map_id]
  rw[h,e]at this;exact this
 refine⟨(a.map aW.kv).map f,⟨d.nodup_iff.2 j,a,rfl,?_⟩,d⟩;rw[ajy];have:∀p∈a.map aW.kv,(sk∘f) p=p:=by intro p g;have:=i.mem_iff.1 g;rw[h,aia]at this;obtain⟨k,_,rfl⟩:=this;rfl
 simp_all
theorem ai.iu(H:ai)(c:∀j:ah,H.next.am<=j.am->H.get j=.none)(p:ah->Prop):∃a:ai,a.next=H.next/\∀j,(p j->a.get j=.none)/\(¬p j->a.get j=H.get j):=by
 classical
  refine⟨H.eG (((ah7 H.next.am).map ah.cG).filter λj=>decide (p j)),ai.iK _ _,λj=>?_⟩;rw[ai.ud];constructor
  .intro e;split;·rfl
   rename_i d;refine c j ?_;rcases aiU j.am H.next.am with h|h;·exfalso;apply d;rw[ajE,aia];have b:=ah.ri j;exact⟨⟨j.am - 1,aiO.2 aa,ah.rj (by grind[ah.kA])⟩,by grind⟩
   omega
  grind
end
end
section
def Bw:Nat->aV:=λf=>if ah8 f 1001 then .dL sK else .none
theorem S7{P:Program}:iX P Bw:=by refine⟨?_,?_,?_⟩;all_goals grind[Bw,Nat.eq_of_beq_eq_true,JJ]
theorem S8{ac:az AV}{H:ai}{m N s:ah}{o3:Nat}{k:Int}{b:AV}{a tN:List Int}(e:ac.get .ajS (sl 4)=.map m)(f:ac.get .ajS (sl 5)=.int 3 k)(h3:ac.get .ajS (sl 3)=.aD s o3)(i:aY H s o3=some b)(he:ln H b k=some (.map N))(c:m≠N)(j:iB H m=some a)(l:iA H N=some tN):sK ac H=some (jw ac rB,(H.set N (.cS (du (fx (fR k a) tN)))).skip):=by simp_all[ah.beq,absurd,ah.fg,sK,mW,acg,bF]
theorem bT{i j:ah}(a:i.am≠j.am):i≠j:=λe=>a (congrArg ah.am e)
structure nT(Hs:ai)(m i:ah)(c:az AV)(o cn e fz:Nat)(ks:List Int)(t0:ah->List Int)(olds:List ah)(esx:List aW)(clock:Nat)(l:List Int)(H1:ai)(c':az AV)(nr:Int->ah):Prop where
 nx:Hs.next.am<H1.next.am
 md:∀j,j.am<Hs.next.am->j≠m->j≠i->j∉olds->H1.get j=Hs.get j
 mm:H1.get m=.map esx clock
 ii:H1.get i=.cells c' cn e true [] fz
 new:∀k∈l,c.bp .ajS (o+k.toNat)=.cL->Hs.next.am<(nr k).am/\(nr k).am<H1.next.am/\c'.bp .ajS (o+k.toNat)=.map (nr k)/\∃ks',fi (H1.get (nr k)) ks'/\∀x,x∈ks'↔x∈ks/\x≠k
 inj:∀k k2,k∈l->k2∈l->c.bp .ajS (o+k.toNat)=.cL->c.bp .ajS (o+k2.toNat)=.cL->nr k=nr k2->k=k2
 cc:∀x,(∀k∈l,c.bp .ajS (o+k.toNat)=.cL->x≠o+k.toNat)->c'.bp .ajS x=c.bp .ajS x
 cM:∀k∈ks,∀N,c.bp .ajS (o+k.toNat)=.map N->∃ks',fi (H1.get N) ks'/\∀x,x∈ks'↔x∈t0 N\/(k∈l/\x∈ks/\x≠k)
 only:∀j,Hs.next.am<j.am->H1.get j≠.none->∃k∈l,c.bp .ajS (o+k.toNat)=.cL/\nr k=j
 sub:∀k∈l,k∈ks
theorem nT.set{Hs:ai}{m i:ah}{c:az AV}{o g e fz:Nat}{ks:List Int}{t0:ah->List Int}{h:List ah}{q:List aW}{r:Nat}{l:List Int}{H1:ai}{d:az AV}{p:Int->ah}(J:nT Hs m i c o g e fz ks t0 h q r l H1 d p)(f:bP)(z:m.am<Hs.next.am)(hi:i.am<Hs.next.am)(ef:∀k∈ks,∀N,c.bp .ajS (o+k.toNat)=.map N->N.am<Hs.next.am):nT Hs m i c o g e fz ks t0 h q r l (H1.set Hs.next f) d p:=by
 refine⟨J.nx,λj h1 h2 h3 n=>?_,?_,?_,λk a u=>?_,J.inj,J.cc,λk a N b=>?_,λj hj hg=>?_,J.sub⟩;·rw[ai.aF,an (bT aa)];exact J.md j h1 h2 h3 n
 .rw[ai.aF,an (bT aa)];exact J.mm
 .rw[ai.aF,an (bT aa)];exact J.ii
 .have⟨v,w,x,y⟩:=J.new k a u;refine⟨v,w,x,?_⟩;rw[ai.aF,an (bT aa)];exact y
 .have:=ef k a N b;rw[ai.aF,an (bT aa)];exact J.cM k a N b
 rw[ai.aF,an (bT aa)]at hg;exact J.only j hj hg
section
variable{Hs:ai}{m i s:ah}{c:az AV}{o n g e fz o3 t:Nat}{ex:Bool}{ks:List Int}{t0:ah->List Int}{h:List ah}{q:List aW}{r:Nat}{l:List Int}{H1:ai}{d:az AV}{p:Int->ah}
theorem S9(fk:∀k∈ks,∃j,k=.ofNat j/\j<n/\(c.bp .ajS (o+k.toNat)=.cL\/∃N,c.bp .ajS (o+k.toNat)=.map N/\N≠m/\N≠i/\N.am<Hs.next.am/\N∈h))(fo:∀k f N,k∈ks->f∈ks->c.bp .ajS (o+k.toNat)=.map N->c.bp .ajS (o+f.toNat)=.map N->k=f)(hm:m.am<Hs.next.am)(hi:i.am<Hs.next.am)(J:nT Hs m i c o g e fz ks t0 h q r l H1 d p){I:List Int}(hx:∀x,x∈I↔x∈ks){k:Int}(V:k∈ks)(hA:¬(c.bp .ajS (o+k.toNat)=.cL/\k∉l)):∃N tN,d.bp .ajS (o+k.toNat)=.map N/\m≠N/\N≠i/\N≠Hs.next/\fi (H1.get N) tN/\nT Hs m i c o g e fz ks t0 h q r (l++[k]) ((H1.set N (.cS (du (fx (fR k I) tN)))).skip) d p:=by
 have G:∀tN x,x∈fx (fR k I) tN↔(x∈ks/\x≠k)\/x∈tN:=λtN x=>by rw[mc,rD,hx]
 have v:∀(N j:ah)(H:bP),((H1.set N H).skip).get j=if j=N then H else H1.get j:=λN j H=>ai.aF H1 N j H;have D:∀(N:ah)(H:bP),((H1.set N H).skip).next.am=H1.next.am+1:=λN H=>ah.eX _;have⟨j,ax,hj,L⟩:=fk k V;by_cases z:c.bp .ajS (o+k.toNat)=.cL
 .have E:k∈l:=ain λay=>hA ⟨z,ay⟩;have⟨q1,q2,q3,tN,q4,q5⟩:=J.new k E z;have y:∀f,f∈l++[k]↔f∈l:=λf=>by simp only[adX,abP];exact⟨λay=>ay.elim id λay=>ay▸E,.inl⟩
  refine⟨p k,tN,q3,bT aa,bT aa,bT aa,q4,?_⟩;refine⟨by rw[D];have:=J.nx;omega,λa1 h1 h2 h3 W=>?_,?_,?_,λf u A=>?_,λa b ha hb=>J.inj a b ((y a).1 ha) ((y b).1 hb),λx K=>J.cc x λf u=>K f ((y f).2 u),λf u X w=>?_,λa1 hp hg=>?_,λf u=>J.sub f ((y f).1 u)⟩;·rw[v,an (bT aa)];exact J.md a1 h1 h2 h3 W
  .rw[v,an (bT aa)];exact J.mm
  .rw[v,an (bT aa)];exact J.ii
  .rw[y]at u;have⟨F,M,r3,B,r4,r5⟩:=J.new f u A;refine⟨F,by rw[D];omega,r3,?_⟩;rw[v];by_cases he:f=k;·subst he;rw[aG rfl];exact⟨_,uw (pf _ q4.1),λx=>by rw[G,q5];simp⟩
   rw[an λay=>he (J.inj f k u E A z ay)];exact⟨B,r4,r5⟩
  .have⟨B,F,M⟩:=J.cM f u X w;obtain⟨_,_,_,O|⟨N',O,_,_,ag,_⟩⟩:=fk f u;·rw[O]at w;cases w
   rw[O]at w;injection w with w;subst w;rw[v,an (bT aa)];exact⟨B,F,λx=>by rw[M,y]⟩
  rw[v]at hg;split at hg;·rename_i he;exact⟨k,(y k).2 E,z,he.symm⟩
  obtain⟨f,F,M⟩:=J.only a1 hp hg;exact⟨f,(y f).2 F,M⟩
 have⟨N,Y,Q,R,ag,av⟩:=L.resolve_left z;have⟨tN,F,M⟩:=J.cM k V N Y;have aw:d.bp .ajS (o+k.toNat)=.map N:=by
  rw[J.cc _ λf u A he=>?_];·exact Y
  rw[<-he]at A;exact z A
 have C:∀f,f∈l++[k]->c.bp .ajS (o+f.toNat)=.cL->f∈l:=λf ay O=>by
  rcases adX.1 ay with ay|ay;·exact ay
  rw[abP]at ay;subst ay;exact absurd O z
 refine⟨N,tN,aw,ajJ Q,R,bT aa,F,?_⟩;refine⟨by rw[D];have:=J.nx;omega,λa1 h1 h2 h3 W=>?_,?_,?_,λf u A=>?_,λa b ha hb S T=>J.inj a b (C a ha S) (C b hb T) S T,λx K=>J.cc x λf u=>K f (ah1 _ u),λf u X w=>?_,λa1 hp hg=>?_,λf u=>?_⟩;·rw[v,an (λay:a1=N=>W (ay▸av))];exact J.md a1 h1 h2 h3 W
 .rw[v,an (ajJ Q)];exact J.mm
 .rw[v,an (ajJ R)];exact J.ii
 .have⟨P,Z,s3,s4⟩:=J.new f (C f u A) A;refine⟨P,by rw[D];omega,s3,?_⟩;rw[v,an (bT aa)];exact s4
 .rw[v];by_cases he:f=k
  .subst he;rw[Y]at w;injection w with w;subst w;rw[aG rfl];refine⟨_,uw (pf _ F.1),λx=>?_⟩;rw[G,M];simp only[adX,abP,or_true,true_and];constructor
   .rintro(ay|ay|ay);·exact .inr ay
    .exact .inl ay
    exact .inr ay.2
   rintro(ay|ay);·exact .inr (.inl ay)
   exact .inl ay
  rw[an λay:X=N=>he (fo f k N u V (ay▸w) Y)];have⟨B,P,Z⟩:=J.cM f u X w;exact⟨B,P,λx=>by rw[Z,adX,abP];simp[he]⟩
 .rw[v]at hg;rw[an (bT aa)]at hg;obtain⟨f,P,Z⟩:=J.only a1 hp hg;exact⟨f,ah1 _ P,Z⟩
 rcases adX.1 u with ay|ay;·exact J.sub f ay
 rw[abP]at ay;rw[ay];exact V
theorem Ta(M:∀k∈ks,∃j,k=.ofNat j/\j<n/\(c.bp .ajS (o+k.toNat)=.cL\/∃N,c.bp .ajS (o+k.toNat)=.map N/\N≠m/\N≠i/\N.am<Hs.next.am/\N∈h))(hm:m.am<Hs.next.am)(hi:i.am<Hs.next.am)(H:m≠i)(J:nT Hs m i c o g e fz ks t0 h q r l H1 d p){w:List Int}(Q:∀x,x∈w↔x∈ks){k:Int}(R:k∈ks)(y:c.bp .ajS (o+k.toNat)=.cL)(I:k∉l):d.bp .ajS (o+k.toNat)=.cL/\nT Hs m i c o g e fz ks t0 h q r (l++[k]) (((((H1.new (.map [] 0)).set i (.cells (ez d (o+k.toNat) [.map H1.next]) g e true [] fz))).set H1.next (.cS (du (fx (fR k w) [])))).skip) (ez d (o+k.toNat) [.map H1.next]) (λx=>if x=k then H1.next else p x):=by
 have P:∀x,x∈fx (fR k w) []↔(x∈ks/\x≠k):=λx=>by rw[mc,rD,Q];simp
 have S:=J.nx;have v:∀j:ah,((((H1.new (.map [] 0)).set i (.cells (ez d (o+k.toNat) [.map H1.next]) g e true [] fz)).set H1.next (.cS (du (fx (fR k w) [])))).skip).get j=if j=H1.next then .cS (du (fx (fR k w) []))else if j=i then .cells (ez d (o+k.toNat) [.map H1.next]) g e true [] fz else H1.get j:=by
  intro j;show(((H1.new (.map [] 0)).set i _).set H1.next _).get j=_;rw[ai.aF];split;·rfl
  rename_i aw;rw[ai.aF];split;·rfl
  rw[ai.cO,an aw]
 have ag:((((H1.new (.map [] 0)).set i (.cells (ez d (o+k.toNat) [.map H1.next]) g e true [] fz)).set H1.next (.cS (du (fx (fR k w) [])))).skip).next.am=H1.next.am+2:=by show H1.next.succ.succ.am=_;rw[ah.eX,ah.eX]
 have E:∀u∈ks,o+k.toNat=o+u.toNat->u=k:=by intro u f he;obtain⟨j,rfl,_⟩:=M k R;obtain⟨G,rfl,_⟩:=M u f;have e1:(aiC j).toNat=j:=rfl;have e2:(aiC G).toNat=G:=rfl;rw[e1,e2]at he;have:G=j:=aa;rw[this]
 have K:d.bp .ajS (o+k.toNat)=.cL:=by rw[J.cc _ λu f z he=>I (E u (J.sub u f) he▸f)];exact y
 have T:∀x,(ez d (o+k.toNat) [.map H1.next]).bp .ajS x=if x=o+k.toNat then .map H1.next else d.bp .ajS x:=by
  intro x;rw[li];by_cases A:x=o+k.toNat;·subst A;simp
  rw[an (by simp;omega),an A]
 refine⟨K,aa,λax h1 h2 h3 V=>?_,?_,?_,λu f z=>?_,λa b O hb B C he=>?_,λx D=>?_,λu f W L=>?_,λax X hg=>?_,λu f=>?_⟩;·rw[v,an (bT aa),an h3];exact J.md ax h1 h2 h3 V
 .rw[v,an (bT aa),an H];exact J.mm
 .grind
 .by_cases he:u=k;·subst he;simp only[bi];refine⟨S,aa,by grind,?_⟩;rw[v,aG rfl];grind[uw,pf,List.nodup_nil]
  have F:u∈l:=by
   rcases adX.1 f with aw|aw;·exact aw
   rw[abP]at aw;exact absurd aw he
  simp only[an he];have⟨Y,Z,s3,s4⟩:=J.new u F z;grind
 .have hl:∀x,x∈l++[k]->x≠k->x∈l:=λx aw h'=>by
   rcases adX.1 aw with aw|aw;·exact aw
   rw[abP]at aw;exact absurd aw h'
  by_cases e1:a=k<;>by_cases e2:b=k;·rw[e1,e2]
  .simp only[aG e1,an e2]at he;have:=(J.new b (hl b hb e2) C).2.1;rw[<-he]at this;omega
  .simp only[aG e2,an e1]at he;have:=(J.new a (hl a O e1) B).2.1;rw[he]at this;omega
  simp only[an e1,an e2]at he;exact J.inj a b (hl a O e1) (hl b hb e2) B C he
 .rw[T,an (D k aC y)];exact J.cc x λu f=>D u (ah1 _ f)
 .have⟨av,r1,r2⟩:=J.cM u f W L;grind
 .rw[v]at hg;by_cases he:ax=H1.next;·grind
  rw[an he,an (bT aa)]at hg;have⟨u,Y,Z,s3⟩:=J.only ax X hg;grind
 rcases adX.1 f with aw|aw;·exact J.sub u aw
 grind
end
end
section
theorem wY{o:bP}{ks:List Int}(c:fi o ks):o≠.none/\o.aK=[]/\o.jL=false/\o.len=0:=by have⟨_,es,c,_⟩:=c;cases o<;>simp[dB]at c<;>simp[bP.aK,bP.jL,bP.len]
theorem Tc{ac:az AV}{H:ai}{x:aJ}(e:gv ac x=.cL):aH (.eq false .map x (.c .cL)) ac H=some (.bool true,H):=by simp only[aH,e,wU];rfl
theorem Td{ac:az AV}{H:ai}{x:aJ}{N:ah}(e:gv ac x=.map N):aH (.eq false .map x (.c .cL)) ac H=some (.bool false,H):=by simp only[aH,e,wU];rfl
section
variable{P:Program}{Hs:ai}{m i b:ah}{c:az AV}{o n a e fz o3 f:Nat}{ex:Bool}{ks:List Int}{t0:ah->List Int}{g:List ah}{h:List aW}{p:Nat}{l:List Int}{H1:ai}{d:az AV}{q:Int->ah}
theorem Te{ac:az AV}{bA:List ah}{bz:Option ah}{k:Int}(M:∀k∈ks,∃j,k=.ofNat j/\j<n/\(c.bp .ajS (o+k.toNat)=.cL\/∃N,c.bp .ajS (o+k.toNat)=.map N/\N≠m/\N≠i/\N.am<Hs.next.am/\N∈g))(fo:∀k O N,k∈ks->O∈ks->c.bp .ajS (o+k.toNat)=.map N->c.bp .ajS (o+O.toNat)=.map N->k=O)(hm:m.am<Hs.next.am)(hi:i.am<Hs.next.am)(F:m≠i)(h3:b.am<Hs.next.am)(V:b≠m)(G:b≠i)(W:b∉g)(ay:fz<=o)(a1:o+n<=a)(X:aY Hs b o3=some (.slice i o n f ex))(P:k∈ks){z:List Int}(Y:fi (.map h p) z)(hx:∀x,x∈z↔x∈ks)(Q:ac.get .ajS (sl 3)=.aD b o3)(e4:ac.get .ajS (sl 4)=.map m)(I:ac.get .ajS (sl 5)=.int 3 k)(J:nT Hs m i c o a e fz ks t0 g h p l H1 d q):Xc Bw 60 Jv ⟨ac,bA,bz⟩ H1 λj fr1 D=>j=.none/\fr1.bA=bA/\fr1.bz=bz/\(∀t,t∉nR->fr1.ac.get .ajS t=ac.get .ajS t)/\fr1.ac.get .ajS (sl 17)=ac.get .ajS (sl 17)/\D.get Hs.next=H1.get Hs.next/\∃c2 s,nT Hs m i c o a e fz ks t0 g h p (l++[k]) D c2 s:=by
 have⟨j,A,hj,ax⟩:=M k P;have v:o+k.toNat=o+j:=by rw[A];rfl
 have hJ:=J.nx;have u:aY H1 b o3=some (.slice i o n f ex):=by rw[mX (J.md b h3 V G W)];exact X
 have w:∀{r:ai}{y:az AV},r.get i=.cells y a e true [] fz->aY r i (o+j)=some (y.bp .ajS (o+j)):=λa'=>by unfold aY;rw[a'];simp only[show aiu (o+j) a=true from ajP aiV aa,bi]
 have B:∀{r:ai}{y:az AV}{N:ah},r.get i=.cells y a e true [] fz->y.bp .ajS (o+k.toNat)=.map N->ln r (.slice i o n f ex) k=some (.map N):=λa' h'=>by rw[A];simp only[ln,show aiu j n=true from ajP aiV hj,bi,w a'];rw[<-v,h']
 have aq:∀(E:az AV)(r:ai)(N:ah)(tN:List Int)(y c2:az AV)(s:Int->ah),(∀t,t∉nR->E.get .ajS t=ac.get .ajS t)->E.get .ajS (sl 17)=ac.get .ajS (sl 17)->E.get .ajS (sl 5)=.int 3 k->aY r b o3=some (.slice i o n f ex)->r.get i=.cells y a e true [] fz->y.bp .ajS (o+k.toNat)=.map N->m≠N->r.get m=.map h p->fi (r.get N) tN->Hs.next≠N->r.get Hs.next=H1.get Hs.next->nT Hs m i c o a e fz ks t0 g h p (l++[k]) ((r.set N (.cS (du (fx (fR k z) tN)))).skip) c2 s->Xc Bw 10 (.dL 1001) ⟨E,bA,bz⟩ r λj fr1 D=>j=.none/\fr1.bA=bA/\fr1.bz=bz/\(∀t,t∉nR->fr1.ac.get .ajS t=ac.get .ajS t)/\fr1.ac.get .ajS (sl 17)=ac.get .ajS (sl 17)/\D.get Hs.next=H1.get Hs.next/\∃c2 s,nT Hs m i c o a e fz ks t0 g h p (l++[k]) D c2 s:=by
  intro E r N tN y c2 s R a2 a3 a4 a5 a6 a7 a8 a9 Z ag av;have b3:E.get .ajS (sl 3)=.aD b o3:=(R _ bx).trans Q;have b4:E.get .ajS (sl 4)=.map m:=(R _ bx).trans e4;have aw:iB r m=some z:=JV (by rw[a8];exact Y);have H:∀t,t∈rB->t∈nR:=bx;refine Xc.dL (n:=9) (g:=sK) rfl (S8 b4 a3 b3 a4 (B a5 a6) a7 aw (SZ a9)) ⟨rfl,rfl,rfl,λt C=>?_,?_,?_,c2,s,av⟩;·show(jw E rB).get .ajS t=_;rw[zb,an λa'=>C (H t a')];exact R t C
  .show(jw E rB).get .ajS (sl 17)=_;rw[zb,an bx];exact a2
  show(r.set N _).get Hs.next=_;rw[ai.aF,an Z];exact ag
 refine Xc.hZ (n:=50) (m:=10) (k:=59) aa aa (Xc.hZ (n:=48) (m:=48) (k:=49) aa aa (Xc.region (n:=47) ?_));refine Xo.op (n:=46) (v:=.slice i o n f ex) (H':=H1) (im (by simp[gv];exact Q) u) ?_;refine Xo.op (n:=45) (v:=.int 3 k) (H':=H1) (by simp[aH,gv,aO,az.aF,bE];exact I) ?_;refine Xo.op (n:=44) (v:=.aD i (o+j)) (H':=H1) (sN (n:=n) (c:=f) (e:=ex) (j:=j) (k:=3) (by simp[gv,aO,az.aF,bE]) (by simp[gv,aO,az.aF,bE];exact A) hj) ?_;refine Xo.op (n:=43) (v:=d.bp .ajS (o+j)) (H':=H1) (im (by simp[gv,aO,az.aF,bE]) (w J.ii)) ?_;by_cases S:c.bp .ajS (o+k.toNat)=.cL/\k∉l
 .have⟨K,L⟩:=Ta M hm hi F J hx P S.1 S.2;rw[v]at K;refine Xo.op (n:=42) (v:=.bool true) (H':=H1) (Tc (by simp[gv,aO,az.aF,bE,K])) (Xo.nil (n:=41) ?_);refine Xo.op (n:=45) (v:=.slice i o n f ex) (H':=H1) (im (by simp[gv,aO,az.aF,bE];exact Q) u) ?_;refine Xo.op (n:=44) (v:=.int 3 k) (H':=H1) (by simp[aH,gv,aO,az.aF,bE];exact I) ?_;refine Xo.op (n:=43) (v:=.map H1.next) (H':=H1.new (.map [] 0)) rfl ?_;refine Xo.op (n:=42) (v:=.aD i (o+j)) (H':=H1.new (.map [] 0)) (sN (n:=n) (c:=f) (e:=ex) (j:=j) (k:=3) (by simp[gv,aO,az.aF,bE]) (by simp[gv,aO,az.aF,bE];exact A) hj) ?_;have gi:(H1.new (.map [] 0)).get i=.cells d a e true [] fz:=by rw[ai.cO,an (bT aa)];exact J.ii
  have wr:gF (H1.new (.map [] 0)) i (o+j) [.map H1.next]=some ((H1.new (.map [] 0)).set i (.cells (ez d (o+j) [.map H1.next]) a e true [] fz)):=by
   unfold gF;rw[gi];have e1:decide (fz<=o+j)=true:=by simp;omega
   have e2:decide (o+j+([.map H1.next]:List AV).length<=a)=true:=by simp;omega
   simp only[e1,e2,ajB];rfl
  refine Xo.op (n:=41) (v:=.ajS) (H':=(H1.new (.map [] 0)).set i (.cells (ez d (o+j) [.map H1.next]) a e true [] fz)) ?_ (Xo.nil (n:=40) ?_);·simp only[aH,gv,aO,az.aF,bE,bi];simp[AV.cells,wr]
  have T:∀ba:ah,ba≠i->ba≠H1.next->((H1.new (.map [] 0)).set i (.cells (ez d (o+j) [.map H1.next]) a e true [] fz)).get ba=H1.get ba:=λba p1 p2=>by rw[ai.aF,an p1,ai.cO,an p2]
  rw[v]at L;refine aq _ _ H1.next [] _ _ _ ?_ ?_ ?_ ?_ (by rw[ai.aF,aG rfl]) ?_ (bT aa) ?_ ?_ (bT aa) ?_ L;·intro t C;have:t∉ [sl 22,sl 23,sl 24,sl 25,sl 26,sl 27,sl 28,sl 29,sl 30]:=λa'=>C ((by decide:∀t∈ [sl 22,sl 23,sl 24,sl 25,sl 26,sl 27,sl 28,sl 29,sl 30],t∈nR) t a');simp only[acT,aie,or_false,not_or]at this;simp[aO,az.aF,this]
  .simp[aO,az.aF,bE]
  .simp[aO,az.aF,bE];exact I
  .rw[mX (T b G (bT aa))];exact u
  .rw[v,li];simp
  .rw[T m F (bT aa)];exact J.mm
  .rw[ai.aF,an (bT aa),ai.cO,aG rfl];exact⟨ajD,[],rfl,rfl⟩
  exact T _ (bT aa) (bT aa)
 have⟨N,tN,g1,g2,g3,g4,g5,L⟩:=S9 M fo hm hi J hx P S;have K:d.bp .ajS (o+j)=.map N:=by rw[<-v];exact g1
 refine Xo.op (n:=42) (v:=.bool false) (H':=H1) (Td (N:=N) (by simp[gv,aO,az.aF,bE,K])) (Xo.nil (n:=41) (aq _ _ N tN d d q ?_ ?_ ?_ u J.ii g1 g2 J.mm g5 (ajJ g4) rfl L));·intro t C;have:t∉ [sl 22,sl 23,sl 24,sl 25,sl 26,sl 27,sl 28,sl 29,sl 30]:=λa'=>C ((by decide:∀t∈ [sl 22,sl 23,sl 24,sl 25,sl 26,sl 27,sl 28,sl 29,sl 30],t∈nR) t a');simp only[acT,aie,or_false,not_or]at this;simp[aO,az.aF,this]
 .simp[aO,az.aF,bE]
 simp[aO,az.aF,bE];exact I
end
end
open Classical in theorem Tf{P:Program}:ul P 1002 wR:=by
 intro Wr ρ H H' w nt fr c1 c2 x y fo b a dz d0 d1 hg hF hI k cs;injection d1 with hx hy;subst hx;subst hy;unfold wR at hg;split at hg;case h_2=>grind
 rename_i m O o3 g1 g2;split at hg;case h_2=>grind
 rename_i i o n fp ex g3;split at hg;case h_2=>grind
 rename_i ks c dx e fz g4 g5;split at hg;case isFalse=>grind
 rename_i a8;split at hg;case h_2=>grind
 rename_i dy HE d2;injection hg with hg;injection hg with d3 d4;subst d3;subst d4;simp only[ah4,aiM]at a8;have⟨⟨⟨d5,bb⟩,bc⟩,aw⟩:=a8;have d6:O≠i:=Bv d5;have bb:=aib bb;have bc:=aib bc;have aw:=(EM _).1 aw;have C:=nS g4;have wH:∀j:ah,H.get j≠.none->j.am<H.next.am:=λj hj=>by
  rcases aiU j.am H.next.am with h|h;·exact h
  exact absurd (hI.dc j h).1 hj
 have Z:∀N t,iA H N=some t->N.am<H.next.am:=λN t h=>wH N (wY (nS h)).1;have⟨s1,s2,s3,s4,s5,nm,s6,s7,s8⟩:=EN d2 Z C.1 aw;have cE:m.am<H.next.am:=Z m ks g4;have cR:i.am<H.next.am:=wH i (by rw[g5];simp);have c8:O.am<H.next.am:=by have⟨_,_,_,_,_,_,q,_⟩:=uy g3;exact wH O (by rw[q];simp)
 have cf:m≠i:=by rintro rfl;have⟨_,es,q,_⟩:=C;rw[g5]at q;simp[dB]at q
 have d7:O≠m:=by rintro rfl;have⟨_,es,q,_⟩:=C;have⟨_,_,_,_,_,_,q',_⟩:=uy g3;rw[q']at q;simp[dB]at q
 let g:=jx c o ks;have ef:∀N,N∈g->∃k∈ks,∃t0,c.bp .ajS (o+k.toNat)=.map N/\N≠m/\iA H N=some t0/\HE.get N=.cS (du (fx (fR k ks) t0)):=by
  intro N B;have⟨k,h1,h2⟩:=sO.1 B;obtain⟨j,_,_,h3|⟨N',t0,h3,h4,L,h6⟩⟩:=s1 k h1;·rw[h3]at h2;cases h2
  rw[h3]at h2;injection h2 with h2;subst h2;exact⟨k,h1,t0,h3,h4,L,h6⟩
 have d':i∉g:=λh=>by have⟨_,_,t0,_,_,L,_⟩:=ef i h;have⟨_,es,q,_⟩:=nS L;rw[g5]at q;simp[dB]at q
 have ea:O∉g:=λh=>by have⟨_,_,t0,_,_,L,_⟩:=ef O h;have⟨_,es,q,_⟩:=nS L;have⟨_,_,_,_,_,_,q',_⟩:=uy g3;rw[q']at q;simp[dB]at q
 let hl:ah->Prop:=λj=>(H.get j).lP/\j≠O/\j≠i/\j≠m/\j∉g;have eb:¬hl O:=λh=>h.2.1 rfl;have ec:¬hl i:=λh=>h.2.2.1 rfl;have ei:¬hl m:=λh=>h.2.2.2.1 rfl;have ej:∀N,N∈g->¬hl N:=λN B h=>h.2.2.2.2 B;have bv:∀j,H.next.am<=j.am->¬hl j:=λj hj h=>h.1.2.2 (hI.dc j hj).1;have⟨Hs,s,ax⟩:=H.iu (λj h=>(hI.dc j h).1) hl;have W:bo P (Wr.iY ρ hl λ_=>False) ρ Hs w:=hI.lm (λi h=>h.1) (λ_ h=>h.elim) s (λj=>by
  by_cases h:hl j;·exact .inr ((ax j).1 h)
  exact .inl ((ax j).2 h)) (λj h=>(ax j).1 h);have S:∀j,¬hl j->Hs.get j=H.get j:=λj h=>(ax j).2 h;let p:ai:=((HE.set i (.cells dy dx e true [] fz)).set m (.cS (du ks))).skip;have r:∀j,p.get j=if j=m then .cS (du ks)else if j=i then .cells dy dx e true [] fz else HE.get j:=λj=>by
  show((HE.set i _).set m _).get j=_;rw[ai.aF];split;·rfl
  rw[ai.aF]
 have K:p.next.am=HE.next.am+1:=ah.eX _;have ca:∀j:ah,p.next.am<=j.am->p.get j=.none:=λj hj=>by rw[K]at hj;rw[r,an (bT aa),an (bT aa),s4 j aa];exact(hI.dc j aa).1
 have⟨Rs,b0,cn⟩:=p.iu ca hl;have gr:∀j,¬hl j->Rs.get j=p.get j:=λj h=>(cn j).2 h;have fk:∀k∈ks,∃j,k=.ofNat j/\j<n/\(c.bp .ajS (o+k.toNat)=.cL\/∃N,c.bp .ajS (o+k.toNat)=.map N/\N≠m/\N≠i/\N.am<Hs.next.am/\N∈g):=by
  intro k z;obtain⟨j,h1,h2,h3|⟨N,t0,h3,h4,L,h6⟩⟩:=s1 k z;·exact⟨j,h1,h2,.inl h3⟩
  have B:N∈g:=sO.2 ⟨k,z,h3⟩;exact⟨j,h1,h2,.inr ⟨N,h3,h4,λh=>d' (h▸B),by rw[s];exact Z N t0 L,B⟩⟩
 have fq:∀k k2 N,k∈ks->k2∈ks->c.bp .ajS (o+k.toNat)=.map N->c.bp .ajS (o+k2.toNat)=.map N->k=k2:=λk k2 N h1 h2 h3 h4=>JU aw h1 h2 h3 h4;have ag:m.am<Hs.next.am:=by rw[s];exact cE
 have av:i.am<Hs.next.am:=by rw[s];exact cR
 have cd:O.am<Hs.next.am:=by rw[s];exact c8
 have ek:aY Hs O o3=some (.slice i o n fp ex):=by rw[mX (S O eb)];exact g3
 have⟨cp,a',c9,dm⟩:=uv (JV C);have dr:cp.map aW.kv=ks.map sk:=by have⟨_,es,M,q2⟩:=C;rw[a']at M;injection M with M;subst M;exact q2
 let t0:ah->List Int:=λN=>(iA H N).getD [];have el:fr=⟨fr.ac,fr.bA,fr.bz⟩:=rfl;have ds:gP P (Wr.iY ρ hl λ_=>False) ρ nt w b k cs (lone (b.atR a (.code (.seq c1 c2)::k)) cs w) λj fr1 H1=>j=.none/\fr1={fr with ac:=jw fr.ac nR}/\H1=Rs:=by
  refine EG S7 dz d0 (ch:=nR) bx bx bx bx bx bx bx bx bx bx bx bx bx hF W (m:=m) (es:=cp) (ks:=ks) (by rw[S m ei];exact a') c9 20 60 ?_ (J:=λu d l H1=>(∃G,fi (.map u d) G/\∀x,x∈G↔x∈ks)/\∃c' T,nT Hs m i c o dx e fz ks t0 g u d l H1 c' T) ?_ ?_ ?_ ?_ ?_ k cs
  .intro u d;rw[el];refine Xc.region (n:=19) (Xo.op (n:=18) (v:=.map m) (H':=Hs.set m (.map u d)) (by simp[aH,gv,g1]) ?_);refine Xo.op (n:=17) (v:=.aD Hs.next 0) (H':=(Hs.set m (.map u d)).new (.mapIter (some m) d [] d)) (by simp[aH,gv,aO,az.aF,bE,ai.aF];rfl) (Xo.nil (n:=16) ?_);refine⟨rfl,rfl,rfl,?_,?_,rfl⟩;·intro t ht;have:t∉ [sl 16,sl 17]:=λh=>ht ((by decide:∀t∈ [sl 16,sl 17],t∈nR) t h);simp only[acT,aie,or_false,not_or]at this;simp[aO,az.aF,this]
   simp[aO,az.aF,bE]
  .intro u d hp;have⟨G,M,q2⟩:=S5 dm dr hp d;refine⟨⟨G,M,λx=>q2.mem_iff⟩,c,λ_=>.xH,?_⟩;have F:∀j:ah,((Hs.set m (.map u d)).new (.mapIter (some m) d [] d)).get j=if j=Hs.next then .mapIter (some m) d [] d else if j=m then .map u d else Hs.get j:=λj=>by rw[ai.cO,ai.eH,ai.aF]
   refine⟨by show Hs.next.am<Hs.next.succ.am;rw[ah.eX];omega,λj h1 h2 h3 h4=>?_,?_,?_,aC,aC,λ_ _=>rfl,λk z N B=>?_,λj hj hg=>?_,aC⟩;·rw[F,an (bT aa),an h2]
   .rw[F,an (bT aa),aG rfl]
   .rw[F,an (bT aa),an (ajJ cf),S i ec];exact g5
   .obtain⟨_,_,_,h'|⟨N',h',et,_,cv,cx⟩⟩:=fk k z;·rw[h']at B;cases B
    rw[h']at B;injection B with B;subst B;have⟨_,_,tt,_,_,L,_⟩:=ef N' cx;rw[F,an (bT aa),an et,S N' (ej N' cx)];refine⟨tt,nS L,λx=>?_⟩;have:t0 N'=tt:=by show(iA H N').getD []=tt;rw[L];rfl
    rw[this];simp
   rw[F,an (bT aa),an (bT aa)]at hg;rw[s]at hj;rw[S j (bv j aa)]at hg;exact absurd (hI.dc j aa).1 hg
  .rintro u d l H1 it⟨M,c',T,J⟩;refine⟨M,c',T,J.set it ag av λk z N B=>?_⟩;obtain⟨_,_,_,h'|⟨N',h',_,_,cv,_⟩⟩:=fk k z;·rw[h']at B;cases B
   rw[h']at B;injection B with B;subst B;exact cv
  .rintro u d l H1⟨_,c',T,J⟩;exact J.mm
  .rintro u d l ac H1 kk ew⟨⟨G,M,q2⟩,c',T,J⟩he e0;have fs:ac.get .ajS (sl 3)=.aD O o3:=(he _ bx).trans g2;have f0:ac.get .ajS (sl 4)=.map m:=(he _ bx).trans g1;refine(Te fk fq ag av cf cd d7 d6 ea bb bc ek ew M q2 fs f0 e0 J).mono (afM _) ?_;rintro j fr1 H2⟨r1,r2,r3,r4,r5,r6,e4,e5,J2⟩;exact⟨r1,r2,r3,λt ht=>(r4 t ht).trans (he t ht),r5,r6,⟨G,M,q2⟩,e4,e5,J2⟩
  rintro u d l H1 Q w' R⟨⟨G,b3,e6⟩,c',T,J⟩ay e7 _;let new:ah->Prop:=λj=>∃k,k∈ks/\c.bp .ajS (o+k.toNat)=.cL/\nm k=j;let σ:ah->ah:=λj=>if h:new j then T (Classical.choose h)else j;have a1:∀k,k∈ks->c.bp .ajS (o+k.toNat)=.cL->σ (nm k)=T k:=by intro k z hn;have X:new (nm k):=⟨k,z,hn,rfl⟩;have D:=Classical.choose_spec X;have:Classical.choose X=k:=s7 _ _ D.1 z D.2.1 hn D.2.2;show(if h:new (nm k)then T (Classical.choose h)else nm k)=T k;rw[dif_pos X,this]
  let a2:aM:=⟨λj=>if j.am<Hs.next.am then ρ j else if new j then Q (σ j)else none,Q.k⟩;have dv:∀k,k∈ks->c.bp .ajS (o+k.toNat)=.cL->a2 (nm k)=Q (T k):=by intro k z hn;have X:new (nm k):=⟨k,z,hn,rfl⟩;have:=(s6 k z hn).1;show(if(nm k).am<Hs.next.am then ρ (nm k)else if new (nm k)then Q (σ (nm k))else none)=_;rw[an (by rw[s];omega),aG X,a1 k z hn]
  have ba:bZ ρ a2:=by
   intro j x hj;refine⟨?_,(ay j x hj).2⟩;show(if j.am<Hs.next.am then ρ j else _)=_;rcases aiU j.am Hs.next.am with h|h;·rw[aG h];exact hj
   rw[(W.dc j h).2]at hj;cases hj
  refine⟨a2,bo.EK W ay e7 (by rw[b0,K,s];omega) σ new a2 rfl ?_ ?_ ?_ ?_⟩
  .intro j hj hg;rw[s]at hj;rw[gr j (bv j hj),r,an (bT aa),an (bT aa)]at hg;rcases aiU j.am HE.next.am with h|h;·have⟨k,h1,h2,h3⟩:=s8 j hj h;exact⟨k,h1,h2,h3⟩
   rw[s4 j h]at hg;exact absurd (hI.dc j hj).1 hg
  .rintro j⟨k,z,hn,rfl⟩;have⟨M,q2,q3,q4⟩:=s6 k z hn;have⟨r1,r2,r3,e8,r4,r5⟩:=J.new k ((R k).2 z) hn;have e9:Rs.get (nm k)=.cS (du (fR k ks)):=by rw[gr _ (bv _ M),r,an (bT aa),an (bT aa)];exact q3
   have D:=wY r4;rw[a1 k z hn,e9];refine⟨by rw[s];exact M,by rw[b0,K];omega,aa,D.1,D.2.1,D.2.2.1,rfl,rfl,D.2.2.2,λx V f=>OR.ux r4 ?_ f,λq V _=>by simp[eP]⟩;refine(List.perm_ext_iff_of_nodup r4.1 (Bs C.1)).2 λx=>?_;rw[r5,rD]
  .rintro j1 j2⟨k1,h1,n1,rfl⟩⟨k2,h2,n2,rfl⟩he;rw[a1 k1 h1 n1,a1 k2 h2 n2]at he;rw[J.inj k1 k2 ((R k1).2 h1) ((R k2).2 h2) n1 n2 he]
  intro j hj hg;rw[s]at hj;have E:¬hl j:=λh=>hg ((cn j).1 h);rw[gr j E]at hg⊢;rw[S j E];by_cases e1:j=m
  .subst e1;have p1:=wY C;have p2:=wY b3;have hr:p.get j=.cS (du ks):=by rw[r,aG rfl]
   rw[hr,J.mm];exact⟨p1.1,aC,p1.2.1▸rfl,p1.2.1▸rfl,rfl,rfl,λx V f=>OR.ux b3 ((List.perm_ext_iff_of_nodup b3.1 C.1).2 e6) f,λq V _=>by simp[eP]⟩
  by_cases e2:j=i
  .subst e2;have hr:p.get j=.cells dy dx e true [] fz:=by rw[r,an e1,aG rfl]
   rw[hr,J.ii,g5];refine⟨aC,aC,rfl,rfl,rfl,rfl,λx V f=>?_,λq V hq=>?_⟩
   .obtain⟨f1,x0,cy,_,_,A⟩:=W.dp j (by rw[S j E,g5];simp);rw[S j E,g5]at A;cases cy<;>simp only[OR]at A;cases V<;>simp only[OR]at f⊢;refine⟨f.1,f.2.1,λy hy=>?_,f.2.2.2⟩;have⟨v,e',I⟩:=f.2.2.1 y hy;refine⟨v,e',?_⟩;by_cases z:∃k,k∈ks/\c.bp .ajS (o+k.toNat)=.cL/\y=o+k.toNat
    .have⟨k,b4,b6,fa⟩:=z;subst fa;rw[(s6 k b4 b6).2.2.2];rw[(J.new k ((R k).2 b4) b6).2.2.1]at I;cases v with
     |map fl=>cases fl with|none=>simp[VR]at I|some fl=>simp only[VR]at I⊢;rw[dv k b4 b6];exact I
     |_=>simp[VR]at I
    have h1:c'.bp .ajS y=c.bp .ajS y:=J.cc y λk b7 b' he=>z ⟨k,(R k).1 b7,b',he⟩;have h2:dy.bp .ajS y=c.bp .ajS y:=s5 y λk b7 b' he=>z ⟨k,b7,b',he⟩;rw[h1]at I;rw[h2];have⟨v0,_,fb⟩:=A.2.2.1 y hy;exact VR.mono ba _ _ (VR.eR ay _ _ _ fb I)
   cases V<;>simp only[eP]at hq⊢;exact hq
  by_cases e3:j∈g
  .have⟨k,z,tt,h3,h4,L,h6⟩:=ef j e3;have hr:p.get j=.cS (du (fx (fR k ks) tt)):=by rw[r,an e1,an e2];exact h6
   have⟨e8,r1,r2⟩:=J.cM k z j h3;have p1:=wY (nS L);have p2:=wY r1;rw[hr];refine⟨p1.1,p2.1,p2.2.1.trans p1.2.1.symm,p1.2.1▸rfl,p2.2.2.1,p2.2.2.2,λx V f=>OR.ux r1 ((List.perm_ext_iff_of_nodup r1.1 (pf _ (nS L).1)).2 λx=>?_) f,λq V _=>by simp[eP]⟩;have:t0 j=tt:=by show(iA H j).getD []=tt;rw[L];rfl
   rw[r2,this,mc,rD,R];constructor
   .rintro(h|⟨_,h⟩);·exact .inr h
    exact .inl h
   rintro(h|h);·exact .inr ⟨z,h⟩
   exact .inl h
  have h1:H1.get j=H.get j:=by rw[J.md j (by rw[s];exact hj) e1 e2 e3,S j E]
  have hr:p.get j=H.get j:=by rw[r,an e1,an e2,s3 j hj e3]
  rw[hr]at hg⊢;rw[h1];refine⟨hg,hg,rfl,rfl,rfl,rfl,λx V f=>?_,λq V hq=>hq⟩;obtain⟨f1,x0,cy,_,_,A⟩:=W.dp j (by rw[S j E];exact hg);rw[S j E]at A;have a6:∃c n e Y aK fz,H.get j=.cells c n e Y aK fz:=by
   by_cases h3:j=O;·have⟨c,n,e,Y,aK,fz,q,_⟩:=uy g3;rw[h3];exact⟨c,n,e,Y,aK,fz,q⟩
   have fd:¬(H.get j).lP:=λh=>E ⟨h,h3,e2,e1,e3⟩;cases ho:H.get j with|cells c n e Y aK fz=>exact⟨c,n,e,Y,aK,fz,rfl⟩|none=>exact absurd ho hg|_=>exact absurd ⟨by rw[ho];rfl,by rw[ho];rfl,hg⟩ fd
  have⟨_,_,_,_,_,_,hc⟩:=a6;rw[hc]at f A⊢;exact OR.mono ba (OR.JT ay A f)
 obtain⟨j,f3,H',Q,f2,w',t,⟨rfl,rfl,rfl⟩,q2,q3,q4,q5,q6,q7⟩:=ds;have fe:∀j,hl j->p.get j=H.get j:=λj h=>by rw[r,an h.2.2.2.1,an h.2.2.1,s3 j (wH j h.1.2.2) h.2.2.2.2]
 have⟨u1,u2⟩:=hI.EJ (λj h=>h.1) q2 q4 q5 (H2:=p) b0.symm fe (λj h=>(gr j h).symm);exact⟨.none,_,p,Q,f2,w',t,⟨rfl,rfl,rfl⟩,q2,q3,u1,u2,q6,q7⟩
section
variable[Ov]
variable{P:Program}
theorem bo.grow{c:b8}{f:aM}{H:ai}{w w':World}{os:Array Obj}(h:bo P c f H w)(g:w'.heap=w.heap++os)(j:w'.os=w.os)(l:w'.tape=w.tape)(hu:w'.output=w.output):bo P c f H w'/\dj c w w':=by
 have hs:w.heap.size<=w'.heap.size:=by rw[g];simp
 have hb:∀b,b<w.heap.size->w'.heap[b]?=w.heap[b]?:=λb hb=>by rw[g,Array.getElem?_append_left hb]
 have hl:∀{b:Nat}{a:Obj},w.heap[b]?=some a->b<w.heap.size:=λe=>(Array.getElem?_eq_some_iff.1 e).1;refine⟨⟨?_,h.ju,h.aK,h.wr,h.dc,λk d=>h.new k (aji hs d),h.kC,?_,λi b x e=>aim (h.d8 i b x e) hs,h.rd,h.un,h.dM⟩,⟨j,l,hu,hs,λk d _=>hb k d⟩⟩;·intro i hi;have⟨b,x,a,e,h1,h2⟩:=h.dp i hi;grind
 intro i b x a hi e h1;rw[hb b (h.d8 i b x e)]at h1;exact h.iJ i b x a hi e h1
structure EO(P:Program)(f:FuncId):Prop where
 fn:∃fn,P.funcs[f]?=some fn/\(fn.name== "runtime.NumGoroutine")=false/\fn.body.isNone=false
theorem EP{f:FuncId}(j:EO P f){h:b8}{i:aM}{w:World}{argv:Array Value}{R:Ending->World->Prop}(k:Calls P f argv w R){v:AV}{H':ai}(l:∀e w',R e w'->∃c,e=.returned c/\cI P h i w v H' c w')(fr:Frame)(cs:List Frame)(hat:pS fr):wz P h i w (callFunc f argv) fr cs λm b=>m=v/\b=H':=by
 have⟨fn,h1,h2,h3⟩:=j.fn;have a:(callFunc f argv).run P w=.ok (.enter f argv) w:=by simp only[callFunc,Sem.run_bind,run_program,Result.andThen_ok,h1,h2,h3,acg,bF,Sem.run_pure]
 have⟨e,w',p,n,d,_,g⟩:=k (fr::cs);obtain⟨c,rfl,o⟩:=l e w' n;exact⟨v,H',c,w',_,_,_,⟨rfl,rfl⟩,o,IL hat a,(Steps.trans d (.one (step_leave_returned g)))⟩
theorem EQ(x:Int):∀l,(lq x l).Perm (x::l)
 |[]=>ajN _
 |y::l=>by
  simp only[lq];split;·exact((EQ x l).cons y).trans (aiK x y l)
  rfl
theorem sP:∀l,(eI l).Perm l|[]=>ajN _|x::l=>(EQ x (eI l)).trans ((sP l).cons x)
theorem JW(x:Int):∀l,l.Pairwise (·<=·)->(lq x l).Pairwise (·<=·)
 |[],_=>by simp[lq]
 |y::l,h=>by
  simp only[lq];rw[ajc]at h;split
  .rename_i a;rw[kR]at a;have a:y<x:=by simpa using a
   rw[ajc];refine⟨λz b=>?_,JW x l h.2⟩;grind[EQ]
  grind[kR,List.pairwise_cons]
theorem wZ:∀l,(eI l).Pairwise (·<=·)|[]=>ajO|x::l=>JW x _ (wZ l)
theorem Bx:∀{l m:List Int},l.Pairwise (·<=·)->m.Pairwise (·<=·)->l.Perm m->l=m
 |[],m,_,_,h=>(List.nil_perm.1 h).symm
 |a::l,[],_,_,h=>by simp at h
 |a::l,b::m,h1,h2,h=>by
  rw[ajc]at h1 h2;have d:a=b:=by
   have f:a∈b::m:=h.mem_iff.1 (acI ..);have hb:b∈a::l:=h.mem_iff.2 (acI ..);rcases acT.1 f with e|e;·exact e
   rcases acT.1 hb with c|c;·exact c.symm
   have:=h1.1 b c;have:=h2.1 a e;omega
  subst d;rw[Bx h1.2 h2.2 ((List.perm_cons a).1 h)]
theorem Tg{a ks:List Int}(h:a.Perm ks):(a.mergeSort λx y=>decide (x<=y))=eI ks:=by grind[Bx,wZ,List.mergeSort_perm,trans,sP,List.pairwise_mergeSort,decide]
def uC(c:az AV):Nat->Nat->Option (List Int)
 |_,0=>some []
 |o,n+1=>match c.bp .ajS o,uC c (o+1) n with
  |.int 3 z,some l=>some (z::l)
  |_,_=>none
theorem JX{c:az AV}:∀{n o:Nat}{a:List Int},uC c o n=some a->a.length=n/\∀i(h:i<a.length),c.bp .ajS (o+i)=.int 3 (a[i])
 |0,o,a,h=>by simp_all[uC,abv]
 |n+1,o,a,h=>by
  simp only[uC]at h;split at h;·rename_i z l h1 h2;injection h with h;subst h;have⟨b,d⟩:=JX h2;grind
  grind
def pZ(args:List AV)(H:ai):Option (AV×ai):=
 match args with
 |[.bh]=>some (.tuple [],H)
 |[.slice id 0 n _ _]=>match H.get id with
  |.cells c m 3 true aK 0=>if ah8 m n&&aiu 0 n&&ai0 n 4000000 then match uC c 0 n with
    |some a=>some (.tuple [],(H.eG aK).set id (.cells (cq ((eI a).map λz=>.int 3 z)) n 3 true [] 0))
    |none=>none
   else none
  |_=>none
 |_=>none
open Go.Sort in theorem Ti{f:FuncId}(Y:EO P f)(hs:∀(aE off cap:Nat)(d:List Int)(w:World),Holds (Value.int .i64) w aE off d.toArray->aE<w.heap.size->d.length<4611686018427387904->Calls P f #[.slice (some ⟨aE,off,none⟩) d.length cap] w λe w'=>e=.returned (.tuple #[])/\∃n os,w'=grow (putRow (Value.int .i64) (Sort.ahead w n) aE off (d.mergeSort λx y=>decide (x<=y)).toArray) os)(hn:∀(p:Option Addr)(cap:Nat)(w:World),Calls P f #[.slice p 0 cap] w λe w'=>e=.returned (.tuple #[])/\w'=w):uk P f pZ:=by
 intro Z Q H H' w args v argv hg o N fr cs hat;unfold pZ at hg;split at hg
 .injection hg with hg;injection hg with A B;subst A;subst B;have⟨l⟩:=argv;cases l with
  |nil=>trivial
  |cons c l=>
   cases l with
   |cons _ _=>simp[aZ]at o
   |nil=>
    simp only[aZ,and_true]at o;have hc:c=.slice none 0 0:=by exact o.lj
    subst hc;refine EP Y (hn none 0 w) ?_ fr cs hat;rintro e w'⟨rfl,rfl⟩;exact⟨_,rfl,cI.bK N (by trivial)⟩
 .rename_i id n cap ex;split at hg;case h_2=>cases hg
  rename_i c m aK u;split at hg;case isFalse=>cases hg
  rename_i r;simp only[ah4]at r;have⟨⟨C,G⟩,I⟩:=r;have C:=ah5 C;subst C;have G:0<m:=Eq.mp aiV G;have I:=aib I;split at hg;case h_2=>cases hg
  rename_i d hz;injection hg with hg;injection hg with A B;subst A;subst B;have⟨J,T⟩:=JX hz;have⟨l⟩:=argv;cases l with
  |nil=>simp[aZ]at o
  |cons cv l=>
   cases l with
   |cons _ _=>simp[aZ]at o
   |nil=>
    simp only[aZ,and_true]at o;obtain⟨b,x,ob,R,K,q,D⟩:=N.aE (i:=id) (by rw[u];simp);have V:∃cc,cv=.slice (some ⟨b,x,none⟩) m cc:=by
     cases cv with
     |slice a n' cc=>cases a with|none=>simp[VR]at o|some a=>simp only[VR]at o;have⟨h1,h2,h3,h4,b',x',O,h5,h6⟩:=o;rw[R]at O;injection O with O;injection O with q1 q2;subst q1;subst q2;rw[h5 aa,h1];exact⟨cc,rfl⟩
     |_=>simp[VR]at o
    obtain⟨cc,rfl⟩:=V;rw[u]at D;cases ob<;>simp only[OR]at D;rename_i cells el fz;obtain⟨rfl,W,M,s⟩:=D;have hH:Holds (Value.int .i64) w b x d.toArray:=by
     intro j hj;have L:j<d.length:=by simpa using hj
     have⟨y,hy,S⟩:=M j aa;have:=T j L;rw[aif]at this;rw[this]at S;constructor
     .simp only[World.cell?,q,Option.isSome_none,acg,bF,hy];cases y<;>simp only[VR]at S;rename_i kk z;have⟨h1,h2⟩:=S;have:kk=.i64:=by cases kk<;>simp[kc]at h1<;>rfl
      subst this;rw[<-h2];simp[getElem!_pos,L]
     have:=s trivial (x+j) aa aa;have⟨lo,hi⟩:=fz;simp only[World.frozen?,q];simp only at this;simp;omega
    have g:=hs b x cc d w hH K aa;rw[J]at g;refine EP Y g ?_ fr cs hat;rintro e w'⟨rfl,k,os,rfl⟩;refine⟨_,rfl,?_⟩;rw[Tg (ajN d)];have X:(eI d).length=m:=by rw[(sP d).length_eq,J]
    have t:bo P Z Q ((H.eG aK).set id (.cells (cq ((eI d).map λz=>.int 3 z)) m 3 true [] 0)) {w with heap:=w.heap.setIfInBounds b (.cells (putCells (Value.int .i64) x (eI d).toArray cells) 3 fz)}/\dj Z w {w with heap:=w.heap.setIfInBounds b (.cells (putCells (Value.int .i64) x (eI d).toArray cells) 3 fz)}:=by
     have:=N.oW (i:=id) (b:=b) (x:=x) (o':=.cells (cq ((eI d).map λz=>.int 3 z)) m 3 true [] 0) (ob':=.cells (putCells (Value.int .i64) x (eI d).toArray cells) 3 fz) (w':={w with heap:=w.heap.setIfInBounds b (.cells (putCells (Value.int .i64) x (eI d).toArray cells) 3 fz)}) (by rw[u];simp) (by rw[u];rfl) R rfl ?_ ?_ rfl rfl rfl rfl;·rw[u]at this;exact this
     .simp only[OR];refine⟨trivial,by simp[putCells];exact W,λi hi=>?_,λ_ i h1 h2=>s trivial i h1 (by simpa[putCells]using h2)⟩;have E:i<(eI d).length:=aa;refine⟨.int .i64 ((eI d)[i]),?_,?_⟩;·simp only[putCells,Array.getElem?_mapIdx];rw[getElem?_pos cells (x+i) aa];simp[X,hi,E,getElem!_pos]
      rw[nN _ _ (by simpa using E)];simp[List.getD,E,VR,kc]
     have h:=N.iJ id b x _ (by rw[u];simp) R q;rw[u]at h;simp only[eP]at h⊢;rw[h];simp[putCells]
    have F:(grow (putRow (Value.int .i64) (Sort.ahead w k) b x (eI d).toArray) os).heap=w.heap.setIfInBounds b (.cells (putCells (Value.int .i64) x (eI d).toArray cells) 3 fz)++os:=by
     show(w.heap.modify b (onCells _))++os=_;congr 1;apply Array.ext_getElem?;intro i;rw[Array.getElem?_modify,ais];by_cases hi:b=i;·subst hi;rw[aG rfl,aG rfl,q,aG K];rfl
     rw[an hi,an hi]
    have⟨u1,u2⟩:=bo.grow t.1 (w':=grow (putRow (Value.int .i64) (Sort.ahead w k) b x (eI d).toArray) os) (os:=os) F rfl rfl rfl;exact⟨Q,bZ.refl Q,by simp[VR,aZ],u1,t.2.trans u2⟩
 grind
end
section
def ER(b a:Nat):bm:=.seq (.region [bH 2 (.bg (.c .bh))]) (.seq (.region [bH 3 (.bg (tt 0)),bH 4 (.call (.c (.func b [] [])) [tt 3]),bH 5 (.call (.c (.func a [] [])) [tt 4]),bH 2 (.bg (tt 5))]) .ret)
def By(a b:Nat):bm:=.seq (.region [bH 2 (.bg (.c .bh))]) (.seq (.region [bH 4 (.bg (tt 0)),bH 5 (.call (.c (.func a [] [])) [tt 4]),bH 3 (.bg (tt 5))]) (.seq (.region [bH 6 (.bg (tt 3)),bH 7 (.call (.c (.func b [] [])) [tt 6])]) (.seq (.region [bH 8 (.bg (tt 3)),bH 2 (.bg (tt 8))]) .ret)))
def Bz(a e1:Nat):bm:=.seq (.region [bH 1 (.box e1 (tt 0)),bH 2 (.bg (.c .nilFunc))]) (.seq (.region [bH 3 (.lf a [] [tt 1]),bH 2 (.bg (tt 3))]) .ret)
def zg(a:Nat):bm:=.seq (.region [bH 2 (.bg (.c .bh))]) (.seq (.region [bH 3 (.bg (tt 0)),bH 4 (.call (.c (.func a [] [])) [.c .bh,tt 3]),bH 2 (.bg (tt 4))]) .ret)
def Tj:bm:=.seq (.region [bH 10 (.bg (tt 0)),bH 11 (.bg (tt 3)),bH 12 (.call (tt 10) [tt 11]),bH 13 (.unary .not (tt 12))]) (.cond (tt 13) .ret .skip)
def BA:bm:=.seq (.region [bH 4 (.be (tt 1)),bH 5 (.lZ (tt 4))]) (pe 0 1 (sl 5) (sl 6) (sl 7) (sl 8) (sl 9) (sl 3) Tj)
def sQ:bm:=.region [bH 5 (.bg (tt 7))]
def sR:bm:=.block 1 (.region [bH 8 (.be (tt 2)),bH 9 (.bg (tt 5)),bH 10 (.buildSlice 3 1 [.int 3 (.ofNat 0)] [(0,1,tt 9)]),bH 11 (.append 3 8 1 [.int 3 (.ofNat 0)] false (tt 8) (tt 10)),oU (.store 1 (tt 2) (tt 11))])
def uD(e2:Nat):bm:=.seq (.region [bH 2 (.box e2 (tt 0)),bH 4 (.bg (.c .bh))]) (.seq (.seq (.region [bH 6 (.bg (tt 1))]) (.block 0 (.rangeFunc (tt 6) [sl 7] sQ sR))) (.seq (.region [bH 12 (.be (tt 2)),bH 4 (.bg (tt 12))]) .ret))
section
variable[Ov]
variable{ab:Nat->aV}
theorem ES{c:az AV}{n:Nat}:∀{l:List Int}{o:Nat},o+l.length<=n->(∀i(h:i<l.length),c.bp .ajS (o+i)=.int 3 (l[i]))->fW c n o l.length=some (l.map λz=>.int 3 z)|[],o,_,_=>by rfl|z::l,o,h,hg=>by simp only[air,fW,ah2];have h0:c.bp .ajS o=.int 3 z:=hg 0 aC;have a:=ES (c:=c) (n:=n) (l:=l) (o:=o+1) (by simp at h;omega) (λi hi=>by have:=hg (i+1) (by simpa using hi);rw[show o+(i+1)=o+1+i by omega]at this;simpa using this);grind
def qf(H:ai)(lo:Nat)(l:List Int)(a:AV):Prop:=
 (l=[]/\a=.bh)\/∃id c aK,a=.slice id 0 l.length l.length false/\l≠ []/\lo<id.am/\id.am<H.next.am/\H.get id=.cells c l.length 3 true aK 0/\(∀i(h:i<l.length),c.bp .ajS i=.int 3 (l[i]))/\∀p∈aK,lo<p.am
theorem qf.frame{H H':ai}{lo:Nat}{l:List Int}{a:AV}(h:qf H lo l a)(e:H.next.am<=H'.next.am)(hg:∀j:ah,lo<j.am->j.am<H.next.am->H'.get j=H.get j):qf H' lo l a:=by
 rcases h with h|⟨id,c,aK,h1,h2,h3,f,g,b,d⟩;·exact .inl h
 exact .inr ⟨id,c,aK,h1,h2,h3,aa,by grind,b,d⟩
theorem Tk{ac:az AV}{H:ai}{x y:aJ}{g:AV}{T:ah}{lo:Nat}{l:List Int}{k:Int}(m:gv ac x=g)(o:gv ac y=.slice T 0 1 1 true)(r:H.get T=.cells (cq [.int 3 k]) 1 3 true [] 0)(hs:qf H lo l g)(d:lo<H.next.am)(hl:l.length<1000):∃f H',aH (.append 3 8 1 [.int 3 (.ofNat 0)] false x y) ac H=some (f,H')/\H.next.am<=H'.next.am/\(∀j:ah,j.am<=lo->H'.get j=H.get j)/\qf H' lo (l++[k]) f:=by
 have a:fY H 1 (.slice T 0 1 1 true)=some (1,[.int 3 k]):=by
  have:fW (cq [AV.int 3 k]) 1 0 1=some [.int 3 k]:=by have:=ES (c:=cq [AV.int 3 k]) (n:=1) (l:=[k]) (o:=0) aC (λi hi=>by simp only[aiv]at hi;have:i=0:=aa;subst this;rw[nN _ _ aC];rfl);simpa using this
  simp[fY,dE,r,this]
 have b:∀n:Nat,n<=1000->(dT (n*8)&&dT n)=true:=λn B=>by simp only[dT,ah4];exact⟨aiB aa,aiB aa⟩
 rcases hs with⟨rfl,rfl⟩|⟨id,c,aK,rfl,A,h3,C,s,t,u⟩
 .refine⟨.slice H.next 0 1 1 false,H.new (.cells (cq [.int 3 k]) 1 3 true [] 0),?_,?_,?_,?_⟩;·simp only[aH,acg,bF,m,o,a,je];have:=b 1 aa;simp[cU,AV.cW,dT]
  .show _<=H.next.succ.am;rw[ah.eX];omega
  .intro j hj;rw[ai.cO,an (bT aa)]
  refine .inr ⟨H.next,cq [.int 3 k],[],rfl,aC,d,by show _<H.next.succ.am;rw[ah.eX];omega,by rw[ai.cO,aG rfl];rfl,λi hi=>?_,aC⟩;simp only[aiY,aiv]at hi;have:i=0:=aa;subst this;rw[nN _ _ aC];rfl
 have hrd:fW c l.length 0 (l.length*1)=some (l.map λz=>.int 3 z):=by rw[ajo];exact ES aa λi hi=>by rw[aif];exact t i hi
 have q:id≠H.next:=bT aa;refine⟨.slice H.next 0 (l.length+1) (l.length+1) false,(H.set id (.cells c l.length 3 false aK 0)).new (.cells (cq ((l.map λz=>.int 3 z)++[.int 3 k])) ((l.length+1)*1) 3 true (id::aK) (0 - 0)),?_,?_,?_,?_⟩
 .simp only[aH,acg,bF,m,o,a,je];have hb:=b (l.length+1) aa;have h1:cU [.int 3 k]=true:=rfl;have h2:ai0 (l.length+1) l.length=false:=by cases h:ai0 (l.length+1) l.length with|false=>rfl|true=>have:=aib h;omega
  have v:(true&&ah8 l.length l.length&&ah8 (0+l.length*1) l.length&&ah8 3 3&&ai0 0 l.length)=true:=by simp[aje]
  simp only[h1,h2,hb,s,hrd,v,ait,acg,bF,bi]
 .show _<=H.next.succ.am;rw[ah.eX];omega
 .intro j hj;rw[ai.cO,ai.eH,an (bT aa),ai.aF,an (bT aa)]
 refine .inr ⟨H.next,cq ((l.map λz=>.int 3 z)++[.int 3 k]),id::aK,aC,aC,d,by show _<H.next.succ.am;rw[ah.eX];omega,by rw[ai.cO,ai.eH,aG rfl];simp,λi hi=>?_,?_⟩
 .rw[nN _ _ (by simpa using hi)];simp only[ahY,aiv]at hi;by_cases he:i<l.length;·simp[List.getD,aij,he,List.getElem_append_left]
  have:i=l.length:=aa;subst this;simp[List.getD]
 intro p w;rcases acT.1 w with e|e;·rw[e];exact h3
 exact u p e
theorem Xf.yield{n:Nat}{L p d:ah}{v:AV}{H:ai}{bS:bY}{fn:Nat}{ac:az AV}{as bd:bm}{K:KT}(U:H.get L=.loop .ready bS fn ac [p] as bd d)(h:Xc ab n as ⟨ac.set .ajS p v,[],some L⟩ H λj fr H1=>j=.none/\H1.get L=.loop .ready bS fn ac [p] as bd d/\Xc ab n bd fr (H1.set L (.loop .busy bS fn ac [p] as bd d)) λj _ a=>j=.none/\a.get L=.loop .busy bS fn ac [p] as bd d/\K (.bool true) (a.set L (.loop .ready .none fn ac [p] as bd d))):Xf ab (n+1) (.yield L) [v] H K:=by simp only[Xf,fu,U,aiv,bi];refine Xc.mono (afM _) ?_ h;rintro j fr H1⟨rfl,h1,h2⟩;simp only[h1];refine Xc.mono (afM _) ?_ h2;grind
theorem Xc.rangeFunc{n:Nat}{f:aJ}{e:List ah}{as bd:bm}{ac:az AV}{bA:List ah}{H:ai}{K:bY->Fr->ai->Prop}(h:Xf ab n (gv ac f) [.yield (H.new (.deferred false)).next] ((H.new (.deferred false)).new (.loop .ready .none 0 ac e as bd H.next)) λ_ H'=>∃st bS fn a b c d g,st≠pI.busy/\H'.get (H.new (.deferred false)).next=.loop st bS fn a b c d g/\K bS ⟨ac,H.next::bA,none⟩ (H'.set (H.new (.deferred false)).next (.loop .exhausted bS fn a b c d g))):Xc ab (n+1) (.rangeFunc f e as bd) ⟨ac,bA,none⟩ H K:=by refine Xf.mono (afM _) ?_ h;grind
end
end
section
variable[Ov]
section
variable{ab:Nat->aV}
theorem JY:∀{l m:List Int},l.Nodup->(∀x∈l,x∈m)->l.length<=m.length
 |[],_,_,_=>by simp
 |a::l,m,b,hs=>by
  rw[aiz]at b;have g:a∈m:=hs a (acI ..);have f:=JY (l:=l) (m:=m.erase a) b.2 λx d=>by have c:x≠a:=λe=>b.1 (e▸d);exact(List.mem_erase_of_ne c).2 (hs x (adT _ d))
  grind
theorem Tl{ac:az AV}{H:ai}{x:aJ}{k:Int}(h:gv ac x=.int 3 k):aH (.buildSlice 3 1 [.int 3 (.ofNat 0)] [(0,1,x)]) ac H=some (.slice H.next 0 1 1 true,H.new (.cells (cq [.int 3 k]) 1 3 true [] 0)):=by
 have h1:lJ ac (dY [AV.int 3 (.ofNat 0)] 1) [(0,1,x)]=some [.int 3 k]:=by simp only[lJ,h];rfl
 simp only[aH,h1];rfl
theorem JZ{ac:az AV}{H:ai}{x:aJ}{v:AV}{e:Nat}(h:gv ac x=v)(h1:v.cells=[v])(h2:v.cW=true):aH (.box e x) ac H=some (.aD H.next 0,H.new (.cells (cq [v]) 1 e true [] 0)):=by simp[h,h1,h2,aH,cU,Bool.and_true,bi,aiv]
structure qh(A:ai)(bv:AV)(B1 B2 D L:ah)(e1 e2:Nat)(envA:az AV)(lo:Nat)(l:List Int)(H1:ai):Prop where
 nx:lo<H1.next.am
 md:∀j:ah,j.am<A.next.am->H1.get j=A.get j
 b1:H1.get B1=.cells (cq [bv]) 1 e1 true [] 0
 b2:∃c2 sv,H1.get B2=.cells c2 1 e2 true [] 0/\c2.bp .ajS 0=sv/\qf H1 lo l sv
 dd:H1.get D=.deferred false
 ll:H1.get L=.loop .ready .none 0 envA [sl 7] sQ sR D
 o1:A.next.am<=B1.am
 o2:B1.am<B2.am
 o3:B2.am<D.am
 o4:D.am<L.am
 o5:L.am<=lo
theorem qh.AD{A:ai}{bv:AV}{B1 B2 D L:ah}{e1 e2:Nat}{envA:az AV}{lo:Nat}{l:List Int}{H1:ai}(J:qh A bv B1 B2 D L e1 e2 envA lo l H1){I:ah}(h1:L.am<I.am)(h2:I.am<=lo)(a:bP):qh A bv B1 B2 D L e1 e2 envA lo l (H1.set I a):=by
 have o1:=J.o1;have o2:=J.o2;have o3:=J.o3;have o4:=J.o4;have⟨c2,b,c,d,e⟩:=J.b2;refine⟨J.nx,λj hj=>?_,?_,⟨c2,b,?_,d,?_⟩,?_,?_,J.o1,J.o2,J.o3,J.o4,J.o5⟩;·rw[ai.aF,an (bT aa)];exact J.md j hj
 .rw[ai.aF,an (bT aa)];exact J.b1
 .rw[ai.aF,an (bT aa)];exact c
 .refine e.frame (afM _) λj h3 f=>?_;rw[ai.aF,an (bT aa)]
 .rw[ai.aF,an (bT aa)];exact J.dd
 rw[ai.aF,an (bT aa)];exact J.ll
theorem Tm{A:ai}{bv:AV}{B1 B2 D L:ah}{e1 e2:Nat}{envA:az AV}{lo:Nat}{l:List Int}{H1:ai}(J:qh A bv B1 B2 D L e1 e2 envA lo l H1)(x:envA.get .ajS (sl 2)=.aD B2 0)(hl:l.length<1000){k:Int}{K:KT}(y:∀p:ai,qh A bv B1 B2 D L e1 e2 envA lo (l++[k]) p->(∀j:ah,L.am<j.am->j.am<=lo->p.get j=H1.get j)->K (.bool true) p):Xf ab 40 (.yield L) [.int 3 k] H1 K:=by
 have o1:=J.o1;have o2:=J.o2;have o3:=J.o3;have o4:=J.o4;have o5:=J.o5;have I:=J.nx;have⟨c2,g,b1,b2,z⟩:=J.b2;refine Xf.yield (n:=39) J.ll (Xc.region (n:=38) (Xo.op (n:=37) (v:=.int 3 k) (H':=H1) (by simp[aH,gv,az.aF]) (Xo.nil (n:=36) ⟨rfl,J.ll,?_⟩)));generalize f:H1.set L (.loop .busy .none 0 envA [sl 7] sQ sR D)=b;have i:∀j:ah,j≠L->b.get j=H1.get j:=λj hj=>by rw[<-f,ai.aF,an hj]
 have B:b.get L=.loop .busy .none 0 envA [sl 7] sQ sR D:=by rw[<-f,ai.aF,aG rfl]
 have nb:b.next=H1.next:=by rw[<-f];rfl
 have r:aY b B2 0=some g:=by unfold aY;rw[i B2 (bT aa),b1];simp only[show aiu 0 1=true from rfl,bi,b2]
 generalize d:b.new (.cells (cq [.int 3 k]) 1 3 true [] 0)=m;have n:∀j:ah,j≠b.next->m.get j=b.get j:=λj hj=>by rw[<-d,ai.cO,an hj]
 have M:m.next.am=H1.next.am+1:=by rw[<-d];show b.next.succ.am=_;rw[ah.eX,nb]
 have s:qf m lo l g:=z.frame aa λj h1 h2=>by rw[n j (bT (by rw[nb];omega)),i j (bT aa)]
 refine Xo.op (n:=36) (v:=g) (H':=b) (im (by simp[gv,aO,az.aF,bE];exact x) r) ?_;refine Xo.op (n:=35) (v:=.int 3 k) (H':=b) (by simp[aH,gv,aO,az.aF,bE]) ?_;refine Xo.op (n:=34) (v:=.slice b.next 0 1 1 true) (H':=m) (by rw[<-d];exact Tl (by simp[gv,aO,az.aF,bE])) ?_;generalize q:aO (aO (aO (aO (az.set .ajS (sl 7) (.int 3 k) envA) (some (sl 5)) (.int 3 k)) (some (sl 8)) g) (some (sl 9)) (.int 3 k)) (some (sl 10)) (.slice b.next 0 1 1 true)=E;have C:gv E (tt 8)=g:=by rw[<-q];simp[gv,aO,az.aF,bE]
 have t:gv E (tt 10)=.slice b.next 0 1 1 true:=by rw[<-q];simp[gv,aO,az.aF,bE]
 have F:E.get .ajS (sl 2)=.aD B2 0:=by rw[<-q];simp[aO,az.aF,bE];exact x
 have⟨a,H',G,N,a3,a4⟩:=Tk (lo:=lo) (l:=l) (k:=k) C t (by rw[<-d,ai.cO,aG rfl]) s aa hl;refine Xo.op (n:=33) (v:=a) (H':=H') G ?_;have u:H'.get B2=.cells c2 1 e2 true [] 0:=by rw[a3 B2 aa,n B2 (bT (by rw[nb];omega)),i B2 (bT aa)];exact b1
 have e:([a]:List AV)=a.cells/\cU [a]=true:=by
  rcases a4 with⟨h,_⟩|⟨id,c,aK,h,_⟩;·simp at h
  subst h;exact⟨rfl,rfl⟩
 have v:gF H' B2 0 [a]=some (H'.set B2 (.cells (ez c2 0 [a]) 1 e2 true [] 0)):=by unfold gF;rw[u];simp only[afM,decide_true,aiv,aif,ajB,e.2,bi];rfl
 refine Xo.op (n:=32) (v:=.ajS) (H':=H'.set B2 (.cells (ez c2 0 [a]) 1 e2 true [] 0)) ?_ (Xo.nil (n:=31) ?_)
 .have H:gv (aO E (some (sl 11)) a) (tt 2)=.aD B2 0:=by simp[gv,aO,az.aF,bE];exact F
  have w:gv (aO E (some (sl 11)) a) (tt 11)=a:=by simp[gv,aO,az.aF,bE]
  simp only[aH,H,w,<-e.1,aiv,bi,v]
 have o:∀j:ah,j.am<=lo->j≠L->j≠B2->((H'.set B2 (.cells (ez c2 0 [a]) 1 e2 true [] 0)).set L (.loop .ready .none 0 envA [sl 7] sQ sR D)).get j=H1.get j:=λj h1 h2 h3=>by rw[ai.aF,an h2,ai.aF,an h3,a3 j h1,n j (bT (by rw[nb];omega)),i j h2]
 refine⟨rfl,?_,y _ ⟨?_,λj hj=>?_,?_,⟨ez c2 0 [a],a,?_,?_,?_⟩,?_,?_,o1,o2,o3,o4,o5⟩ λj h1 h2=>?_⟩;·rw[ai.aF,an (bT aa),a3 L aa,n L (bT (by rw[nb];omega))];exact B
 .show lo<H'.next.am;omega
 .rw[o j aa (bT aa) (bT aa)];exact J.md j hj
 .rw[o B1 aa (bT aa) (bT aa)];exact J.b1
 .rw[ai.aF,an (bT aa),ai.aF,aG rfl]
 .rw[li];simp
 .refine a4.frame (afM _) λj h1 h2=>?_;rw[ai.aF,an (bT aa),ai.aF,an (bT aa)]
 .rw[o D aa (bT aa) (bT aa)];exact J.dd
 .rw[ai.aF,aG rfl]
 exact o j aa (bT aa) (bT aa)
end
section
variable{ab:Nat->aV}
theorem J4:∀{es:List aW}{ks:List Int},iz es=some ks->ks.Nodup->∀{x y:aW}{k:Int},x∈es->y∈es->x.key=.int 3 k->y.key=.int 3 k->x=y
 |[],_,_,_,_,_,_,h,_,_,_=>by grind
 |a::es,ks,h,d,x,y,k,f,g,e1,e2=>by
  simp only[iz]at h;split at h
  .rename_i i l h1 h2;injection h with h;subst h;rw[aiz]at d;have e:∀z∈es,z.key=.int 3 i->False:=λz j he=>by have⟨m,c,b⟩:=(wT h2).1 z j;rw[he]at b;injection b with _ b;exact d.1 (b▸c)
   rcases acT.1 f with c|c<;>rcases acT.1 g with b|b;·rw[c,b]
   .subst c;rw[h1]at e1;injection e1 with _ e1;subst e1;exact(e y b e2).elim
   .subst b;rw[h1]at e2;injection e2 with _ e2;subst e2;exact(e x c e1).elim
   exact J4 h2 d.2 c b e1 e2
  grind
theorem Xf.Tn{n c:Nat}{f:Nat}{first args a:List AV}{d:List gE}{body:bm}{H:ai}{K:KT}(g:ab f=.code c d body)(hl:(first++args++a).length<=c)(h:Xc ab n body ⟨jf (first++args++a) .xH .aR,[],none⟩ H λj fr H'=>(match j with|.exit _=>False|_=>True)/\∃b l,iw H' fr.bA=some b/\fc fr.ac b d=some l/\K (fZ l) b):Xf ab (n+1) (.func f first a) args H K:=by simp only[Xf,fu,g];rw[aG (aiB hl)];refine Xc.mono (afM _) ?_ h;rintro j fr H'⟨h1,b,l,h2,h3,e⟩;cases j with|exit=>exact h1.elim|none=>simp only[h2,h3];exact e|ret=>simp only[h2,h3];exact e
theorem J5(a b:AV):jf ([]++[a]++[b]) .xH .aR=(az.aR.set AV.ajS (sl 0) a).set .ajS (sl 1) b:=rfl
def sS(ab:Nat->aV)(n a:Nat)(bv:AV)(A:ai)(ks:List Int):Prop:=
 ∀{B1 B2 D L:ah}{e1 e2:Nat}{envA:az AV}{H1:ai}{K:KT},qh A bv B1 B2 D L e1 e2 envA L.am [] H1->H1.next=L.succ->envA.get .ajS (sl 2)=.aD B2 0->
  (∀lo l b,qh A bv B1 B2 D L e1 e2 envA lo l b->l.Perm ks->K (.tuple []) b)->Xf ab n (.func a [] [.aD B1 0]) [.yield L] H1 K
theorem To{g:Nat}(Z:ab g=.code 14 [] BA){m:ah}{A:ai}{d:List aW}{c:Nat}{ks:List Int}(V:A.get m=.map d c)(v:m.am<A.next.am)(hb:(d.map (·.born)).Nodup)(O:∀e∈d,e.born<c)(H:iz d=some ks)(W:ks.Nodup)(ag:ks.length<=1000):sS ab (d.length+100) g (.map m) A ks:=by
 intro B1 B2 D L e1 e2 envA H1 K J P hA hK;have o1:=J.o1;have o2:=J.o2;have o3:=J.o3;have o4:=J.o4;have hI:H1.next.am=L.am+1:=by rw[P,ah.eX]
 refine Xf.code (n:=d.length+99) Z aC ?_;rw[J5];generalize X:(az.aR.set AV.ajS (sl 0) (.yield L)).set .ajS (sl 1) (.aD B1 0)=ac;have h0:ac.get .ajS (sl 0)=.yield L:=by rw[<-X];simp[az.aF,bE]
 have h1:ac.get .ajS (sl 1)=.aD B1 0:=by rw[<-X];simp[az.aF,bE]
 have gm:H1.get m=.map d c:=by rw[J.md m v];exact V
 have Q:aY H1 B1 0=some (.map m):=by unfold aY;rw[J.b1];simp only[show aiu 0 1=true from rfl,bi];rw[nN _ _ aC];rfl
 refine Xc.hZ (n:=20) (m:=60+15+d.length) (k:=d.length+98) aa aa (Xc.region (n:=19) (Xo.op (n:=18) (v:=.map m) (H':=H1) (im h1 Q) (Xo.op (n:=17) (v:=.aD H1.next 0) (H':=H1.new (.mapIter (some m) c [] c)) (by simp[aH,gv,aO,az.aF,gm]) (Xo.nil (n:=16) ?_))));have J1:qh A (.map m) B1 B2 D L e1 e2 envA H1.next.am [] (H1.new (.mapIter (some m) c [] c)):=by
  have s:∀j:ah,j.am<=L.am->(H1.new (.mapIter (some m) c [] c)).get j=H1.get j:=λj hj=>by rw[ai.cO,an (bT aa)]
  have⟨c2,sv,b1,b2,b3⟩:=J.b2;refine⟨by show _<H1.next.succ.am;rw[ah.eX];omega,λj hj=>by rw[s j aa];exact J.md j hj,by rw[s B1 aa];exact J.b1,⟨c2,sv,by rw[s B2 aa];exact b1,b2,?_⟩,by rw[s D aa];exact J.dd,by rw[s L aa];exact J.ll,o1,o2,o3,o4,aa⟩;rcases b3 with h|⟨_,_,_,_,h,_⟩;·exact .inl h
  exact absurd rfl h
 refine Js bx bx bx bx bx hb O (id:=H1.next) (m:=m) (I:=λseen ac n=>ac.get .ajS (sl 0)=.yield L/\ac.get .ajS (sl 5)=.aD H1.next 0/\n.get H1.next=.mapIter (some m) c seen c/\∃l,qh A (.map m) B1 B2 D L e1 e2 envA H1.next.am l n/\l.Nodup/\(∀k∈l,k∈ks/\∃e∈d,e.born∈seen/\e.key=.int 3 k)/\∀e∈d,e.born∈seen->∃k∈l,e.key=.int 3 k) ?_ 60 ?_ ?_ d.length [] _ _ ?_ (List.length_filter_le ..);·rintro seen ac n⟨C,E,I,l,t,_⟩;exact⟨E,I,by rw[t.md m v];exact V⟩
 .rintro seen ac n e⟨C,E,I,l,t,F,u,M⟩he w;have⟨r,y,f⟩:=(wT H).1 e he;have o:r∉l:=λh=>by have⟨G,p,i,a3⟩:=(u r h).2;rw[J4 H W he p f a3]at w;exact w i
  have B:l.length<1000:=by
   have R:(l++[r]).Nodup:=by rw[aiH];exact⟨F,aC,λa N b hb=>by simp only[abP]at hb;subst hb;exact λe=>o (e▸N)⟩
   have:=JY R (m:=ks) λx hx=>by
    rcases adX.1 hx with h|h;·exact(u x h).1
    rw[abP]at h;rw[h];exact y
   simp at this;omega
  refine Xc.hZ (n:=50) (m:=50) (k:=59) aa aa (Xc.region (n:=49) ?_);refine Xo.op (n:=48) (v:=.yield L) (H':=n.set H1.next (.mapIter (some m) c (seen++[e.born]) c)) (by simp[aH,gv,az.aF,bE];exact C) ?_;refine Xo.op (n:=47) (v:=.int 3 r) (H':=n.set H1.next (.mapIter (some m) c (seen++[e.born]) c)) (by simp[aH,gv,aO,az.aF,bE];exact f) ?_;refine Xo.call (n:=46) ?_;simp only[gv,aO,az.aF,bE,ah2,ajh];refine Xf.mono (n:=40) aa (λ_ _ h=>h) (Tm (t.AD (I:=H1.next) aa (afM _) _) hA B λH3 J3 q=>Xo.op (n:=45) (v:=.bool false) (H':=H3) (by simp[aH,gv,aO,az.aF,bE,Av]) (Xo.nil (n:=44) (Xc.lO (n:=49) (by simp[gv,aO,az.aF,bE]) (Xc.skip (n:=48) ⟨rfl,rfl,rfl,?_,?_,?_,l++[r],J3,?_,?_,?_⟩))));·simp[aO,az.aF,bE];exact C
  .simp[aO,az.aF,bE];exact E
  .rw[q H1.next aa (afM _),ai.aF,aG rfl]
  .rw[aiH];exact⟨F,aC,λa N b hb=>by simp only[abP]at hb;subst hb;exact λe=>o (e▸N)⟩
  .intro k S;rcases adX.1 S with h|h;·obtain⟨a0,G,p,i,a3⟩:=u k h;exact⟨a0,G,p,ah1 _ i,a3⟩
   rw[abP]at h;subst h;exact⟨y,e,he,aid _ (abP.2 rfl),f⟩
  intro G z T;rcases adX.1 T with h|h;·obtain⟨Y,p,i⟩:=M G z h;exact⟨Y,ah1 _ p,i⟩
  rw[abP]at h;rw[EF hb z he h];exact⟨r,aid _ (abP.2 rfl),f⟩
 .rintro seen ac n⟨C,E,I,l,t,F,u,M⟩eB;refine⟨trivial,rfl,[],rfl,hK _ l n t ((List.perm_ext_iff_of_nodup F W).2 λx=>⟨λh=>(u x h).1,λh=>?_⟩)⟩;have⟨e,he,f⟩:=(wT H).2 x h;have⟨Y,p,i⟩:=M e he (eB e he);rw[f]at i;injection i with _ i;rw[i];exact p
 exact⟨by simp[aO,az.aF,bE];exact h0,by simp[aO,az.aF,bE],by rw[ai.cO,aG rfl],[],J1,ajD,aC,aC⟩
theorem Tp{a:Nat}(f:ab a=.code 14 [] BA){A:ai}:sS ab 100 a .cL A []:=by
 intro B1 B2 D L e1 e2 envA H1 K J d n g;have o1:=J.o1;have o2:=J.o2;have o3:=J.o3;have o4:=J.o4;have o:H1.next.am=L.am+1:=by rw[d,ah.eX]
 refine Xf.code (n:=99) f aC ?_;rw[J5];generalize i:(az.aR.set AV.ajS (sl 0) (.yield L)).set .ajS (sl 1) (.aD B1 0)=ac;have h1:ac.get .ajS (sl 1)=.aD B1 0:=by rw[<-i];simp[az.aF,bE]
 have e:aY H1 B1 0=some .cL:=by unfold aY;rw[J.b1];simp only[show aiu 0 1=true from rfl,bi];rw[nN _ _ aC];rfl
 refine Xc.hZ (n:=90) (m:=90) (k:=98) aC aC (Xc.region (n:=89) (Xo.op (n:=88) (v:=.cL) (H':=H1) (im h1 e) (Xo.op (n:=87) (v:=.aD H1.next 0) (H':=H1.new (.mapIter none 0 [] 0)) (by rfl) (Xo.nil (n:=86) ?_))));have k:qh A .cL B1 B2 D L e1 e2 envA L.am [] (H1.new (.mapIter none 0 [] 0)):=by
  have b:∀j:ah,j.am<=L.am->(H1.new (.mapIter none 0 [] 0)).get j=H1.get j:=λj hj=>by rw[ai.cO,an (bT aa)]
  have⟨c2,l,b1,b2,m⟩:=J.b2;refine⟨by show _<H1.next.succ.am;rw[ah.eX];omega,λj hj=>by rw[b j aa];exact J.md j hj,by rw[b B1 aa];exact J.b1,⟨c2,l,by rw[b B2 aa];exact b1,b2,?_⟩,by rw[b D aa];exact J.dd,by rw[b L aa];exact J.ll,o1,o2,o3,o4,afM _⟩;rcases m with h|⟨_,_,_,_,h,_⟩;·exact .inl h
  exact absurd rfl h
 refine Xc.block (n:=89) (Xc.loop (n:=88) (Xc.seq (n:=87) (Xc.region (n:=86) (Xo.next (n:=85) (cs:=[none]) (aft:=λ_=>(.tuple [.bool false],H1.new (.mapIter none 0 [] 0))) ?_ ?_))));·simp[gv,aO,az.aF,qW,ai.cO]
 intro c _;exact Xo.op (n:=84) (v:=.bool false) (H':=H1.new (.mapIter none 0 [] 0)) (by rfl) (Xo.nil (n:=83) ⟨trivial,rfl,[],rfl,g _ [] _ k (ajN _)⟩)
theorem Tq{k a n e2:Nat}(y:ab k=.code 13 [.tmp (sl 4)] (uD e2)){bv:AV}{A d:ai}{ks:List Int}(t:sS ab n a bv A ks){B1:ah}{e1:Nat}(z:d.get B1=.cells (cq [bv]) 1 e1 true [] 0)(B:A.next.am<=B1.am)(u:B1.am<d.next.am)(v:∀j:ah,j.am<A.next.am->d.get j=A.get j){K:KT}(C:∀g e lo l,A.next.am<=lo/\lo<e.next.am->qf e lo l g->l.Perm ks->(∀j:ah,j.am<A.next.am->e.get j=A.get j)->K g e):Xf ab (n+40) (.func k [] []) [.bh,.func a [] [.aD B1 0]] d K:=by
 refine Xf.Tn (n:=n+39) y aC ?_;show Xc ab (n+39) (uD e2) ⟨(az.aR.set .ajS (sl 0) .bh).set .ajS (sl 1) (.func a [] [.aD B1 0]),[],none⟩ d _;generalize i:(az.aR.set AV.ajS (sl 0) .bh).set .ajS (sl 1) (.func a [] [.aD B1 0])=ac;have h0:ac.get .ajS (sl 0)=.bh:=by rw[<-i];simp[az.aF,bE]
 have h1:ac.get .ajS (sl 1)=.func a [] [.aD B1 0]:=by rw[<-i];simp[az.aF,bE]
 refine Xc.hZ (n:=20) (m:=n+37) (k:=n+38) aa aa (Xc.region (n:=19) (Xo.op (n:=18) (v:=.aD d.next 0) (H':=d.new (.cells (cq [.bh]) 1 e2 true [] 0)) (JZ h0 rfl rfl) (Xo.op (n:=17) (v:=.bh) (H':=d.new (.cells (cq [.bh]) 1 e2 true [] 0)) (by simp[aH,gv]) (Xo.nil (n:=16) ?_))));generalize o:d.new (.cells (cq [.bh]) 1 e2 true [] 0)=b;have D:b.next=d.next.succ:=by rw[<-o];rfl
 have r:∀j,b.get j=if j=d.next then .cells (cq [.bh]) 1 e2 true [] 0 else d.get j:=λj=>by rw[<-o,ai.cO]
 generalize i:aO (aO ac (some (sl 2)) (.aD d.next 0)) (some (sl 4)) .bh=f;have E:f.get .ajS (sl 1)=.func a [] [.aD B1 0]:=by rw[<-i];simp[aO,az.aF,bE];exact h1
 have F:f.get .ajS (sl 2)=.aD d.next 0:=by rw[<-i];simp[aO,az.aF,bE]
 refine Xc.hZ (n:=n+30) (m:=20) (k:=n+36) aa aa (Xc.hZ (n:=20) (m:=n+20) (k:=n+29) aa aa (Xc.region (n:=19) ?_));refine Xo.op (n:=18) (v:=.func a [] [.aD B1 0]) (H':=b) (by simp[aH,gv];exact E) (Xo.nil (n:=17) ?_);generalize i:aO f (some (sl 6)) (.func a [] [.aD B1 0])=c;have w:c.get .ajS (sl 2)=.aD d.next 0:=by rw[<-i];simp[aO,az.aF,bE];exact F
 have G:gv c (tt 6)=.func a [] [.aD B1 0]:=by rw[<-i];simp[gv,aO,az.aF]
 refine Xc.block (n:=n+19) (Xc.mono (n:=n+1) aa (λ_ _ _ h=>h) (Xc.rangeFunc (n:=n) ?_));rw[G];have nd:(b.new (.deferred false)).next=b.next.succ:=rfl;have H:b.next.am=d.next.am+1:=by rw[D,ah.eX]
 have N:(b.new (.deferred false)).next.am=d.next.am+2:=by rw[nd,ah.eX,H]
 have m:∀j,((b.new (.deferred false)).new (.loop .ready .none 0 c [sl 7] sQ sR b.next)).get j=if j=(b.new (.deferred false)).next then .loop .ready .none 0 c [sl 7] sQ sR b.next else if j=b.next then .deferred false else b.get j:=λj=>by rw[ai.cO,ai.cO]
 refine t (B1:=B1) (B2:=d.next) (D:=b.next) (L:=(b.new (.deferred false)).next) (e1:=e1) (e2:=e2) (envA:=c) ?_ rfl w ?_
 .refine⟨by show _<(b.new (.deferred false)).next.succ.am;rw[ah.eX];omega,λj hj=>?_,?_,⟨cq [.bh],.bh,?_,?_,.inl ⟨rfl,rfl⟩⟩,?_,?_,B,u,aa,aa,afM _⟩;·rw[m,an (bT aa),an (bT aa),r,an (bT aa)];exact v j hj
  .rw[m,an (bT aa),an (bT aa),r,an (bT aa)];exact z
  .rw[m,an (bT aa),an (bT aa),r,aG rfl]
  .rw[nN _ _ aC];rfl
  .rw[m,an (bT aa),aG rfl]
  rw[m,aG rfl]
 intro lo l s J I;have o5:=J.o5;refine⟨_,_,_,_,_,_,_,_,aC,J.ll,?_⟩;have⟨c2,g,b1,b2,L⟩:=J.b2;generalize p:s.set (b.new (.deferred false)).next (.loop .exhausted .none 0 c [sl 7] sQ sR b.next)=e;have q:∀j,j≠(b.new (.deferred false)).next->e.get j=s.get j:=λj hj=>by rw[<-p,ai.aF,an hj]
 have x:e.next=s.next:=by rw[<-p];rfl
 have M:aY e d.next 0=some g:=by unfold aY;rw[q _ (bT aa),b1];simp only[show aiu 0 1=true from rfl,bi,b2]
 refine Xc.hZ (n:=18) (m:=18) (k:=19) aa aa (Xc.region (n:=17) ?_);refine Xo.op (n:=16) (v:=g) (H':=e) (im (by simp[gv];exact w) M) ?_;refine Xo.op (n:=15) (v:=g) (H':=e) (by simp[aH,gv,aO,az.aF]) (Xo.nil (n:=14) (Xc.ret (n:=17) ⟨trivial,e.set b.next (.deferred true),[g],?_,?_,?_⟩));·simp only[iw,q b.next (bT aa),J.dd]
 .simp[fc,aO,az.aF]
 refine C g _ lo l ⟨aa,by show lo<e.next.am;rw[x];exact J.nx⟩ ?_ I λj hj=>?_;·refine L.frame (by show _<=e.next.am;rw[x];exact afM _) λj h1 h2=>?_;rw[ai.aF,an (bT aa),q j (bT aa)]
 rw[ai.aF,an (bT aa),q j (bT aa)];exact J.md j hj
end
section
variable{ab:Nat->aV}
theorem Xf.fF{n f:Nat}{g:List AV->ai->Option (AV×ai)}{first args a:List AV}{H H':ai}{v:AV}{K:KT}(b:ab f=.fF g)(hg:g (first++args++a) H=some (v,H'))(c:K v H'):Xf ab (n+1) (.func f first a) args H K:=by simp_all[Xf,fu]
theorem Tr{b c a n e2:Nat}(m:ab b=.code 5 [.tmp (sl 2)] (zg c))(o:ab c=.code 13 [.tmp (sl 4)] (uD e2)){bv:AV}{A e:ai}{ks:List Int}(g:sS ab n a bv A ks){B1:ah}{e1:Nat}(p:e.get B1=.cells (cq [bv]) 1 e1 true [] 0)(q:A.next.am<=B1.am)(i:B1.am<e.next.am)(k:∀j:ah,j.am<A.next.am->e.get j=A.get j){K:KT}(r:∀f d lo l,A.next.am<=lo/\lo<d.next.am->qf d lo l f->l.Perm ks->(∀j:ah,j.am<A.next.am->d.get j=A.get j)->K f d):Xf ab (n+60) (.func b [] []) [.func a [] [.aD B1 0]] e K:=by
 refine Xf.code (n:=n+59) m aC ?_;rw[show jf ([]++[AV.func a [] [.aD B1 0]]++[]) .xH .aR=az.aR.set AV.ajS (sl 0) (.func a [] [.aD B1 0])from rfl];generalize s:az.aR.set AV.ajS (sl 0) (.func a [] [.aD B1 0])=ac;have h0:ac.get .ajS (sl 0)=.func a [] [.aD B1 0]:=by rw[<-s];simp[az.aF]
 exact Xc.hZ (n:=20) (m:=n+57) (k:=n+58) aC aC (Xc.region (n:=19) (Xo.op (n:=18) (v:=.bh) (H':=e) (by rfl) (Xo.nil (n:=17) (Xc.hZ (n:=n+50) (m:=10) (k:=n+56) aC aC (Xc.region (n:=n+49) (Xo.op (n:=n+48) (v:=.func a [] [.aD B1 0]) (H':=e) (by simp[h0,aH,gv,aO,az.aF,bE]) (Xo.call (n:=n+47) (Xf.mono (n:=n+40) aC (λ_ _ h=>h) (Tq o g p q i k λf d lo l t u v w=>Xo.op (n:=n+46) (v:=f) (H':=d) (by rfl) (Xo.nil (n:=n+45) (Xc.ret (n:=9) ⟨trivial,rfl,[f],by rfl,r f d lo l t u v w⟩)))))))))))
theorem J6{c:az AV}:∀{l:List Int}{o:Nat},(∀i(h:i<l.length),c.bp .ajS (o+i)=.int 3 (l[i]))->uC c o l.length=some l
 |[],_,_=>rfl
 |z::l,o,h=>by
  have h0:c.bp .ajS o=.int 3 z:=h 0 aC;have a:=J6 (c:=c) (l:=l) (o:=o+1) λi hi=>by have:=h (i+1) (by simpa using hi);rw[show o+(i+1)=o+1+i by omega]at this;exact this
  simp[h0,a,air,uC]
def BB(H:ai)(lo:Nat)(ks:List Int)(v:AV):Prop:=
 (ks=[]/\v=.bh)\/∃id,v=.slice id 0 ks.length ks.length false/\ks≠ []/\lo<=id.am/\H.get id=.cells (cq ((eI ks).map λz=>.int 3 z)) ks.length 3 true [] 0
theorem Ts{b:Nat}(hs:ab b=.fF pZ){A d:ai}{m:AV}{lo:Nat}{l ks:List Int}(h1:A.next.am<=lo/\lo<d.next.am)(h2:qf d lo l m)(h3:l.Perm ks)(w:ks.length<=1000)(p:∀j:ah,j.am<A.next.am->d.get j=A.get j){n:Nat}{K:KT}(q:∀f,BB f A.next.am ks m->(∀j:ah,j.am<A.next.am->f.get j=A.get j)->((∀id o n c e,m=.slice id o n c e->id.am<f.next.am)/\A.next.am<=f.next.am)->K (.tuple []) f):Xf ab (n+1) (.func b [] []) [m] d K:=by
 have a:=h3.length_eq;rcases h2 with⟨rfl,rfl⟩|⟨id,c,aK,rfl,r,x,s,t,u,v⟩;·refine Xf.fF hs (H':=d) (v:=.tuple []) rfl (q d (.inl ⟨List.nil_perm.1 h3,rfl⟩) p ⟨λ_ _ _ _ _ h=>(by cases h),aa⟩)
 have g:0<l.length:=by cases l with|nil=>exact absurd rfl r|cons _ _=>simp
 have k:eI l=eI ks:=Bx (wZ l) (wZ ks) ((sP l).trans (h3.trans (sP ks).symm));have hg:pZ [.slice id 0 l.length l.length false] d=some (.tuple [],(d.eG aK).set id (.cells (cq ((eI l).map λz=>.int 3 z)) l.length 3 true [] 0)):=by
  have e1:(ah8 l.length l.length&&aiu 0 l.length&&ai0 l.length 4000000)=true:=by rw[aje,show aiu 0 l.length=true from ajP aiV g,aiB aa];rfl
  simp only[pZ,t,e1,bi,J6 (l:=l) (o:=0) λi hi=>by rw[aif];exact u i hi]
 refine Xf.fF hs hg (q _ (.inr ⟨id,by rw[a],λe=>?_,aa,?_⟩) (λj hj=>?_) ⟨λ_ _ _ _ _ h=>(by injection h with h;subst h;rw[ai.eH,ai.iK];exact s),by rw[ai.eH,ai.iK];omega⟩);·rw[e]at a;simp at a;exact r (by simpa using a)
 .rw[ai.aF,aG rfl,k,a]
 rw[ai.aF,an (bT aa),ai.ud,an λh=>by have:=v j h;omega];exact p j hj
theorem Tt{b d f i a n e2:Nat}(hd:ab b=.code 9 [.tmp (sl 2)] (By f d))(hs:ab d=.fF pZ)(t:ab f=.code 5 [.tmp (sl 2)] (zg i))(u:ab i=.code 13 [.tmp (sl 4)] (uD e2)){bv:AV}{A A1:ai}{ks:List Int}(m:ks.length<=1000)(p:sS ab n a bv A ks){B1:ah}{e1:Nat}(w:A1.get B1=.cells (cq [bv]) 1 e1 true [] 0)(x:A.next.am<=B1.am)(q:B1.am<A1.next.am)(r:∀j:ah,j.am<A.next.am->A1.get j=A.get j){K:KT}(y:∀v g,BB g A.next.am ks v->(∀j:ah,j.am<A.next.am->g.get j=A.get j)->((∀id o n c e,v=.slice id o n c e->id.am<g.next.am)/\A.next.am<=g.next.am)->K v g):Xf ab (n+90) (.func b [] []) [.func a [] [.aD B1 0]] A1 K:=by
 refine Xf.code (n:=n+89) hd aC ?_;rw[show jf ([]++[AV.func a [] [.aD B1 0]]++[]) .xH .aR=az.aR.set AV.ajS (sl 0) (.func a [] [.aD B1 0])from rfl];generalize z:az.aR.set AV.ajS (sl 0) (.func a [] [.aD B1 0])=ac;have h0:ac.get .ajS (sl 0)=.func a [] [.aD B1 0]:=by rw[<-z];simp[az.aF]
 exact Xc.hZ (n:=20) (m:=n+87) (k:=n+88) aC aC (Xc.region (n:=19) (Xo.op (n:=18) (v:=.bh) (H':=A1) (by rfl) (Xo.nil (n:=17) (Xc.hZ (n:=n+70) (m:=n+80) (k:=n+86) aC aC (Xc.region (n:=n+69) (Xo.op (n:=n+68) (v:=.func a [] [.aD B1 0]) (H':=A1) (by simp[h0,aH,gv,aO,az.aF,bE]) (Xo.call (n:=n+67) (Xf.mono (n:=n+60) aC (λ_ _ h=>h) (Tr t u p w x q r λk s lo l B C D E=>Xo.op (n:=n+66) (v:=k) (H':=s) (by rfl) (Xo.nil (n:=n+65) (Xc.hZ (n:=20) (m:=20) (k:=n+79) aC aC (Xc.region (n:=19) (Xo.op (n:=18) (v:=k) (H':=s) (by rfl) (Xo.call (n:=17) (Ts hs B C D m E λg F G H=>Xc.hZ (n:=10) (m:=10) (k:=19) aC aC (Xc.region (n:=9) (Xo.op (n:=8) (v:=k) (H':=g) (by rfl) (Xo.op (n:=7) (v:=k) (H':=g) (by rfl) (Xo.nil (n:=6) (Xc.ret (n:=9) ⟨trivial,rfl,[k],by rfl,y k g F G H⟩))))))))))))))))))))
theorem Tu{b a e1:Nat}(d:ab b=.code 4 [.tmp (sl 2)] (Bz a e1)){bv:AV}(hb:bv.cells=[bv])(c:bv.cW=true){A:ai}{K:KT}(e:K (.func a [] [.aD A.next 0]) (A.new (.cells (cq [bv]) 1 e1 true [] 0))):Xf ab 40 (.func b [] []) [bv] A K:=by
 refine Xf.code (n:=39) d aC ?_;rw[show jf ([]++[bv]++[]) .xH .aR=az.aR.set AV.ajS (sl 0) bv from rfl];generalize f:az.aR.set AV.ajS (sl 0) bv=ac;have h0:ac.get .ajS (sl 0)=bv:=by rw[<-f];simp[az.aF]
 exact Xc.hZ (n:=20) (m:=30) (k:=38) aC aC (Xc.region (n:=19) (Xo.op (n:=18) (v:=.aD A.next 0) (H':=A.new (.cells (cq [bv]) 1 e1 true [] 0)) (JZ h0 hb c) (Xo.op (n:=17) (v:=.nilFunc) (H':=A.new (.cells (cq [bv]) 1 e1 true [] 0)) (by rfl) (Xo.nil (n:=16) (Xc.hZ (n:=20) (m:=20) (k:=29) aC aC (Xc.region (n:=19) (Xo.op (n:=18) (v:=.func a [] [.aD A.next 0]) (H':=A.new (.cells (cq [bv]) 1 e1 true [] 0)) (by rfl) (Xo.op (n:=17) (v:=.func a [] [.aD A.next 0]) (H':=A.new (.cells (cq [bv]) 1 e1 true [] 0)) (by rfl) (Xo.nil (n:=16) (Xc.ret (n:=19) ⟨trivial,rfl,[.func a [] [.aD A.next 0]],by rfl,e⟩))))))))))
theorem Tv{b c a d e g f n e1 e2:Nat}(hl:ab b=.code 6 [.tmp (sl 2)] (ER c a))(o:ab c=.code 4 [.tmp (sl 2)] (Bz f e1))(hd:ab a=.code 9 [.tmp (sl 2)] (By e d))(hs:ab d=.fF pZ)(p:ab e=.code 5 [.tmp (sl 2)] (zg g))(q:ab g=.code 13 [.tmp (sl 4)] (uD e2)){bv:AV}(hb:bv.cells=[bv])(k:bv.cW=true){A:ai}{ks:List Int}(l:ks.length<=1000)(m:sS ab n f bv A ks){K:KT}(r:∀v i,BB i A.next.am ks v->(∀j:ah,j.am<A.next.am->i.get j=A.get j)->K v i):Xf ab (n+150) (.func b [] []) [bv] A K:=by
 refine Xf.code (n:=n+149) hl aC ?_;rw[show jf ([]++[bv]++[]) .xH .aR=az.aR.set AV.ajS (sl 0) bv from rfl];generalize s:az.aR.set AV.ajS (sl 0) bv=ac;have h0:ac.get .ajS (sl 0)=bv:=by rw[<-s];simp[az.aF]
 refine Xc.hZ (n:=20) (m:=n+140) (k:=n+148) aa aa (Xc.region (n:=19) (Xo.op (n:=18) (v:=.bh) (H':=A) (by simp[aH,gv]) (Xo.nil (n:=17) (Xc.hZ (n:=n+130) (m:=10) (k:=n+139) aa aa (Xc.region (n:=n+129) ?_)))));refine Xo.op (n:=n+128) (v:=bv) (H':=A) (by simp[aH,gv,aO,az.aF,bE];exact h0) ?_;refine Xo.call (n:=n+127) (Xf.mono (n:=40) aa (λ_ _ h=>h) (Tu o hb k (Xo.call (n:=n+126) ?_)));refine Xf.mono (n:=n+90) aa (λ_ _ h=>h) (Tt hd hs p q l m (A1:=A.new (.cells (cq [bv]) 1 e1 true [] 0)) (B1:=A.next) (e1:=e1) (by rw[ai.cO,aG rfl]) (afM _) (by show _<A.next.succ.am;rw[ah.eX];omega) (λj hj=>by rw[ai.cO,an (bT aa)]) λv i t u _=>?_);exact Xo.op (n:=n+125) (v:=v) (H':=i) (by simp[aH,gv,aO,az.aF]) (Xo.nil (n:=n+124) (Xc.ret (n:=9) ⟨trivial,rfl,[v],by simp[fc,aO,az.aF],r v i t u⟩))
end
section
variable{P:Program}
theorem cr.eR{ρ a:aM}(h:bZ ρ a):∀{es:List aW}{f l:List MapEntry},cr ρ es f->cr a es l->cr ρ es l|[],_,[],_,_=>by trivial|[],_,_::_,_,k=>by trivial|_::_,[],_,b,_=>by trivial|_::_,_::_,[],_,k=>by trivial|e::es,c0::f,c::l,b,k=>by exact⟨VR.eR h _ _ _ b.1 k.1,VR.eR h _ _ _ b.2.1 k.2.1,k.2.2.1,cr.eR h b.2.2.2 k.2.2.2⟩
theorem cX.eR{ρ a:aM}(h:bZ ρ a):∀{es:List aW}{f l:List MapEntry},cX ρ es f->cX a es l->cX ρ es l|[],_,[],_,_=>by trivial|[],_,_::_,_,k=>by trivial|_::_,[],_,b,_=>by trivial|_::_,_::_,[],_,k=>by trivial|e::es,c0::f,c::l,b,k=>by exact⟨VR.eR h _ _ _ b.1 k.1,VR.eR h _ _ _ b.2.1 k.2.1,cX.eR h b.2.2 k.2.2⟩
theorem OR.eR{ρ b:aM}(h:bZ ρ b){o:bP}(m:(∃c n e f aK fz,o=.cells c n e f aK fz)\/∃es,dB o=some es){p x:Nat}{a g:Obj}(i:OR P ρ o p a)(k:OR P b o x g):OR P ρ o x g:=by
 rcases m with⟨c,n,e,f,aK,fz,rfl⟩|⟨es,he⟩;·grind[OR.JT]
 cases o with|map j c=>cases a<;>simp only[OR]at i;cases g<;>simp only[OR]at k⊢;exact⟨k.1,k.2.1,k.2.2.1,cr.eR h i.2.2.2 k.2.2.2⟩|cS j=>cases a<;>simp only[OR]at i;cases g<;>simp only[OR]at k⊢;have⟨_,_,v,_,r⟩:=i;have⟨s,t,l,u,q⟩:=k;exact⟨s,t,l,u,cX.eR h r q⟩|_=>simp[dB]at he
variable{d:b8}{ρ:aM}{H:ai}{w:World}
theorem bo.Tw(z:bo P d ρ H w){hl:ah->Prop}(A:∀j,hl j->(H.get j).lP){Hs:ai}(l:Hs.next=H.next)(i:∀j,(hl j->Hs.get j=.none)/\(¬hl j->Hs.get j=H.get j))(b:bo P (d.iY ρ hl λ_=>False) ρ Hs w){f:aM}{v:ai}{w':World}(q:bZ ρ f)(r:bo P (d.iY ρ hl λ_=>False) f v w')(B:dj (d.iY ρ hl λ_=>False) w w')(s:∀j:ah,j.am<H.next.am->v.get j=Hs.get j)(t:∀j,¬hl j->H.get j≠.none->(∃c n e u aK fz,H.get j=.cells c n e u aK fz)\/∃es,dB (H.get j)=some es):∃a,bZ ρ a/\bo P d a H w'/\dj d w w':=by
 classical
  let a:aM:=⟨λj=>if j.am<Hs.next.am then ρ j else if False then f j else none,f.k⟩;have p:bZ ρ a:=by
   intro j x hj;refine⟨?_,(q j x hj).2⟩;show(if j.am<Hs.next.am then ρ j else _)=_;rcases aiU j.am Hs.next.am with h|h;·rw[aG h];exact hj
   rw[(b.dc j h).2]at hj;cases hj
  have y:=bo.EK b q r (H2:=Hs) (afM _) id (λ_=>False) a rfl (λj h1 h2=>absurd (b.dc j h1).1 h2) (λ_ h=>h.elim) (λ_ _ h=>h.elim) (λj hj hg=>by have m:¬hl j:=λh=>hg ((i j).1 h);have e1:=s j (by rw[<-l];exact hj);rw[e1];refine⟨hg,hg,rfl,rfl,rfl,rfl,λx D o=>?_,λ_ _ h=>h⟩;have⟨E,F,C,_,_,g⟩:=b.dp j hg;rw[(i j).2 m]at o g hg⊢;exact OR.mono p (OR.eR q (t j m hg) g o));have⟨G,I⟩:=z.EJ A y.1 y.2 B (H2:=H) l.symm (λ_ _=>rfl) (λj h=>((i j).2 h).symm);grind
theorem bo.Tx(L:bo P d ρ H w){hl:ah->Prop}(M:∀j,hl j->(H.get j).lP){Hs:ai}(g:Hs.next=H.next)(r:∀j,(hl j->Hs.get j=.none)/\(¬hl j->Hs.get j=H.get j))(m:bo P (d.iY ρ hl λ_=>False) ρ Hs w){l:aM}{z:ai}{w':World}(A:bZ ρ l)(u:bo P (d.iY ρ hl λ_=>False) l z w')(O:dj (d.iY ρ hl λ_=>False) w w')(C:∀j:ah,j.am<H.next.am->z.get j=Hs.get j)(D:∀j,¬hl j->H.get j≠.none->(∃c n e E aK fz,H.get j=.cells c n e E aK fz)\/∃es,dB (H.get j)=some es){id:ah}{o:bP}(F:H.next.am<=id.am)(N:z.get id=o)(f:o.lP)(G:∀I a:aM,∀x t,OR P I o x t->OR P a o x t):∃a:aM,bZ ρ a/\bo P d a (H.new o) w'/\dj d w w'/\a H.next=l id/\a.k=l.k:=by
 classical
  let a:aM:=⟨λj=>if j.am<Hs.next.am then ρ j else if j=H.next then l ((λ_=>id) j)else none,l.k⟩;have y:bZ ρ a:=by
   intro j x hj;refine⟨?_,(A j x hj).2⟩;show(if j.am<Hs.next.am then ρ j else _)=_;rcases aiU j.am Hs.next.am with h|h;·rw[aG h];exact hj
   rw[(m.dc j h).2]at hj;cases hj
  have J:a H.next=l id:=by show(if H.next.am<Hs.next.am then _ else if H.next=H.next then _ else _)=_;rw[an (by rw[g];omega),aG rfl]
  have p:(Hs.new o).next.am=Hs.next.am+1:=ah.eX _;obtain⟨b,x,t,W,S,T,s⟩:=u.aE (i:=id) (by rw[N];exact f.2.2);have B:=bo.EK m A u (H2:=Hs.new o) (by rw[p];omega) (λ_=>id) (λj=>j=H.next) a rfl (λj h1 h2=>by
   rw[ai.cO]at h2;split at h2;·rename_i e;rw[e,g]
   exact absurd (m.dc j h1).1 h2) (λj hj=>by rw[hj,N,ai.cO,aG g.symm];exact⟨by rw[g];exact afM _,by rw[p,g];omega,by rw[g];exact F,f.2.2,f.2.1,f.1,f.2.1,f.1,rfl,λx t h=>G _ _ x t h,λ_ _ h=>h⟩) (λi j h1 h2 _=>h1.trans h2.symm) (λj hj hg=>by rw[ai.cO,an (bT aa)]at hg⊢;have v:¬hl j:=λh=>hg ((r j).1 h);have e1:=C j (by rw[<-g];exact hj);rw[e1];refine⟨hg,hg,rfl,rfl,rfl,rfl,λx t s=>?_,λ_ _ h=>h⟩;have⟨X,Y,V,_,_,q⟩:=m.dp j hg;rw[(r j).2 v]at s q hg⊢;exact OR.mono y (OR.eR A (D j v hg) q s));have K:¬hl H.next:=λh=>(M _ h).2.2 (L.dc _ (afM _)).1;obtain⟨Q,R⟩:=L.EJ M B.1 B.2 O (H2:=H.new o) (by show H.next.succ=Hs.next.succ;rw[g]) (λj h=>by rw[ai.cO,an λe:j=H.next=>K (e▸h)]) (λj h=>by
   rw[ai.cO,ai.cO,g];split;·rfl
   exact((r j).2 h).symm);exact⟨a,B.1,Q,R,J,rfl⟩
theorem J7(m:bo P d ρ H w)(qi:ah->Prop):∃(hl:ah->Prop)(Hs:ai),(∀j,hl j->(H.get j).lP)/\(∀j,qi j->¬hl j)/\Hs.next=H.next/\(∀j,(hl j->Hs.get j=.none)/\(¬hl j->Hs.get j=H.get j))/\bo P (d.iY ρ hl λ_=>False) ρ Hs w/\∀j,¬hl j->H.get j≠.none->qi j\/∃c n e b aK fz,H.get j=.cells c n e b aK fz:=by
 classical
  let hl:ah->Prop:=λj=>(H.get j).lP/\¬qi j;have⟨Hs,f,a⟩:=H.iu (λj h=>(m.dc j h).1) hl;refine⟨hl,Hs,λj h=>h.1,λj g h=>h.2 g,f,a,m.lm (λi h=>h.1) (λ_ h=>h.elim) f (λj=>?_) (λj h=>(a j).1 h),λj h1 h2=>?_⟩
  .by_cases h:hl j;·exact .inr ((a j).1 h)
   exact .inl ((a j).2 h)
  by_cases g:qi j;·exact .inl g
  right;have l:¬(H.get j).lP:=λh=>h1 ⟨h,g⟩;cases k:H.get j with|cells c n e b aK fz=>exact⟨c,n,e,b,aK,fz,rfl⟩|none=>exact absurd k h2|_=>exact absurd ⟨by rw[k];rfl,by rw[k];rfl,h2⟩ l
theorem Ty{l:List Int}{n e:Nat}(g:n=l.length)(b c:aM)(x:Nat)(a:Obj)(h:OR P b (.cells (cq (l.map λz=>.int 3 z)) n e true [] 0) x a):OR P c (.cells (cq (l.map λz=>.int 3 z)) n e true [] 0) x a:=by cases a<;>simp only[OR]at h⊢;refine⟨h.1,h.2.1,λi hi=>?_,h.2.2.2⟩;have⟨v,h1,h2⟩:=h.2.2.1 i hi;refine⟨v,h1,?_⟩;have f:i<l.length:=aa;rw[nN _ _ (by grind)]at h2⊢;simp only[List.getD,aiw,getElem?_pos l i f,aip,aiX]at h2⊢;cases v<;>simp only[VR]at h2⊢;omega
theorem BC:∀{es:List aW}{ks:List Int},iz es=some ks↔es.map (·.key)=ks.map λk=>.int 3 k
 |[],ks=>by simp[iz]
 |e::es,ks=>by
  simp only[iz];constructor
  .intro h;split at h;·rename_i k l h1 h2;injection h with h;subst h;simp only[ah2,h1,BC.1 h2]
   grind
  intro h;cases ks with|nil=>grind|cons k ks=>simp only[ah2,aik]at h;simp only[h.1,BC.2 h.2]
theorem Tz{es a:List aW}{ks:List Int}(c:(a.map aW.kv).Perm (es.map aW.kv))(h:iz es=some ks):∃b,iz a=some b/\b.Perm ks:=by
 have g:(a.map (·.key)).Perm (ks.map λk=>.int 3 k):=by have:=c.map ajR;rw[ajy,ajy]at this;rw[<-BC.1 h];exact this
 let f:AV->Int:=λv=>match v with|.int _ k=>k|_=>0;have e:(ks.map λk=>AV.int 3 k).map f=ks:=by
  rw[ajy];have:(f∘λk=>AV.int 3 k)=id:=by funext k;rfl
  rw[this,List.map_id]
 refine⟨(a.map (·.key)).map f,BC.2 ?_,by grind⟩;rw[ajy];conv=>lhs;rw[<-List.map_id (a.map (·.key))]
 refine ai7 λv i=>?_;have:=g.mem_iff.1 i;rw[aia]at this;obtain⟨k,_,rfl⟩:=this;rfl
theorem TA{ab:Nat->aV}(ht:iX P ab){listF keysF sortedF sortF collF appF iterF e1 e2:Nat}(hl:ab listF=.code 6 [.tmp (sl 2)] (ER keysF sortedF))(hk:ab keysF=.code 4 [.tmp (sl 2)] (Bz iterF e1))(hd:ab sortedF=.code 9 [.tmp (sl 2)] (By collF sortF))(hs:ab sortF=.fF pZ)(hc:ab collF=.code 5 [.tmp (sl 2)] (zg appF))(hf:ab appF=.code 13 [.tmp (sl 4)] (uD e2))(hi:ab iterF=.code 14 [] BA):uk P listF ut:=by
 have y:∀{d:b8}{ρ:aM}{H A:ai}{w:World}{b:ah->Prop}{Hs:ai}{bv:AV}{ks:List Int}{argv:Array Value}{n:Nat}(eR:∀{z:b8}{p:aM}{G:ai}{w':World},bo P z p G w'->(∀j:ah,j.am<H.next.am->G.get j=A.get j)->∃K:ai,K.next=G.next/\bo P z p K w'/\(∀j:ah,j.am<H.next.am->K.get j=Hs.get j)/\∀j:ah,H.next.am<=j.am->K.get j=G.get j),bo P d ρ H w->(∀j,b j->(H.get j).lP)->Hs.next=H.next->(∀j,(b j->Hs.get j=.none)/\(¬b j->Hs.get j=H.get j))->bo P (d.iY ρ b λ_=>False) ρ A w->A.next=H.next->bo P (d.iY ρ b λ_=>False) ρ Hs w->(∀j,¬b j->H.get j≠.none->(∃c n e av aK fz,H.get j=.cells c n e av aK fz)\/∃es,dB (H.get j)=some es)->aZ ρ [bv] argv.toList->bv.cells=[bv]->bv.cW=true->ks.length<=1000->sS ab n iterF bv A ks->∀(fr:Frame)(cs:List Frame),pS fr->wz P d ρ w (callFunc listF argv) fr cs λL f=>(ks=[]/\L=.bh/\f=H)\/(ks≠ []/\L=.slice H.next 0 ks.length ks.length false/\f=H.new (.cells (cq ((eI ks).map λn=>.int 3 n)) ks.length 3 true [] 0)):=by
  intro d ρ H A w b Hs bv ks argv n eR u hy Q R aw ax S T ha ay a1 q B fr cs hat;have Z:=Tv (n:=n) hl hk hd hs hc hf ay a1 q B (K:=λv H4=>BB H4 A.next.am ks v/\∀j:ah,j.am<A.next.am->H4.get j=A.get j) (λv H4 h1 h2=>⟨h1,h2⟩);have l:=(yS ht (n+150)).1 (n+150) (afM _) Z (fv:=.func (.func listF) #[] #[]) (by simp[VR,aZ]) ha aw fr cs hat;have ag:mQ (.func (.func listF) #[] #[]) argv=callFunc listF argv:=by simp[mQ,Deferred.ofValue,invoke]
  rw[ag]at l;have⟨v,H4,c,w',fr1,g,x,⟨k1,k2⟩,⟨p,hx,M,a2,o⟩,q1,q2⟩:=l;rw[ax]at k1 k2;have⟨K,n3,V,f1,f2⟩:=eR a2 k2;rcases k1 with⟨rfl,rfl⟩|⟨id,rfl,W,X,hg⟩;·have⟨C,N,k,x3⟩:=bo.Tw u hy Q R S hx V o f1 T;have a6:=M.lj;subst a6;exact⟨.bh,H,_,w',fr1,g,x,.inl ⟨rfl,rfl,rfl⟩,⟨C,N,by simp[VR],k,x3⟩,q1,q2⟩
  have a8:ks.length=(eI ks).length:=(sP ks).length_eq.symm;obtain⟨C,N,k,x3,x4,x5⟩:=bo.Tx u hy Q R S hx V o f1 T X (by rw[f2 id X];exact hg) ⟨rfl,rfl,aC⟩ (Ty a8);refine⟨_,_,c,w',fr1,g,x,.inr ⟨W,rfl,rfl⟩,⟨C,N,?_,k,x3⟩,q1,q2⟩;cases c with
  |slice a n' m'=>cases a with|none=>simp[VR]at M|some a=>simp only[VR]at M⊢;rw[x4,x5];exact M
  |_=>simp[VR]at M
 intro d ρ H H' w args v argv hg ha u fr cs hat;unfold ut at hg;split at hg
 .injection hg with hg;injection hg with D E;subst D;subst E;have⟨b,Hs,y1,_,I,y3,O,y5⟩:=J7 u λ_=>False;have⟨v,f,c,w',fr1,g,x,J,r⟩:=y (A:=Hs) (ks:=[]) (n:=100) (bv:=.cL) (λh1 h2=>⟨_,rfl,h1,h2,λ_ _=>rfl⟩) u y1 I y3 O I O (λj h1 h2=>.inl ((y5 j h1 h2).resolve_left id)) ha rfl rfl aC (Tp hi) fr cs hat;rcases J with⟨_,rfl,rfl⟩|⟨h,_⟩;·exact⟨_,_,c,w',fr1,g,x,⟨rfl,rfl⟩,r⟩
  grind
 .rename_i m;have go:∀{ks:List Int},iB H m=some ks->ks.length<=1000->wz P d ρ w (callFunc listF argv) fr cs λL f=>(ks=[]/\L=.bh/\f=H)\/(ks≠ []/\L=.slice H.next 0 ks.length ks.length false/\f=H.new (.cells (cq ((eI ks).map λn=>.int 3 n)) ks.length 3 true [] 0)):=by
   intro ks F q;have⟨es,e1,e2,e3⟩:=uv F;have⟨b,Hs,y1,y0,I,y3,O,y5⟩:=J7 u λj=>j=m;have gm:Hs.get m=H.get m:=(y3 m).2 (y0 m rfl);have Y:m.am<H.next.am:=by
    rcases aiU m.am H.next.am with h|h;·exact h
    rw[(u.dc m h).1]at e1;simp[dB]at e1
   obtain⟨s,i,i1,p1,p2,p3,eR⟩:=JC O (m:=m) (es:=es) (by rw[gm];exact e1);have⟨t,N,k⟩:=Tz p1 e2;have B:sS ab (s.length+100) iterF (.map m) (Hs.set m (.map s i)) t:=To hi (m:=m) (A:=Hs.set m (.map s i)) (by rw[ai.aF,aG rfl]) (by show m.am<Hs.next.am;rw[I];exact Y) p2 p3 N (k.nodup_iff.2 e3) (by rw[k.length_eq];exact q);obtain⟨v,f,c,w',fr1,g,x,J,r⟩:=y (A:=Hs.set m (.map s i)) (ks:=t) (bv:=.map m) (H:=H) (Hs:=Hs) (λ{z p G w'}h1 h2=>⟨G.set m (Hs.get m),rfl,eR h1 (by rw[h2 m Y,ai.aF,aG rfl]),λj hj=>by
    rw[ai.aF];split;·rename_i e;rw[e]
    rename_i e;rw[h2 j hj,ai.aF,an e],λj hj=>by rw[ai.aF,an (bT aa)]⟩) u y1 I y3 i1 (by show Hs.next=_;exact I) O (λj h1 h2=>by
    rcases y5 j h1 h2 with h|h;·exact .inr ⟨es,by rw[h];exact e1⟩
    exact .inl h) ha rfl rfl (by rw[k.length_eq];exact q) B fr cs hat;refine⟨v,f,c,w',fr1,g,x,?_,r⟩;rw[Bx (wZ t) (wZ ks) ((sP t).trans (k.trans (sP ks).symm)),k.length_eq]at J;rcases J with⟨h,h'⟩|⟨h,h'⟩;·exact .inl ⟨by rw[h]at k;exact List.nil_perm.1 k,h'⟩
   exact .inr ⟨λe=>h (by rw[e]at k;exact List.perm_nil.1 k),h'⟩
  split at hg;·grind
  .rename_i ks W F;split at hg;case isFalse=>grind
   rename_i a';injection hg with hg;injection hg with D E;subst D;subst E;have⟨v,f,c,w',fr1,g,x,J,r⟩:=go F (aib a');rcases J with⟨h,_⟩|⟨_,rfl,rfl⟩;·grind
   exact⟨_,_,c,w',fr1,g,x,⟨rfl,rfl⟩,r⟩
  grind
 grind
end
section
variable{P:Program}
theorem TB{f:FuncId}{fn:Func}(h1:P.funcs[f]?=some fn)(h2:(fn.name== "runtime.NumGoroutine")=false)(h3:fn.body.isNone=true)(I:Extern.findNext fn=none)(J:Extern.find fn=some Extern.MapsClone.clone):uk P f uu:=by
 intro V W H H' w args v argv hg a p fr cs hat;unfold uu at hg;split at hg;case h_2=>grind
 rename_i t m;split at hg;case h_2=>grind
 rename_i es c K;injection hg with hg;injection hg with q s;subst q;subst s;have⟨b,x,ob,L,T,A,h⟩:=p.aE (i:=m) (by grind);rw[K]at h;cases ob<;>simp only[OR]at h;rename_i bB k;obtain⟨rfl,rfl,d9,M⟩:=h;have B:argv= #[.iface t (.map (some b))]:=by
  have⟨l⟩:=argv;cases l with
  |nil=>simp[aZ]at a
  |cons N l=>
   cases l with
   |cons _ _=>simp[aZ]at a
   |nil=>
    simp only[aZ,and_true]at a;cases N with
    |iface u z=>
     simp only[VR]at a;obtain⟨rfl,a⟩:=a;cases z with
     |map E=>cases E with|none=>simp[VR]at a|some E=>simp only[VR]at a;rw[L]at a;injection a with a;injection a with a _;rw[a]
     |_=>simp[VR]at a
    |_=>simp[VR]at a
 subst B;have C:(getObj b).run P w=.ok (.map bB k) w:=by simp[getObj,Sem.run,A]
 have n:(callFunc f #[.iface t (.map (some b))]).run P w=.ok (.value (.iface t (.map (some w.heap.size)))) {w with heap:=w.heap.push (.map bB k)}:=by
  have F:Extern.MapsClone.clone #[.iface t (.map (some b))]=((getObj b).bind λo=>match o with|.map d i=>(newObj (.map d i)).bind λr=>pure (.iface t (.map (some r)))|_=>stuck "maps.clone: a map expected"):=rfl;have D:(Extern.MapsClone.clone #[.iface t (.map (some b))]).run P w=.ok (.iface t (.map (some w.heap.size))) {w with heap:=w.heap.push (.map bB k)}:=by rw[F];have:∀{G O:Type}(x:Sem G)(g:G->Sem O),x.bind g=x>>=g:=λ_ _=>rfl;simp only[this,Sem.run_bind,C,Result.andThen_ok,run_newObj,Sem.run_pure]
  simp only[callFunc,Sem.run_bind,run_program,Result.andThen_ok,h1,h2,h3,I,J,acg,bF,bi,run_mark,Sem.run_pure,D]
 obtain⟨Q,R,S⟩:=p.alloc (o:=.map es k) (ob:=.map bB k) (0,0) (by trivial) aC rfl (by simp only[OR];refine⟨trivial,trivial,d9,cr.mono (aM.pQ w.heap.size 0 (0,0) (p.dc H.next (afM _)).2 λj c y e F=>by have:=p.d8 j c y e;omega) M⟩);exact⟨_,_,_,_,_,_,_,⟨rfl,rfl⟩,⟨_,Q,by simp[VR,aM.eA],R,S⟩,A5 n,Steps.refl _ _⟩
end
section
variable{P:Program}
def me(P:Program)(f:Nat):aV->Prop
 |.none=>True
 |.code a b body=>∃fn,P.funcs[f]?=some fn/\pP P fn=some (.code a b body)/\(fn.name== "runtime.NumGoroutine")=false
 |.fF g=>uk P f g
 |.dL g=>ul P f g
theorem zh{ab:Nat->aV}(h:∀f,me P f (ab f)):iX P ab:=by have key:∀f v,ab f=v->me P f v:=λf v e=>e▸h f;exact⟨λf a b body e=>key f _ e,λf g e=>key f (.fF g) e,λf g e=>key f (.dL g) e⟩
theorem TC{dl a:Nat}(h1:me P dl (.code 32 [] (ze a)))(h2:me P a (.code 13 [.tmp (sl 4)] wX)):iX P (mY dl a):=zh λf=>by
 unfold mY;split;·simp_all
 split;·simp_all
 trivial
def w6(l:List (Nat×aV))(f:Nat):aV:=
 match l with
 |[]=>.none
 |(n,v)::l=>if ah8 n f then v else w6 l f
def J8(Q:Nat->aV->Prop):List (Nat×aV)->Prop
 |[]=>True
 |(n,v)::l=>Q n v/\J8 Q l
theorem ET:∀{l:List (Nat×aV)},J8 (me P) l->∀f,me P f (w6 l f)
 |[],_,_=>trivial
 |(n,v)::l,h,f=>by
  simp only[w6];split;·rename_i e;rw[<-ah5 e];exact h.1
  exact ET h.2 f
end
section
variable{P:Program}
theorem TD{ab:Nat->aV}(G:iX P ab){f nt:Nat}{rs:List gE}{body:bm}(hg:ab f=.code nt rs body){n:Nat}{args:List AV}{H:ai}{K:KT}(he:Xf ab n (.func f [] []) args H K){I:b8}{ρ:aM}{w:World}{argv:Array Value}(N:aZ ρ args argv.toList)(O:bo P I ρ H w):Calls P f argv w λe w'=>∃v H' c,e=.returned c/\K v H'/\cI P I ρ w v H' c w':=by
 intro cs;cases n with
 |zero=>simp only[Xf,fu]at he
 |succ n=>
  have m:wA P ab n:=(yS G n).2.1;simp only[Xf,fu,hg,aiY,aiS]at he;have⟨fn,p,q,C⟩:=G.code f nt rs body hg;split at he;case isFalse=>exact he.elim
  rename_i k;have k:=aib k;simp only[pP,afN,ab1,ahZ,abv,aV.code.injEq]at q;have⟨cc,y,F,o,z,A,e1,e2,Q⟩:=q;subst e1;subst e2;subst Q;let b:Frame:={(default:Frame)with fn:=f,kind:=.normal};let a:Act:={tmps:=argv++ajI (fn.ntmps - argv.size) undef,defers:=[]};have h:Frame.enter P f argv .normal=b.atR a [.code cc]:=by simp only[Frame.enter,Frame.atR,p,y,b,a,aip,aiX,ajq];rfl
  have R:gf ρ fn.ntmps ⟨jf args .xH .aR,[],none⟩ b.roundOf a:=⟨D9 N k,trivial,trivial⟩;have⟨j,r,H',B,x,w',t,h1,h2,h3,S,T,J,V⟩:=m o he R O [] cs;have s:∃i:Frame,i={b.atR x i.todo with mode:=.returning}/\step P (lone (b.atR x t) cs w')=.next (lone i cs w'):=by cases j with|none=>rw[show t=[]from J];exact⟨_,rfl,stepR_end rfl⟩|exit id=>exact h1.elim|ret=>obtain⟨k0,rfl⟩:=J;exact⟨_,rfl,stepR_ret rfl⟩
  have⟨i,d,de⟩:=s;have g:(match iw H' r.bA with
   |some H=>match fc r.ac H z with|some l=>K (fZ l) H|none=>False
   |none=>False):=by cases j with|none=>exact h1|exit id=>exact h1.elim|ret=>exact h1
  split at g
  .rename_i W X;split at g
   .rename_i l hl;have u:i={i with defers:=x.defers}:=by rw[d];rfl
    have⟨Y,L,M,Z⟩:=A6 S h3.D X i cs (by rw[d]);rw[<-u]at L;have⟨c,hc,hv⟩:=Eb M h3.E A hl;refine⟨.returned c,Y,{i with defers:=[]},⟨fZ l,W,c,rfl,g,B,h2,hv,M,T.trans Z⟩,?_,?_,?_⟩;·rw[h];exact V.trans (.head de L)
    .rw[d];rfl
    refine⟨by rw[d],rfl,by rw[d];rfl,fn,by rw[d];exact p,?_⟩;rw[d];exact hc
   exact g.elim
  exact g.elim
end
section
variable{P:Program}
def TE(w:World):b8:=⟨λb=>w.heap.size<=b,λb=>w.heap.size<=b,λ_=>False,λ_=>False⟩
def J9(n:Nat):aM:=⟨λj=>if j.am<=n then some (j.am - 1,0)else none,λ_=>(0,0)⟩
theorem TF{n:Nat}(d:P.globals.size=n){w:World}(e:n<=w.heap.size):bo P (TE w) (J9 n) ⟨.aR,ah.cG n⟩ w:=by
 have hg:∀j,ai.get ⟨.aR,ah.cG n⟩ j=.none:=pb _;have hi:∀j b x,J9 n j=some (b,x)->j.am<=n/\b=j.am - 1:=by
  intro j b x h;have:(if j.am<=n then some (j.am - 1,0)else none)=some (b,x):=h;split at this;·rename_i a;injection this with this;injection this with h1 _;exact⟨a,h1.symm⟩
  cases this
 refine⟨λi h=>absurd (hg i) h,λi j b x y _ h=>absurd (hg i) h,λi j h=>?_,λi b x h=>absurd (hg i) h,λi h=>⟨hg i,?_⟩,λk c=>⟨c,c⟩,λg h=>?_,λi b x f h=>absurd (hg i) h,λi b x h=>?_,λi b x h=>absurd (hg i) h,λi h=>h.elim,λi h=>h.elim⟩;·rw[hg]at h;cases h
 .have:(ah.cG n).am<=i.am:=h;rw[ah.kA]at this;show(if i.am<=n then _ else _)=_;rw[an aa]
 .show(if(ah.cG g).am<=n then _ else _)=_;rw[ah.kA,aG aa];simp
 have⟨h1,h2⟩:=hi i b x h;have:=ah.ri i;omega
end
end
section
variable{ab:Nat->aV}
structure BD(ab:Nat->aV)(n:Nat):Prop where
 exec:∀{c fr H}{K:Nat->bY->Fr->ai->Prop},(∀m m' j fr H,m<=m'->K m j fr H->K m' j fr H)->exec False cV ab n c fr H (λj fr H=>∃m,K m j fr H)->∃m,exec False cV ab n c fr H (K m)
 aB:∀{l fr H}{K:Nat->Fr->ai->Prop},(∀m m' fr H,m<=m'->K m fr H->K m' fr H)->Go.al.aB False cV ab n l fr H (λfr H=>∃m,K m fr H)->∃m,Go.al.aB False cV ab n l fr H (K m)
 call:∀{f args H}{K:Nat->KT},(∀m m' v H,m<=m'->K m v H->K m' v H)->fu False cV ab n f args H (λv H=>∃m,K m v H)->∃m,fu False cV ab n f args H (K m)
theorem TG{n:Nat}(h:BD ab n){c:bm}{fr:Fr}{H:ai}{K:Nat->bY->Fr->ai->Prop}(e:∀m o j fr H,m<=o->K m j fr H->K o j fr H)(he:exec False cV ab (n+1) c fr H (λj fr H=>∃m,K m j fr H)):∃m,exec False cV ab (n+1) c fr H (K m):=by
 have mo:=mono ab n;cases c with
 |skip=>simp only[exec]at he⊢;exact he
 |region l=>simp only[exec]at he⊢;exact h.aB (λm o fr H=>e m o .none fr H) he
 |seq a b=>
  simp only[exec]at he⊢;refine h.exec (K:=λm j fr H=>match j with|.none=>exec False cV ab n b fr H (K m)|j=>K m j fr H) (λm o j fr H g hj=>?_) (mo.exec (afM _) (λj fr H hj=>?_) he);·cases j with|none=>exact mo.exec (afM _) (λj fr H=>e m o j fr H g) hj|exit i=>exact e _ _ _ _ _ g hj|ret=>exact e _ _ _ _ _ g hj
  cases j with|none=>exact h.exec e hj|exit i=>exact hj|ret=>exact hj
 |cond c a b=>
  simp only[exec]at he⊢;split at he;·exact h.exec e he
  .exact h.exec e he
  exact he.elim
 |block id b=>
  simp only[exec]at he⊢;refine h.exec (K:=λm j fr H=>match j with|.exit i=>if ah8 i id then K m .none fr H else K m (.exit i) fr H|j=>K m j fr H) (λm o j fr H g hj=>?_) (mo.exec (afM _) (λj fr H hj=>?_) he);·cases j with|none=>exact e _ _ _ _ _ g hj|exit i=>simp only at hj⊢;split at hj<;>rename_i hi<;>simp only[hi,bi,bF,acg]<;>exact e _ _ _ _ _ g hj|ret=>exact e _ _ _ _ _ g hj
  cases j with|none=>exact hj|exit i=>simp only at hj⊢;split at hj<;>rename_i hi<;>simp only[hi,bi,bF,acg]<;>exact hj|ret=>exact hj
 |loop b=>
  simp only[exec]at he⊢;refine h.exec (K:=λm j fr H=>match j with|.none=>exec False cV ab n (.loop b) fr H (K m)|j=>K m j fr H) (λm o j fr H g hj=>?_) (mo.exec (afM _) (λj fr H hj=>?_) he);·cases j with|none=>exact mo.exec (afM _) (λj fr H=>e m o j fr H g) hj|exit i=>exact e _ _ _ _ _ g hj|ret=>exact e _ _ _ _ _ g hj
  cases j with|none=>exact h.exec e hj|exit i=>exact hj|ret=>exact hj
 |rangeFunc f p as bd=>
  simp only[exec]at he⊢;have go:∀(K:bY->Fr->ai->Prop)(s:bY->Fr->ai->Prop)(_:∀j fr H,K j fr H->s j fr H)(fr:Fr)(l:ah)(H':ai),(match H'.get l with
   |.loop st bS fn ac p as bd d=>match st with|.busy=>False|_=>K bS fr (H'.set l (.loop .exhausted bS fn ac p as bd d))
   |_=>False)->(match H'.get l with
   |.loop st bS fn ac p as bd d=>match st with|.busy=>False|_=>s bS fr (H'.set l (.loop .exhausted bS fn ac p as bd d))
   |_=>False):=by
   intro K s u fr l H' k;cases q:H'.get l with
   |loop st bS fn ac p as bd d=>rw[q]at k;cases st<;>first|exact k.elim|exact u _ _ _ k
   |_=>rw[q]at k;exact k.elim
  have r:∀(fr:Fr)(l:ah)(H':ai),(match H'.get l with
   |.loop st bS fn ac p as bd d=>match st with|.busy=>False|_=>∃m,K m bS fr (H'.set l (.loop .exhausted bS fn ac p as bd d))
   |_=>False)->∃m,(match H'.get l with
   |.loop st bS fn ac p as bd d=>match st with|.busy=>False|_=>K m bS fr (H'.set l (.loop .exhausted bS fn ac p as bd d))
   |_=>False):=by
   intro fr l H' k;cases q:H'.get l with
   |loop st bS fn ac p as bd d=>rw[q]at k;cases st<;>first|exact k.elim|exact k
   |_=>rw[q]at k;exact k.elim
  cases w:fr.bz with
  |none=>rw[w]at he;simp only at he⊢;exact h.call (λm o v H' g=>go _ _ (λj fr H=>e m o j fr H g) _ _ _) (mo.call (afM _) (λv H' k=>r _ _ _ k) he)
  |some l=>
   rw[w]at he;simp only at he⊢;split at he;·exact h.call (λm o v H' g=>go _ _ (λj fr H=>e m o j fr H g) _ _ _) (mo.call (afM _) (λv H' k=>r _ _ _ k) he)
   exact he.elim
 |exit id=>simp only[exec]at he⊢;exact he
 |ret=>simp only[exec]at he⊢;exact he
 |dL t=>
  simp only[exec]at he⊢;split at he
  .split at he;·exact he
   exact he.elim
  exact he.elim
theorem J'{Q:Nat->Nat->Prop}(c:∀i m d,m<=d->Q i m->Q i d):∀n,(∀i,i<n->∃m,Q i m)->∃m,∀i,i<n->Q i m
 |0,_=>⟨0,λi h=>by omega⟩
 |n+1,h=>by
  have⟨a,f⟩:=J' c n λi hi=>h i aa;have⟨b,hb⟩:=h n aC;refine⟨max a b,λi hi=>?_⟩;by_cases e:i=n;·grind
  exact c _ _ _ (Nat.le_max_left ..) (f i aa)
theorem TH{n:Nat}(h:BD ab n){l:List bD}{fr:Fr}{H:ai}{K:Nat->Fr->ai->Prop}(j:∀m a fr H,m<=a->K m fr H->K a fr H)(he:Go.al.aB False cV ab (n+1) l fr H (λfr H=>∃m,K m fr H)):∃m,Go.al.aB False cV ab (n+1) l fr H (K m):=by
 have mo:=mono ab n;cases l with
 |nil=>trivial
 |cons o l=>
  simp only[Go.al.aB]at he⊢;have f:∀(m a:Nat)(s:List (ah×bP))(v:AV)(H:ai),m<=a->(if dX (aO fr.ac o.dst v) (di H s) o.re=true then Go.al.aB False cV ab n l {fr with ac:=aO fr.ac o.dst v} (di H s) (K m)else False)->(if dX (aO fr.ac o.dst v) (di H s) o.re=true then Go.al.aB False cV ab n l {fr with ac:=aO fr.ac o.dst v} (di H s) (K a)else False):=by
   intro m a s v H e b;split at b;·rename_i k;rw[aG k];exact mo.aB (afM _) (λfr H=>j m a fr H e) b
   exact b.elim
  have g:∀(s:List (ah×bP))(v:AV)(H:ai),(if dX (aO fr.ac o.dst v) (di H s) o.re=true then Go.al.aB False cV ab n l {fr with ac:=aO fr.ac o.dst v} (di H s) (λfr H=>∃m,K m fr H)else False)->∃m,(if dX (aO fr.ac o.dst v) (di H s) o.re=true then Go.al.aB False cV ab n l {fr with ac:=aO fr.ac o.dst v} (di H s) (K m)else False):=by
   intro s v H b;split at b;·rename_i k;have⟨m,e⟩:=h.aB j b;exact⟨m,by rw[aG k];exact e⟩
   exact b.elim
  split at he
  .rename_i hg;simp only[aG hg];split at he;·exact h.call (λm a v H' e=>f m a _ v H' e) (mo.call (afM _) (λv H' b=>g _ v H' b) he)
   .split at he
    .rename_i cs d _;refine J' (Q:=λi m=>match cs[i]? with|some c=>if dX (aO fr.ac o.dst (d c).1) (di (d c).2 (dF fr.ac H o.iu).2) o.re=true then Go.al.aB False cV ab n l {fr with ac:=aO fr.ac o.dst (d c).1} (di (d c).2 (dF fr.ac H o.iu).2) (K m)else False|none=>False) (λi m a e b=>?_) cs.length λi hi=>?_;·grind
     have:=he i hi;simp_all
    grind
   split at he;all_goals grind
  rename_i hg;simp only[an hg];split at he;·rename_i hd;simp only[aG hd];exact h.aB j he
  grind
def zi(l:ah)(K:KT)(j:bY)(H:ai):Prop:=
 match H.get l with
 |.loop _ _ fn ac a as bd d=>match j with
  |.none=>K (.bool true) (H.set l (.loop .ready .none fn ac a as bd d))
  |j=>K (.bool false) (H.set l (.loop .done j fn ac a as bd d))
 |_=>False
theorem TI{n:Nat}(h:BD ab n){f:AV}{args:List AV}{H:ai}{K:Nat->KT}(o:∀m k v H,m<=k->K m v H->K k v H)(he:fu False cV ab (n+1) f args H (λv H=>∃m,K m v H)):∃m,fu False cV ab (n+1) f args H (K m):=by
 have mo:=mono ab n;cases f<;>(try(simp only[fu]at he;done))
 .simp only[fu]at he⊢;split at he;·grind
  .grind
  .grind
  split at he
  .rename_i t results body _ p;simp only[aG p];have aq:∀(K:KT)(K':KT)(_:∀v H,K v H->K' v H)(fr:Fr)(H:ai),(match iw H fr.bA with
    |some H=>match fc fr.ac H results with|some l=>K (fZ l) H|none=>False
    |none=>False)->(match iw H fr.bA with
    |some H=>match fc fr.ac H results with|some l=>K' (fZ l) H|none=>False
    |none=>False):=by
    intro K K' q fr H a;split at a
    .split at a;·exact q _ _ a
     exact a.elim
    exact a.elim
   have g:∀(fr:Fr)(H:ai),(match iw H fr.bA with
    |some H=>match fc fr.ac H results with|some l=>∃m,K m (fZ l) H|none=>False
    |none=>False)->∃m,(match iw H fr.bA with
    |some H=>match fc fr.ac H results with|some l=>K m (fZ l) H|none=>False
    |none=>False):=by
    intro fr H a;split at a
    .split at a;·exact a
     exact a.elim
    exact a.elim
   refine h.exec (K:=λm j fr H=>match j with
    |.exit _=>False
    |_=>match iw H fr.bA with
     |some H=>match fc fr.ac H results with|some l=>K m (fZ l) H|none=>False
     |none=>False) (λm k j fr H c hj=>?_) (mo.exec (afM _) (λj fr H hj=>?_) he);·cases j with|exit i=>omega|none=>exact aq _ _ (λv H=>o m k v H c) _ _ hj|ret=>exact aq _ _ (λv H=>o m k v H c) _ _ hj
   cases j with|exit i=>grind|none=>exact g _ _ hj|ret=>exact g _ _ hj
  grind
 rename_i l;simp only[fu]at he⊢;split at he
 .split at he
  .split at he
   .rename_i hl;simp only[aG hl];refine h.exec (K:=λm j fr H=>match j,H.get l with
     |.none,.loop .ready bS fn ac e as bd' d=>exec False cV ab n _ fr (H.set l (.loop .busy bS fn ac e as bd' d)) λj _ H=>match H.get l with
      |.loop _ _ fn ac e as bd d=>match j with|.none=>K m (.bool true) (H.set l (.loop .ready .none fn ac e as bd d))|j=>K m (.bool false) (H.set l (.loop .done j fn ac e as bd d))
      |_=>False
     |_,_=>False) (λm k j fr H c hj=>?_) (mo.exec (afM _) (λj fr H hj=>?_) he)
    .split at hj;·refine mo.exec (afM _) (λj _ H a=>?_) hj;cases b:H.get l with|loop st bS fn ac e as bd d=>rw[b]at a;cases j<;>exact o _ _ _ _ c a|_=>rw[b]at a;exact a.elim
     exact hj.elim
    split at hj;·have r:=mo.exec (afM _) (K':=λj _ H=>∃m,zi l (K m) j H) (λj _ H a=>(by unfold zi;cases b:H.get l with|loop st bS fn ac e as bd d=>rw[b]at a;cases j<;>exact a|_=>rw[b]at a;exact a.elim)) hj;obtain⟨m,c⟩:=h.exec (K:=λm j _ H=>zi l (K m) j H) (λm k j _ H c a=>by unfold zi at a⊢;cases b:H.get l with|loop st bS fn ac e as bd d=>rw[b]at a;cases j<;>exact o _ _ _ _ c a|_=>rw[b]at a;exact a.elim) r;rename_i s;refine⟨m,?_⟩;simp only[s];refine mo.exec (afM _) (λj _ H a=>?_) c;unfold zi at a;cases b:H.get l with|loop st bS fn ac e as bd d=>rw[b]at a;cases j<;>exact a|_=>rw[b]at a;exact a.elim
    exact hj.elim
   exact he.elim
  exact he.elim
 exact he.elim
theorem w7(ab:Nat->aV):∀n,BD ab n|0=>⟨λ_ he=>by trivial,λ_ he=>by trivial,λ_ he=>by trivial⟩|n+1=>by have h:=w7 ab n;exact⟨TG h,TH h,TI h⟩
end
end Go.al
end
