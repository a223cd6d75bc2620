/- A part. No conditions. -/
import Derived.Test.YtjapbgcbkolgmaaGreatDoorA04
import Derived.Sort.Grow
import Derived.Sort.Row
set_option linter.all false
open List renaming range->agA,getD->ahn
open Nat renaming beq->afw,blt->afR,ble->ago
open Int renaming ofNat->age
open Array renaming replicate->aha
open List.Perm renaming swap->agm
open Eq renaming mpr->ahm
open Prod renaming fst->aho
noncomputable section
namespace Go.al
section
variable[Ov]
variable{P:Program}{a:bS}{ρ:aO}{H:ah}{w:World}
def bL.lq(o:bL):Prop:=o.jg=false/\o.aM=[]/\o≠.none
theorem bj.kL(h:bj P a ρ H w){hl dd:af->Prop}(r:∀i,hl i->(H.get i).lq)(hd:∀i,dd i->H.get i=.none/\ρ i=none/\i.am<H.next.am/\∀j,i∉(H.get j).aM){c:ah}(m:c.next=H.next)(hg:∀j,c.get j=H.get j\/c.get j=.none)(s:∀i,hl i->c.get i=.none):bj P (a.iz ρ hl dd) ρ c w:=by
 have hs:=h.sub m hg;have o:∀j,c.get j≠.none->c.get j=H.get j:=λj hj=>(hg j).resolve_right hj;have t:=F9 hg;have kL:∀j b x,c.get j≠.none->ρ j=some (b,x)->∀i y,hl i->ρ i≠some (b,y):=by
  intro j b x hj v i y hi z;obtain⟨n,u,g⟩:=r i hi;have p:i≠j:=λe=>hj (e▸s i hi);have q:H.get j≠.none:=by rw[<-o j hj];exact hj
  rcases h.jh i j b y x p g q z v with⟨l,_⟩|⟨l,_⟩;·have:=(h.aM i j l).2 g;rw[n]at this;cases this
  rw[u]at l;cases l
 constructor;·exact hs.cI
 .exact hs.jh
 .exact hs.aM
 .intro i b x hi A e;exact⟨hs.wr i b x hi A e,λk y f=>kL i b x hi e k y f⟩
 .exact hs.cS
 .intro k f;have d:∀i x,hl i->ρ i≠some (k,x):=λi x _ e=>by have:=h.dO i k x e;omega
  exact⟨⟨(h.new k f).1,d⟩,⟨(h.new k f).2,d⟩⟩
 .exact hs.jV
 .exact hs.iw
 .exact hs.dO
 .intro i b x hi e;exact⟨hs.rd i b x hi e,λk y f=>kL i b x hi e k y f⟩
 .intro i hi;rcases hi with hi|hi|hi;·exact hs.un i hi
  .obtain⟨n,u,g⟩:=r i hi;refine⟨s i hi,by rw[m];exact h.Bv g,λj hj=>?_⟩;have:=(h.aM i j (t i j hj)).2 g;rw[n]at this;cases this
  obtain⟨h0,h1,h2,h3⟩:=hd i hi;exact⟨by rcases hg i with e|e<;>rw[e];exact h0,by rw[m];exact h2,λj hj=>h3 j (t i j hj)⟩
 intro i hi;rcases hi with hi|hi;·exact⟨.inl (hs.di i hi).1,(hs.di i hi).2⟩
 exact⟨.inr (.inr hi),(hd i hi).2.1⟩
theorem bj.GF(h:bj P a ρ H w){hl dd:af->Prop}(F:∀i,hl i->(H.get i).lq){n:aO}{D:ah}{A:World}(o:bQ ρ n)(g:bj P (a.iz ρ hl dd) n D A)(s:cX (a.iz ρ hl dd) w A){H2:ah}(G:H2.next=D.next)(h1:∀i,hl i->H2.get i=H.get i)(h2:∀i,¬hl i->H2.get i=D.get i):bj P a n H2 A/\cX a w A:=by
 have d:∀i,hl i->∃b x q,ρ i=some (b,x)/\n i=some (b,x)/\n.k b=ρ.k b/\w.heap[b]?=some q/\A.heap[b]?=some q/\OR P ρ (H.get i) x q:=by intro i hi;obtain⟨b,x,q,e,K,hb,Q⟩:=h.bm ((F i hi)).2.2;exact⟨b,x,q,e,(o _ _ e).1,(o _ _ e).2,hb,by rw[s.block b K λI=>I.2 i x hi e];exact hb,Q⟩
 have r:∀i j,i∈(H2.get j).aM->¬hl i/\¬hl j/\i∈(D.get j).aM:=by
  intro i j hj;by_cases f:hl j;·rw[h1 j f,(F j f).2.1]at hj;cases hj
  rw[h2 j f]at hj;exact⟨λhi=>(g.un i (.inr (.inl hi))).2.2 j hj,f,hj⟩
 refine⟨⟨?_,?_,?_,?_,?_,?_,?_,?_,?_,?_,?_,?_⟩,⟨s.os,s.tape,s.output,s.size,λW h1 I=>s.block W h1 λL=>I L.1⟩⟩
 .intro i hi;by_cases c:hl i;·obtain⟨b,x,q,_,t,_,_,R,S⟩:=d i c;rw[h1 i c];exact⟨b,x,q,t,R,OR.mono o S⟩
  rw[h2 i c]at hi⊢;exact g.cI i hi
 .intro i j b x y C hi hj z p;by_cases c:hl i
  .obtain⟨b1,J,_,l,m,_⟩:=d i c;rw[m]at z;injection z with z;injection z with M N;subst M;subst N;by_cases f:hl j;·obtain⟨b2,T,_,c1,c2,_⟩:=d j f;rw[c2]at p;injection p with p;injection p with u v;subst u;subst v;rw[h1 i c]at hi⊢;rw[h1 j f]at hj⊢;exact h.jh i j _ _ _ C hi hj l c1
   rw[h2 j f]at hj;exact absurd l ((g.rd j _ y hj p).2 i _ c)
  by_cases f:hl j;·obtain⟨b2,T,_,c1,c2,_⟩:=d j f;rw[c2]at p;injection p with p;injection p with u v;subst u;subst v;rw[h2 i c]at hi;exact absurd c1 ((g.rd i _ x hi z).2 j _ f)
  rw[h2 i c]at hi⊢;rw[h2 j f]at hj⊢;exact g.jh i j b x y C hi hj z p
 .intro i j hj;obtain⟨l,m,a3⟩:=r i j hj;obtain⟨b1,b2⟩:=g.aM i j a3;rw[G];exact⟨b1,λhi=>by rw[h2 i l]at hi⊢;exact b2 hi⟩
 .intro i b x hi E e;by_cases c:hl i;·obtain⟨b1,J,_,l,m,_⟩:=d i c;rw[m]at e;injection e with e;injection e with B t;subst B;subst t;rw[h1 i c]at hi E;exact h.wr i _ _ hi E l
  rw[h2 i c]at hi E;exact(g.wr i b x hi E e).1
 .intro i hi;rw[G]at hi;obtain⟨l,m⟩:=g.cS i hi;have c:¬hl i:=λc=>by obtain⟨_,_,_,_,e,_⟩:=d i c;rw[m]at e;cases e
  exact⟨by rw[h2 i c];exact l,m⟩
 .intro W O;exact h.new W (agE s.size O)
 .exact g.jV
 .intro i b x q hi e hb;by_cases c:hl i;·obtain⟨b1,J,V,l,m,a3,a4,a5,_⟩:=d i c;rw[m]at e;injection e with e;injection e with B t;subst B;subst t;rw[a5]at hb;injection hb with hb;subst hb;rw[h1 i c]at hi⊢;rw[a3];exact h.iw i _ _ _ hi l a4
  rw[h2 i c]at hi⊢;exact g.iw i b x q hi e hb
 .exact g.dO
 .intro i b x hi e;by_cases c:hl i;·obtain⟨b1,J,_,l,m,_⟩:=d i c;rw[m]at e;injection e with e;injection e with B t;subst B;subst t;rw[h1 i c]at hi;exact h.rd i _ _ hi l
  rw[h2 i c]at hi;exact(g.rd i b x hi e).1
 .intro i hi;obtain⟨l,m,a3⟩:=g.un i (.inl hi);have c:¬hl i:=λc=>(F i c).2.2 (h.un i hi).1;exact⟨by rw[h2 i c];exact l,by rw[G];exact m,λj hj=>a3 j (r i j hj).2.2⟩
 intro i hi;exact⟨(h.di i hi).1,(g.di i (.inl hi)).2⟩
theorem OR.Lz{ρ d:aO}(h:bQ ρ d){c:ak AV}{n e fz:Nat}{b:Bool}{aM:List af}{l x:Nat}{f g:Obj}(j:OR P ρ (.cells c n e b aM fz) l f)(k:OR P d (.cells c n e b aM fz) x g):OR P ρ (.cells c n e b aM fz) x g:=by cases f<;>simp only[OR]at j;cases g<;>simp only[OR]at k⊢;refine⟨k.1,k.2.1,λi hi=>?_,k.2.2.2⟩;obtain⟨v0,_,m⟩:=j.2.2.1 i hi;obtain⟨v,o,q⟩:=k.2.2.1 i hi;exact⟨v,o,VR.eD h _ _ _ m q⟩
theorem bV.set{ρ d:aO}:∀{l:List Int}{m:List MapEntry},bV ρ (dh l) m->bV d (dh l) m
 |[],[],_=>by simp[dh,bV]
 |k::l,c::m,h=>by
  simp only[dh,afp,bV]at h⊢;refine⟨?_,?_,bV.set (l:=l) h.2.2⟩;·have:=h.1;cases b:c.key<;>rw[b]at this<;>simp only[VR]at this⊢;exact this
  have:=h.2.1;cases b:c.val<;>rw[b]at this<;>simp only[VR]at this⊢;exact this
 |[],_::_,h=>by simp[dh,bV]at h
 |_::_,[],h=>by simp[dh,bV]at h
theorem OR.tx{ρ f:aO}{o:bL}{ks ks2:List Int}(hs:e9 o ks)(j:ks.Perm ks2){x:Nat}{e:Obj}(h:OR P ρ o x e):OR P f (.co (dh ks2)) x e:=by
 obtain⟨_,es,he,g⟩:=hs;have d:(dh ks).Perm (dh ks2):=j.map _;have b:es.map aT.kv=(dh ks).map aT.kv:=by rw[g,Gw]
 cases o with|map i c=>simp only[dl,aaM]at he;subst he;cases e<;>simp only[OR]at h⊢;obtain⟨rfl,rfl,dF,h3⟩:=h;obtain⟨l,p1,p2⟩:=bV.zE d (bV.kv b (bh.open h3));exact⟨rfl,dF,l,p1,bV.set p2⟩|co i=>simp only[dl,aaM]at he;subst he;cases e<;>simp only[OR]at h⊢;obtain⟨h1,h2,l,h3,k⟩:=h;obtain⟨m,p1,p2⟩:=bV.zE d (bV.kv b k);exact⟨h1,h2,m,p1.trans h3,bV.set p2⟩|_=>simp[dl]at he
theorem bj.GG{f:aO}{l H2:ah}{w1:World}(h0:bj P a ρ H w)(O:bQ ρ f)(h1:bj P a f l w1)(nx:H.next.am<=H2.next.am)(n:af->af)(new:af->Prop) [DecidablePred new](c:aO)(D:c=⟨λj=>if j.am<H.next.am then ρ j else if new j then f (n j)else none,f.k⟩)(z:∀j,H.next.am<=j.am->H2.get j≠.none->new j)(B:∀j,new j->H.next.am<=j.am/\j.am<H2.next.am/\H.next.am<=(n j).am/\l.get (n j)≠.none/\(l.get (n j)).aM=[]/\(l.get (n j)).jg=false/\(H2.get j).aM=[]/\(H2.get j).jg=false/\(l.get (n j)).len=(H2.get j).len/\(∀x d,OR P f (l.get (n j)) x d->OR P c (H2.get j) x d)/\∀q d,dI P q (l.get (n j)) d->dI P q (H2.get j) d)(inj:∀i j,new i->new j->n i=n j->i=j)(cG:∀j,j.am<H.next.am->H2.get j≠.none->H.get j≠.none/\l.get j≠.none/\(l.get j).aM=(H.get j).aM/\(H2.get j).aM=(H.get j).aM/\(l.get j).jg=(H2.get j).jg/\(l.get j).len=(H2.get j).len/\(∀x d,OR P f (l.get j) x d->OR P c (H2.get j) x d)/\∀q d,dI P q (l.get j) d->dI P q (H2.get j) d):bQ ρ c/\bj P a c H2 w1:=by
 have I:∀j,j.am<H.next.am->c j=ρ j:=λj hj=>by rw[D];exact aJ hj
 have rn:∀j,new j->c j=f (n j):=λj hj=>by rw[D];show(if _ then _ else _)=_;rw[ap (by have:=(B j hj).1;omega),aJ hj]
 have rk:c.k=f.k:=by rw[D]
 have rz:∀j,H.next.am<=j.am->¬new j->c j=none:=λj h hj=>by rw[D];show(if _ then _ else _)=_;rw[ap ab,ap hj]
 have K:∀j x,ρ j=some x->j.am<H.next.am:=λj x e=>by
  rcases afZ j.am H.next.am with h|h;·exact h
  rw[(h0.cS j h).2]at e;cases e
 have M:bQ ρ c:=λj x e=>⟨by rw[I j (K j x e)];exact e,by rw[rk];exact(O j x e).2⟩;have r:∀j,H2.get j≠.none->∃t,l.get t≠.none/\c j=f t/\(l.get t).jg=(H2.get j).jg/\(l.get t).len=(H2.get j).len/\(∀x d,OR P f (l.get t) x d->OR P c (H2.get j) x d)/\(∀q d,dI P q (l.get t) d->dI P q (H2.get j) d)/\((j.am<H.next.am/\t=j)\/(new j/\t=n j)):=by
  intro j hj;rcases afZ j.am H.next.am with hl|hl;·obtain⟨A,v,a3,a4,a5,Q,a7,R⟩:=cG j hl hj;refine⟨j,v,?_,a5,Q,a7,R,.inl ⟨hl,rfl⟩⟩;obtain⟨b,x,d,e,_⟩:=h0.cI j A;rw[I j hl,e,(O _ _ e).1]
  have o:=z j hl hj;obtain⟨A,v,a3,a4,a5,Q,a7,R,a9,V,W⟩:=B j o;exact⟨n j,a4,rn j o,Q.trans R.symm,a9,V,W,.inr ⟨o,rfl⟩⟩
 have p:∀i j,i∈(H2.get j).aM->j.am<H.next.am/\i∈(H.get j).aM/\H2.get j≠.none:=by
  intro i j hi;have hj:H2.get j≠.none:=λe=>by rw[e]at hi;cases hi
  rcases afZ j.am H.next.am with hl|hl;·obtain⟨A,v,a3,a4,_⟩:=cG j hl hj;exact⟨hl,by rw[<-a4];exact hi,hj⟩
  have o:=z j hl hj;rw[(B j o).2.2.2.2.2.2.1]at hi;cases hi
 have m:∀i j N J,H2.get i≠.none->H2.get j≠.none->((i.am<H.next.am/\N=i)\/(new i/\N=n i))->((j.am<H.next.am/\J=j)\/(new j/\J=n j))->N∈(l.get J).aM->i∈(H2.get j).aM:=by
  intro i j N J hi hj X Y s;rcases Y with⟨hl,rfl⟩|⟨o,rfl⟩
  .obtain⟨A,v,a3,a4,_⟩:=cG J hl hj;rw[a3]at s;rcases X with⟨Z,rfl⟩|⟨E,rfl⟩;·rw[a4];exact s
   have:=(h0.aM _ _ s).1;have:=(B i E).2.2.1;omega
  rw[(B j o).2.2.2.2.1]at s;cases s
 refine⟨M,⟨?_,?_,?_,?_,?_,?_,?_,?_,?_,?_,?_,?_⟩⟩;·intro i hi;obtain⟨t,t1,C,_,_,t5,_⟩:=r i hi;obtain⟨b,x,d,e,hb,hr⟩:=h1.cI t t1;exact⟨b,x,d,by rw[C];exact e,hb,t5 x d hr⟩
 .intro i j b x y L hi hj ei ej;obtain⟨t,t1,C,_,t4,_,_,S⟩:=r i hi;obtain⟨u,u1,u2,_,u4,_,_,T⟩:=r j hj;have ag:t≠u:=by
   rcases S with⟨hl,rfl⟩|⟨o,rfl⟩<;>rcases T with⟨Z,rfl⟩|⟨E,rfl⟩;·exact L
   .rintro rfl;have:=(B j E).2.2.1;omega
   .rintro rfl;have:=(B i o).2.2.1;omega
   exact λe=>L (inj i j o E e)
  rw[<-t4,<-u4];rcases h1.jh t u b x y ag t1 u1 (by rw[<-C];exact ei) (by rw[<-u2];exact ej)with⟨s,F⟩|⟨s,F⟩;·exact .inl ⟨m i j t u hi hj S T s,F⟩
  exact .inr ⟨m j i u t hj hi T S s,F⟩
 .intro i j hi;obtain⟨hl,s,hj⟩:=p i j hi;have hp:=h0.aM i j s;refine⟨afT hp.1 nx,λav=>?_⟩;obtain⟨A,v,a3,a4,a5,_⟩:=cG i hp.1 av;obtain⟨b1,b2,b3,_⟩:=cG j hl hj;rw[<-a5];exact(h1.aM i j (by rw[b3];exact s)).2 v
 .intro i b x hi hf e;obtain⟨t,t1,C,t3,_⟩:=r i hi;exact h1.wr t b x t1 (by rw[t3];exact hf) (by rw[<-C];exact e)
 .intro i hi;have hg:H2.get i=.none:=by apply afO;intro G;have:=(B i (z i (agE nx hi) G)).2.1;omega
  refine⟨hg,rz i (agE nx hi) λo=>?_⟩;have:=(B i o).2.1;omega
 .exact h1.new
 .intro g hg;have:=h0.jV g hg;rw[I _ (K _ _ this)];exact this
 .intro i b x d hi e hb;obtain⟨t,t1,C,_,_,_,t6,_⟩:=r i hi;rw[rk];exact t6 _ _ (h1.iw t b x d t1 (by rw[<-C];exact e) hb)
 .intro i b x e;rcases afZ i.am H.next.am with hl|hl;·rw[I i hl]at e;exact h1.dO i b x (O _ _ e).1
  by_cases o:new i;·rw[rn i o]at e;exact h1.dO _ b x e
  rw[rz i hl o]at e;cases e
 .intro i b x hi e;obtain⟨t,t1,C,_⟩:=r i hi;exact h1.rd t b x t1 (by rw[<-C];exact e)
 .intro i hi;obtain⟨A,v,a3⟩:=h0.un i hi;refine⟨?_,afT v nx,λj hj=>a3 j (p i j hj).2.1⟩;apply afO;intro G;exact(cG i v G).1 A
 intro i hi;obtain⟨A,v⟩:=h0.di i hi;exact⟨A,by rw[I i (h0.un i A).2.1];exact v⟩
end
section
theorem GH(p:af):∀l,vU p l=true↔p∈l|[]=>by simp[vU]|q::l=>by simp only[vU,agd,GH p l,af.eS,acn]
theorem LA:∀l,zW l=true↔l.Nodup|[]=>by simp[zW]|p::l=>by simp only[zW,ae9,LA l,agf,af4,<-GH];simp
theorem tE{c:ak AV}{o:Nat}{N:af}:∀{l:List Int},N∈jN c o l↔∃k∈l,c.bp .ahp (o+k.toNat)=.map N
 |[]=>by simp[jN]
 |k::l=>by
  simp only[jN];split
  .rename_i b h;rw[acn,tE];constructor
   .rintro(e|⟨a,h1,h2⟩);·exact⟨k,abL ..,e▸h⟩
    exact⟨a,aco _ h1,h2⟩
   rintro⟨a,h1,h2⟩;rcases acn.1 h1 with e|e;·subst e;rw[h]at h2;injection h2 with h2;exact .inl h2.symm
   exact .inr ⟨a,e,h2⟩
  rename_i h;rw[tE];constructor;·rintro⟨a,h1,h2⟩;exact⟨a,aco _ h1,h2⟩
  rintro⟨a,h1,h2⟩;rcases acn.1 h1 with e|e;·subst e;exact absurd h2 (h N)
  exact⟨a,e,h2⟩
theorem LB{c:ak AV}{o:Nat}:∀{l:List Int},(jN c o l).Nodup->∀{k d:Int}{N:af},k∈l->d∈l->c.bp .ahp (o+k.toNat)=.map N->c.bp .ahp (o+d.toNat)=.map N->k=d
 |[],_,_,_,_,h,_,_,_=>by cases h
 |a::l,b,k,d,N,h1,h2,g,i=>by
  have j:(jN c o l).Nodup:=by
   simp only[jN]at b;split at b;·exact(agf.1 b).2
   exact b
  rcases acn.1 h1 with e|e<;>rcases acn.1 h2 with f|f;·rw[e,f]
  .subst e;simp only[jN,g]at b;exact absurd (tE.2 ⟨d,f,i⟩) (agf.1 b).1
  .subst f;simp only[jN,i]at b;exact absurd (tE.2 ⟨k,e,g⟩) (agf.1 b).1
  exact LB j e f g i
theorem GI{c:ak AV}{o n:Nat}{m:af}{M:List Int}{Z:ah}:∀{l:List Int}{c':ak AV}{f:ah}{O:ak AV}{v:ah},vT c o n m M Z l c' f=some (O,v)->(∀N t,iB Z N=some t->N.am<f.next.am)->l.Nodup->(jN c o l).Nodup->(∀k∈l,∃j,k=.ofNat j/\j<n/\(c.bp .ahp (o+k.toNat)=.cC\/∃N t0,c.bp .ahp (o+k.toNat)=.map N/\N≠m/\iB Z N=some t0/\v.get N=.co (dh (eV (fX k M) t0))))/\f.next.am<=v.next.am/\(∀j,j.am<f.next.am->j∉jN c o l->v.get j=f.get j)/\(∀j,v.next.am<=j.am->v.get j=f.get j)/\(∀x,(∀k∈l,c.bp .ahp (o+k.toNat)=.cC->x≠o+k.toNat)->O.bp .ahp x=c'.bp .ahp x)/\∃nm:Int->af,(∀k∈l,c.bp .ahp (o+k.toNat)=.cC->f.next.am<=(nm k).am/\(nm k).am<v.next.am/\v.get (nm k)=.co (dh (fX k M))/\O.bp .ahp (o+k.toNat)=.map (nm k))/\(∀k a,k∈l->a∈l->c.bp .ahp (o+k.toNat)=.cC->c.bp .ahp (o+a.toNat)=.cC->nm k=nm a->k=a)/\(∀j,f.next.am<=j.am->j.am<v.next.am->∃k∈l,c.bp .ahp (o+k.toNat)=.cC/\nm k=j)
 |[],c',f,O,v,h,_,_,_=>by simp only[vT,aaM,abS]at h;obtain⟨rfl,rfl⟩:=h;exact⟨aF,adv _,λ_ _ _=>rfl,λ_ _=>rfl,λ_ _=>rfl,λ_=>.xH,aF,aF,λj h1 h2=>by omega⟩
 |k::l,c',f,O,v,h,D,z,r=>by
  rw[agf]at z;simp only[vT]at h;split at h;case h_2=>cases h
  rename_i j;split at h;case isFalse=>cases h
  rename_i E;have E:j<n:=Eq.mp agh E;have g:(age j).toNat=j:=rfl;split at h
  .rename_i i;have X:(jN c o l).Nodup:=by simp only[jN,g,i]at r;exact r
   have Y:∀N t,iB Z N=some t->N.am<(f.new (.co (dh (fX (.ofNat j) M)))).next.am:=λN t G=>by have:=D N t G;show _<f.next.succ.am;rw[af.eI];omega
   obtain⟨P,s2,H,s4,s5,nm,I,s7,Q⟩:=GI h Y z.2 X;have L:(f.new (.co (dh (fX (.ofNat j) M)))).next.am=f.next.am+1:=af.eI _;rw[L]at s2 H I Q;have F:∀a∈l,c.bp .ahp (o+a.toNat)=.cC->o+j≠o+a.toNat:=by
    intro a b _ e;obtain⟨j2,rfl,_⟩:=P a b;have:j=j2:=by have:(age j2).toNat=j2:=rfl;omega
    subst this;exact z.1 b
   have hc:O.bp .ahp (o+j)=.map f.next:=by rw[s5 _ F,lh];simp
   have hg:v.get f.next=.co (dh (fX (.ofNat j) M)):=by
    rw[H f.next ab,ah.cz,aJ rfl];rw[tE];rintro⟨a,h1,h2⟩;obtain⟨j2,_,_,h3|⟨N,t0,h3,_,h4,_⟩⟩:=P a h1;·rw[h3]at h2;cases h2
    rw[h3]at h2;injection h2 with h2;subst h2;have:=D _ _ h4;omega
   have s:∀a∈l,a≠.ofNat j:=λa h e=>z.1 (e▸h);refine⟨?_,ab,?_,?_,?_,λx=>if x=.ofNat j then f.next else nm x,?_,?_,?_⟩
   .intro k w;rcases acn.1 w with e|e;·subst e;exact⟨j,rfl,E,.inl i⟩
    exact P k e
   .intro p C A;rw[H p ab (λq=>A (by simp only[jN,g,i];exact q)),ah.cz,ap (λe=>by rw[e]at C;omega)]
   .intro p C;rw[s4 p C,ah.cz,ap (λe=>by rw[e]at C;omega)]
   .intro x hx;rw[s5 x (λa b d=>hx a (aco _ b) d),lh];have:=hx (.ofNat j) (abL ..) i;rw[g]at this;rw[ap (by simp;omega)]
   .intro k w B;rcases acn.1 w with e|e;·subst e;simp only[bf];exact⟨ab,ab,hg,hc⟩
    simp only[ap (s k e)];obtain⟨R,S,T,q4⟩:=I k e B;exact⟨ab,S,T,q4⟩
   .intro k a w b u d he;rcases acn.1 w with e|e<;>rcases acn.1 b with y|y;·rw[e,y]
    .subst e;simp only[bf,ap (s a y)]at he;have:=(I a y d).1;rw[<-he]at this;omega
    .subst y;simp only[bf,ap (s k e)]at he;have:=(I k e u).1;rw[he]at this;omega
    simp only[ap (s k e),ap (s a y)]at he;exact s7 k a e y u d he
   intro p V J;by_cases e:p=f.next;·exact⟨.ofNat j,abL ..,i,by simp[e]⟩
   have:p.am≠f.next.am:=λq=>e (af.pY q);obtain⟨a,R,S,T⟩:=Q p ab J;exact⟨a,aco _ R,S,by simp only[ap (s a R)];exact T⟩
  .rename_i N G;split at h;case isTrue=>cases h
   rename_i K;have K:N≠m:=Cd (by simpa using K);split at h;case h_2=>cases h
   rename_i t0 W;simp only[jN,g,G]at r;rw[agf]at r;have ag:=D N t0 W;obtain⟨P,s2,H,s4,s5,nm,I,s7,Q⟩:=GI h D z.2 r.2;rw[ah.d8]at s2 H I Q;refine⟨?_,s2,?_,?_,?_,nm,?_,?_,?_⟩
   .intro k w;rcases acn.1 w with e|e;·subst e;refine⟨j,rfl,E,.inr ⟨N,t0,G,K,W,?_⟩⟩;rw[H N ag r.1,ah.aC,aJ rfl]
    exact P k e
   .intro p C A;simp only[jN,g,G,acn,not_or]at A;rw[H p C A.2,ah.aC,ap A.1]
   .intro p C;rw[s4 p C,ah.aC,ap (λe=>by rw[e]at C;omega)]
   .intro x hx;exact s5 x (λa b d=>hx a (aco _ b) d)
   .intro k w B;rcases acn.1 w with e|e;·subst e;rw[g,G]at B;cases B
    exact I k e B
   .intro k a w b u d he;rcases acn.1 w with e|e;·subst e;rw[g,G]at u;cases u
    rcases acn.1 b with y|y;·subst y;rw[g,G]at d;cases d
    exact s7 k a e y u d he
   intro p V J;obtain⟨a,R,S,T⟩:=Q p V J;exact⟨a,aco _ R,S,T⟩
  cases h
section
variable[Ov]
theorem Xc.dD{ac:Nat->aX}{n t:Nat}{g:ak AV->ah->Option (ak AV×ah)}{fr:Fr}{H H':ah}{a:ak AV}{K:bU->Fr->ah->Prop}(b:ac t=.dD g)(hg:g fr.aa H=some (a,H'))(h:K .none {fr with aa:=a} H'):Xc ac (n+1) (.dD t) fr H K:=by simp only[Xc,exec,b,hg];exact h
theorem Td{H:ah}{N:af}{ks:List Int}(h:e9 (H.get N) ks):iB H N=some ks:=by
 obtain⟨c,es,he,b⟩:=h;have key:∀{es:List aT}{ks:List Int},es.map aT.kv=ks.map sk->qA es=some ks:=by intro es;induction es with|nil=>intro ks h;cases ks<;>simp at h;rfl|cons a es d=>intro ks h;cases ks with|nil=>simp at h|cons k ks=>simp only[afp,afM,aT.kv,sk,abS]at h;simp only[qA,h.1.1,h.1.2,d h.2]
 unfold iB;rw[he];simp only[key b,(tp ks).2 c,bf]
theorem LC{H:ah}{N:af}{ks:List Int}(h:e9 (H.get N) ks):im H N=some ks:=by
 obtain⟨c,es,he,b⟩:=h;have key:∀{es:List aT}{ks:List Int},es.map aT.kv=ks.map sk->il es=some ks:=by intro es;induction es with|nil=>intro ks h;cases ks<;>simp at h;rfl|cons a es d=>intro ks h;cases ks with|nil=>simp at h|cons k ks=>simp only[afp,afM,aT.kv,sk,abS]at h;simp only[il,h.1.1,d h.2]
 unfold im;rw[he];simp only[key b,(tp ks).2 c,bf]
theorem Te{es a:List aT}{c:List Int}(l:c.Nodup)(h:es.map aT.kv=c.map sk)(j:(a.map aT.kv).Perm (es.map aT.kv))(b:Nat):∃d,e9 (.map a b) d/\d.Perm c:=by
 let f:AV×AV->Int:=λp=>match p.1 with|.int _ k=>k|_=>0;have h1:(a.map aT.kv).map f=((a.map aT.kv).map f):=rfl;have g:((a.map aT.kv).map f).Perm c:=by
  have:=j.map f;have e:(c.map sk).map f=c:=by
   rw[ag1];have:(f∘sk)=id:=by funext k;rfl
   rw[this,ahi]
  rw[h,e]at this;exact this
 refine⟨(a.map aT.kv).map f,⟨g.nodup_iff.2 l,a,rfl,?_⟩,g⟩;rw[ag1];have:∀p∈a.map aT.kv,(sk∘f) p=p:=by intro p i;have:=j.mem_iff.1 i;rw[h,afE]at this;obtain⟨k,_,rfl⟩:=this;rfl
 conv=>lhs;rw[<-ahi (a.map aT.kv)]
 exact(agG this).symm
theorem ah.fQ(H:ah)(d:∀j:af,H.next.am<=j.am->H.get j=.none)(p:af->Prop):∃a:ah,a.next=H.next/\∀j,(p j->a.get j=.none)/\(¬p j->a.get j=H.get j):=by
 classical
  refine⟨H.dN (((agA H.next.am).map af.cr).filter λj=>decide (p j)),ah.ix _ _,λj=>?_⟩;rw[ah.sW];constructor
  .intro b;split;·rfl
   rename_i e;refine d j ?_;rcases afZ j.am H.next.am with h|h;·exfalso;apply e;rw[ag0,afE];have c:=af.oY j;exact⟨⟨j.am - 1,agK.2 ab,af.pY (by rw[af.jL];omega)⟩,by simpa using b⟩
   exact h
  intro b;rw[ap];rw[ag0];rintro⟨_,h⟩;exact b (by simpa using h)
end
end
section
def wc:Nat->aX:=λi=>if afw i 1001 then .dD tq else .none
theorem Tf{P:Program}:fM P wc:=by
 refine⟨?_,?_,?_⟩;·intro q i j body k;simp only[wc]at k;split at k<;>cases k
 .intro q r k;simp only[wc]at k;split at k<;>cases k
 intro t r k;simp only[wc]at k;split at k;·rename_i hb;injection k with k;subst k;rw[afo hb];exact SY
 cases k
theorem Tg{aa:ak AV}{H:ah}{m N h:af}{o3:Nat}{k:Int}{q:AV}{i r:List Int}(s:aa.get .ahp (sl 4)=.map m)(t:aa.get .ahp (sl 5)=.int 3 k)(h3:aa.get .ahp (sl 3)=.aE h o3)(u:bx H h o3=some q)(he:kM H q k=some (.map N))(j:m≠N)(v:im H m=some i)(w:iB H N=some r):tq aa H=some (jv aa qB,(H.set N (.co (dh (eV (fX k i) r)))).skip):=by
 have hb:af.beq m N=false:=by cases x:af.beq m N with|false=>rfl|true=>exact absurd (af.eS.1 x) j
 simp only[tq,s,t,h3,mr,u,he,hb,v,w,abe,bD]
theorem bM{i j:af}(k:i.am≠j.am):i≠j:=λe=>k (congrArg af.am e)
structure mU(Hs:ah)(m i:af)(c:ak AV)(o cn e fz:Nat)(ks:List Int)(t0:af->List Int)(olds:List af)(esx:List aT)(clock:Nat)(l:List Int)(H1:ah)(c':ak AV)(nr:Int->af):Prop where
 nx:Hs.next.am<H1.next.am
 lT:∀j,j.am<Hs.next.am->j≠m->j≠i->j∉olds->H1.get j=Hs.get j
 mm:H1.get m=.map esx clock
 ii:H1.get i=.cells c' cn e true [] fz
 new:∀k∈l,c.bp .ahp (o+k.toNat)=.cC->Hs.next.am<(nr k).am/\(nr k).am<H1.next.am/\c'.bp .ahp (o+k.toNat)=.map (nr k)/\∃ks',e9 (H1.get (nr k)) ks'/\∀x,x∈ks'↔x∈ks/\x≠k
 inj:∀k k2,k∈l->k2∈l->c.bp .ahp (o+k.toNat)=.cC->c.bp .ahp (o+k2.toNat)=.cC->nr k=nr k2->k=k2
 cc:∀x,(∀k∈l,c.bp .ahp (o+k.toNat)=.cC->x≠o+k.toNat)->c'.bp .ahp x=c.bp .ahp x
 cG:∀k∈ks,∀N,c.bp .ahp (o+k.toNat)=.map N->∃ks',e9 (H1.get N) ks'/\∀x,x∈ks'↔x∈t0 N\/(k∈l/\x∈ks/\x≠k)
 only:∀j,Hs.next.am<j.am->H1.get j≠.none->∃k∈l,c.bp .ahp (o+k.toNat)=.cC/\nr k=j
 sub:∀k∈l,k∈ks
theorem mU.set{Hs:ah}{m i:af}{c:ak AV}{o b e fz:Nat}{ks:List Int}{t0:af->List Int}{d:List af}{esx:List aT}{g:Nat}{l:List Int}{H1:ah}{a:ak AV}{f:Int->af}(J:mU Hs m i c o b e fz ks t0 d esx g l H1 a f)(s:bL)(z:m.am<Hs.next.am)(hi:i.am<Hs.next.am)(dV:∀k∈ks,∀N,c.bp .ahp (o+k.toNat)=.map N->N.am<Hs.next.am):mU Hs m i c o b e fz ks t0 d esx g l (H1.set Hs.next s) a f:=by
 refine⟨J.nx,λj h1 h2 h3 t=>?_,?_,?_,λk q u=>?_,J.inj,J.cc,λk q N r=>?_,λj hj hg=>?_,J.sub⟩;·rw[ah.aC,ap (bM ab)];exact J.lT j h1 h2 h3 t
 .rw[ah.aC,ap (bM ab)];exact J.mm
 .rw[ah.aC,ap (bM ab)];exact J.ii
 .obtain⟨v,w,x,y⟩:=J.new k q u;refine⟨v,w,x,?_⟩;rw[ah.aC,ap (bM ab)];exact y
 .have:=dV k q N r;rw[ah.aC,ap (bM ab)];exact J.cG k q N r
 rw[ah.aC,ap (bM ab)]at hg;exact J.only j hj hg
section
variable{Hs:ah}{m i h:af}{c:ak AV}{o n b e fz o3 p:Nat}{ex:Bool}{ks:List Int}{t0:af->List Int}{d:List af}{esx:List aT}{g:Nat}{l:List Int}{H1:ah}{a:ak AV}{f:Int->af}
theorem Ti(fk:∀k∈ks,∃j,k=.ofNat j/\j<n/\(c.bp .ahp (o+k.toNat)=.cC\/∃N,c.bp .ahp (o+k.toNat)=.map N/\N≠m/\N≠i/\N.am<Hs.next.am/\N∈d))(fo:∀k q N,k∈ks->q∈ks->c.bp .ahp (o+k.toNat)=.map N->c.bp .ahp (o+q.toNat)=.map N->k=q)(hm:m.am<Hs.next.am)(hi:i.am<Hs.next.am)(J:mU Hs m i c o b e fz ks t0 d esx g l H1 a f){G:List Int}(hx:∀x,x∈G↔x∈ks){k:Int}(S:k∈ks)(hA:¬(c.bp .ahp (o+k.toNat)=.cC/\k∉l)):∃N A,a.bp .ahp (o+k.toNat)=.map N/\m≠N/\N≠i/\N≠Hs.next/\e9 (H1.get N) A/\mU Hs m i c o b e fz ks t0 d esx g (l++[k]) ((H1.set N (.co (dh (eV (fX k G) A)))).skip) a f:=by
 have E:∀A x,x∈eV (fX k G) A↔(x∈ks/\x≠k)\/x∈A:=λA x=>by rw[mu,rF,hx]
 have s:∀(N j:af)(F:bL),((H1.set N F).skip).get j=if j=N then F else H1.get j:=λN j F=>ah.aC H1 N j F;have B:∀(N:af)(F:bL),((H1.set N F).skip).next.am=H1.next.am+1:=λN F=>af.eI _;obtain⟨j,ax,hj,I⟩:=fk k S;by_cases v:c.bp .ahp (o+k.toNat)=.cC
 .have C:k∈l:=afO λay=>hA ⟨v,ay⟩;obtain⟨q1,q2,q3,A,q4,q5⟩:=J.new k C v;have u:∀q,q∈l++[k]↔q∈l:=λq=>by simp only[ae8,abx];exact⟨λay=>ay.elim id λay=>ay▸C,.inl⟩
  refine⟨f k,A,q3,bM ab,bM ab,bM ab,q4,?_⟩;refine⟨by rw[B];have:=J.nx;omega,λa1 h1 h2 h3 T=>?_,?_,?_,λq r w=>?_,λa2 a6 Y hb=>J.inj a2 a6 ((u a2).1 Y) ((u a6).1 hb),λx H=>J.cc x λq r=>H q ((u q).2 r),λq r V t=>?_,λa1 Z hg=>?_,λq r=>J.sub q ((u q).1 r)⟩;·rw[s,ap (bM ab)];exact J.lT a1 h1 h2 h3 T
  .rw[s,ap (bM ab)];exact J.mm
  .rw[s,ap (bM ab)];exact J.ii
  .rw[u]at r;obtain⟨D,K,r3,y,r4,r5⟩:=J.new q r w;refine⟨D,by rw[B];omega,r3,?_⟩;rw[s];by_cases he:q=k;·subst he;rw[aJ rfl];exact⟨_,B' (pj _ q4.1),λx=>by rw[E,q5];simp⟩
   rw[ap λay=>he (J.inj q k r C w v ay)];exact⟨y,r4,r5⟩
  .obtain⟨y,D,K⟩:=J.cG q r V t;obtain⟨_,_,_,L|⟨N',L,_,_,ag,_⟩⟩:=fk q r;·rw[L]at t;cases t
   rw[L]at t;injection t with t;subst t;rw[s,ap (bM ab)];exact⟨y,D,λx=>by rw[K,u]⟩
  rw[s]at hg;split at hg;·rename_i he;exact⟨k,(u k).2 C,v,he.symm⟩
  obtain⟨q,D,K⟩:=J.only a1 Z hg;exact⟨q,(u q).2 D,K⟩
 obtain⟨N,W,O,P,ag,av⟩:=I.resolve_left v;obtain⟨A,D,K⟩:=J.cG k S N W;have aw:a.bp .ahp (o+k.toNat)=.map N:=by
  rw[J.cc _ λq r w he=>?_];·exact W
  rw[<-he]at w;exact v w
 have z:∀q,q∈l++[k]->c.bp .ahp (o+q.toNat)=.cC->q∈l:=λq ay L=>by
  rcases ae8.1 ay with ay|ay;·exact ay
  rw[abx]at ay;subst ay;exact absurd L v
 refine⟨N,A,aw,ahf O,P,bM ab,D,?_⟩;refine⟨by rw[B];have:=J.nx;omega,λa1 h1 h2 h3 T=>?_,?_,?_,λq r w=>?_,λa2 a6 Y hb Q R=>J.inj a2 a6 (z a2 Y Q) (z a6 hb R) Q R,λx H=>J.cc x λq r=>H q (afD _ r),λq r V t=>?_,λa1 Z hg=>?_,λq r=>?_⟩;·rw[s,ap (λay:a1=N=>T (ay▸av))];exact J.lT a1 h1 h2 h3 T
 .rw[s,ap (ahf O)];exact J.mm
 .rw[s,ap (ahf P)];exact J.ii
 .obtain⟨M,X,s3,s4⟩:=J.new q (z q r w) w;refine⟨M,by rw[B];omega,s3,?_⟩;rw[s,ap (bM ab)];exact s4
 .rw[s];by_cases he:q=k
  .subst he;rw[W]at t;injection t with t;subst t;rw[aJ rfl];refine⟨_,B' (pj _ D.1),λx=>?_⟩;rw[E,K];simp only[ae8,abx,or_true,true_and];constructor
   .rintro(ay|ay|ay);·exact .inr ay
    .exact .inl ay
    exact .inr ay.2
   rintro(ay|ay);·exact .inr (.inl ay)
   exact .inl ay
  rw[ap λay:V=N=>he (fo q k N r S (ay▸t) W)];obtain⟨y,M,X⟩:=J.cG q r V t;exact⟨y,M,λx=>by rw[X,ae8,abx];simp[he]⟩
 .rw[s]at hg;rw[ap (bM ab)]at hg;obtain⟨q,M,X⟩:=J.only a1 Z hg;exact⟨q,afD _ M,X⟩
 rcases ae8.1 r with ay|ay;·exact J.sub q ay
 rw[abx]at ay;rw[ay];exact S
theorem Tj(O:∀k∈ks,∃j,k=.ofNat j/\j<n/\(c.bp .ahp (o+k.toNat)=.cC\/∃N,c.bp .ahp (o+k.toNat)=.map N/\N≠m/\N≠i/\N.am<Hs.next.am/\N∈d))(hm:m.am<Hs.next.am)(hi:i.am<Hs.next.am)(S:m≠i)(J:mU Hs m i c o b e fz ks t0 d esx g l H1 a f){v:List Int}(hx:∀x,x∈v↔x∈ks){k:Int}(X:k∈ks)(u:c.bp .ahp (o+k.toNat)=.cC)(D:k∉l):a.bp .ahp (o+k.toNat)=.cC/\mU Hs m i c o b e fz ks t0 d esx g (l++[k]) (((((H1.new (.map [] 0)).set i (.cells (dY a (o+k.toNat) [.map H1.next]) b e true [] fz))).set H1.next (.co (dh (eV (fX k v) [])))).skip) (dY a (o+k.toNat) [.map H1.next]) (λx=>if x=k then H1.next else f x):=by
 have K:∀x,x∈eV (fX k v) []↔(x∈ks/\x≠k):=λx=>by rw[mu,rF,hx];simp
 have hJ:=J.nx;have s:∀j:af,((((H1.new (.map [] 0)).set i (.cells (dY a (o+k.toNat) [.map H1.next]) b e true [] fz)).set H1.next (.co (dh (eV (fX k v) [])))).skip).get j=if j=H1.next then .co (dh (eV (fX k v) []))else if j=i then .cells (dY a (o+k.toNat) [.map H1.next]) b e true [] fz else H1.get j:=by
  intro j;show(((H1.new (.map [] 0)).set i _).set H1.next _).get j=_;rw[ah.aC];split;·rfl
  rename_i av;rw[ah.aC];split;·rfl
  rw[ah.cz,ap av]
 have C:((((H1.new (.map [] 0)).set i (.cells (dY a (o+k.toNat) [.map H1.next]) b e true [] fz)).set H1.next (.co (dh (eV (fX k v) [])))).skip).next.am=H1.next.am+2:=by show H1.next.succ.succ.am=_;rw[af.eI,af.eI]
 have z:∀r∈ks,o+k.toNat=o+r.toNat->r=k:=by intro r q he;obtain⟨j,rfl,_⟩:=O k X;obtain⟨P,rfl,_⟩:=O r q;have w:(age j).toNat=j:=rfl;have y:(age P).toNat=P:=rfl;rw[w,y]at he;have:P=j:=ab;rw[this]
 have T:a.bp .ahp (o+k.toNat)=.cC:=by rw[J.cc _ λr q E he=>D (z r (J.sub r q) he▸q)];exact u
 have Q:∀x,(dY a (o+k.toNat) [.map H1.next]).bp .ahp x=if x=o+k.toNat then .map H1.next else a.bp .ahp x:=by
  intro x;rw[lh];by_cases F:x=o+k.toNat;·subst F;simp
  rw[ap (by simp;omega),ap F]
 refine⟨T,by rw[C];omega,λay h1 h2 h3 h4=>?_,?_,?_,λr q E=>?_,λaw ax Y hb G H he=>?_,λx I=>?_,λr q N2 t=>?_,λay hp hg=>?_,λr q=>?_⟩;·rw[s,ap (bM ab),ap h3];exact J.lT ay h1 h2 h3 h4
 .rw[s,ap (bM ab),ap S];exact J.mm
 .rw[s,ap (bM ab),aJ rfl]
 .by_cases he:r=k;·subst he;simp only[bf];refine⟨hJ,by rw[C];omega,by rw[Q,aJ rfl],?_⟩;rw[s,aJ rfl];exact⟨_,B' (pj _ ag9),K⟩
  have A:r∈l:=by
   rcases ae8.1 q with av|av;·exact av
   rw[abx]at av;exact absurd av he
  simp only[ap he];obtain⟨M,Z,R,s4⟩:=J.new r A E;refine⟨M,by rw[C];omega,?_,?_⟩;·rw[Q,ap λav=>he (z r (J.sub r A) av.symm)];exact R
  rw[s,ap (bM ab),ap (bM ab)];exact s4
 .have hl:∀x,x∈l++[k]->x≠k->x∈l:=λx av B=>by
   rcases ae8.1 av with av|av;·exact av
   rw[abx]at av;exact absurd av B
  by_cases w:aw=k<;>by_cases y:ax=k;·rw[w,y]
  .simp only[aJ w,ap y]at he;have:=(J.new ax (hl ax hb y) H).2.1;rw[<-he]at this;omega
  .simp only[aJ y,ap w]at he;have:=(J.new aw (hl aw Y w) G).2.1;rw[he]at this;omega
  simp only[ap w,ap y]at he;exact J.inj aw ax (hl aw Y w) (hl ax hb y) G H he
 .rw[Q,ap (I k aF u)];exact J.cc x λr q=>I r (afD _ q)
 .obtain⟨V,r1,r2⟩:=J.cG r q N2 t;obtain⟨_,_,_,B|⟨N',B,_,W,ag,_⟩⟩:=O r q;·rw[B]at t;cases t
  have L:r≠k:=λav=>by rw[av,u]at B;cases B
  rw[B]at t;injection t with t;subst t;rw[s,ap (bM ab),ap W];exact⟨V,r1,λx=>by rw[r2,ae8,abx];simp[L]⟩
 .rw[s]at hg;by_cases he:ay=H1.next;·exact⟨k,aF,u,by simp[he]⟩
  rw[ap he,ap (bM ab)]at hg;obtain⟨r,M,Z,R⟩:=J.only ay hp hg;exact⟨r,afD _ M,Z,by simp only[ap (λav=>D (av▸M):r≠k)];exact R⟩
 rcases ae8.1 q with av|av;·exact J.sub r av
 rw[abx]at av;rw[av];exact X
end
end
section
theorem wd{o:bL}{ks:List Int}(i:e9 o ks):o≠.none/\o.aM=[]/\o.jg=false/\o.len=0:=by obtain⟨_,es,i,_⟩:=i;cases o<;>simp[dl]at i<;>simp[bL.aM,bL.jg,bL.len]
theorem Tk{aa:ak AV}{H:ah}{x:aL}(i:gv aa x=.cC):aD (.eq false .map x (.c .cC)) aa H=some (.bool true,H):=by simp only[aD,i,vX];rfl
theorem Tl{aa:ak AV}{H:ah}{x:aL}{N:af}(i:gv aa x=.map N):aD (.eq false .map x (.c .cC)) aa H=some (.bool false,H):=by simp only[aD,i,vX];rfl
section
variable{P:Program}{Hs:ah}{m i b:af}{c:ak AV}{o n a e fz o3 f:Nat}{ex:Bool}{ks:List Int}{t0:af->List Int}{g:List af}{esx:List aT}{h:Nat}{l:List Int}{H1:ah}{d:ak AV}{p:Int->af}
theorem Tm{aa:ak AV}{br:List af}{bw:Option af}{k:Int}(O:∀k∈ks,∃j,k=.ofNat j/\j<n/\(c.bp .ahp (o+k.toNat)=.cC\/∃N,c.bp .ahp (o+k.toNat)=.map N/\N≠m/\N≠i/\N.am<Hs.next.am/\N∈g))(fo:∀k Q N,k∈ks->Q∈ks->c.bp .ahp (o+k.toNat)=.map N->c.bp .ahp (o+Q.toNat)=.map N->k=Q)(hm:m.am<Hs.next.am)(hi:i.am<Hs.next.am)(G:m≠i)(h3:b.am<Hs.next.am)(X:b≠m)(H:b≠i)(Y:b∉g)(a':fz<=o)(ba:o+n<=a)(Z:bx Hs b o3=some (.slice i o n f ex))(R:k∈ks){z:List Int}(ag:e9 (.map esx h) z)(hx:∀x,x∈z↔x∈ks)(S:aa.get .ahp (sl 3)=.aE b o3)(e4:aa.get .ahp (sl 4)=.map m)(K:aa.get .ahp (sl 5)=.int 3 k)(J:mU Hs m i c o a e fz ks t0 g esx h l H1 d p):Xc wc 60 K4 ⟨aa,br,bw⟩ H1 λj q D=>j=.none/\q.br=br/\q.bw=bw/\(∀t,t∉po->q.aa.get .ahp t=aa.get .ahp t)/\q.aa.get .ahp (sl 17)=aa.get .ahp (sl 17)/\D.get Hs.next=H1.get Hs.next/\∃c2 s,mU Hs m i c o a e fz ks t0 g esx h (l++[k]) D c2 s:=by
 obtain⟨j,A,hj,a1⟩:=O k R;have v:o+k.toNat=o+j:=by rw[A];rfl
 have hJ:=J.nx;have u:bx H1 b o3=some (.slice i o n f ex):=by rw[mw (J.lT b h3 X H Y)];exact Z
 have w:∀{r:ah}{y:ak AV},r.get i=.cells y a e true [] fz->bx r i (o+j)=some (y.bp .ahp (o+j)):=λbb=>by unfold bx;rw[bb];simp only[show afR (o+j) a=true from ahm agh ab,bf]
 have B:∀{r:ah}{y:ak AV}{N:af},r.get i=.cells y a e true [] fz->y.bp .ahp (o+k.toNat)=.map N->kM r (.slice i o n f ex) k=some (.map N):=λbb h'=>by rw[A];simp only[kM,show afR j n=true from ahm agh hj,bf,w bb];rw[<-v,h']
 have aB:∀(E:ak AV)(r:ah)(N:af)(F:List Int)(y c2:ak AV)(s:Int->af),(∀t,t∉po->E.get .ahp t=aa.get .ahp t)->E.get .ahp (sl 17)=aa.get .ahp (sl 17)->E.get .ahp (sl 5)=.int 3 k->bx r b o3=some (.slice i o n f ex)->r.get i=.cells y a e true [] fz->y.bp .ahp (o+k.toNat)=.map N->m≠N->r.get m=.map esx h->e9 (r.get N) F->Hs.next≠N->r.get Hs.next=H1.get Hs.next->mU Hs m i c o a e fz ks t0 g esx h (l++[k]) ((r.set N (.co (dh (eV (fX k z) F)))).skip) c2 s->Xc wc 10 (.dD 1001) ⟨E,br,bw⟩ r λj q D=>j=.none/\q.br=br/\q.bw=bw/\(∀t,t∉po->q.aa.get .ahp t=aa.get .ahp t)/\q.aa.get .ahp (sl 17)=aa.get .ahp (sl 17)/\D.get Hs.next=H1.get Hs.next/\∃c2 s,mU Hs m i c o a e fz ks t0 g esx h (l++[k]) D c2 s:=by
  intro E r N F y c2 s T a2 a3 a4 a5 a6 a7 a8 a9 av aw ax;have b3:E.get .ahp (sl 3)=.aE b o3:=(T _ bo).trans S;have b4:E.get .ahp (sl 4)=.map m:=(T _ bo).trans e4;have ay:im r m=some z:=LC (by rw[a8];exact ag);have I:∀t,t∈qB->t∈po:=bo;refine Xc.dD (n:=9) (g:=tq) rfl (Tg b4 a3 b3 a4 (B a5 a6) a7 ay (Td a9)) ⟨rfl,rfl,rfl,λt C=>?_,?_,?_,c2,s,ax⟩;·show(jv E qB).get .ahp t=_;rw[z7,ap λbb=>C (I t bb)];exact T t C
  .show(jv E qB).get .ahp (sl 17)=_;rw[z7,ap bo];exact a2
  show(r.set N _).get Hs.next=_;rw[ah.aC,ap av];exact aw
 refine Xc.gK (n:=50) (m:=10) (k:=59) ab ab (Xc.gK (n:=48) (m:=48) (k:=49) ab ab (Xc.region (n:=47) ?_));refine Xo.op (n:=46) (v:=.slice i o n f ex) (H':=H1) (gX (by simp[gv];exact S) u) ?_;refine Xo.op (n:=45) (v:=.int 3 k) (H':=H1) (by simp[aD,gv,aK,ak.aC,aY];exact K) ?_;refine Xo.op (n:=44) (v:=.aE i (o+j)) (H':=H1) (rE (n:=n) (c:=f) (e:=ex) (j:=j) (k:=3) (by simp[gv,aK,ak.aC,aY]) (by simp[gv,aK,ak.aC,aY];exact A) hj) ?_;refine Xo.op (n:=43) (v:=d.bp .ahp (o+j)) (H':=H1) (gX (by simp[gv,aK,ak.aC,aY]) (w J.ii)) ?_;by_cases V:c.bp .ahp (o+k.toNat)=.cC/\k∉l
 .obtain⟨L,M⟩:=Tj O hm hi G J hx R V.1 V.2;rw[v]at L;refine Xo.op (n:=42) (v:=.bool true) (H':=H1) (Tk (by simp[gv,aK,ak.aC,aY,L])) (Xo.nil (n:=41) ?_);refine Xc.ph (n:=47) (by simp[gv,aK,ak.aC,aY]) (Xc.region (n:=46) ?_);refine Xo.op (n:=45) (v:=.slice i o n f ex) (H':=H1) (gX (by simp[gv,aK,ak.aC,aY];exact S) u) ?_;refine Xo.op (n:=44) (v:=.int 3 k) (H':=H1) (by simp[aD,gv,aK,ak.aC,aY];exact K) ?_;refine Xo.op (n:=43) (v:=.map H1.next) (H':=H1.new (.map [] 0)) rfl ?_;refine Xo.op (n:=42) (v:=.aE i (o+j)) (H':=H1.new (.map [] 0)) (rE (n:=n) (c:=f) (e:=ex) (j:=j) (k:=3) (by simp[gv,aK,ak.aC,aY]) (by simp[gv,aK,ak.aC,aY];exact A) hj) ?_;have gi:(H1.new (.map [] 0)).get i=.cells d a e true [] fz:=by rw[ah.cz,ap (bM ab)];exact J.ii
  have wr:fS (H1.new (.map [] 0)) i (o+j) [.map H1.next]=some ((H1.new (.map [] 0)).set i (.cells (dY d (o+j) [.map H1.next]) a e true [] fz)):=by
   unfold fS;rw[gi];have e1:decide (fz<=o+j)=true:=by simp;omega
   have e2:decide (o+j+([.map H1.next]:List AV).length<=a)=true:=by simp;omega
   simp only[e1,e2,ahb];rfl
  refine Xo.op (n:=41) (v:=.ahp) (H':=(H1.new (.map [] 0)).set i (.cells (dY d (o+j) [.map H1.next]) a e true [] fz)) ?_ (Xo.nil (n:=40) ?_);·simp only[aD,gv,aK,ak.aC,aY,bf];simp[AV.cells,wr]
  have W:∀bd:af,bd≠i->bd≠H1.next->((H1.new (.map [] 0)).set i (.cells (dY d (o+j) [.map H1.next]) a e true [] fz)).get bd=H1.get bd:=λbd p1 p2=>by rw[ah.aC,ap p1,ah.cz,ap p2]
  rw[v]at M;refine aB _ _ H1.next [] _ _ _ ?_ ?_ ?_ ?_ (by rw[ah.aC,aJ rfl]) ?_ (bM ab) ?_ ?_ (bM ab) ?_ M;·intro t C;have:t∉ [sl 22,sl 23,sl 24,sl 25,sl 26,sl 27,sl 28,sl 29,sl 30]:=λbb=>C ((by decide:∀t∈ [sl 22,sl 23,sl 24,sl 25,sl 26,sl 27,sl 28,sl 29,sl 30],t∈po) t bb);simp only[acn,afy,or_false,not_or]at this;simp[aK,ak.aC,this]
  .simp[aK,ak.aC,aY]
  .simp[aK,ak.aC,aY];exact K
  .rw[mw (W b H (bM ab))];exact u
  .rw[v,lh];simp
  .rw[W m G (bM ab)];exact J.mm
  .rw[ah.aC,ap (bM ab),ah.cz,aJ rfl];exact⟨ag9,[],rfl,rfl⟩
  exact W _ (bM ab) (bM ab)
 obtain⟨N,F,g1,g2,g3,g4,g5,M⟩:=Ti O fo hm hi J hx R V;have L:d.bp .ahp (o+j)=.map N:=by rw[<-v];exact g1
 refine Xo.op (n:=42) (v:=.bool false) (H':=H1) (Tl (N:=N) (by simp[gv,aK,ak.aC,aY,L])) (Xo.nil (n:=41) ?_);refine Xc.mi (n:=47) (by simp[gv,aK,ak.aC,aY]) (Xc.skip (n:=46) ?_);refine aB _ _ N F d d p ?_ ?_ ?_ u J.ii g1 g2 J.mm g5 (ahf g4) rfl M;·intro t C;have:t∉ [sl 22,sl 23,sl 24,sl 25,sl 26,sl 27,sl 28,sl 29,sl 30]:=λbb=>C ((by decide:∀t∈ [sl 22,sl 23,sl 24,sl 25,sl 26,sl 27,sl 28,sl 29,sl 30],t∈po) t bb);simp only[acn,afy,or_false,not_or]at this;simp[aK,ak.aC,this]
 .simp[aK,ak.aC,aY]
 simp[aK,ak.aC,aY];exact K
end
end
open Classical in theorem ae6{P:Program}:tb P 1002 Gv:=by
 intro Wr ρ H H' w nt fr c1 c2 x y f1 b a d4 d5 bd hg hF hI gb cs;have bd:bg.seq K5 K6=bg.seq x y:=bd;injection bd with hx hy;subst hx;subst hy;unfold Gv at hg;split at hg;case h_2=>cases hg
 rename_i m R o3 g1 g2;split at hg;case h_2=>cases hg
 rename_i i o n f2 ex g3;split at hg;case h_2=>cases hg
 rename_i ks c d1 e fz g4 g5;split at hg;case isFalse=>cases hg
 rename_i a';split at hg;case h_2=>cases hg
 rename_i d2 HE d6;injection hg with hg;injection hg with d7 d';subst d7;subst d';simp only[ae9,af4]at a';obtain⟨⟨⟨ea,bv⟩,b0⟩,ax⟩:=a';have eb:R≠i:=Cd ea;have bv:=afx bv;have b0:=afx b0;have ax:=(LA _).1 ax;have D:=mT g4;have vK:∀j:af,H.get j≠.none->j.am<H.next.am:=λj hj=>by
  rcases afZ j.am H.next.am with h|h;·exact h
  exact absurd (hI.cS j h).1 hj
 have Q:∀N t,iB H N=some t->N.am<H.next.am:=λN t h=>vK N (wd (mT h)).1;obtain⟨s1,s2,s3,s4,s5,nm,s6,s7,s8⟩:=GI d6 Q D.1 ax;have dm:m.am<H.next.am:=Q m ks g4;have dr:i.am<H.next.am:=vK i (by rw[g5];simp);have ds:R.am<H.next.am:=by obtain⟨_,_,_,_,_,_,q,_⟩:=tz g3;exact vK R (by rw[q];simp)
 have cp:m≠i:=by rintro rfl;obtain⟨_,es,q,_⟩:=D;rw[g5]at q;simp[dl]at q
 have ec:R≠m:=by rintro rfl;obtain⟨_,es,q,_⟩:=D;obtain⟨_,_,_,_,_,_,q',_⟩:=tz g3;rw[q']at q;simp[dl]at q
 let f:=jN c o ks;have dV:∀N,N∈f->∃gb∈ks,∃t0,c.bp .ahp (o+gb.toNat)=.map N/\N≠m/\iB H N=some t0/\HE.get N=.co (dh (eV (fX gb ks) t0)):=by
  intro N B;obtain⟨gb,h1,h2⟩:=tE.1 B;obtain⟨j,_,_,h3|⟨N',t0,h3,h4,I,h6⟩⟩:=s1 gb h1;·rw[h3]at h2;cases h2
  rw[h3]at h2;injection h2 with h2;subst h2;exact⟨gb,h1,t0,h3,h4,I,h6⟩
 have d3:∀N,N∈f->N.am<H.next.am:=λN h=>by obtain⟨_,_,t0,_,_,I,_⟩:=dV N h;exact Q N t0 I
 have ei:i∉f:=λh=>by obtain⟨_,_,t0,_,_,I,_⟩:=dV i h;obtain⟨_,es,q,_⟩:=mT I;rw[g5]at q;simp[dl]at q
 have ej:R∉f:=λh=>by obtain⟨_,_,t0,_,_,I,_⟩:=dV R h;obtain⟨_,es,q,_⟩:=mT I;obtain⟨_,_,_,_,_,_,q',_⟩:=tz g3;rw[q']at q;simp[dl]at q
 have f9:m∉f:=λh=>by obtain⟨_,_,_,_,h4,_⟩:=dV m h;exact h4 rfl
 let hl:af->Prop:=λj=>(H.get j).lq/\j≠R/\j≠i/\j≠m/\j∉f;have ek:¬hl R:=λh=>h.2.1 rfl;have el:¬hl i:=λh=>h.2.2.1 rfl;have et:¬hl m:=λh=>h.2.2.2.1 rfl;have ew:∀N,N∈f->¬hl N:=λN B h=>h.2.2.2.2 B;have b3:∀j,H.next.am<=j.am->¬hl j:=λj hj h=>h.1.2.2 (hI.cS j hj).1;obtain⟨C,s,ay⟩:=H.fQ (λj h=>(hI.cS j h).1) hl;have Y:bj P (Wr.iz ρ hl λ_=>False) ρ C w:=hI.kL (λi h=>h.1) (λ_ h=>h.elim) s (λj=>by
  by_cases h:hl j;·exact .inr ((ay j).1 h)
  exact .inl ((ay j).2 h)) (λj h=>(ay j).1 h);have V:∀j,¬hl j->C.get j=H.get j:=λj h=>(ay j).2 h;let p:ah:=((HE.set i (.cells d2 d1 e true [] fz)).set m (.co (dh ks))).skip;have r:∀j,p.get j=if j=m then .co (dh ks)else if j=i then .cells d2 d1 e true [] fz else HE.get j:=λj=>by
  show((HE.set i _).set m _).get j=_;rw[ah.aC];split;·rfl
  rw[ah.aC]
 have M:p.next.am=HE.next.am+1:=af.eI _;have cf:∀j:af,p.next.am<=j.am->p.get j=.none:=λj hj=>by rw[M]at hj;rw[r,ap (bM ab),ap (bM ab),s4 j ab];exact(hI.cS j ab).1
 obtain⟨Rs,b4,cv⟩:=p.fQ cf hl;have gr:∀j,¬hl j->Rs.get j=p.get j:=λj h=>(cv j).2 h;have fk:∀gb∈ks,∃j,gb=.ofNat j/\j<n/\(c.bp .ahp (o+gb.toNat)=.cC\/∃N,c.bp .ahp (o+gb.toNat)=.map N/\N≠m/\N≠i/\N.am<C.next.am/\N∈f):=by
  intro gb z;obtain⟨j,h1,h2,h3|⟨N,t0,h3,h4,I,h6⟩⟩:=s1 gb z;·exact⟨j,h1,h2,.inl h3⟩
  have B:N∈f:=tE.2 ⟨gb,z,h3⟩;exact⟨j,h1,h2,.inr ⟨N,h3,h4,λh=>ei (h▸B),by rw[s];exact Q N t0 I,B⟩⟩
 have f3:∀gb k2 N,gb∈ks->k2∈ks->c.bp .ahp (o+gb.toNat)=.map N->c.bp .ahp (o+k2.toNat)=.map N->gb=k2:=λgb k2 N h1 h2 h3 h4=>LB ax h1 h2 h3 h4;have av:m.am<C.next.am:=by rw[s];exact dm
 have aw:i.am<C.next.am:=by rw[s];exact dr
 have cn:R.am<C.next.am:=by rw[s];exact ds
 have e0:bx C R o3=some (.slice i o n f2 ex):=by rw[mw (V R ek)];exact g3
 obtain⟨cx,ba,dv,dx⟩:=tw (LC D);have dy:cx.map aT.kv=ks.map sk:=by obtain⟨_,es,O,q2⟩:=D;rw[ba]at O;injection O with O;subst O;exact q2
 let t0:af->List Int:=λN=>(iB H N).getD [];have e4:fr=⟨fr.aa,fr.br,fr.bw⟩:=rfl;have dz:gk P (Wr.iz ρ hl λ_=>False) ρ nt w b gb cs (lone (b.atR a (.code (.seq c1 c2)::gb)) cs w) λj cy H1=>j=.none/\cy={fr with aa:=jv fr.aa po}/\H1=Rs:=by
  refine GA Tf d4 d5 (bO:=po) bo bo bo bo bo bo bo bo bo bo bo bo bo hF Y (m:=m) (es:=cx) (ks:=ks) (by rw[V m et];exact ba) dv 20 60 ?_ (J:=λu d l H1=>(∃K,e9 (.map u d) K/\∀x,x∈K↔x∈ks)/\∃c' W,mU C m i c o d1 e fz ks t0 f u d l H1 c' W) ?_ ?_ ?_ ?_ ?_ gb cs
  .intro u d;rw[e4];refine Xc.region (n:=19) ?_;refine Xo.op (n:=18) (v:=.map m) (H':=C.set m (.map u d)) (by simp[aD,gv,g1]) ?_;refine Xo.op (n:=17) (v:=.aE C.next 0) (H':=(C.set m (.map u d)).new (.mapIter (some m) d [] d)) (by simp[aD,gv,aK,ak.aC,aY,ah.aC];rfl) (Xo.nil (n:=16) ?_);refine⟨rfl,rfl,rfl,?_,?_,rfl⟩;·intro t ht;have:t∉ [sl 16,sl 17]:=λh=>ht ((by decide:∀t∈ [sl 16,sl 17],t∈po) t h);simp only[acn,afy,or_false,not_or]at this;simp[aK,ak.aC,this]
   simp[aK,ak.aC,aY]
  .intro u d hp;obtain⟨K,O,q2⟩:=Te dx dy hp d;refine⟨⟨K,O,λx=>q2.mem_iff⟩,c,λ_=>.xH,?_⟩;have G:∀j:af,((C.set m (.map u d)).new (.mapIter (some m) d [] d)).get j=if j=C.next then .mapIter (some m) d [] d else if j=m then .map u d else C.get j:=λj=>by rw[ah.cz,ah.d8,ah.aC]
   refine⟨by show C.next.am<C.next.succ.am;rw[af.eI];omega,λj h1 h2 h3 h4=>?_,?_,?_,aF,aF,λ_ _=>rfl,λgb z N B=>?_,λj hj hg=>?_,aF⟩;·rw[G,ap (bM ab),ap h2]
   .rw[G,ap (bM ab),aJ rfl]
   .rw[G,ap (bM ab),ap (ahf cp),V i el];exact g5
   .obtain⟨_,_,_,h'|⟨N',h',e5,_,cE,cR⟩⟩:=fk gb z;·rw[h']at B;cases B
    rw[h']at B;injection B with B;subst B;obtain⟨_,_,tt,_,_,I,_⟩:=dV N' cR;rw[G,ap (bM ab),ap e5,V N' (ew N' cR)];refine⟨tt,mT I,λx=>?_⟩;have:t0 N'=tt:=by show(iB H N').getD []=tt;rw[I];rfl
    rw[this];simp
   rw[G,ap (bM ab),ap (bM ab)]at hg;rw[s]at hj;rw[V j (b3 j ab)]at hg;exact absurd (hI.cS j ab).1 hg
  .rintro u d l H1 it⟨O,c',W,J⟩;refine⟨O,c',W,J.set it av aw λgb z N B=>?_⟩;obtain⟨_,_,_,h'|⟨N',h',_,_,cE,_⟩⟩:=fk gb z;·rw[h']at B;cases B
   rw[h']at B;injection B with B;subst B;exact cE
  .rintro u d l H1⟨_,c',W,J⟩;exact J.mm
  .rintro u d l aa H1 kk e6⟨⟨K,O,q2⟩,c',W,J⟩he e7;have f4:aa.get .ahp (sl 3)=.aE R o3:=(he _ bo).trans g2;have f6:aa.get .ahp (sl 4)=.map m:=(he _ bo).trans g1;refine(Tm fk f3 av aw cp cn ec eb ej bv b0 e0 e6 O q2 f4 f6 e7 J).mono (adv _) ?_;rintro j cy H2⟨r1,r2,r3,r4,r5,r6,e8,e',J2⟩;exact⟨r1,r2,r3,λt ht=>(r4 t ht).trans (he t ht),r5,r6,⟨K,O,q2⟩,e8,e',J2⟩
  rintro u d l H1 S w' T⟨⟨K,b6,fa⟩,c',W,J⟩a1 fb _;let new:af->Prop:=λj=>∃gb,gb∈ks/\c.bp .ahp (o+gb.toNat)=.cC/\nm gb=j;let σ:af->af:=λj=>if h:new j then W (Classical.choose h)else j;have a2:∀gb,gb∈ks->c.bp .ahp (o+gb.toNat)=.cC->σ (nm gb)=W gb:=by intro gb z hn;have Z:new (nm gb):=⟨gb,z,hn,rfl⟩;have E:=Classical.choose_spec Z;have:Classical.choose Z=gb:=s7 _ _ E.1 z E.2.1 hn E.2.2;show(if h:new (nm gb)then W (Classical.choose h)else nm gb)=W gb;rw[dif_pos Z,this]
  let a6:aO:=⟨λj=>if j.am<C.next.am then ρ j else if new j then S (σ j)else none,S.k⟩;have d0:∀gb,gb∈ks->c.bp .ahp (o+gb.toNat)=.cC->a6 (nm gb)=S (W gb):=by intro gb z hn;have Z:new (nm gb):=⟨gb,z,hn,rfl⟩;have:=(s6 gb z hn).1;show(if(nm gb).am<C.next.am then ρ (nm gb)else if new (nm gb)then S (σ (nm gb))else none)=_;rw[ap (by rw[s];omega),aJ Z,a2 gb z hn]
  have bb:bQ ρ a6:=by
   intro j x hj;refine⟨?_,(a1 j x hj).2⟩;show(if j.am<C.next.am then ρ j else _)=_;rcases afZ j.am C.next.am with h|h;·rw[aJ h];exact hj
   rw[(Y.cS j h).2]at hj;cases hj
  refine⟨a6,bj.GG Y a1 fb (by rw[b4,M,s];omega) σ new a6 rfl ?_ ?_ ?_ ?_⟩
  .intro j hj hg;rw[s]at hj;rw[gr j (b3 j hj),r,ap (bM ab),ap (bM ab)]at hg;rcases afZ j.am HE.next.am with h|h;·obtain⟨gb,h1,h2,h3⟩:=s8 j hj h;exact⟨gb,h1,h2,h3⟩
   rw[s4 j h]at hg;exact absurd (hI.cS j hj).1 hg
  .rintro j⟨gb,z,hn,rfl⟩;obtain⟨O,q2,q3,q4⟩:=s6 gb z hn;obtain⟨r1,r2,r3,fd,r4,r5⟩:=J.new gb ((T gb).2 z) hn;have fe:Rs.get (nm gb)=.co (dh (fX gb ks)):=by rw[gr _ (b3 _ O),r,ap (bM ab),ap (bM ab)];exact q3
   have E:=wd r4;rw[a2 gb z hn,fe];refine⟨by rw[s];exact O,by rw[b4,M];omega,ab,E.1,E.2.1,E.2.2.1,rfl,rfl,E.2.2.2,λx X g=>OR.tx r4 ?_ g,λq X _=>by simp[dI]⟩;refine(agD r4.1 (GB D.1)).2 λx=>?_;rw[r5,rF]
  .rintro j1 j2⟨k1,h1,n1,rfl⟩⟨k2,h2,n2,rfl⟩he;rw[a2 k1 h1 n1,a2 k2 h2 n2]at he;rw[J.inj k1 k2 ((T k1).2 h1) ((T k2).2 h2) n1 n2 he]
  intro j hj hg;rw[s]at hj;have F:¬hl j:=λh=>hg ((cv j).1 h);rw[gr j F]at hg⊢;rw[V j F];by_cases e1:j=m
  .subst e1;have p1:=wd D;have p2:=wd b6;have hr:p.get j=.co (dh ks):=by rw[r,aJ rfl]
   rw[hr,J.mm];refine⟨p1.1,aF,p1.2.1▸rfl,p1.2.1▸rfl,rfl,rfl,λx X g=>OR.tx b6 ?_ g,λq X _=>by simp[dI]⟩;exact(agD b6.1 D.1).2 fa
  by_cases e2:j=i
  .subst e2;have hr:p.get j=.cells d2 d1 e true [] fz:=by rw[r,ap e1,aJ rfl]
   rw[hr,J.ii,g5];refine⟨aF,aF,rfl,rfl,rfl,rfl,λx X g=>?_,λq X hq=>?_⟩
   .obtain⟨f7,x0,c9,_,_,A⟩:=Y.cI j (by rw[V j F,g5];simp);rw[V j F,g5]at A;cases c9<;>simp only[OR]at A;cases X<;>simp only[OR]at g⊢;refine⟨g.1,g.2.1,λy hy=>?_,g.2.2.2⟩;obtain⟨v,fl,L⟩:=g.2.2.1 y hy;refine⟨v,fl,?_⟩;by_cases z:∃gb,gb∈ks/\c.bp .ahp (o+gb.toNat)=.cC/\y=o+gb.toNat
    .obtain⟨gb,b7,b',fo⟩:=z;subst fo;rw[(s6 gb b7 b').2.2.2];rw[(J.new gb ((T gb).2 b7) b').2.2.1]at L;cases v with
     |map f0=>cases f0 with|none=>simp[VR]at L|some f0=>simp only[VR]at L⊢;rw[d0 gb b7 b'];exact L
     |_=>simp[VR]at L
    have h1:c'.bp .ahp y=c.bp .ahp y:=J.cc y λgb ca cd he=>z ⟨gb,(T gb).1 ca,cd,he⟩;have h2:d2.bp .ahp y=c.bp .ahp y:=s5 y λgb ca cd he=>z ⟨gb,ca,cd,he⟩;rw[h1]at L;rw[h2];obtain⟨v0,_,fp⟩:=A.2.2.1 y hy;exact VR.mono bb _ _ (VR.eD a1 _ _ _ fp L)
   cases X<;>simp only[dI]at hq⊢;exact hq
  by_cases e3:j∈f
  .obtain⟨gb,z,tt,h3,h4,I,h6⟩:=dV j e3;have hr:p.get j=.co (dh (eV (fX gb ks) tt)):=by rw[r,ap e1,ap e2];exact h6
   obtain⟨fd,r1,r2⟩:=J.cG gb z j h3;have p1:=wd (mT I);have p2:=wd r1;rw[hr];refine⟨p1.1,p2.1,p2.2.1.trans p1.2.1.symm,p1.2.1▸rfl,p2.2.2.1,p2.2.2.2,λx X g=>OR.tx r1 ?_ g,λq X _=>by simp[dI]⟩;refine(agD r1.1 (pj _ (mT I).1)).2 λx=>?_;have:t0 j=tt:=by show(iB H j).getD []=tt;rw[I];rfl
   rw[r2,this,mu,rF,T];constructor
   .rintro(h|⟨_,h⟩);·exact .inr h
    exact .inl h
   rintro(h|h);·exact .inr ⟨z,h⟩
   exact .inl h
  have h1:H1.get j=H.get j:=by rw[J.lT j (by rw[s];exact hj) e1 e2 e3,V j F]
  have hr:p.get j=H.get j:=by rw[r,ap e1,ap e2,s3 j hj e3]
  rw[hr]at hg⊢;rw[h1];refine⟨hg,hg,rfl,rfl,rfl,rfl,λx X g=>?_,λq X hq=>hq⟩;obtain⟨f7,x0,c9,_,_,A⟩:=Y.cI j (by rw[V j F];exact hg);rw[V j F]at A;have a8:∃c n e ag aM fz,H.get j=.cells c n e ag aM fz:=by
   by_cases h3:j=R;·obtain⟨c,n,e,ag,aM,fz,q,_⟩:=tz g3;rw[h3];exact⟨c,n,e,ag,aM,fz,q⟩
   have fq:¬(H.get j).lq:=λh=>F ⟨h,h3,e2,e1,e3⟩;cases ho:H.get j with|cells c n e ag aM fz=>exact⟨c,n,e,ag,aM,fz,rfl⟩|none=>exact absurd ho hg|_=>exact absurd ⟨by rw[ho];rfl,by rw[ho];rfl,hg⟩ fq
  obtain⟨_,_,_,_,_,_,hc⟩:=a8;rw[hc]at g A⊢;exact OR.mono bb (OR.Lz a1 A g)
 obtain⟨j,f',H',S,f8,w',t,⟨rfl,rfl,rfl⟩,q2,q3,q4,q5,q6,q7⟩:=dz;have fs:∀j,hl j->p.get j=H.get j:=λj h=>by rw[r,ap h.2.2.2.1,ap h.2.2.1,s3 j (vK j h.1.2.2) h.2.2.2.2]
 obtain⟨u1,u2⟩:=hI.GF (λj h=>h.1) q2 q4 q5 (H2:=p) b4.symm fs (λj h=>(gr j h).symm);exact⟨.none,_,p,S,f8,w',t,⟨rfl,rfl,rfl⟩,q2,q3,u1,u2,q6,q7⟩
section
variable[Ov]
variable{P:Program}
theorem bj.grow{c:bS}{f:aO}{H:ah}{w w':World}{os:Array Obj}(h:bj P c f H w)(g:w'.heap=w.heap++os)(j:w'.os=w.os)(l:w'.tape=w.tape)(hu:w'.output=w.output):bj P c f H w'/\cX c w w':=by
 have hs:w.heap.size<=w'.heap.size:=by rw[g];simp
 have hb:∀b,b<w.heap.size->w'.heap[b]?=w.heap[b]?:=λb hb=>by rw[g,Array.getElem?_append_left hb]
 have hl:∀{b:Nat}{a:Obj},w.heap[b]?=some a->b<w.heap.size:=λe=>(Array.getElem?_eq_some_iff.1 e).1;refine⟨⟨?_,h.jh,h.aM,h.wr,h.cS,λk d=>h.new k (agE hs d),h.jV,?_,λi b x e=>afT (h.dO i b x e) hs,h.rd,h.un,h.di⟩,⟨j,l,hu,hs,λk d _=>hb k d⟩⟩;·intro i hi;obtain⟨b,x,a,e,h1,h2⟩:=h.cI i hi;exact⟨b,x,a,e,by rw[hb b (hl h1)];exact h1,h2⟩
 intro i b x a hi e h1;rw[hb b (h.dO i b x e)]at h1;exact h.iw i b x a hi e h1
structure GJ(P:Program)(f:FuncId):Prop where
 fn:∃fn,P.funcs[f]?=some fn/\(fn.name== "runtime.NumGoroutine")=false/\fn.body.isNone=false
theorem GK{f:FuncId}(m:GJ P f){k:bS}{l:aO}{w:World}{a:Array Value}{R:Ending->World->Prop}(n:Calls P f a w R){v:AV}{g:ah}(o:∀e b,R e b->∃c,e=.returned c/\bZ P k l w v g c b)(fr:Frame)(cs:List Frame)(hat:nZ fr):vu P k l w (callFunc f a) fr cs λp h=>p=v/\h=g:=by
 obtain⟨fn,h1,h2,h3⟩:=m.fn;have d:(callFunc f a).run P w=.ok (.enter f a) w:=by simp only[callFunc,Sem.run_bind,run_program,Result.andThen_ok,h1,h2,h3,abe,bD,Sem.run_pure]
 obtain⟨e,b,s,q,i,_,j⟩:=n (fr::cs);obtain⟨c,rfl,r⟩:=o e b q;refine⟨v,g,c,b,_,_,_,⟨rfl,rfl⟩,r,Kd hat d,?_⟩;exact Steps.trans i (.one (step_leave_returned j))
theorem GL(x:Int):∀l,(tu x l).Perm (x::l)
 |[]=>ahe _
 |y::l=>by
  simp only[tu];split;·exact((GL x l).cons y).trans (agm x y l)
  exact ahe _
theorem rG:∀l,(gW l).Perm l|[]=>ahe _|x::l=>(GL x (gW l)).trans ((rG l).cons x)
theorem LD(x:Int):∀l,l.Pairwise (·<=·)->(tu x l).Pairwise (·<=·)
 |[],_=>by simp[tu]
 |y::l,h=>by
  simp only[tu];rw[agY]at h;split
  .rename_i a;rw[lP]at a;have a:y<x:=by simpa using a
   rw[agY];refine⟨λz b=>?_,LD x l h.2⟩;rcases acn.1 ((GL x l).mem_iff.1 b)with e|e;·rw[e];omega
   exact h.1 z e
  rename_i a;rw[lP]at a;have a:¬y<x:=by simpa using a
  rw[agY];refine⟨λz b=>?_,agY.2 h⟩;rcases acn.1 b with e|e;·rw[e];omega
  have:=h.1 z e;omega
theorem we:∀l,(gW l).Pairwise (·<=·)|[]=>List.Pairwise.nil|x::l=>LD x _ (we l)
theorem Ce:∀{l m:List Int},l.Pairwise (·<=·)->m.Pairwise (·<=·)->l.Perm m->l=m
 |[],m,_,_,h=>(List.nil_perm.1 h).symm
 |a::l,[],_,_,h=>by simp at h
 |a::l,b::m,h1,h2,h=>by
  rw[agY]at h1 h2;have d:a=b:=by
   have f:a∈b::m:=h.mem_iff.1 (abL ..);have hb:b∈a::l:=h.mem_iff.2 (abL ..);rcases acn.1 f with e|e;·exact e
   rcases acn.1 hb with c|c;·exact c.symm
   have:=h1.1 b c;have:=h2.1 a e;omega
  subst d;rw[Ce h1.2 h2.2 ((List.perm_cons a).1 h)]
theorem Tn{a b:List Int}(h:a.Perm b):(a.mergeSort λx y=>decide (x<=y))=gW b:=by refine Ce ?_ (we b) ((List.mergeSort_perm a _).trans (h.trans (rG b).symm));have:=List.pairwise_mergeSort (le:=λx y:Int=>decide (x<=y)) (by simp;omega) (by simp;omega) a;simpa using this
def tF(c:ak AV):Nat->Nat->Option (List Int)
 |_,0=>some []
 |o,n+1=>match c.bp .ahp o,tF c (o+1) n with
  |.int 3 z,some l=>some (z::l)
  |_,_=>none
theorem LF{c:ak AV}:∀{n o:Nat}{a:List Int},tF c o n=some a->a.length=n/\∀i(h:i<a.length),c.bp .ahp (o+i)=.int 3 (a[i])
 |0,o,a,h=>by simp only[tF,aaM]at h;subst h;simp
 |n+1,o,a,h=>by
  simp only[tF]at h;split at h;·rename_i z l h1 h2;injection h with h;subst h;obtain⟨b,d⟩:=LF h2;refine⟨by simp[b],λi hi=>?_⟩;cases i with|zero=>simpa using h1|succ i=>have:=d i (by simpa using hi);rw[show o+(i+1)=o+1+i by omega,this];rfl
  cases h
def pp(args:List AV)(H:ah):Option (AV×ah):=
 match args with
 |[.aH]=>some (.tuple [],H)
 |[.slice id 0 n _ _]=>match H.get id with
  |.cells c m 3 true aM 0=>if afw m n&&afR 0 n&&ago n 4000000 then match tF c 0 n with
    |some a=>some (.tuple [],(H.dN aM).set id (.cells (bX ((gW a).map λz=>.int 3 z)) n 3 true [] 0))
    |none=>none
   else none
  |_=>none
 |_=>none
open Go.Sort in theorem To{f:FuncId}(Z:GJ P f)(hs:∀(bm off cap:Nat)(d:List Int)(w:World),Holds (Value.int .i64) w bm off d.toArray->bm<w.heap.size->d.length<4611686018427387904->Calls P f #[.slice (some ⟨bm,off,none⟩) d.length cap] w λe w'=>e=.returned (.tuple #[])/\∃n os,w'=grow (putRow (Value.int .i64) (Sort.ahead w n) bm off (d.mergeSort λx y=>decide (x<=y)).toArray) os)(hn:∀(p:Option Addr)(cap:Nat)(w:World),Calls P f #[.slice p 0 cap] w λe w'=>e=.returned (.tuple #[])/\w'=w):rp P f pp:=by
 intro Wr R H H' w args v r hg h O fr cs hat;unfold pp at hg;split at hg
 .injection hg with hg;injection hg with B C;subst B;subst C;obtain⟨l⟩:=r;cases l with
  |nil=>simp[aQ]at h
  |cons c l=>
   cases l with
   |cons _ _=>simp[aQ]at h
   |nil=>
    simp only[aQ,and_true]at h;have hc:c=.slice none 0 0:=by exact h.kK
    subst hc;refine GK Z (hn none 0 w) ?_ fr cs hat;rintro e w'⟨rfl,rfl⟩;exact⟨_,rfl,bZ.bN O (by simp[VR,aQ])⟩
 .rename_i id n cap ex;split at hg;case h_2=>cases hg
  rename_i c m aM A;split at hg;case isFalse=>cases hg
  rename_i s;simp only[ae9]at s;obtain⟨⟨D,I⟩,J⟩:=s;have D:=afo D;subst D;have I:0<m:=Eq.mp agh I;have J:=afx J;split at hg;case h_2=>cases hg
  rename_i d hz;injection hg with hg;injection hg with B C;subst B;subst C;obtain⟨K,V⟩:=LF hz;obtain⟨l⟩:=r;cases l with
  |nil=>simp[aQ]at h
  |cons cv l=>
   cases l with
   |cons _ _=>simp[aQ]at h
   |nil=>
    simp only[aQ,and_true]at h;obtain⟨b,x,ob,S,L,q,E⟩:=O.bm (i:=id) (by rw[A];simp);have W:∃cc,cv=.slice (some ⟨b,x,none⟩) m cc:=by
     cases cv with
     |slice a n' cc=>cases a with|none=>simp[VR]at h|some a=>simp only[VR]at h;obtain⟨h1,h2,h3,h4,b',x',Q,h5,h6⟩:=h;rw[S]at Q;injection Q with Q;injection Q with q1 q2;subst q1;subst q2;rw[h5 ab,h1];exact⟨cc,rfl⟩
     |_=>simp[VR]at h
    obtain⟨cc,rfl⟩:=W;rw[A]at E;cases ob<;>simp only[OR]at E;rename_i cells el fz;obtain⟨rfl,X,N,t⟩:=E;have hH:Holds (Value.int .i64) w b x d.toArray:=by
     intro j hj;have M:j<d.length:=by simpa using hj
     obtain⟨y,hy,T⟩:=N j ab;have:=V j M;rw[afC]at this;rw[this]at T;constructor
     .simp only[World.cell?,q,Option.isSome_none,abe,bD,hy];cases y<;>simp only[VR]at T;rename_i kk z;obtain⟨h1,h2⟩:=T;have:kk=.i64:=by cases kk<;>simp[kc]at h1<;>rfl
      subst this;rw[<-h2];simp[getElem!_pos,M]
     have:=t trivial (x+j) ab ab;obtain⟨lo,hi⟩:=fz;simp only[World.frozen?,q];simp only at this;simp;omega
    have g:=hs b x cc d w hH L ab;rw[K]at g;refine GK Z g ?_ fr cs hat;rintro e w'⟨rfl,k,os,rfl⟩;refine⟨_,rfl,?_⟩;rw[Tn (ahe d)];have Y:(gW d).length=m:=by rw[(rG d).length_eq,K]
    have u:bj P Wr R ((H.dN aM).set id (.cells (bX ((gW d).map λz=>.int 3 z)) m 3 true [] 0)) {w with heap:=w.heap.setIfInBounds b (.cells (putCells (Value.int .i64) x (gW d).toArray cells) 3 fz)}/\cX Wr w {w with heap:=w.heap.setIfInBounds b (.cells (putCells (Value.int .i64) x (gW d).toArray cells) 3 fz)}:=by
     have:=O.nV (i:=id) (b:=b) (x:=x) (o':=.cells (bX ((gW d).map λz=>.int 3 z)) m 3 true [] 0) (ob':=.cells (putCells (Value.int .i64) x (gW d).toArray cells) 3 fz) (w':={w with heap:=w.heap.setIfInBounds b (.cells (putCells (Value.int .i64) x (gW d).toArray cells) 3 fz)}) (by rw[A];simp) (by rw[A];rfl) S rfl ?_ ?_ rfl rfl rfl rfl;·rw[A]at this;exact this
     .simp only[OR];refine⟨trivial,by simp[putCells];exact X,λi hi=>?_,λ_ i h1 h2=>t trivial i h1 (by simpa[putCells]using h2)⟩;have F:i<(gW d).length:=ab;refine⟨.int .i64 ((gW d)[i]),?_,?_⟩;·simp only[putCells,Array.getElem?_mapIdx];rw[getElem?_pos cells (x+i) ab];simp[Y,hi,F,getElem!_pos]
      rw[me _ _ (by simpa using F)];simp[ahn,F,VR,kc]
     have o:=O.iw id b x _ (by rw[A];simp) S q;rw[A]at o;simp only[dI]at o⊢;rw[o];simp[putCells]
    have G:(grow (putRow (Value.int .i64) (Sort.ahead w k) b x (gW d).toArray) os).heap=w.heap.setIfInBounds b (.cells (putCells (Value.int .i64) x (gW d).toArray cells) 3 fz)++os:=by
     show(w.heap.modify b (onCells _))++os=_;congr 1;apply ag6;intro i;rw[Array.getElem?_modify,afA];by_cases hi:b=i;·subst hi;rw[aJ rfl,aJ rfl,q,aJ L];rfl
     rw[ap hi,ap hi]
    obtain⟨u1,u2⟩:=bj.grow u.1 (w':=grow (putRow (Value.int .i64) (Sort.ahead w k) b x (gW d).toArray) os) (os:=os) G rfl rfl rfl;exact⟨R,bQ.refl R,by simp[VR,aQ],u1,u.2.trans u2⟩
 cases hg
end
section
def GM(b a:Nat):bg:=.seq (.region [bF 2 (.aR (.c .aH))]) (.seq (.region [bF 3 (.aR (tt 0)),bF 4 (.call (.c (.func b [] [])) [tt 3]),bF 5 (.call (.c (.func a [] [])) [tt 4]),bF 2 (.aR (tt 5))]) .ret)
def Cf(a b:Nat):bg:=.seq (.region [bF 2 (.aR (.c .aH))]) (.seq (.region [bF 4 (.aR (tt 0)),bF 5 (.call (.c (.func a [] [])) [tt 4]),bF 3 (.aR (tt 5))]) (.seq (.region [bF 6 (.aR (tt 3)),bF 7 (.call (.c (.func b [] [])) [tt 6])]) (.seq (.region [bF 8 (.aR (tt 3)),bF 2 (.aR (tt 8))]) .ret)))
def Cg(a e1:Nat):bg:=.seq (.region [bF 1 (.box e1 (tt 0)),bF 2 (.aR (.c .nilFunc))]) (.seq (.region [bF 3 (.mK a [] [tt 1]),bF 2 (.aR (tt 3))]) .ret)
def Ad(a:Nat):bg:=.seq (.region [bF 2 (.aR (.c .aH))]) (.seq (.region [bF 3 (.aR (tt 0)),bF 4 (.call (.c (.func a [] [])) [.c .aH,tt 3]),bF 2 (.aR (tt 4))]) .ret)
def Tp:bg:=.seq (.region [bF 10 (.aR (tt 0)),bF 11 (.aR (tt 3)),bF 12 (.call (tt 10) [tt 11]),bF 13 (.unary .not (tt 12))]) (.cond (tt 13) .ret .skip)
def Ci:bg:=.seq (.region [bF 4 (.bi (tt 1)),bF 5 (.lF (tt 4))]) (mj 0 1 (sl 5) (sl 6) (sl 7) (sl 8) (sl 9) (sl 3) Tp)
def rH:bg:=.region [bF 5 (.aR (tt 7))]
def rI:bg:=.block 1 (.region [bF 8 (.bi (tt 2)),bF 9 (.aR (tt 5)),bF 10 (.buildSlice 3 1 [.int 3 (.ofNat 0)] [(0,1,tt 9)]),bF 11 (.append 3 8 1 [.int 3 (.ofNat 0)] false (tt 8) (tt 10)),nU (.store 1 (tt 2) (tt 11))])
def tG(e2:Nat):bg:=.seq (.region [bF 2 (.box e2 (tt 0)),bF 4 (.aR (.c .aH))]) (.seq (.seq (.region [bF 6 (.aR (tt 1))]) (.block 0 (.rangeFunc (tt 6) [sl 7] rH rI))) (.seq (.region [bF 12 (.bi (tt 2)),bF 4 (.aR (tt 12))]) .ret))
section
variable[Ov]
variable{ac:Nat->aX}
theorem GN{c:ak AV}{n:Nat}:∀{l:List Int}{o:Nat},o+l.length<=n->(∀i(h:i<l.length),c.bp .ahp (o+i)=.int 3 (l[i]))->eX c n o l.length=some (l.map λz=>.int 3 z)
 |[],o,_,_=>by simp[eX]
 |z::l,o,h,hg=>by
  simp only[afB,eX,afp];have h0:c.bp .ahp o=.int 3 z:=hg 0 aF;have d:afR o n=true:=ahm agh (by simp at h;omega);have b:=GN (c:=c) (n:=n) (l:=l) (o:=o+1) (by simp at h;omega) (λi hi=>by have:=hg (i+1) (by simpa using hi);rw[show o+(i+1)=o+1+i by omega]at this;simpa using this);have a:o<n:=by simp at h;omega
  simp[a,h0,b]
def pq(H:ah)(lo:Nat)(l:List Int)(a:AV):Prop:=
 (l=[]/\a=.aH)\/∃id c aM,a=.slice id 0 l.length l.length false/\l≠ []/\lo<id.am/\id.am<H.next.am/\H.get id=.cells c l.length 3 true aM 0/\(∀i(h:i<l.length),c.bp .ahp i=.int 3 (l[i]))/\∀p∈aM,lo<p.am
theorem pq.frame{H a:ah}{lo:Nat}{l:List Int}{b:AV}(h:pq H lo l b)(i:H.next.am<=a.next.am)(hg:∀j:af,lo<j.am->j.am<H.next.am->a.get j=H.get j):pq a lo l b:=by
 rcases h with h|⟨id,c,aM,h1,h2,h3,d,e,f,g⟩;·exact .inl h
 exact .inr ⟨id,c,aM,h1,h2,h3,ab,by rw[hg id h3 d];exact e,f,g⟩
theorem Tq{aa:ak AV}{H:ah}{x y:aL}{m:AV}{T:af}{lo:Nat}{l:List Int}{k:Int}(o:gv aa x=m)(q:gv aa y=.slice T 0 1 1 true)(hT:H.get T=.cells (bX [.int 3 k]) 1 3 true [] 0)(hs:pq H lo l m)(d:lo<H.next.am)(hl:l.length<1000):∃f g,aD (.append 3 8 1 [.int 3 (.ofNat 0)] false x y) aa H=some (f,g)/\H.next.am<=g.next.am/\(∀j:af,j.am<=lo->g.get j=H.get j)/\pq g lo (l++[k]) f:=by
 have a:gh H 1 (.slice T 0 1 1 true)=some (1,[.int 3 k]):=by
  have:eX (bX [AV.int 3 k]) 1 0 1=some [.int 3 k]:=by have:=GN (c:=bX [AV.int 3 k]) (n:=1) (l:=[k]) (o:=0) aF (λi hi=>by simp only[af2]at hi;have:i=0:=ab;subst this;rw[me _ _ aF];rfl);simpa using this
  simp[gh,dK,hT,this]
 have b:∀n:Nat,n<=1000->(dH (n*8)&&dH n)=true:=λn B=>by simp only[dH,ae9];exact⟨af8 ab,af8 ab⟩
 rcases hs with⟨rfl,rfl⟩|⟨id,c,aM,rfl,A,h3,C,s,t,u⟩
 .refine⟨.slice H.next 0 1 1 false,H.new (.cells (bX [.int 3 k]) 1 3 true [] 0),?_,?_,?_,?_⟩;·simp only[aD,abe,bD,o,q,a,iR];have:=b 1 ab;simp[cL,AV.dg,dH]
  .show _<=H.next.succ.am;rw[af.eI];omega
  .intro j hj;rw[ah.cz,ap (bM ab)]
  refine .inr ⟨H.next,bX [.int 3 k],[],rfl,aF,d,by show _<H.next.succ.am;rw[af.eI];omega,by rw[ah.cz,aJ rfl];rfl,λi hi=>?_,aF⟩;simp only[agq,af2]at hi;have:i=0:=ab;subst this;rw[me _ _ aF];rfl
 have hrd:eX c l.length 0 (l.length*1)=some (l.map λz=>.int 3 z):=by rw[agU];exact GN ab λi hi=>by rw[afC];exact t i hi
 have r:id≠H.next:=bM ab;refine⟨.slice H.next 0 (l.length+1) (l.length+1) false,(H.set id (.cells c l.length 3 false aM 0)).new (.cells (bX ((l.map λz=>.int 3 z)++[.int 3 k])) ((l.length+1)*1) 3 true (id::aM) (0 - 0)),?_,?_,?_,?_⟩
 .simp only[aD,abe,bD,o,q,a,iR];have hb:=b (l.length+1) ab;have h1:cL [.int 3 k]=true:=rfl;have h2:ago (l.length+1) l.length=false:=by cases h:ago (l.length+1) l.length with|false=>rfl|true=>have:=afx h;omega
  have v:(true&&afw l.length l.length&&afw (0+l.length*1) l.length&&afw 3 3&&ago 0 l.length)=true:=by simp[agB]
  simp only[h1,h2,hb,s,hrd,v,afP,abe,bD,bf]
 .show _<=H.next.succ.am;rw[af.eI];omega
 .intro j hj;rw[ah.cz,ah.d8,ap (bM ab),ah.aC,ap (bM ab)]
 refine .inr ⟨H.next,bX ((l.map λz=>.int 3 z)++[.int 3 k]),id::aM,aF,aF,d,by show _<H.next.succ.am;rw[af.eI];omega,by rw[ah.cz,ah.d8,aJ rfl];simp,λi hi=>?_,?_⟩
 .rw[me _ _ (by simpa using hi)];simp only[afq,af2]at hi;by_cases he:i<l.length;·simp[ahn,afG,he,List.getElem_append_left]
  have:i=l.length:=ab;subst this;simp[ahn]
 intro p w;rcases acn.1 w with e|e;·rw[e];exact h3
 exact u p e
theorem Xf.yield{n:Nat}{L p d:af}{v:AV}{H:ah}{bP:bU}{fn:Nat}{aa:ak AV}{as_ a:bg}{K:KT}(U:H.get L=.loop .ready bP fn aa [p] as_ a d)(h:Xc ac n as_ ⟨aa.set .ahp p v,[],some L⟩ H λj fr b=>j=.none/\b.get L=.loop .ready bP fn aa [p] as_ a d/\Xc ac n a fr (b.set L (.loop .busy bP fn aa [p] as_ a d)) λj _ c=>j=.none/\c.get L=.loop .busy bP fn aa [p] as_ a d/\K (.bool true) (c.set L (.loop .ready .none fn aa [p] as_ a d))):Xf ac (n+1) (.yield L) [v] H K:=by simp only[Xf,dT,U,af2,bf];refine Xc.mono (adv _) ?_ h;rintro j fr b⟨rfl,h1,h2⟩;simp only[h1];refine Xc.mono (adv _) ?_ h2;rintro j fr c⟨rfl,h3,e⟩;simp only[h3];exact e
theorem Xc.rangeFunc{n:Nat}{f:aL}{i:List af}{as_ j:bg}{aa:ak AV}{br:List af}{H:ah}{K:bU->Fr->ah->Prop}(h:Xf ac n (gv aa f) [.yield (H.new (.deferred false)).next] ((H.new (.deferred false)).new (.loop .ready .none 0 aa i as_ j H.next)) λ_ e=>∃st bP fn a b c d g,st≠oS.busy/\e.get (H.new (.deferred false)).next=.loop st bP fn a b c d g/\K bP ⟨aa,H.next::br,none⟩ (e.set (H.new (.deferred false)).next (.loop .exhausted bP fn a b c d g))):Xc ac (n+1) (.rangeFunc f i as_ j) ⟨aa,br,none⟩ H K:=by simp only[Xc,exec];refine Xf.mono (adv _) ?_ h;rintro _ e⟨st,bP,fn,a,b,c,d,g,h1,h2,h3⟩;simp only[h2];cases st<;>first|exact h3|exact absurd rfl h1
end
end
section
variable[Ov]
section
variable{ac:Nat->aX}
theorem LG:∀{l m:List Int},l.Nodup->(∀x∈l,x∈m)->l.length<=m.length
 |[],_,_,_=>by simp
 |a::l,m,b,hs=>by
  rw[agf]at b;have f:a∈m:=hs a (abL ..);have c:=LG (l:=l) (m:=m.erase a) b.2 λx g=>by have d:x≠a:=λe=>b.1 (e▸g);exact(List.mem_erase_of_ne d).2 (hs x (aco _ g))
  have h:0<m.length:=List.length_pos_of_mem f;rw[List.length_erase_of_mem f]at c;simp only[afB];omega
theorem Tr{aa:ak AV}{H:ah}{x:aL}{k:Int}(h:gv aa x=.int 3 k):aD (.buildSlice 3 1 [.int 3 (.ofNat 0)] [(0,1,x)]) aa H=some (.slice H.next 0 1 1 true,H.new (.cells (bX [.int 3 k]) 1 3 true [] 0)):=by
 have h1:kE aa (eo [AV.int 3 (.ofNat 0)] 1) [(0,1,x)]=some [.int 3 k]:=by simp only[kE,h];rfl
 simp only[aD,h1];rfl
theorem LH{aa:ak AV}{H:ah}{x:aL}{v:AV}{e:Nat}(h:gv aa x=v)(h1:v.cells=[v])(h2:v.dg=true):aD (.box e x) aa H=some (.aE H.next 0,H.new (.cells (bX [v]) 1 e true [] 0)):=by simp only[aD,h,h1,cL,h2,Bool.and_true,bf,af2]
structure pt(A:ah)(bv:AV)(B1 B2 D L:af)(e1 e2:Nat)(envA:ak AV)(lo:Nat)(l:List Int)(H1:ah):Prop where
 nx:lo<H1.next.am
 lT:∀j:af,j.am<A.next.am->H1.get j=A.get j
 b1:H1.get B1=.cells (bX [bv]) 1 e1 true [] 0
 b2:∃c2 sv,H1.get B2=.cells c2 1 e2 true [] 0/\c2.bp .ahp 0=sv/\pq H1 lo l sv
 dd:H1.get D=.deferred false
 ll:H1.get L=.loop .ready .none 0 envA [sl 7] rH rI D
 o1:A.next.am<=B1.am
 o2:B1.am<B2.am
 o3:B2.am<D.am
 o4:D.am<L.am
 o5:L.am<=lo
theorem pt.Br{A:ah}{b:AV}{c d D L:af}{e f:Nat}{a:ak AV}{lo:Nat}{l:List Int}{g:ah}(J:pt A b c d D L e f a lo l g){I:af}(h1:L.am<I.am)(h2:I.am<=lo)(h:bL):pt A b c d D L e f a lo l (g.set I h):=by
 have o1:=J.o1;have o2:=J.o2;have o3:=J.o3;have o4:=J.o4;obtain⟨c2,i,k,m,n⟩:=J.b2;refine⟨J.nx,λj hj=>?_,?_,⟨c2,i,?_,m,?_⟩,?_,?_,J.o1,J.o2,J.o3,J.o4,J.o5⟩;·rw[ah.aC,ap (bM ab)];exact J.lT j hj
 .rw[ah.aC,ap (bM ab)];exact J.b1
 .rw[ah.aC,ap (bM ab)];exact k
 .refine n.frame (adv _) λj h3 o=>?_;rw[ah.aC,ap (bM ab)]
 .rw[ah.aC,ap (bM ab)];exact J.dd
 rw[ah.aC,ap (bM ab)];exact J.ll
theorem Ts{A:ah}{F:AV}{t d D L:af}{G n:Nat}{b:ak AV}{lo:Nat}{l:List Int}{f:ah}(J:pt A F t d D L G n b lo l f)(H:b.get .ahp (sl 2)=.aE d 0)(hl:l.length<1000){k:Int}{K:KT}(I:∀u:ah,pt A F t d D L G n b lo (l++[k]) u->(∀j:af,L.am<j.am->j.am<=lo->u.get j=f.get j)->K (.bool true) u):Xf ac 40 (.yield L) [.int 3 k] f K:=by
 have o1:=J.o1;have o2:=J.o2;have o3:=J.o3;have o4:=J.o4;have o5:=J.o5;have S:=J.nx;obtain⟨c2,o,b1,b2,M⟩:=J.b2;refine Xf.yield (n:=39) J.ll (Xc.region (n:=38) ?_);refine Xo.op (n:=37) (v:=.int 3 k) (H':=f) (by simp[aD,gv,ak.aC]) (Xo.nil (n:=36) ⟨rfl,J.ll,?_⟩);generalize m:f.set L (.loop .busy .none 0 b [sl 7] rH rI D)=e;have p:∀j:af,j≠L->e.get j=f.get j:=λj hj=>by rw[<-m,ah.aC,ap hj]
 have N:e.get L=.loop .busy .none 0 b [sl 7] rH rI D:=by rw[<-m,ah.aC,aJ rfl]
 have nb:e.next=f.next:=by rw[<-m];rfl
 have w:bx e d 0=some o:=by unfold bx;rw[p d (bM ab),b1];simp only[show afR 0 1=true from rfl,bf,b2]
 generalize g:e.new (.cells (bX [.int 3 k]) 1 3 true [] 0)=q;have r:∀j:af,j≠e.next->q.get j=e.get j:=λj hj=>by rw[<-g,ah.cz,ap hj]
 have T:q.next.am=f.next.am+1:=by rw[<-g];show e.next.succ.am=_;rw[af.eI,nb]
 have x:pq q lo l o:=M.frame ab λj h1 h2=>by rw[r j (bM (by rw[nb];omega)),p j (bM ab)]
 refine Xc.block (n:=38) (Xc.region (n:=37) ?_);refine Xo.op (n:=36) (v:=o) (H':=e) (gX (by simp[gv,aK,ak.aC,aY];exact H) w) ?_;refine Xo.op (n:=35) (v:=.int 3 k) (H':=e) (by simp[aD,gv,aK,ak.aC,aY]) ?_;refine Xo.op (n:=34) (v:=.slice e.next 0 1 1 true) (H':=q) (by rw[<-g];exact Tr (by simp[gv,aK,ak.aC,aY])) ?_;generalize v:aK (aK (aK (aK (ak.set .ahp (sl 7) (.int 3 k) b) (some (sl 5)) (.int 3 k)) (some (sl 8)) o) (some (sl 9)) (.int 3 k)) (some (sl 10)) (.slice e.next 0 1 1 true)=E;have O:gv E (tt 8)=o:=by rw[<-v];simp[gv,aK,ak.aC,aY]
 have y:gv E (tt 10)=.slice e.next 0 1 1 true:=by rw[<-v];simp[gv,aK,ak.aC,aY]
 have P:E.get .ahp (sl 2)=.aE d 0:=by rw[<-v];simp[aK,ak.aC,aY];exact H
 obtain⟨a,H',Q,V,a3,a4⟩:=Tq (lo:=lo) (l:=l) (k:=k) O y (by rw[<-g,ah.cz,aJ rfl]) x ab hl;refine Xo.op (n:=33) (v:=a) (H':=H') Q ?_;have z:H'.get d=.cells c2 1 n true [] 0:=by rw[a3 d ab,r d (bM (by rw[nb];omega)),p d (bM ab)];exact b1
 have i:([a]:List AV)=a.cells/\cL [a]=true:=by
  rcases a4 with⟨h,_⟩|⟨id,c,aM,h,_⟩;·simp at h
  subst h;exact⟨rfl,rfl⟩
 have B:fS H' d 0 [a]=some (H'.set d (.cells (dY c2 0 [a]) 1 n true [] 0)):=by unfold fS;rw[z];simp only[adv,decide_true,af2,afC,ahb,i.2,bf];rfl
 refine Xo.op (n:=32) (v:=.ahp) (H':=H'.set d (.cells (dY c2 0 [a]) 1 n true [] 0)) ?_ (Xo.nil (n:=31) ?_)
 .have R:gv (aK E (some (sl 11)) a) (tt 2)=.aE d 0:=by simp[gv,aK,ak.aC,aY];exact P
  have C:gv (aK E (some (sl 11)) a) (tt 11)=a:=by simp[gv,aK,ak.aC,aY]
  simp only[aD,R,C,<-i.1,af2,bf,B]
 have s:∀j:af,j.am<=lo->j≠L->j≠d->((H'.set d (.cells (dY c2 0 [a]) 1 n true [] 0)).set L (.loop .ready .none 0 b [sl 7] rH rI D)).get j=f.get j:=λj h1 h2 h3=>by rw[ah.aC,ap h2,ah.aC,ap h3,a3 j h1,r j (bM (by rw[nb];omega)),p j h2]
 refine⟨rfl,?_,I _ ⟨?_,λj hj=>?_,?_,⟨dY c2 0 [a],a,?_,?_,?_⟩,?_,?_,o1,o2,o3,o4,o5⟩ λj h1 h2=>?_⟩;·rw[ah.aC,ap (bM ab),a3 L ab,r L (bM (by rw[nb];omega))];exact N
 .show lo<H'.next.am;omega
 .rw[s j ab (bM ab) (bM ab)];exact J.lT j hj
 .rw[s t ab (bM ab) (bM ab)];exact J.b1
 .rw[ah.aC,ap (bM ab),ah.aC,aJ rfl]
 .rw[lh];simp
 .refine a4.frame (adv _) λj h1 h2=>?_;rw[ah.aC,ap (bM ab),ah.aC,ap (bM ab)]
 .rw[s D ab (bM ab) (bM ab)];exact J.dd
 .rw[ah.aC,aJ rfl]
 exact s j ab (bM ab) (bM ab)
end
section
variable{ac:Nat->aX}
theorem LI:∀{es:List aT}{ks:List Int},il es=some ks->ks.Nodup->∀{x y:aT}{k:Int},x∈es->y∈es->x.key=.int 3 k->y.key=.int 3 k->x=y
 |[],_,_,_,_,_,_,h,_,_,_=>by cases h
 |a::es,ks,h,d,x,y,k,f,g,e1,e2=>by
  simp only[il]at h;split at h
  .rename_i i l h1 h2;injection h with h;subst h;rw[agf]at d;have e:∀z∈es,z.key=.int 3 i->False:=λz j he=>by obtain⟨m,c,b⟩:=(vW h2).1 z j;rw[he]at b;injection b with _ b;exact d.1 (b▸c)
   rcases acn.1 f with c|c<;>rcases acn.1 g with b|b;·rw[c,b]
   .subst c;rw[h1]at e1;injection e1 with _ e1;subst e1;exact(e y b e2).elim
   .subst b;rw[h1]at e2;injection e2 with _ e2;subst e2;exact(e x c e1).elim
   exact LI h2 d.2 c b e1 e2
  cases h
theorem Xf.Tt{n c:Nat}{f:Nat}{first args a:List AV}{d:List fR}{body:bg}{H:ah}{K:KT}(i:ac f=.code c d body)(hl:(first++args++a).length<=c)(h:Xc ac n body ⟨iS (first++args++a) .xH .aG,[],none⟩ H λj fr e=>(match j with|.exit _=>False|_=>True)/\∃b l,gZ e fr.br=some b/\ef fr.aa b d=some l/\K (fL l) b):Xf ac (n+1) (.func f first a) args H K:=by simp only[Xf,dT,i];rw[aJ (af8 hl)];refine Xc.mono (adv _) ?_ h;rintro j fr e⟨h1,b,l,h2,h3,g⟩;cases j with|exit=>exact h1.elim|none=>simp only[h2,h3];exact g|ret=>simp only[h2,h3];exact g
theorem LJ(a b:AV):iS ([]++[a]++[b]) .xH .aG=(ak.aG.set AV.ahp (sl 0) a).set .ahp (sl 1) b:=rfl
def rJ(ac:Nat->aX)(n a:Nat)(bv:AV)(A:ah)(ks:List Int):Prop:=
 ∀{B1 B2 D L:af}{e1 e2:Nat}{envA:ak AV}{H1:ah}{K:KT},pt A bv B1 B2 D L e1 e2 envA L.am [] H1->H1.next=L.succ->envA.get .ahp (sl 2)=.aE B2 0->
  (∀lo l b,pt A bv B1 B2 D L e1 e2 envA lo l b->l.Perm ks->K (.tuple []) b)->Xf ac n (.func a [] [.aE B1 0]) [.yield L] H1 K
theorem Tu{i:Nat}(hf:ac i=.code 14 [] Ci){m:af}{A:ah}{d:List aT}{c:Nat}{s:List Int}(Y:A.get m=.map d c)(y:m.am<A.next.am)(hb:(d.map (·.born)).Nodup)(R:∀e∈d,e.born<c)(M:il d=some s)(Z:s.Nodup)(ag:s.length<=1000):rJ ac (d.length+100) i (.map m) A s:=by
 intro B1 B2 D L e1 e2 envA f K J S hA hK;have o1:=J.o1;have o2:=J.o2;have o3:=J.o3;have o4:=J.o4;have hI:f.next.am=L.am+1:=by rw[S,af.eI]
 refine Xf.code (n:=d.length+99) hf aF ?_;rw[LJ];generalize N:(ak.aG.set AV.ahp (sl 0) (.yield L)).set .ahp (sl 1) (.aE B1 0)=aa;have h0:aa.get .ahp (sl 0)=.yield L:=by rw[<-N];simp[ak.aC,aY]
 have h1:aa.get .ahp (sl 1)=.aE B1 0:=by rw[<-N];simp[ak.aC,aY]
 clear N;have gm:f.get m=.map d c:=by rw[J.lT m y];exact Y
 have T:bx f B1 0=some (.map m):=by unfold bx;rw[J.b1];simp only[show afR 0 1=true from rfl,bf];rw[me _ _ aF];rfl
 refine Xc.gK (n:=20) (m:=60+15+d.length) (k:=d.length+98) ab ab (Xc.region (n:=19) ?_);refine Xo.op (n:=18) (v:=.map m) (H':=f) (gX h1 T) ?_;refine Xo.op (n:=17) (v:=.aE f.next 0) (H':=f.new (.mapIter (some m) c [] c)) (by simp[aD,gv,aK,ak.aC,gm]) (Xo.nil (n:=16) ?_);have J1:pt A (.map m) B1 B2 D L e1 e2 envA f.next.am [] (f.new (.mapIter (some m) c [] c)):=by
  have u:∀j:af,j.am<=L.am->(f.new (.mapIter (some m) c [] c)).get j=f.get j:=λj hj=>by rw[ah.cz,ap (bM ab)]
  obtain⟨c2,sv,b1,b2,b3⟩:=J.b2;refine⟨by show _<f.next.succ.am;rw[af.eI];omega,λj hj=>by rw[u j ab];exact J.lT j hj,by rw[u B1 ab];exact J.b1,⟨c2,sv,by rw[u B2 ab];exact b1,b2,?_⟩,by rw[u D ab];exact J.dd,by rw[u L ab];exact J.ll,o1,o2,o3,o4,ab⟩;rcases b3 with h|⟨_,_,_,_,h,_⟩;·exact .inl h
  exact absurd rfl h
 refine KU bo bo bo bo bo hb R (id:=f.next) (m:=m) (I:=λseen aa o=>aa.get .ahp (sl 0)=.yield L/\aa.get .ahp (sl 5)=.aE f.next 0/\o.get f.next=.mapIter (some m) c seen c/\∃l,pt A (.map m) B1 B2 D L e1 e2 envA f.next.am l o/\l.Nodup/\(∀k∈l,k∈s/\∃e∈d,e.born∈seen/\e.key=.int 3 k)/\∀e∈d,e.born∈seen->∃k∈l,e.key=.int 3 k) ?_ 60 ?_ ?_ d.length [] _ _ ?_ (List.length_filter_le ..);·rintro seen aa o⟨F,G,O,l,v,_⟩;exact⟨G,O,by rw[v.lT m y];exact Y⟩
 .rintro seen aa o e⟨F,G,O,l,v,H,w,P⟩he z;obtain⟨t,B,g⟩:=(vW M).1 e he;have p:t∉l:=λh=>by obtain⟨I,q,n,a3⟩:=(w t h).2;rw[LI M Z he q g a3]at z;exact z n
  have E:l.length<1000:=by
   have V:(l++[t]).Nodup:=by rw[afY];exact⟨H,aF,λa Q b hb=>by simp only[abx]at hb;subst hb;exact λe=>p (e▸Q)⟩
   have:=LG V (m:=s) λx hx=>by
    rcases ae8.1 hx with h|h;·exact(w x h).1
    rw[abx]at h;rw[h];exact B
   simp at this;omega
  refine Xc.gK (n:=50) (m:=50) (k:=59) ab ab (Xc.region (n:=49) ?_);refine Xo.op (n:=48) (v:=.yield L) (H':=o.set f.next (.mapIter (some m) c (seen++[e.born]) c)) (by simp[aD,gv,ak.aC,aY];exact F) ?_;refine Xo.op (n:=47) (v:=.int 3 t) (H':=o.set f.next (.mapIter (some m) c (seen++[e.born]) c)) (by simp[aD,gv,aK,ak.aC,aY];exact g) ?_;refine Xo.call (n:=46) ?_;simp only[gv,aK,ak.aC,aY,afp,agu];refine Xf.mono (n:=40) ab (λ_ _ h=>h) (Ts (v.Br (I:=f.next) ab (adv _) _) hA E λH3 J3 r=>?_);refine Xo.op (n:=45) (v:=.bool false) (H':=H3) (by simp[aD,gv,aK,ak.aC,aY,uK]) (Xo.nil (n:=44) ?_);refine Xc.mi (n:=49) (by simp[gv,aK,ak.aC,aY]) (Xc.skip (n:=48) ⟨rfl,rfl,rfl,?_,?_,?_,l++[t],J3,?_,?_,?_⟩);·simp[aK,ak.aC,aY];exact F
  .simp[aK,ak.aC,aY];exact G
  .rw[r f.next ab (adv _),ah.aC,aJ rfl]
  .rw[afY];exact⟨H,aF,λa Q b hb=>by simp only[abx]at hb;subst hb;exact λe=>p (e▸Q)⟩
  .intro k W;rcases ae8.1 W with h|h;·obtain⟨a0,I,q,n,a3⟩:=w k h;exact⟨a0,I,q,afD _ n,a3⟩
   rw[abx]at h;subst h;exact⟨B,e,he,afW _ (abx.2 rfl),g⟩
  intro I C X;rcases ae8.1 X with h|h;·obtain⟨k',q,n⟩:=P I C h;exact⟨k',afD _ q,n⟩
  rw[abx]at h;rw[Gz hb C he h];exact⟨t,afW _ (abx.2 rfl),g⟩
 .rintro seen aa o⟨F,G,O,l,v,H,w,P⟩eJ;refine⟨trivial,rfl,[],rfl,hK _ l o v ((agD H Z).2 λx=>⟨λh=>(w x h).1,λh=>?_⟩)⟩;obtain⟨e,he,g⟩:=(vW M).2 x h;obtain⟨k',q,n⟩:=P e he (eJ e he);rw[g]at n;injection n with _ n;rw[n];exact q
 exact⟨by simp[aK,ak.aC,aY];exact h0,by simp[aK,ak.aC,aY],by rw[ah.cz,aJ rfl],[],J1,ag9,aF,aF⟩
theorem Tv{b:Nat}(i:ac b=.code 14 [] Ci){A:ah}:rJ ac 100 b .cC A []:=by
 intro B1 B2 D L e1 e2 envA a K J e o k;have o1:=J.o1;have o2:=J.o2;have o3:=J.o3;have o4:=J.o4;have p:a.next.am=L.am+1:=by rw[e,af.eI]
 refine Xf.code (n:=99) i aF ?_;rw[LJ];generalize g:(ak.aG.set AV.ahp (sl 0) (.yield L)).set .ahp (sl 1) (.aE B1 0)=aa;have h1:aa.get .ahp (sl 1)=.aE B1 0:=by rw[<-g];simp[ak.aC,aY]
 clear g;have f:bx a B1 0=some .cC:=by unfold bx;rw[J.b1];simp only[show afR 0 1=true from rfl,bf];rw[me _ _ aF];rfl
 refine Xc.gK (n:=90) (m:=90) (k:=98) ab ab (Xc.region (n:=89) ?_);refine Xo.op (n:=88) (v:=.cC) (H':=a) (gX h1 f) ?_;refine Xo.op (n:=87) (v:=.aE a.next 0) (H':=a.new (.mapIter none 0 [] 0)) (by simp[aD,gv,aK,ak.aC]) (Xo.nil (n:=86) ?_);have l:pt A .cC B1 B2 D L e1 e2 envA L.am [] (a.new (.mapIter none 0 [] 0)):=by
  have d:∀j:af,j.am<=L.am->(a.new (.mapIter none 0 [] 0)).get j=a.get j:=λj hj=>by rw[ah.cz,ap (bM ab)]
  obtain⟨c2,m,b1,b2,n⟩:=J.b2;refine⟨by show _<a.next.succ.am;rw[af.eI];omega,λj hj=>by rw[d j ab];exact J.lT j hj,by rw[d B1 ab];exact J.b1,⟨c2,m,by rw[d B2 ab];exact b1,b2,?_⟩,by rw[d D ab];exact J.dd,by rw[d L ab];exact J.ll,o1,o2,o3,o4,adv _⟩;rcases n with h|⟨_,_,_,_,h,_⟩;·exact .inl h
  exact absurd rfl h
 unfold mj;refine Xc.block (n:=89) (Xc.loop (n:=88) (Xc.seq (n:=87) (Xc.region (n:=86) (Xo.next (n:=85) (cs:=[none]) (aft:=λ_=>(.tuple [.bool false],a.new (.mapIter none 0 [] 0))) ?_ ?_))));·simp[gv,aK,ak.aC,pR,ah.cz]
 intro c _;refine Xo.op (n:=84) (v:=.bool false) (H':=a.new (.mapIter none 0 [] 0)) (by simp[aD,gv,aK,ak.aC,kZ]) (Xo.nil (n:=83) ?_);refine Xc.seq (n:=86) (Xc.mi (n:=85) (by simp[gv,aK,ak.aC]) (Xc.exit (n:=84) ?_));exact⟨trivial,rfl,[],rfl,k _ [] _ l (ahe _)⟩
theorem Tw{k a n e2:Nat}(B:ac k=.code 13 [.tmp (sl 4)] (tG e2)){w:AV}{A d:ah}{x:List Int}(t:rJ ac n a w A x){B1:af}{e1:Nat}(C:d.get B1=.cells (bX [w]) 1 e1 true [] 0)(D:A.next.am<=B1.am)(u:B1.am<d.next.am)(v:∀j:af,j.am<A.next.am->d.get j=A.get j){K:KT}(E:∀i e lo l,A.next.am<=lo/\lo<e.next.am->pq e lo l i->l.Perm x->(∀j:af,j.am<A.next.am->e.get j=A.get j)->K i e):Xf ac (n+40) (.func k [] []) [.aH,.func a [] [.aE B1 0]] d K:=by
 refine Xf.Tt (n:=n+39) B aF ?_;show Xc ac (n+39) (tG e2) ⟨(ak.aG.set .ahp (sl 0) .aH).set .ahp (sl 1) (.func a [] [.aE B1 0]),[],none⟩ d _;generalize f:(ak.aG.set AV.ahp (sl 0) .aH).set .ahp (sl 1) (.func a [] [.aE B1 0])=aa;have h0:aa.get .ahp (sl 0)=.aH:=by rw[<-f];simp[ak.aC,aY]
 have h1:aa.get .ahp (sl 1)=.func a [] [.aE B1 0]:=by rw[<-f];simp[ak.aC,aY]
 clear f;refine Xc.gK (n:=20) (m:=n+37) (k:=n+38) ab ab (Xc.region (n:=19) ?_);refine Xo.op (n:=18) (v:=.aE d.next 0) (H':=d.new (.cells (bX [.aH]) 1 e2 true [] 0)) (LH h0 rfl rfl) ?_;refine Xo.op (n:=17) (v:=.aH) (H':=d.new (.cells (bX [.aH]) 1 e2 true [] 0)) (by simp[aD,gv]) (Xo.nil (n:=16) ?_);generalize m:d.new (.cells (bX [.aH]) 1 e2 true [] 0)=b;have F:b.next=d.next.succ:=by rw[<-m];rfl
 have r:∀j,b.get j=if j=d.next then .cells (bX [.aH]) 1 e2 true [] 0 else d.get j:=λj=>by rw[<-m,ah.cz]
 clear m;generalize f:aK (aK aa (some (sl 2)) (.aE d.next 0)) (some (sl 4)) .aH=g;have G:g.get .ahp (sl 1)=.func a [] [.aE B1 0]:=by rw[<-f];simp[aK,ak.aC,aY];exact h1
 have H:g.get .ahp (sl 2)=.aE d.next 0:=by rw[<-f];simp[aK,ak.aC,aY]
 clear f;refine Xc.gK (n:=n+30) (m:=20) (k:=n+36) ab ab (Xc.gK (n:=20) (m:=n+20) (k:=n+29) ab ab (Xc.region (n:=19) ?_));refine Xo.op (n:=18) (v:=.func a [] [.aE B1 0]) (H':=b) (by simp[aD,gv];exact G) (Xo.nil (n:=17) ?_);generalize f:aK g (some (sl 6)) (.func a [] [.aE B1 0])=c;have y:c.get .ahp (sl 2)=.aE d.next 0:=by rw[<-f];simp[aK,ak.aC,aY];exact H
 have I:gv c (tt 6)=.func a [] [.aE B1 0]:=by rw[<-f];simp[gv,aK,ak.aC]
 clear f;refine Xc.block (n:=n+19) (Xc.mono (n:=n+1) ab (λ_ _ _ h=>h) (Xc.rangeFunc (n:=n) ?_));rw[I];have nd:(b.new (.deferred false)).next=b.next.succ:=rfl;have L:b.next.am=d.next.am+1:=by rw[F,af.eI]
 have P:(b.new (.deferred false)).next.am=d.next.am+2:=by rw[nd,af.eI,L]
 have p:∀j,((b.new (.deferred false)).new (.loop .ready .none 0 c [sl 7] rH rI b.next)).get j=if j=(b.new (.deferred false)).next then .loop .ready .none 0 c [sl 7] rH rI b.next else if j=b.next then .deferred false else b.get j:=λj=>by rw[ah.cz,ah.cz]
 refine t (B1:=B1) (B2:=d.next) (D:=b.next) (L:=(b.new (.deferred false)).next) (e1:=e1) (e2:=e2) (envA:=c) ?_ rfl y ?_
 .refine⟨by show _<(b.new (.deferred false)).next.succ.am;rw[af.eI];omega,λj hj=>?_,?_,⟨bX [.aH],.aH,?_,?_,.inl ⟨rfl,rfl⟩⟩,?_,?_,D,u,ab,ab,adv _⟩;·rw[p,ap (bM ab),ap (bM ab),r,ap (bM ab)];exact v j hj
  .rw[p,ap (bM ab),ap (bM ab),r,ap (bM ab)];exact C
  .rw[p,ap (bM ab),ap (bM ab),r,aJ rfl]
  .rw[me _ _ aF];rfl
  .rw[p,ap (bM ab),aJ rfl]
  rw[p,aJ rfl]
 intro lo l s J M;have o5:=J.o5;refine⟨_,_,_,_,_,_,_,_,aF,J.ll,?_⟩;obtain⟨c2,i,b1,b2,N⟩:=J.b2;generalize o:s.set (b.new (.deferred false)).next (.loop .exhausted .none 0 c [sl 7] rH rI b.next)=e;have q:∀j,j≠(b.new (.deferred false)).next->e.get j=s.get j:=λj hj=>by rw[<-o,ah.aC,ap hj]
 have z:e.next=s.next:=by rw[<-o];rfl
 clear o;have O:bx e d.next 0=some i:=by unfold bx;rw[q _ (bM ab),b1];simp only[show afR 0 1=true from rfl,bf,b2]
 refine Xc.gK (n:=18) (m:=18) (k:=19) ab ab (Xc.region (n:=17) ?_);refine Xo.op (n:=16) (v:=i) (H':=e) (gX (by simp[gv];exact y) O) ?_;refine Xo.op (n:=15) (v:=i) (H':=e) (by simp[aD,gv,aK,ak.aC]) (Xo.nil (n:=14) ?_);refine Xc.ret (n:=17) ⟨trivial,e.set b.next (.deferred true),[i],?_,?_,?_⟩;·simp only[gZ,q b.next (bM ab),J.dd]
 .simp[ef,aK,ak.aC]
 refine E i _ lo l ⟨ab,by show lo<e.next.am;rw[z];exact J.nx⟩ ?_ M λj hj=>?_;·refine N.frame (by show _<=e.next.am;rw[z];exact adv _) λj h1 h2=>?_;rw[ah.aC,ap (bM ab),q j (bM ab)]
 rw[ah.aC,ap (bM ab),q j (bM ab)];exact J.lT j hj
end
section
variable{ac:Nat->aX}
theorem Xf.gf{n f:Nat}{g:List AV->ah->Option (AV×ah)}{first args a:List AV}{H H':ah}{v:AV}{K:KT}(b:ac f=.gf g)(hg:g (first++args++a) H=some (v,H'))(c:K v H'):Xf ac (n+1) (.func f first a) args H K:=by simp only[Xf,dT,b,hg];exact c
theorem Tx{b d a n r:Nat}(s:ac b=.code 5 [.tmp (sl 2)] (Ad d))(t:ac d=.code 13 [.tmp (sl 4)] (tG r)){o:AV}{A f:ah}{p:List Int}(i:rJ ac n a o A p){c:af}{u:Nat}(v:f.get c=.cells (bX [o]) 1 u true [] 0)(w:A.next.am<=c.am)(k:c.am<f.next.am)(m:∀j:af,j.am<A.next.am->f.get j=A.get j){K:KT}(x:∀g e lo l,A.next.am<=lo/\lo<e.next.am->pq e lo l g->l.Perm p->(∀j:af,j.am<A.next.am->e.get j=A.get j)->K g e):Xf ac (n+60) (.func b [] []) [.func a [] [.aE c 0]] f K:=by
 refine Xf.code (n:=n+59) s aF ?_;rw[show iS ([]++[AV.func a [] [.aE c 0]]++[]) .xH .aG=ak.aG.set AV.ahp (sl 0) (.func a [] [.aE c 0])from rfl];generalize q:ak.aG.set AV.ahp (sl 0) (.func a [] [.aE c 0])=aa;have h0:aa.get .ahp (sl 0)=.func a [] [.aE c 0]:=by rw[<-q];simp[ak.aC]
 clear q;refine Xc.gK (n:=20) (m:=n+57) (k:=n+58) ab ab (Xc.region (n:=19) ?_);refine Xo.op (n:=18) (v:=.aH) (H':=f) (by simp[aD,gv]) (Xo.nil (n:=17) ?_);refine Xc.gK (n:=n+50) (m:=10) (k:=n+56) ab ab (Xc.region (n:=n+49) ?_);refine Xo.op (n:=n+48) (v:=.func a [] [.aE c 0]) (H':=f) (by simp[aD,gv,aK,ak.aC,aY];exact h0) ?_;refine Xo.call (n:=n+47) ?_;simp only[gv,aK,ak.aC,aY,afp,agu];refine Xf.mono (n:=n+40) ab (λ_ _ h=>h) (Tw t i v w k m λg e lo l y z B C=>?_);refine Xo.op (n:=n+46) (v:=g) (H':=e) (by simp[aD,gv,aK,ak.aC]) (Xo.nil (n:=n+45) ?_);exact Xc.ret (n:=9) ⟨trivial,rfl,[g],by simp[ef,aK,ak.aC],x g e lo l y z B C⟩
theorem LL{c:ak AV}:∀{l:List Int}{o:Nat},(∀i(h:i<l.length),c.bp .ahp (o+i)=.int 3 (l[i]))->tF c o l.length=some l
 |[],_,_=>rfl
 |z::l,o,h=>by
  have h0:c.bp .ahp o=.int 3 z:=h 0 aF;have a:=LL (c:=c) (l:=l) (o:=o+1) λi hi=>by have:=h (i+1) (by simpa using hi);rw[show o+(i+1)=o+1+i by omega]at this;exact this
  simp only[afB,tF,h0,a]
def Cj(H:ah)(lo:Nat)(ks:List Int)(v:AV):Prop:=
 (ks=[]/\v=.aH)\/∃id,v=.slice id 0 ks.length ks.length false/\ks≠ []/\lo<=id.am/\H.get id=.cells (bX ((gW ks).map λz=>.int 3 z)) ks.length 3 true [] 0
theorem Ty{b:Nat}(hs:ac b=.gf pp){A d:ah}{p:AV}{lo:Nat}{l f:List Int}(h1:A.next.am<=lo/\lo<d.next.am)(h2:pq d lo l p)(h3:l.Perm f)(y:f.length<=1000)(q:∀j:af,j.am<A.next.am->d.get j=A.get j){n:Nat}{K:KT}(r:∀g,Cj g A.next.am f p->(∀j:af,j.am<A.next.am->g.get j=A.get j)->((∀id o n c e,p=.slice id o n c e->id.am<g.next.am)/\A.next.am<=g.next.am)->K (.tuple []) g):Xf ac (n+1) (.func b [] []) [p] d K:=by
 have a:=h3.length_eq;rcases h2 with⟨rfl,rfl⟩|⟨id,c,aM,rfl,s,B,t,u,v,w⟩;·refine Xf.gf hs (H':=d) (v:=.tuple []) rfl (r d (.inl ⟨List.nil_perm.1 h3,rfl⟩) q ⟨λ_ _ _ _ _ h=>(by cases h),ab⟩)
 have k:0<l.length:=by cases l with|nil=>exact absurd rfl s|cons _ _=>simp
 have m:gW l=gW f:=Ce (we l) (we f) ((rG l).trans (h3.trans (rG f).symm));have hg:pp [.slice id 0 l.length l.length false] d=some (.tuple [],(d.dN aM).set id (.cells (bX ((gW l).map λz=>.int 3 z)) l.length 3 true [] 0)):=by
  have x:(afw l.length l.length&&afR 0 l.length&&ago l.length 4000000)=true:=by rw[agB,show afR 0 l.length=true from ahm agh k,af8 ab];rfl
  simp only[pp,u,x,bf,LL (l:=l) (o:=0) λi hi=>by rw[afC];exact v i hi]
 refine Xf.gf hs hg (r _ (.inr ⟨id,by rw[a],λe=>?_,ab,?_⟩) (λj hj=>?_) ⟨λ_ _ _ _ _ h=>(by injection h with h;subst h;rw[ah.d8,ah.ix];exact t),by rw[ah.d8,ah.ix];omega⟩);·rw[e]at a;simp at a;exact s (by simpa using a)
 .rw[ah.aC,aJ rfl,m,a]
 rw[ah.aC,ap (bM ab),ah.sW,ap λh=>by have:=w j h;omega];exact q j hj
theorem Tz{b d f i a n x:Nat}(hd:ac b=.code 9 [.tmp (sl 2)] (Cf f d))(hs:ac d=.gf pp)(y:ac f=.code 5 [.tmp (sl 2)] (Ad i))(z:ac i=.code 13 [.tmp (sl 4)] (tG x)){t:AV}{A A1:ah}{m:List Int}(p:m.length<=1000)(q:rJ ac n a t A m){B1:af}{e1:Nat}(B:A1.get B1=.cells (bX [t]) 1 e1 true [] 0)(C:A.next.am<=B1.am)(r:B1.am<A1.next.am)(s:∀j:af,j.am<A.next.am->A1.get j=A.get j){K:KT}(D:∀v g,Cj g A.next.am m v->(∀j:af,j.am<A.next.am->g.get j=A.get j)->((∀id o n c e,v=.slice id o n c e->id.am<g.next.am)/\A.next.am<=g.next.am)->K v g):Xf ac (n+90) (.func b [] []) [.func a [] [.aE B1 0]] A1 K:=by
 refine Xf.code (n:=n+89) hd aF ?_;rw[show iS ([]++[AV.func a [] [.aE B1 0]]++[]) .xH .aG=ak.aG.set AV.ahp (sl 0) (.func a [] [.aE B1 0])from rfl];generalize u:ak.aG.set AV.ahp (sl 0) (.func a [] [.aE B1 0])=aa;have h0:aa.get .ahp (sl 0)=.func a [] [.aE B1 0]:=by rw[<-u];simp[ak.aC]
 clear u;refine Xc.gK (n:=20) (m:=n+87) (k:=n+88) ab ab (Xc.region (n:=19) ?_);refine Xo.op (n:=18) (v:=.aH) (H':=A1) (by simp[aD,gv]) (Xo.nil (n:=17) ?_);refine Xc.gK (n:=n+70) (m:=n+80) (k:=n+86) ab ab (Xc.region (n:=n+69) ?_);refine Xo.op (n:=n+68) (v:=.func a [] [.aE B1 0]) (H':=A1) (by simp[aD,gv,aK,ak.aC,aY];exact h0) ?_;refine Xo.call (n:=n+67) ?_;simp only[gv,aK,ak.aC,aY,afp,agu];refine Xf.mono (n:=n+60) ab (λ_ _ h=>h) (Tx y z q B C r s λk w lo l E F G H=>?_);refine Xo.op (n:=n+66) (v:=k) (H':=w) (by simp[aD,gv,aK,ak.aC]) (Xo.nil (n:=n+65) ?_);refine Xc.gK (n:=20) (m:=20) (k:=n+79) ab ab (Xc.region (n:=19) ?_);refine Xo.op (n:=18) (v:=k) (H':=w) (by simp[aD,gv,aK,ak.aC]) ?_;refine Xo.call (n:=17) ?_;simp only[gv,aK,ak.aC,aY,afp,agu];refine Ty hs E F G p H λg I J L=>?_;refine Xo.nil (n:=16) ?_;refine Xc.gK (n:=10) (m:=10) (k:=19) ab ab (Xc.region (n:=9) ?_);refine Xo.op (n:=8) (v:=k) (H':=g) (by simp[aD,gv,aK,ak.aC,aY]) ?_;refine Xo.op (n:=7) (v:=k) (H':=g) (by simp[aD,gv,aK,ak.aC,aY]) (Xo.nil (n:=6) ?_);exact Xc.ret (n:=9) ⟨trivial,rfl,[k],by simp[ef,aK,ak.aC],D k g I J L⟩
theorem TA{c a d:Nat}(g:ac c=.code 4 [.tmp (sl 2)] (Cg a d)){b:AV}(hb:b.cells=[b])(e:b.dg=true){A:ah}{K:KT}(h:K (.func a [] [.aE A.next 0]) (A.new (.cells (bX [b]) 1 d true [] 0))):Xf ac 40 (.func c [] []) [b] A K:=by
 refine Xf.code (n:=39) g aF ?_;rw[show iS ([]++[b]++[]) .xH .aG=ak.aG.set AV.ahp (sl 0) b from rfl];generalize f:ak.aG.set AV.ahp (sl 0) b=aa;have h0:aa.get .ahp (sl 0)=b:=by rw[<-f];simp[ak.aC]
 clear f;refine Xc.gK (n:=20) (m:=30) (k:=38) ab ab (Xc.region (n:=19) ?_);refine Xo.op (n:=18) (v:=.aE A.next 0) (H':=A.new (.cells (bX [b]) 1 d true [] 0)) (LH h0 hb e) ?_;refine Xo.op (n:=17) (v:=.nilFunc) (H':=A.new (.cells (bX [b]) 1 d true [] 0)) (by simp[aD,gv]) (Xo.nil (n:=16) ?_);refine Xc.gK (n:=20) (m:=20) (k:=29) ab ab (Xc.region (n:=19) ?_);refine Xo.op (n:=18) (v:=.func a [] [.aE A.next 0]) (H':=A.new (.cells (bX [b]) 1 d true [] 0)) (by simp[aD,gv,aK,ak.aC,aY]) ?_;refine Xo.op (n:=17) (v:=.func a [] [.aE A.next 0]) (H':=A.new (.cells (bX [b]) 1 d true [] 0)) (by simp[aD,gv,aK,ak.aC,aY]) (Xo.nil (n:=16) ?_);exact Xc.ret (n:=19) ⟨trivial,rfl,[.func a [] [.aE A.next 0]],by simp[ef,aK,ak.aC],h⟩
theorem TB{c d a e f i g n e1 r:Nat}(hl:ac c=.code 6 [.tmp (sl 2)] (GM d a))(s:ac d=.code 4 [.tmp (sl 2)] (Cg g e1))(hd:ac a=.code 9 [.tmp (sl 2)] (Cf f e))(hs:ac e=.gf pp)(t:ac f=.code 5 [.tmp (sl 2)] (Ad i))(u:ac i=.code 13 [.tmp (sl 4)] (tG r)){b:AV}(hb:b.cells=[b])(m:b.dg=true){A:ah}{l:List Int}(o:l.length<=1000)(p:rJ ac n g b A l){K:KT}(w:∀v k,Cj k A.next.am l v->(∀j:af,j.am<A.next.am->k.get j=A.get j)->K v k):Xf ac (n+150) (.func c [] []) [b] A K:=by
 refine Xf.code (n:=n+149) hl aF ?_;rw[show iS ([]++[b]++[]) .xH .aG=ak.aG.set AV.ahp (sl 0) b from rfl];generalize q:ak.aG.set AV.ahp (sl 0) b=aa;have h0:aa.get .ahp (sl 0)=b:=by rw[<-q];simp[ak.aC]
 clear q;refine Xc.gK (n:=20) (m:=n+140) (k:=n+148) ab ab (Xc.region (n:=19) ?_);refine Xo.op (n:=18) (v:=.aH) (H':=A) (by simp[aD,gv]) (Xo.nil (n:=17) ?_);refine Xc.gK (n:=n+130) (m:=10) (k:=n+139) ab ab (Xc.region (n:=n+129) ?_);refine Xo.op (n:=n+128) (v:=b) (H':=A) (by simp[aD,gv,aK,ak.aC,aY];exact h0) ?_;refine Xo.call (n:=n+127) ?_;simp only[gv,aK,ak.aC,aY,afp,agu];refine Xf.mono (n:=40) ab (λ_ _ h=>h) (TA s hb m ?_);refine Xo.call (n:=n+126) ?_;simp only[gv,aK,ak.aC,aY,afp,agu];refine Xf.mono (n:=n+90) ab (λ_ _ h=>h) (Tz hd hs t u o p (A1:=A.new (.cells (bX [b]) 1 e1 true [] 0)) (B1:=A.next) (e1:=e1) (by rw[ah.cz,aJ rfl]) (adv _) (by show _<A.next.succ.am;rw[af.eI];omega) (λj hj=>by rw[ah.cz,ap (bM ab)]) λv k x y _=>?_);refine Xo.op (n:=n+125) (v:=v) (H':=k) (by simp[aD,gv,aK,ak.aC]) (Xo.nil (n:=n+124) ?_);exact Xc.ret (n:=9) ⟨trivial,rfl,[v],by simp[ef,aK,ak.aC],w v k x y⟩
end
section
variable{P:Program}
theorem bh.eD{ρ d:aO}(h:bQ ρ d):∀{es:List aT}{f l:List MapEntry},bh ρ es f->bh d es l->bh ρ es l|[],_,[],_,_=>by simp[bh]|[],_,_::_,_,k=>by simp[bh]at k|_::_,[],_,b,_=>by simp[bh]at b|_::_,_::_,[],_,k=>by simp[bh]at k|e::es,c0::f,c::l,b,k=>by simp only[bh]at b k⊢;exact⟨VR.eD h _ _ _ b.1 k.1,VR.eD h _ _ _ b.2.1 k.2.1,k.2.2.1,bh.eD h b.2.2.2 k.2.2.2⟩
theorem bV.eD{ρ d:aO}(h:bQ ρ d):∀{es:List aT}{f l:List MapEntry},bV ρ es f->bV d es l->bV ρ es l|[],_,[],_,_=>by simp[bV]|[],_,_::_,_,k=>by simp[bV]at k|_::_,[],_,b,_=>by simp[bV]at b|_::_,_::_,[],_,k=>by simp[bV]at k|e::es,c0::f,c::l,b,k=>by simp only[bV]at b k⊢;exact⟨VR.eD h _ _ _ b.1 k.1,VR.eD h _ _ _ b.2.1 k.2.1,bV.eD h b.2.2 k.2.2⟩
theorem OR.eD{ρ f:aO}(h:bQ ρ f){o:bL}(m:(∃c n e g aM fz,o=.cells c n e g aM fz)\/∃es,dl o=some es){p x:Nat}{b i:Obj}(d:OR P ρ o p b)(k:OR P f o x i):OR P ρ o x i:=by
 rcases m with⟨c,n,e,g,aM,fz,rfl⟩|⟨es,he⟩;·exact OR.Lz h d k
 cases o with|map j c=>cases b<;>simp only[OR]at d;cases i<;>simp only[OR]at k⊢;exact⟨k.1,k.2.1,k.2.2.1,bh.eD h d.2.2.2 k.2.2.2⟩|co j=>cases b<;>simp only[OR]at d;cases i<;>simp only[OR]at k⊢;obtain⟨_,_,v,_,r⟩:=d;obtain⟨s,t,l,u,q⟩:=k;exact⟨s,t,l,u,bV.eD h r q⟩|_=>simp[dl]at he
variable{a:bS}{ρ:aO}{H:ah}{w:World}
theorem bj.TC(A:bj P a ρ H w){hl:af->Prop}(B:∀j,hl j->(H.get j).lq){Hs:ah}(l:Hs.next=H.next)(i:∀j,(hl j->Hs.get j=.none)/\(¬hl j->Hs.get j=H.get j))(d:bj P (a.iz ρ hl λ_=>False) ρ Hs w){f:aO}{z:ah}{q:World}(r:bQ ρ f)(t:bj P (a.iz ρ hl λ_=>False) f z q)(C:cX (a.iz ρ hl λ_=>False) w q)(u:∀j:af,j.am<H.next.am->z.get j=Hs.get j)(v:∀j,¬hl j->H.get j≠.none->(∃c n e y aM fz,H.get j=.cells c n e y aM fz)\/∃es,dl (H.get j)=some es):∃b,bQ ρ b/\bj P a b H q/\cX a w q:=by
 classical
  let b:aO:=⟨λj=>if j.am<Hs.next.am then ρ j else if False then f j else none,f.k⟩;have p:bQ ρ b:=by
   intro j x hj;refine⟨?_,(r j x hj).2⟩;show(if j.am<Hs.next.am then ρ j else _)=_;rcases afZ j.am Hs.next.am with h|h;·rw[aJ h];exact hj
   rw[(d.cS j h).2]at hj;cases hj
  have s:=bj.GG d r t (H2:=Hs) (adv _) id (λ_=>False) b rfl (λj h1 h2=>absurd (d.cS j h1).1 h2) (λ_ h=>h.elim) (λ_ _ h=>h.elim) (λj hj hg=>by have m:¬hl j:=λh=>hg ((i j).1 h);have D:=u j (by rw[<-l];exact hj);rw[D];refine⟨hg,hg,rfl,rfl,rfl,rfl,λx I o=>?_,λ_ _ h=>h⟩;obtain⟨J,K,G,_,_,g⟩:=d.cI j hg;rw[(i j).2 m]at o g hg⊢;exact OR.mono p (OR.eD r (v j m hg) g o));obtain⟨E,F⟩:=A.GF B s.1 s.2 C (H2:=H) l.symm (λ_ _=>rfl) (λj h=>((i j).2 h).symm);exact⟨b,s.1,E,F⟩
theorem bj.TD(N:bj P a ρ H w){hl:af->Prop}(O:∀j,hl j->(H.get j).lq){Hs:ah}(g:Hs.next=H.next)(s:∀j,(hl j->Hs.get j=.none)/\(¬hl j->Hs.get j=H.get j))(m:bj P (a.iz ρ hl λ_=>False) ρ Hs w){l:aO}{A:ah}{z:World}(B:bQ ρ l)(u:bj P (a.iz ρ hl λ_=>False) l A z)(Q:cX (a.iz ρ hl λ_=>False) w z)(E:∀j:af,j.am<H.next.am->A.get j=Hs.get j)(F:∀j,¬hl j->H.get j≠.none->(∃c n e G aM fz,H.get j=.cells c n e G aM fz)\/∃es,dl (H.get j)=some es){id:af}{o:bL}(I:H.next.am<=id.am)(C:A.get id=o)(f:o.lq)(J:∀K d:aO,∀x t,OR P K o x t->OR P d o x t):∃d:aO,bQ ρ d/\bj P a d (H.new o) z/\cX a w z/\d H.next=l id/\d.k=l.k:=by
 classical
  let d:aO:=⟨λj=>if j.am<Hs.next.am then ρ j else if j=H.next then l ((λ_=>id) j)else none,l.k⟩;have y:bQ ρ d:=by
   intro j x hj;refine⟨?_,(B j x hj).2⟩;show(if j.am<Hs.next.am then ρ j else _)=_;rcases afZ j.am Hs.next.am with h|h;·rw[aJ h];exact hj
   rw[(m.cS j h).2]at hj;cases hj
  have L:d H.next=l id:=by show(if H.next.am<Hs.next.am then _ else if H.next=H.next then _ else _)=_;rw[ap (by rw[g];omega),aJ rfl]
  have q:(Hs.new o).next.am=Hs.next.am+1:=af.eI _;obtain⟨b,x,t,Y,V,W,p⟩:=u.bm (i:=id) (by rw[C];exact f.2.2);rw[C]at p;have D:=bj.GG m B u (H2:=Hs.new o) (by rw[q];omega) (λ_=>id) (λj=>j=H.next) d rfl (λj h1 h2=>by
   rw[ah.cz]at h2;split at h2;·rename_i e;rw[e,g]
   exact absurd (m.cS j h1).1 h2) (λj hj=>by rw[hj,C,ah.cz,aJ g.symm];exact⟨by rw[g];exact adv _,by rw[q,g];omega,by rw[g];exact I,f.2.2,f.2.1,f.1,f.2.1,f.1,rfl,λx t h=>J _ _ x t h,λ_ _ h=>h⟩) (λi j h1 h2 _=>h1.trans h2.symm) (λj hj hg=>by rw[ah.cz,ap (bM ab)]at hg⊢;have v:¬hl j:=λh=>hg ((s j).1 h);have R:=E j (by rw[<-g];exact hj);rw[R];refine⟨hg,hg,rfl,rfl,rfl,rfl,λx t p=>?_,λ_ _ h=>h⟩;obtain⟨Z,x0,X,_,_,r⟩:=m.cI j hg;rw[(s j).2 v]at p r hg⊢;exact OR.mono y (OR.eD B (F j v hg) r p));have M:¬hl H.next:=λh=>(O _ h).2.2 (N.cS _ (adv _)).1;obtain⟨S,T⟩:=N.GF O D.1 D.2 Q (H2:=H.new o) (by show H.next.succ=Hs.next.succ;rw[g]) (λj h=>by rw[ah.cz,ap λe:j=H.next=>M (e▸h)]) (λj h=>by
   rw[ah.cz,ah.cz,g];split;·rfl
   exact((s j).2 h).symm);exact⟨d,D.1,S,T,L,rfl⟩
theorem LM(m:bj P a ρ H w)(pu:af->Prop):∃(hl:af->Prop)(Hs:ah),(∀j,hl j->(H.get j).lq)/\(∀j,pu j->¬hl j)/\Hs.next=H.next/\(∀j,(hl j->Hs.get j=.none)/\(¬hl j->Hs.get j=H.get j))/\bj P (a.iz ρ hl λ_=>False) ρ Hs w/\∀j,¬hl j->H.get j≠.none->pu j\/∃c n e d aM fz,H.get j=.cells c n e d aM fz:=by
 classical
  let hl:af->Prop:=λj=>(H.get j).lq/\¬pu j;obtain⟨Hs,f,b⟩:=H.fQ (λj h=>(m.cS j h).1) hl;refine⟨hl,Hs,λj h=>h.1,λj g h=>h.2 g,f,b,m.kL (λi h=>h.1) (λ_ h=>h.elim) f (λj=>?_) (λj h=>(b j).1 h),λj h1 h2=>?_⟩
  .by_cases h:hl j;·exact .inr ((b j).1 h)
   exact .inl ((b j).2 h)
  by_cases g:pu j;·exact .inl g
  right;have l:¬(H.get j).lq:=λh=>h1 ⟨h,g⟩;cases k:H.get j with|cells c n e d aM fz=>exact⟨c,n,e,d,aM,fz,rfl⟩|none=>exact absurd k h2|_=>exact absurd ⟨by rw[k];rfl,by rw[k];rfl,h2⟩ l
theorem TE{l:List Int}{n e:Nat}(g:n=l.length)(d f:aO)(x:Nat)(c:Obj)(h:OR P d (.cells (bX (l.map λz=>.int 3 z)) n e true [] 0) x c):OR P f (.cells (bX (l.map λz=>.int 3 z)) n e true [] 0) x c:=by cases c<;>simp only[OR]at h⊢;refine⟨h.1,h.2.1,λi hi=>?_,h.2.2.2⟩;obtain⟨v,h1,h2⟩:=h.2.2.1 i hi;refine⟨v,h1,?_⟩;have b:i<l.length:=ab;rw[me _ _ (by simpa using b)]at h2⊢;simp only[ahn,af0,getElem?_pos l i b,afL,af5]at h2⊢;cases v<;>simp only[VR]at h2⊢;exact h2
theorem Ck:∀{es:List aT}{ks:List Int},il es=some ks↔es.map (·.key)=ks.map λk=>.int 3 k
 |[],ks=>by cases ks<;>simp[il]
 |e::es,ks=>by
  simp only[il];constructor
  .intro h;split at h;·rename_i k l h1 h2;injection h with h;subst h;simp only[afp,h1,Ck.1 h2]
   cases h
  intro h;cases ks with|nil=>simp at h|cons k ks=>simp only[afp,afM]at h;simp only[h.1,Ck.2 h.2]
theorem TF{es b:List aT}{ks:List Int}(g:(b.map aT.kv).Perm (es.map aT.kv))(h:il es=some ks):∃c,il b=some c/\c.Perm ks:=by
 have d:(b.map (·.key)).Perm (ks.map λk=>.int 3 k):=by have:=g.map aho;rw[ag1,ag1]at this;rw[<-Ck.1 h];exact this
 let f:AV->Int:=λv=>match v with|.int _ k=>k|_=>0;have e:(ks.map λk=>AV.int 3 k).map f=ks:=by
  rw[ag1];have:(f∘λk=>AV.int 3 k)=id:=by funext k;rfl
  rw[this,ahi]
 refine⟨(b.map (·.key)).map f,Ck.2 ?_,by have:=d.map f;rw[e]at this;exact this⟩;rw[ag1];conv=>lhs;rw[<-ahi (b.map (·.key))]
 refine agG λv i=>?_;have:=d.mem_iff.1 i;rw[afE]at this;obtain⟨k,_,rfl⟩:=this;rfl
theorem TG{ac:Nat->aX}(ht:fM P ac){listF keysF sortedF sortF collF appF iterF e1 e2:Nat}(hl:ac listF=.code 6 [.tmp (sl 2)] (GM keysF sortedF))(hk:ac keysF=.code 4 [.tmp (sl 2)] (Cg iterF e1))(hd:ac sortedF=.code 9 [.tmp (sl 2)] (Cf collF sortF))(hs:ac sortF=.gf pp)(hc:ac collF=.code 5 [.tmp (sl 2)] (Ad appF))(hf:ac appF=.code 13 [.tmp (sl 4)] (tG e2))(hi:ac iterF=.code 14 [] Ci):rp P listF B9:=by
 have D:∀{a:bS}{ρ:aO}{H A:ah}{w:World}{g:af->Prop}{Hs:ah}{bv:AV}{ks:List Int}{argv:Array Value}{n:Nat}(eD:∀{E:bS}{u:aO}{J:ah}{w':World},bj P E u J w'->(∀j:af,j.am<H.next.am->J.get j=A.get j)->∃L:ah,L.next=J.next/\bj P E u L w'/\(∀j:af,j.am<H.next.am->L.get j=Hs.get j)/\∀j:af,H.next.am<=j.am->L.get j=J.get j),bj P a ρ H w->(∀j,g j->(H.get j).lq)->Hs.next=H.next->(∀j,(g j->Hs.get j=.none)/\(¬g j->Hs.get j=H.get j))->bj P (a.iz ρ g λ_=>False) ρ A w->A.next=H.next->bj P (a.iz ρ g λ_=>False) ρ Hs w->(∀j,¬g j->H.get j≠.none->(∃c n e av aM fz,H.get j=.cells c n e av aM fz)\/∃es,dl (H.get j)=some es)->aQ ρ [bv] argv.toList->bv.cells=[bv]->bv.dg=true->ks.length<=1000->rJ ac n iterF bv A ks->∀(fr:Frame)(cs:List Frame),nZ fr->vu P a ρ w (callFunc listF argv) fr cs λM b=>(ks=[]/\M=.aH/\b=H)\/(ks≠ []/\M=.slice H.next 0 ks.length ks.length false/\b=H.new (.cells (bX ((gW ks).map λn=>.int 3 n)) ks.length 3 true [] 0)):=by
  intro a ρ H A w g Hs bv ks argv n eD B hy R S aw ax T V ha ay a1 x F fr cs hat;have Z:=TB (n:=n) hl hk hd hs hc hf ay a1 x F (K:=λv H4=>Cj H4 A.next.am ks v/\∀j:af,j.am<A.next.am->H4.get j=A.get j) (λv H4 h1 h2=>⟨h1,h2⟩);have q:=(vL ht (n+150)).1 (n+150) (adv _) Z (fv:=.func (.func listF) #[] #[]) (by simp[VR,aQ]) ha aw fr cs hat;have ag:lQ (.func (.func listF) #[] #[]) argv=callFunc listF argv:=by simp[lQ,Deferred.ofValue,invoke]
  rw[ag]at q;obtain⟨v,H4,c,w',d,f,t,⟨k1,k2⟩,⟨u,hx,N,a2,s⟩,q1,q2⟩:=q;rw[ax]at k1 k2;obtain⟨L,n3,W,f1,f2⟩:=eD a2 k2;rcases k1 with⟨rfl,rfl⟩|⟨id,rfl,G,X,hg⟩;·obtain⟨I,O,k,x3⟩:=bj.TC B hy R S T hx W s f1 V;have a6:=N.kK;subst a6;exact⟨.aH,H,_,w',d,f,t,.inl ⟨rfl,rfl,rfl⟩,⟨I,O,by simp[VR],k,x3⟩,q1,q2⟩
  have a8:ks.length=(gW ks).length:=(rG ks).length_eq.symm;obtain⟨I,O,k,x3,x4,x5⟩:=bj.TD B hy R S T hx W s f1 V X (by rw[f2 id X];exact hg) ⟨rfl,rfl,aF⟩ (TE a8);refine⟨_,_,c,w',d,f,t,.inr ⟨G,rfl,rfl⟩,⟨I,O,?_,k,x3⟩,q1,q2⟩;cases c with
  |slice ba n' m'=>cases ba with|none=>simp[VR]at N|some ba=>simp only[VR]at N⊢;rw[x4,x5];exact N
  |_=>simp[VR]at N
 intro a ρ H H' w args v argv hg ha B fr cs hat;unfold B9 at hg;split at hg
 .injection hg with hg;injection hg with l o;subst l;subst o;obtain⟨g,Hs,y1,_,K,y3,Q,y5⟩:=LM B λ_=>False;obtain⟨v,b,c,w',d,f,t,C,r⟩:=D (A:=Hs) (ks:=[]) (n:=100) (bv:=.cC) (λh1 h2=>⟨_,rfl,h1,h2,λ_ _=>rfl⟩) B y1 K y3 Q K Q (λj h1 h2=>.inl ((y5 j h1 h2).resolve_left id)) ha rfl rfl aF (Tv hi) fr cs hat;rcases C with⟨_,rfl,rfl⟩|⟨h,_⟩;·exact⟨_,_,c,w',d,f,t,⟨rfl,rfl⟩,r⟩
  exact absurd rfl h
 .rename_i m;have go:∀{ks:List Int},im H m=some ks->ks.length<=1000->vu P a ρ w (callFunc listF argv) fr cs λM b=>(ks=[]/\M=.aH/\b=H)\/(ks≠ []/\M=.slice H.next 0 ks.length ks.length false/\b=H.new (.cells (bX ((gW ks).map λn=>.int 3 n)) ks.length 3 true [] 0)):=by
   intro ks p x;obtain⟨es,e1,e2,e3⟩:=tw p;obtain⟨g,Hs,y1,y0,K,y3,Q,y5⟩:=LM B λj=>j=m;have gm:Hs.get m=H.get m:=(y3 m).2 (y0 m rfl);have Y:m.am<H.next.am:=by
    rcases afZ m.am H.next.am with h|h;·exact h
    rw[(B.cS m h).1]at e1;simp[dl]at e1
   obtain⟨y,i,i1,p1,p2,p3,eD⟩:=Lf Q (m:=m) (es:=es) (by rw[gm];exact e1);obtain⟨z,O,k⟩:=TF p1 e2;have F:rJ ac (y.length+100) iterF (.map m) (Hs.set m (.map y i)) z:=Tu hi (m:=m) (A:=Hs.set m (.map y i)) (by rw[ah.aC,aJ rfl]) (by show m.am<Hs.next.am;rw[K];exact Y) p2 p3 O (k.nodup_iff.2 e3) (by rw[k.length_eq];exact x);obtain⟨v,b,c,w',d,f,t,C,r⟩:=D (A:=Hs.set m (.map y i)) (ks:=z) (bv:=.map m) (H:=H) (Hs:=Hs) (λ{E u J w'}h1 h2=>⟨J.set m (Hs.get m),rfl,eD h1 (by rw[h2 m Y,ah.aC,aJ rfl]),λj hj=>by
    rw[ah.aC];split;·rename_i e;rw[e]
    rename_i e;rw[h2 j hj,ah.aC,ap e],λj hj=>by rw[ah.aC,ap (bM ab)]⟩) B y1 K y3 i1 (by show Hs.next=_;exact K) Q (λj h1 h2=>by
    rcases y5 j h1 h2 with h|h;·exact .inr ⟨es,by rw[h];exact e1⟩
    exact .inl h) ha rfl rfl (by rw[k.length_eq];exact x) F fr cs hat;refine⟨v,b,c,w',d,f,t,?_,r⟩;rw[Ce (we z) (we ks) ((rG z).trans (k.trans (rG ks).symm)),k.length_eq]at C;rcases C with⟨h,h'⟩|⟨h,h'⟩;·exact .inl ⟨by rw[h]at k;exact List.nil_perm.1 k,h'⟩
   exact .inr ⟨λe=>h (by rw[e]at k;exact List.perm_nil.1 k),h'⟩
  split at hg
  .rename_i p;injection hg with hg;injection hg with l o;subst l;subst o;obtain⟨v,b,c,w',d,f,t,C,r⟩:=go p aF;rcases C with⟨_,rfl,rfl⟩|⟨h,_⟩;·exact⟨_,_,c,w',d,f,t,⟨rfl,rfl⟩,r⟩
   exact absurd rfl h
  .rename_i ks G p;split at hg;case isFalse=>cases hg
   rename_i a';injection hg with hg;injection hg with l o;subst l;subst o;obtain⟨v,b,c,w',d,f,t,C,r⟩:=go p (afx a');rcases C with⟨h,_⟩|⟨_,rfl,rfl⟩;·exact(G h).elim
   exact⟨_,_,c,w',d,f,t,⟨rfl,rfl⟩,r⟩
  cases hg
 cases hg
end
section
variable{P:Program}
theorem ae7{f:FuncId}{fn:Func}(h1:P.funcs[f]?=some fn)(h2:(fn.name== "runtime.NumGoroutine")=false)(h3:fn.body.isNone=true)(K:Extern.findNext fn=none)(L:Extern.find fn=some Extern.MapsClone.clone):rp P f Lb:=by
 intro W X H Y w args v h hg a q fr cs hat;unfold Lb at hg;split at hg;case h_2=>cases hg
 rename_i t m;split at hg;case h_2=>cases hg
 rename_i es c F;injection hg with hg;injection hg with s A;subst s;subst A;obtain⟨b,x,ob,M,V,B,i⟩:=q.bm (i:=m) (by rw[F];simp);rw[F]at i;cases ob<;>simp only[OR]at i;rename_i bk k;obtain⟨rfl,rfl,dF,N⟩:=i;have C:h= #[.iface t (.map (some b))]:=by
  obtain⟨l⟩:=h;cases l with
  |nil=>simp[aQ]at a
  |cons O l=>
   cases l with
   |cons _ _=>simp[aQ]at a
   |nil=>
    simp only[aQ,and_true]at a;cases O with
    |iface u z=>
     simp only[VR]at a;obtain⟨rfl,a⟩:=a;cases z with
     |map G=>cases G with|none=>simp[VR]at a|some G=>simp only[VR]at a;rw[M]at a;injection a with a;injection a with a _;rw[a]
     |_=>simp[VR]at a
    |_=>simp[VR]at a
 subst C;have D:(getObj b).run P w=.ok (.map bk k) w:=by simp[getObj,Sem.run,B]
 have p:(callFunc f #[.iface t (.map (some b))]).run P w=.ok (.value (.iface t (.map (some w.heap.size)))) {w with heap:=w.heap.push (.map bk k)}:=by
  have I:Extern.MapsClone.clone #[.iface t (.map (some b))]=((getObj b).bind λo=>match o with|.map d n=>(newObj (.map d n)).bind λr=>pure (.iface t (.map (some r)))|_=>stuck "maps.clone: a map expected"):=rfl;have E:(Extern.MapsClone.clone #[.iface t (.map (some b))]).run P w=.ok (.iface t (.map (some w.heap.size))) {w with heap:=w.heap.push (.map bk k)}:=by rw[I];have:∀{J Q:Type}(x:Sem J)(g:J->Sem Q),x.bind g=x>>=g:=λ_ _=>rfl;simp only[this,Sem.run_bind,D,Result.andThen_ok,run_newObj,Sem.run_pure]
  simp only[callFunc,Sem.run_bind,run_program,Result.andThen_ok,h1,h2,h3,K,L,abe,bD,bf,run_mark,Sem.run_pure,E]
 obtain⟨R,S,T⟩:=q.alloc (o:=.map es k) (ob:=.map bk k) (0,0) (by simp[dI]) aF rfl (by simp only[OR];refine⟨trivial,trivial,dF,bh.mono (aO.oZ w.heap.size 0 (0,0) (q.cS H.next (adv _)).2 λj c y e I=>by have:=q.dO j c y e;omega) N⟩);exact⟨_,_,_,_,_,_,_,⟨rfl,rfl⟩,⟨_,R,by simp[VR,aO.dU],S,T⟩,BM p,Steps.refl _ _⟩
end
section
variable{P:Program}
def kN(P:Program)(f:Nat):aX->Prop
 |.none=>True
 |.code a b body=>∃fn,P.funcs[f]?=some fn/\oX P fn=some (.code a b body)/\(fn.name== "runtime.NumGoroutine")=false
 |.gf g=>rp P f g
 |.dD g=>tb P f g
theorem wg{ac:Nat->aX}(h:∀f,kN P f (ac f)):fM P ac:=by have key:∀f v,ac f=v->kN P f v:=λf v e=>e▸h f;exact⟨λf a b body e=>key f _ e,λf g e=>key f (.gf g) e,λf g e=>key f (.dD g) e⟩
theorem TH{db a:Nat}(h1:kN P db (.code 32 [] (Ab a)))(h2:kN P a (.code 13 [.tmp (sl 4)] vZ)):fM P (my db a):=wg λf=>by
 unfold my;split;·rename_i h;rw[afo h];exact h1
 split;·rename_i h;rw[afo h];exact h2
 trivial
def tH(l:List (Nat×aX))(f:Nat):aX:=
 match l with
 |[]=>.none
 |(n,v)::l=>if afw n f then v else tH l f
def LN(Q:Nat->aX->Prop):List (Nat×aX)->Prop
 |[]=>True
 |(n,v)::l=>Q n v/\LN Q l
theorem Cl:∀{l:List (Nat×aX)},LN (kN P) l->∀f,kN P f (tH l f)
 |[],_,_=>trivial
 |(n,v)::l,h,f=>by
  simp only[tH];split;·rename_i e;rw[<-afo e];exact h.1
  exact Cl h.2 f
end
section
variable{P:Program}
theorem TI{ac:Nat->aX}(L:fM P ac){f nt:Nat}{rs:List fR}{body:bg}(hg:ac f=.code nt rs body){n:Nat}{args:List AV}{H:ah}{K:KT}(he:Xf ac n (.func f [] []) args H K){M:bS}{ρ:aO}{w:World}{d:Array Value}(R:aQ ρ args d.toList)(S:bj P M ρ H w):Calls P f d w λe y=>∃v z c,e=.returned c/\K v z/\bZ P M ρ w v z c y:=by
 intro cs;cases n with
 |zero=>simp only[Xf,dT]at he
 |succ n=>
  have o:vA P ac n:=(vL L n).2.1;simp only[Xf,dT,hg,agq,agk]at he;obtain⟨fn,q,r,I⟩:=L.code f nt rs body hg;split at he;case isFalse=>exact he.elim
  rename_i m;have m:=afx m;simp only[oX,acC,aaU,aeO,aaM,aX.code.injEq]at r;obtain⟨cc,B,J,p,C,F,T,V,W⟩:=r;subst T;subst V;subst W;let b:Frame:={(default:Frame)with fn:=f,kind:=.normal};let a:Act:={tmps:=d++aha (fn.ntmps - d.size) undef,defers:=[]};have k:Frame.enter P f d .normal=b.atR a [.code cc]:=by simp only[Frame.enter,Frame.atR,q,B,b,a,afL,af5,agH];rfl
  have X:fC ρ fn.ntmps ⟨iS args .xH .aG,[],none⟩ b.roundOf a:=⟨FY R m,trivial,trivial⟩;obtain⟨j,s,z,G,A,y,t,h1,h2,h3,Y,Z,N,h7⟩:=o p he X S [] cs;have u:∃i:Frame,i={b.atR A i.todo with mode:=.returning}/\step P (lone (b.atR A t) cs y)=.next (lone i cs y):=by cases j with|none=>rw[show t=[]from N];exact⟨_,rfl,stepR_end rfl⟩|exit id=>exact h1.elim|ret=>obtain⟨k0,rfl⟩:=N;exact⟨_,rfl,stepR_ret rfl⟩
  obtain⟨i,g,cD⟩:=u;have h:(match gZ z s.br with
   |some H=>match ef s.aa H C with|some l=>K (fL l) H|none=>False
   |none=>False):=by cases j with|none=>exact h1|exit id=>exact h1.elim|ret=>exact h1
  split at h
  .rename_i H2 hm;split at h
   .rename_i l hl;have x:i={i with defers:=A.defers}:=by rw[g];rfl
    obtain⟨w2,O,Q,s3⟩:=BN Y h3.D hm i cs (by rw[g]);rw[<-x]at O;obtain⟨c,hc,hv⟩:=F1 Q h3.E F hl;refine⟨.returned c,w2,{i with defers:=[]},⟨fL l,H2,c,rfl,h,G,h2,hv,Q,Z.trans s3⟩,?_,?_,?_⟩;·rw[k];exact h7.trans (.head cD O)
    .show i.fn=f;rw[g];rfl
    refine⟨by rw[g],rfl,by rw[g];rfl,fn,by rw[g];exact q,?_⟩;rw[g];exact hc
   exact h.elim
  exact h.elim
end
section
variable{P:Program}
def TJ(w:World):bS:=⟨λb=>w.heap.size<=b,λb=>w.heap.size<=b,λ_=>False,λ_=>False⟩
def LP(n:Nat):aO:=⟨λj=>if j.am<=n then some (j.am - 1,0)else none,λ_=>(0,0)⟩
theorem TK{n:Nat}(d:P.globals.size=n){w:World}(e:n<=w.heap.size):bj P (TJ w) (LP n) ⟨.aG,af.cr n⟩ w:=by
 have hg:∀j,ah.get ⟨.aG,af.cr n⟩ j=.none:=n8 _;have hi:∀j b x,LP n j=some (b,x)->j.am<=n/\b=j.am - 1:=by
  intro j b x h;have:(if j.am<=n then some (j.am - 1,0)else none)=some (b,x):=h;split at this;·rename_i a;injection this with this;injection this with h1 _;exact⟨a,h1.symm⟩
  cases this
 refine⟨λi h=>absurd (hg i) h,λi j b x y _ h=>absurd (hg i) h,λi j h=>?_,λi b x h=>absurd (hg i) h,λi h=>⟨hg i,?_⟩,λk c=>⟨c,c⟩,λg h=>?_,λi b x f h=>absurd (hg i) h,λi b x h=>?_,λi b x h=>absurd (hg i) h,λi h=>h.elim,λi h=>h.elim⟩;·rw[hg]at h;cases h
 .have:(af.cr n).am<=i.am:=h;rw[af.jL]at this;show(if i.am<=n then _ else _)=_;rw[ap ab]
 .show(if(af.cr g).am<=n then _ else _)=_;rw[af.jL,aJ ab];simp
 obtain⟨h1,h2⟩:=hi i b x h;have:=af.oY i;omega
end
end
section
variable{ac:Nat->aX}
structure Cm(ac:Nat->aX)(n:Nat):Prop where
 exec:∀{c fr H}{K:Nat->bU->Fr->ah->Prop},(∀m m' j fr H,m<=m'->K m j fr H->K m' j fr H)->exec False cA ac n c fr H (λj fr H=>∃m,K m j fr H)->∃m,exec False cA ac n c fr H (K m)
 az:∀{l fr H}{K:Nat->Fr->ah->Prop},(∀m m' fr H,m<=m'->K m fr H->K m' fr H)->Go.al.az False cA ac n l fr H (λfr H=>∃m,K m fr H)->∃m,Go.al.az False cA ac n l fr H (K m)
 call:∀{f args H}{K:Nat->KT},(∀m m' v H,m<=m'->K m v H->K m' v H)->dT False cA ac n f args H (λv H=>∃m,K m v H)->∃m,dT False cA ac n f args H (K m)
theorem TL{n:Nat}(h:Cm ac n){c:bg}{fr:Fr}{H:ah}{K:Nat->bU->Fr->ah->Prop}(g:∀m p j fr H,m<=p->K m j fr H->K p j fr H)(he:exec False cA ac (n+1) c fr H (λj fr H=>∃m,K m j fr H)):∃m,exec False cA ac (n+1) c fr H (K m):=by
 have mo:=mono ac n;cases c with
 |skip=>simp only[exec]at he⊢;exact he
 |region l=>simp only[exec]at he⊢;exact h.az (λm p fr H=>g m p .none fr H) he
 |seq a b=>
  simp only[exec]at he⊢;refine h.exec (K:=λm j fr H=>match j with|.none=>exec False cA ac n b fr H (K m)|j=>K m j fr H) (λm p j fr H k hj=>?_) (mo.exec (adv _) (λj fr H hj=>?_) he);·cases j with|none=>exact mo.exec (adv _) (λj fr H=>g m p j fr H k) hj|exit i=>exact g _ _ _ _ _ k hj|ret=>exact g _ _ _ _ _ k hj
  cases j with|none=>exact h.exec g hj|exit i=>exact hj|ret=>exact hj
 |cond c a b=>
  simp only[exec]at he⊢;split at he;·exact h.exec g he
  .exact h.exec g he
  exact he.elim
 |block id b=>
  simp only[exec]at he⊢;refine h.exec (K:=λm j fr H=>match j with|.exit i=>if afw i id then K m .none fr H else K m (.exit i) fr H|j=>K m j fr H) (λm p j fr H k hj=>?_) (mo.exec (adv _) (λj fr H hj=>?_) he);·cases j with|none=>exact g _ _ _ _ _ k hj|exit i=>simp only at hj⊢;split at hj<;>rename_i hi<;>simp only[hi,bf,bD,abe]<;>exact g _ _ _ _ _ k hj|ret=>exact g _ _ _ _ _ k hj
  cases j with|none=>exact hj|exit i=>simp only at hj⊢;split at hj<;>rename_i hi<;>simp only[hi,bf,bD,abe]<;>exact hj|ret=>exact hj
 |loop b=>
  simp only[exec]at he⊢;refine h.exec (K:=λm j fr H=>match j with|.none=>exec False cA ac n (.loop b) fr H (K m)|j=>K m j fr H) (λm p j fr H k hj=>?_) (mo.exec (adv _) (λj fr H hj=>?_) he);·cases j with|none=>exact mo.exec (adv _) (λj fr H=>g m p j fr H k) hj|exit i=>exact g _ _ _ _ _ k hj|ret=>exact g _ _ _ _ _ k hj
  cases j with|none=>exact h.exec g hj|exit i=>exact hj|ret=>exact hj
 |rangeFunc f q as_ r=>
  simp only[exec]at he⊢;have go:∀(K:bU->Fr->ah->Prop)(w:bU->Fr->ah->Prop)(_:∀j fr H,K j fr H->w j fr H)(fr:Fr)(l:af)(e:ah),(match e.get l with
   |.loop st bP fn aa q as_ r d=>match st with|.busy=>False|_=>K bP fr (e.set l (.loop .exhausted bP fn aa q as_ r d))
   |_=>False)->(match e.get l with
   |.loop st bP fn aa q as_ r d=>match st with|.busy=>False|_=>w bP fr (e.set l (.loop .exhausted bP fn aa q as_ r d))
   |_=>False):=by
   intro K w x fr l e o;cases s:e.get l with
   |loop st bP fn aa q as_ r d=>rw[s]at o;cases st<;>first|exact o.elim|exact x _ _ _ o
   |_=>rw[s]at o;exact o.elim
  have u:∀(fr:Fr)(l:af)(e:ah),(match e.get l with
   |.loop st bP fn aa q as_ r d=>match st with|.busy=>False|_=>∃m,K m bP fr (e.set l (.loop .exhausted bP fn aa q as_ r d))
   |_=>False)->∃m,(match e.get l with
   |.loop st bP fn aa q as_ r d=>match st with|.busy=>False|_=>K m bP fr (e.set l (.loop .exhausted bP fn aa q as_ r d))
   |_=>False):=by
   intro fr l e o;cases s:e.get l with
   |loop st bP fn aa q as_ r d=>rw[s]at o;cases st<;>first|exact o.elim|exact o
   |_=>rw[s]at o;exact o.elim
  cases y:fr.bw with
  |none=>rw[y]at he;simp only at he⊢;exact h.call (λm p v e k=>go _ _ (λj fr H=>g m p j fr H k) _ _ _) (mo.call (adv _) (λv e o=>u _ _ _ o) he)
  |some l=>
   rw[y]at he;simp only at he⊢;split at he;·exact h.call (λm p v e k=>go _ _ (λj fr H=>g m p j fr H k) _ _ _) (mo.call (adv _) (λv e o=>u _ _ _ o) he)
   exact he.elim
 |exit id=>simp only[exec]at he⊢;exact he
 |ret=>simp only[exec]at he⊢;exact he
 |dD t=>
  simp only[exec]at he⊢;split at he
  .split at he;·exact he
   exact he.elim
  exact he.elim
theorem LQ{Q:Nat->Nat->Prop}(c:∀i m d,m<=d->Q i m->Q i d):∀n,(∀i,i<n->∃m,Q i m)->∃m,∀i,i<n->Q i m
 |0,_=>⟨0,λi h=>by omega⟩
 |n+1,h=>by
  obtain⟨a,f⟩:=LQ c n λi hi=>h i ab;obtain⟨b,hb⟩:=h n ab;refine⟨max a b,λi hi=>?_⟩;by_cases e:i=n;·subst e;exact c _ _ _ (Nat.le_max_right ..) hb
  exact c _ _ _ (Nat.le_max_left ..) (f i ab)
theorem TM{n:Nat}(h:Cm ac n){l:List bA}{fr:Fr}{H:ah}{K:Nat->Fr->ah->Prop}(k:∀m d fr H,m<=d->K m fr H->K d fr H)(he:Go.al.az False cA ac (n+1) l fr H (λfr H=>∃m,K m fr H)):∃m,Go.al.az False cA ac (n+1) l fr H (K m):=by
 have mo:=mono ac n;cases l with
 |nil=>simp only[Go.al.az]at he⊢;exact he
 |cons o l=>
  simp only[Go.al.az]at he⊢;have j:∀(m d:Nat)(s:List (af×bL))(v:AV)(H:ah),m<=d->(if du (aK fr.aa o.dst v) (cH H s) o.re=true then Go.al.az False cA ac n l {fr with aa:=aK fr.aa o.dst v} (cH H s) (K m)else False)->(if du (aK fr.aa o.dst v) (cH H s) o.re=true then Go.al.az False cA ac n l {fr with aa:=aK fr.aa o.dst v} (cH H s) (K d)else False):=by
   intro m d s v H e a;split at a;·rename_i p;rw[aJ p];exact mo.az (adv _) (λfr H=>k m d fr H e) a
   exact a.elim
  have b:∀(s:List (af×bL))(v:AV)(H:ah),(if du (aK fr.aa o.dst v) (cH H s) o.re=true then Go.al.az False cA ac n l {fr with aa:=aK fr.aa o.dst v} (cH H s) (λfr H=>∃m,K m fr H)else False)->∃m,(if du (aK fr.aa o.dst v) (cH H s) o.re=true then Go.al.az False cA ac n l {fr with aa:=aK fr.aa o.dst v} (cH H s) (K m)else False):=by
   intro s v H a;split at a;·rename_i p;obtain⟨m,e⟩:=h.az k a;exact⟨m,by rw[aJ p];exact e⟩
   exact a.elim
  split at he
  .rename_i hg;simp only[aJ hg];split at he;·rename_i f args;exact h.call (λm d v q e=>j m d _ v q e) (mo.call (adv _) (λv q a=>b _ v q a) he)
   .split at he
    .rename_i cs g _;refine LQ (Q:=λi m=>match cs[i]? with|some c=>if du (aK fr.aa o.dst (g c).1) (cH (g c).2 (cW fr.aa H o.fQ).2) o.re=true then Go.al.az False cA ac n l {fr with aa:=aK fr.aa o.dst (g c).1} (cH (g c).2 (cW fr.aa H o.fQ).2) (K m)else False|none=>False) (λi m d e a=>?_) cs.length λi hi=>?_
     .split at a;·exact j _ _ _ _ _ e a
      exact a.elim
     have:=he i hi;simp only at this;split at this;·rename_i x r;obtain⟨m,e⟩:=b _ _ _ this;exact⟨m,by simp only[r];exact e⟩
     exact this.elim
    exact he.elim
   split at he;·exact b _ _ _ he
   exact he.elim
  rename_i hg;simp only[ap hg];split at he;·rename_i hd;simp only[aJ hd];exact h.az k he
  exact he.elim
def Ae(l:af)(K:KT)(j:bU)(H:ah):Prop:=
 match H.get l with
 |.loop _ _ fn aa a as_ b d=>match j with
  |.none=>K (.bool true) (H.set l (.loop .ready .none fn aa a as_ b d))
  |j=>K (.bool false) (H.set l (.loop .done j fn aa a as_ b d))
 |_=>False
theorem TN{n:Nat}(h:Cm ac n){f:AV}{args:List AV}{H:ah}{K:Nat->KT}(q:∀m k v H,m<=k->K m v H->K k v H)(he:dT False cA ac (n+1) f args H (λv H=>∃m,K m v H)):∃m,dT False cA ac (n+1) f args H (K m):=by
 have mo:=mono ac n;cases f<;>(try(simp only[dT]at he;done))
 .rename_i f first p;simp only[dT]at he⊢;split at he;·exact he.elim
  .exact he.elim
  .split at he;·exact he
   exact he.elim
  split at he
  .rename_i x results body _ r;simp only[aJ r];have aB:∀(K:KT)(K':KT)(_:∀v H,K v H->K' v H)(fr:Fr)(H:ah),(match gZ H fr.br with
    |some H=>match ef fr.aa H results with|some l=>K (fL l) H|none=>False
    |none=>False)->(match gZ H fr.br with
    |some H=>match ef fr.aa H results with|some l=>K' (fL l) H|none=>False
    |none=>False):=by
    intro K K' s fr H a;split at a
    .split at a;·exact s _ _ a
     exact a.elim
    exact a.elim
   have g:∀(fr:Fr)(H:ah),(match gZ H fr.br with
    |some H=>match ef fr.aa H results with|some l=>∃m,K m (fL l) H|none=>False
    |none=>False)->∃m,(match gZ H fr.br with
    |some H=>match ef fr.aa H results with|some l=>K m (fL l) H|none=>False
    |none=>False):=by
    intro fr H a;split at a
    .split at a;·exact a
     exact a.elim
    exact a.elim
   refine h.exec (K:=λm j fr H=>match j with
    |.exit _=>False
    |_=>match gZ H fr.br with
     |some H=>match ef fr.aa H results with|some l=>K m (fL l) H|none=>False
     |none=>False) (λm k j fr H c hj=>?_) (mo.exec (adv _) (λj fr H hj=>?_) he);·cases j with|exit i=>exact hj.elim|none=>exact aB _ _ (λv H=>q m k v H c) _ _ hj|ret=>exact aB _ _ (λv H=>q m k v H c) _ _ hj
   cases j with|exit i=>exact hj.elim|none=>exact g _ _ hj|ret=>exact g _ _ hj
  exact he.elim
 rename_i l;simp only[dT]at he⊢;split at he
 .split at he
  .split at he
   .rename_i hl;simp only[aJ hl];refine h.exec (K:=λm j fr H=>match j,H.get l with
     |.none,.loop .ready bP fn aa e as_ t d=>exec False cA ac n _ fr (H.set l (.loop .busy bP fn aa e as_ t d)) λj _ H=>match H.get l with
      |.loop _ _ fn aa e as_ o d=>match j with|.none=>K m (.bool true) (H.set l (.loop .ready .none fn aa e as_ o d))|j=>K m (.bool false) (H.set l (.loop .done j fn aa e as_ o d))
      |_=>False
     |_,_=>False) (λm k j fr H c hj=>?_) (mo.exec (adv _) (λj fr H hj=>?_) he)
    .split at hj;·refine mo.exec (adv _) (λj _ H a=>?_) hj;cases b:H.get l with|loop st bP fn aa e as_ o d=>rw[b]at a;cases j<;>exact q _ _ _ _ c a|_=>rw[b]at a;exact a.elim
     exact hj.elim
    split at hj;·have u:=mo.exec (adv _) (K':=λj _ H=>∃m,Ae l (K m) j H) (λj _ H a=>(by unfold Ae;cases b:H.get l with|loop st bP fn aa e as_ o d=>rw[b]at a;cases j<;>exact a|_=>rw[b]at a;exact a.elim)) hj;obtain⟨m,c⟩:=h.exec (K:=λm j _ H=>Ae l (K m) j H) (λm k j _ H c a=>by unfold Ae at a⊢;cases b:H.get l with|loop st bP fn aa e as_ o d=>rw[b]at a;cases j<;>exact q _ _ _ _ c a|_=>rw[b]at a;exact a.elim) u;rename_i w;refine⟨m,?_⟩;simp only[w];refine mo.exec (adv _) (λj _ H a=>?_) c;unfold Ae at a;cases b:H.get l with|loop st bP fn aa e as_ o d=>rw[b]at a;cases j<;>exact a|_=>rw[b]at a;exact a.elim
    exact hj.elim
   exact he.elim
  exact he.elim
 exact he.elim
theorem wi(ac:Nat->aX):∀n,Cm ac n|0=>⟨λ_ he=>by simp only[exec]at he,λ_ he=>by simp only[Go.al.az]at he,λ_ he=>by simp only[dT]at he⟩|n+1=>by have h:=wi ac n;exact⟨TL h,TM h,TN h⟩
end
end Go.al
end
