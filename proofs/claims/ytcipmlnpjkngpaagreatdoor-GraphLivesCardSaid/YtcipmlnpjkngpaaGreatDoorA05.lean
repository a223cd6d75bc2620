/- A part. No conditions. -/
import Derived.Test.YtcipmlnpjkngpaaGreatDoorA04
import Derived.Sort.Grow
import Derived.Sort.Row
set_option linter.all false
open List renaming range->afD,getD->agt
open Nat renaming beq->aeF,blt->ae0,ble->afx
open Array renaming replicate->agk
open List.Perm renaming swap->afA
open Eq renaming mpr->agu
open List.Pairwise renaming nil->agv
open Prod renaming fst->agw
noncomputable section
namespace Go.ak
section
variable[Ov]
variable{P:Program}{a:bS}{ρ:aQ}{H:ai}{w:World}
def bO.l8(o:bO):Prop:=o.jE=false/\o.aM=[]/\o≠.none
theorem bh.kV(h:bh P a ρ H w){hl dd:af->Prop}(r:∀i,hl i->(H.get i).l8)(hd:∀i,dd i->H.get i=.none/\ρ i=none/\i.az<H.next.az/\∀j,i∉(H.get j).aM){c:ai}(m:c.next=H.next)(hg:∀j,c.get j=H.get j\/c.get j=.none)(s:∀i,hl i->c.get i=.none):bh P (a.iN ρ hl dd) ρ c w:=by
 have hs:=h.sub m hg;have o:∀j,c.get j≠.none->c.get j=H.get j:=λj hj=>(hg j).resolve_right hj;have t:=Dj hg;have kV:∀j b x,c.get j≠.none->ρ j=some (b,x)->∀i y,hl i->ρ i≠some (b,y):=by
  intro j b x hj v i y hi z;obtain⟨n,u,g⟩:=r i hi;have p:i≠j:=λe=>hj (e▸s i hi);have q:H.get j≠.none:=by rw[<-o j hj];exact hj
  rcases h.iY i j b y x p g q z v with⟨l,_⟩|⟨l,_⟩;·have:=(h.aM i j l).2 g;rw[n]at this;cases this
  rw[u]at l;cases l
 constructor;·exact hs.cJ
 .exact hs.iY
 .exact hs.aM
 .intro i b x hi A e;exact⟨hs.wr i b x hi A e,λk y f=>kV i b x hi e k y f⟩
 .exact hs.dD
 .intro k f;have d:∀i x,hl i->ρ i≠some (k,x):=λi x _ e=>by have:=h.dU i k x e;omega
  exact⟨⟨(h.new k f).1,d⟩,⟨(h.new k f).2,d⟩⟩
 .exact hs.jP
 .exact hs.im
 .exact hs.dU
 .intro i b x hi e;exact⟨hs.rd i b x hi e,λk y f=>kV i b x hi e k y f⟩
 .intro i hi;rcases hi with hi|hi|hi;·exact hs.un i hi
  .obtain⟨n,u,g⟩:=r i hi;refine⟨s i hi,by rw[m];exact h.zD g,λj hj=>?_⟩;have:=(h.aM i j (t i j hj)).2 g;rw[n]at this;cases this
  obtain⟨h0,h1,h2,h3⟩:=hd i hi;exact⟨by rcases hg i with e|e<;>rw[e];exact h0,by rw[m];exact h2,λj hj=>h3 j (t i j hj)⟩
 intro i hi;rcases hi with hi|hi;·exact⟨.inl (hs.di i hi).1,(hs.di i hi).2⟩
 exact⟨.inr (.inr hi),(hd i hi).2.1⟩
theorem bh.IH(h:bh P a ρ H w){hl dd:af->Prop}(F:∀i,hl i->(H.get i).l8){n:aQ}{D:ai}{A:World}(o:bR ρ n)(g:bh P (a.iN ρ hl dd) n D A)(s:cW (a.iN ρ hl dd) w A){H2:ai}(G:H2.next=D.next)(h1:∀i,hl i->H2.get i=H.get i)(h2:∀i,¬hl i->H2.get i=D.get i):bh P a n H2 A/\cW a w A:=by
 have d:∀i,hl i->∃b x q,ρ i=some (b,x)/\n i=some (b,x)/\n.k b=ρ.k b/\w.heap[b]?=some q/\A.heap[b]?=some q/\OR P ρ (H.get i) x q:=by intro i hi;obtain⟨b,x,q,e,K,hb,Q⟩:=h.be ((F i hi)).2.2;exact⟨b,x,q,e,(o _ _ e).1,(o _ _ e).2,hb,by rw[s.block b K λI=>I.2 i x hi e];exact hb,Q⟩
 have r:∀i j,i∈(H2.get j).aM->¬hl i/\¬hl j/\i∈(D.get j).aM:=by
  intro i j hj;by_cases f:hl j;·rw[h1 j f,(F j f).2.1]at hj;cases hj
  rw[h2 j f]at hj;exact⟨λhi=>(g.un i (.inr (.inl hi))).2.2 j hj,f,hj⟩
 refine⟨⟨?_,?_,?_,?_,?_,?_,?_,?_,?_,?_,?_,?_⟩,⟨s.os,s.tape,s.output,s.size,λW h1 I=>s.block W h1 λL=>I L.1⟩⟩
 .intro i hi;by_cases c:hl i;·obtain⟨b,x,q,_,t,_,_,R,S⟩:=d i c;rw[h1 i c];exact⟨b,x,q,t,R,OR.mono o S⟩
  rw[h2 i c]at hi⊢;exact g.cJ i hi
 .intro i j b x y C hi hj z p;by_cases c:hl i
  .obtain⟨b1,J,_,l,m,_⟩:=d i c;rw[m]at z;injection z with z;injection z with M N;subst M;subst N;by_cases f:hl j;·obtain⟨b2,T,_,c1,c2,_⟩:=d j f;rw[c2]at p;injection p with p;injection p with u v;subst u;subst v;rw[h1 i c]at hi⊢;rw[h1 j f]at hj⊢;exact h.iY i j _ _ _ C hi hj l c1
   rw[h2 j f]at hj;exact absurd l ((g.rd j _ y hj p).2 i _ c)
  by_cases f:hl j;·obtain⟨b2,T,_,c1,c2,_⟩:=d j f;rw[c2]at p;injection p with p;injection p with u v;subst u;subst v;rw[h2 i c]at hi;exact absurd c1 ((g.rd i _ x hi z).2 j _ f)
  rw[h2 i c]at hi⊢;rw[h2 j f]at hj⊢;exact g.iY i j b x y C hi hj z p
 .intro i j hj;obtain⟨l,m,a3⟩:=r i j hj;obtain⟨b1,b2⟩:=g.aM i j a3;rw[G];exact⟨b1,λhi=>by rw[h2 i l]at hi⊢;exact b2 hi⟩
 .intro i b x hi E e;by_cases c:hl i;·obtain⟨b1,J,_,l,m,_⟩:=d i c;rw[m]at e;injection e with e;injection e with B t;subst B;subst t;rw[h1 i c]at hi E;exact h.wr i _ _ hi E l
  rw[h2 i c]at hi E;exact(g.wr i b x hi E e).1
 .intro i hi;rw[G]at hi;obtain⟨l,m⟩:=g.dD i hi;have c:¬hl i:=λc=>by obtain⟨_,_,_,_,e,_⟩:=d i c;rw[m]at e;cases e
  exact⟨by rw[h2 i c];exact l,m⟩
 .intro W O;exact h.new W (af2 s.size O)
 .exact g.jP
 .intro i b x q hi e hb;by_cases c:hl i;·obtain⟨b1,J,V,l,m,a3,a4,a5,_⟩:=d i c;rw[m]at e;injection e with e;injection e with B t;subst B;subst t;rw[a5]at hb;injection hb with hb;subst hb;rw[h1 i c]at hi⊢;rw[a3];exact h.im i _ _ _ hi l a4
  rw[h2 i c]at hi⊢;exact g.im i b x q hi e hb
 .exact g.dU
 .intro i b x hi e;by_cases c:hl i;·obtain⟨b1,J,_,l,m,_⟩:=d i c;rw[m]at e;injection e with e;injection e with B t;subst B;subst t;rw[h1 i c]at hi;exact h.rd i _ _ hi l
  rw[h2 i c]at hi;exact(g.rd i b x hi e).1
 .intro i hi;obtain⟨l,m,a3⟩:=g.un i (.inl hi);have c:¬hl i:=λc=>(F i c).2.2 (h.un i hi).1;exact⟨by rw[h2 i c];exact l,by rw[G];exact m,λj hj=>a3 j (r i j hj).2.2⟩
 intro i hi;exact⟨(h.di i hi).1,(g.di i (.inl hi)).2⟩
theorem OR.Q4{ρ d:aQ}(h:bR ρ d){c:am AV}{n e fz:Nat}{b:Bool}{aM:List af}{l x:Nat}{f g:Obj}(j:OR P ρ (.cells c n e b aM fz) l f)(k:OR P d (.cells c n e b aM fz) x g):OR P ρ (.cells c n e b aM fz) x g:=by cases f<;>simp only[OR]at j;cases g<;>simp only[OR]at k⊢;refine⟨k.1,k.2.1,λi hi=>?_,k.2.2.2⟩;obtain⟨v0,_,m⟩:=j.2.2.1 i hi;obtain⟨v,o,q⟩:=k.2.2.1 i hi;exact⟨v,o,VR.eP h _ _ _ m q⟩
theorem bh.II{f:aQ}{l H2:ai}{w1:World}(h0:bh P a ρ H w)(O:bR ρ f)(h1:bh P a f l w1)(nx:H.next.az<=H2.next.az)(n:af->af)(new:af->Prop) [DecidablePred new](c:aQ)(D:c=⟨λj=>if j.az<H.next.az then ρ j else if new j then f (n j)else none,f.k⟩)(z:∀j,H.next.az<=j.az->H2.get j≠.none->new j)(B:∀j,new j->H.next.az<=j.az/\j.az<H2.next.az/\H.next.az<=(n j).az/\l.get (n j)≠.none/\(l.get (n j)).aM=[]/\(l.get (n j)).jE=false/\(H2.get j).aM=[]/\(H2.get j).jE=false/\(l.get (n j)).len=(H2.get j).len/\(∀x d,OR P f (l.get (n j)) x d->OR P c (H2.get j) x d)/\∀q d,ef P q (l.get (n j)) d->ef P q (H2.get j) d)(inj:∀i j,new i->new j->n i=n j->i=j)(cM:∀j,j.az<H.next.az->H2.get j≠.none->H.get j≠.none/\l.get j≠.none/\(l.get j).aM=(H.get j).aM/\(H2.get j).aM=(H.get j).aM/\(l.get j).jE=(H2.get j).jE/\(l.get j).len=(H2.get j).len/\(∀x d,OR P f (l.get j) x d->OR P c (H2.get j) x d)/\∀q d,ef P q (l.get j) d->ef P q (H2.get j) d):bR ρ c/\bh P a c H2 w1:=by
 have I:∀j,j.az<H.next.az->c j=ρ j:=λj hj=>by rw[D];exact aH hj
 have rn:∀j,new j->c j=f (n j):=λj hj=>by rw[D];show(if _ then _ else _)=_;rw[ap (by have:=(B j hj).1;omega),aH hj]
 have rk:c.k=f.k:=by rw[D]
 have rz:∀j,H.next.az<=j.az->¬new j->c j=none:=λj h hj=>by rw[D];show(if _ then _ else _)=_;rw[ap ab,ap hj]
 have K:∀j x,ρ j=some x->j.az<H.next.az:=λj x e=>by
  rcases afg j.az H.next.az with h|h;·exact h
  rw[(h0.dD j h).2]at e;cases e
 have M:bR ρ c:=λj x e=>⟨by rw[I j (K j x e)];exact e,by rw[rk];exact(O j x e).2⟩;have r:∀j,H2.get j≠.none->∃t,l.get t≠.none/\c j=f t/\(l.get t).jE=(H2.get j).jE/\(l.get t).len=(H2.get j).len/\(∀x d,OR P f (l.get t) x d->OR P c (H2.get j) x d)/\(∀q d,ef P q (l.get t) d->ef P q (H2.get j) d)/\((j.az<H.next.az/\t=j)\/(new j/\t=n j)):=by
  intro j hj;rcases afg j.az H.next.az with hl|hl;·obtain⟨A,v,a3,a4,a5,Q,a7,R⟩:=cM j hl hj;refine⟨j,v,?_,a5,Q,a7,R,.inl ⟨hl,rfl⟩⟩;obtain⟨b,x,d,e,_⟩:=h0.cJ j A;rw[I j hl,e,(O _ _ e).1]
  have o:=z j hl hj;obtain⟨A,v,a3,a4,a5,Q,a7,R,a9,V,W⟩:=B j o;exact⟨n j,a4,rn j o,Q.trans R.symm,a9,V,W,.inr ⟨o,rfl⟩⟩
 have p:∀i j,i∈(H2.get j).aM->j.az<H.next.az/\i∈(H.get j).aM/\H2.get j≠.none:=by
  intro i j hi;have hj:H2.get j≠.none:=λe=>by rw[e]at hi;cases hi
  rcases afg j.az H.next.az with hl|hl;·obtain⟨A,v,a3,a4,_⟩:=cM j hl hj;exact⟨hl,by rw[<-a4];exact hi,hj⟩
  have o:=z j hl hj;rw[(B j o).2.2.2.2.2.2.1]at hi;cases hi
 have m:∀i j N J,H2.get i≠.none->H2.get j≠.none->((i.az<H.next.az/\N=i)\/(new i/\N=n i))->((j.az<H.next.az/\J=j)\/(new j/\J=n j))->N∈(l.get J).aM->i∈(H2.get j).aM:=by
  intro i j N J hi hj X Y s;rcases Y with⟨hl,rfl⟩|⟨o,rfl⟩
  .obtain⟨A,v,a3,a4,_⟩:=cM J hl hj;rw[a3]at s;rcases X with⟨Z,rfl⟩|⟨E,rfl⟩;·rw[a4];exact s
   have:=(h0.aM _ _ s).1;have:=(B i E).2.2.1;omega
  rw[(B j o).2.2.2.2.1]at s;cases s
 refine⟨M,⟨?_,?_,?_,?_,?_,?_,?_,?_,?_,?_,?_,?_⟩⟩;·intro i hi;obtain⟨t,t1,C,_,_,t5,_⟩:=r i hi;obtain⟨b,x,d,e,hb,hr⟩:=h1.cJ t t1;exact⟨b,x,d,by rw[C];exact e,hb,t5 x d hr⟩
 .intro i j b x y L hi hj ei ej;obtain⟨t,t1,C,_,t4,_,_,S⟩:=r i hi;obtain⟨u,u1,u2,_,u4,_,_,T⟩:=r j hj;have ag:t≠u:=by
   rcases S with⟨hl,rfl⟩|⟨o,rfl⟩<;>rcases T with⟨Z,rfl⟩|⟨E,rfl⟩;·exact L
   .rintro rfl;have:=(B j E).2.2.1;omega
   .rintro rfl;have:=(B i o).2.2.1;omega
   exact λe=>L (inj i j o E e)
  rw[<-t4,<-u4];rcases h1.iY t u b x y ag t1 u1 (by rw[<-C];exact ei) (by rw[<-u2];exact ej)with⟨s,F⟩|⟨s,F⟩;·exact .inl ⟨m i j t u hi hj S T s,F⟩
  exact .inr ⟨m j i u t hj hi T S s,F⟩
 .intro i j hi;obtain⟨hl,s,hj⟩:=p i j hi;have hp:=h0.aM i j s;refine⟨ae2 hp.1 nx,λav=>?_⟩;obtain⟨A,v,a3,a4,a5,_⟩:=cM i hp.1 av;obtain⟨b1,b2,b3,_⟩:=cM j hl hj;rw[<-a5];exact(h1.aM i j (by rw[b3];exact s)).2 v
 .intro i b x hi hf e;obtain⟨t,t1,C,t3,_⟩:=r i hi;exact h1.wr t b x t1 (by rw[t3];exact hf) (by rw[<-C];exact e)
 .intro i hi;have hg:H2.get i=.none:=by apply aeW;intro G;have:=(B i (z i (af2 nx hi) G)).2.1;omega
  refine⟨hg,rz i (af2 nx hi) λo=>?_⟩;have:=(B i o).2.1;omega
 .exact h1.new
 .intro g hg;have:=h0.jP g hg;rw[I _ (K _ _ this)];exact this
 .intro i b x d hi e hb;obtain⟨t,t1,C,_,_,_,t6,_⟩:=r i hi;rw[rk];exact t6 _ _ (h1.im t b x d t1 (by rw[<-C];exact e) hb)
 .intro i b x e;rcases afg i.az H.next.az with hl|hl;·rw[I i hl]at e;exact h1.dU i b x (O _ _ e).1
  by_cases o:new i;·rw[rn i o]at e;exact h1.dU _ b x e
  rw[rz i hl o]at e;cases e
 .intro i b x hi e;obtain⟨t,t1,C,_⟩:=r i hi;exact h1.rd t b x t1 (by rw[<-C];exact e)
 .intro i hi;obtain⟨A,v,a3⟩:=h0.un i hi;refine⟨?_,ae2 v nx,λj hj=>a3 j (p i j hj).2.1⟩;apply aeW;intro G;exact(cM i v G).1 A
 intro i hi;obtain⟨A,v⟩:=h0.di i hi;exact⟨A,by rw[I i (h0.un i A).2.1];exact v⟩
end
section
theorem IJ(p:af):∀l,vI p l=true↔p∈l|[]=>by simp[vI]|q::l=>by simp only[vI,afm,IJ p l,af.fo,aer]
section
variable[Ov]
theorem ai.gu(H:ai)(d:∀j:af,H.next.az<=j.az->H.get j=.none)(p:af->Prop):∃a:ai,a.next=H.next/\∀j,(p j->a.get j=.none)/\(¬p j->a.get j=H.get j):=by
 classical
  refine⟨H.dP (((afD H.next.az).map af.cq).filter λj=>decide (p j)),ai.io _ _,λj=>?_⟩;rw[ai.sM];constructor
  .intro b;split;·rfl
   rename_i e;refine d j ?_;rcases afg j.az H.next.az with h|h;·exfalso;apply e;rw[age,aeK];have c:=af.oT j;exact⟨⟨j.az - 1,afR.2 ab,af.qW (by rw[af.jD];omega)⟩,by simpa using b⟩
   exact h
  intro b;rw[ap];rw[age];rintro⟨_,h⟩;exact b (by simpa using h)
end
end
section
theorem dg{i j:af}(k:i.az≠j.az):i≠j:=λe=>k (congrArg af.az e)
structure acH(Hs:ai)(m i:af)(c:am AV)(o cn e fz:Nat)(ks:List Int)(t0:af->List Int)(olds:List af)(esx:List aV)(clock:Nat)(l:List Int)(H1:ai)(c':am AV)(nr:Int->af):Prop where
 nx:Hs.next.az<H1.next.az
 rr:∀j,j.az<Hs.next.az->j≠m->j≠i->j∉olds->H1.get j=Hs.get j
 mm:H1.get m=.map esx clock
 ii:H1.get i=.cells c' cn e true [] fz
 new:∀k∈l,c.bN .agx (o+k.toNat)=.d9->Hs.next.az<(nr k).az/\(nr k).az<H1.next.az/\c'.bN .agx (o+k.toNat)=.map (nr k)/\∃ks',jG (H1.get (nr k)) ks'/\∀x,x∈ks'↔x∈ks/\x≠k
 inj:∀k k2,k∈l->k2∈l->c.bN .agx (o+k.toNat)=.d9->c.bN .agx (o+k2.toNat)=.d9->nr k=nr k2->k=k2
 cc:∀x,(∀k∈l,c.bN .agx (o+k.toNat)=.d9->x≠o+k.toNat)->c'.bN .agx x=c.bN .agx x
 cM:∀k∈ks,∀N,c.bN .agx (o+k.toNat)=.map N->∃ks',jG (H1.get N) ks'/\∀x,x∈ks'↔x∈t0 N\/(k∈l/\x∈ks/\x≠k)
 only:∀j,Hs.next.az<j.az->H1.get j≠.none->∃k∈l,c.bN .agx (o+k.toNat)=.d9/\nr k=j
 sub:∀k∈l,k∈ks
section
variable{Hs:ai}{m i a:af}{c:am AV}{o n b e fz o3 d:Nat}{ex:Bool}{ks:List Int}{t0:af->List Int}{f:List af}{esx:List aV}{g:Nat}{l:List Int}{H1:ai}{h:am AV}{p:Int->af}
end
end
section
variable{P:Program}{Hs:ai}{m i a:af}{c:am AV}{o n b e fz o3 d:Nat}{ex:Bool}{ks:List Int}{t0:af->List Int}{f:List af}{esx:List aV}{g:Nat}{l:List Int}{H1:ai}{h:am AV}{j:Int->af}
end
section
variable[Ov]
variable{P:Program}
theorem bh.grow{c:bS}{f:aQ}{H:ai}{w w':World}{os:Array Obj}(h:bh P c f H w)(g:w'.heap=w.heap++os)(j:w'.os=w.os)(l:w'.tape=w.tape)(hu:w'.output=w.output):bh P c f H w'/\cW c w w':=by
 have hs:w.heap.size<=w'.heap.size:=by rw[g];simp
 have hb:∀b,b<w.heap.size->w'.heap[b]?=w.heap[b]?:=λb hb=>by rw[g,Array.getElem?_append_left hb]
 have hl:∀{b:Nat}{a:Obj},w.heap[b]?=some a->b<w.heap.size:=λe=>(Array.getElem?_eq_some_iff.1 e).1;refine⟨⟨?_,h.iY,h.aM,h.wr,h.dD,λk d=>h.new k (af2 hs d),h.jP,?_,λi b x e=>ae2 (h.dU i b x e) hs,h.rd,h.un,h.di⟩,⟨j,l,hu,hs,λk d _=>hb k d⟩⟩;·intro i hi;obtain⟨b,x,a,e,h1,h2⟩:=h.cJ i hi;exact⟨b,x,a,e,by rw[hb b (hl h1)];exact h1,h2⟩
 intro i b x a hi e h1;rw[hb b (h.dU i b x e)]at h1;exact h.im i b x a hi e h1
structure DR(P:Program)(f:FuncId):Prop where
 fn:∃fn,P.funcs[f]?=some fn/\(fn.name== "runtime.NumGoroutine")=false/\fn.body.isNone=false
theorem DS{f:FuncId}(m:DR P f){k:bS}{l:aQ}{w:World}{a:Array Value}{R:Ending->World->Prop}(n:Calls P f a w R){v:AV}{g:ai}(o:∀e b,R e b->∃c,e=.returned c/\b9 P k l w v g c b)(fr:Frame)(cs:List Frame)(hat:nO fr):u6 P k l w (callFunc f a) fr cs λp h=>p=v/\h=g:=by
 obtain⟨fn,h1,h2,h3⟩:=m.fn;have d:(callFunc f a).run P w=.ok (.enter f a) w:=by simp only[callFunc,Sem.run_bind,run_program,Result.andThen_ok,h1,h2,h3,abu,bA,Sem.run_pure]
 obtain⟨e,b,s,q,i,_,j⟩:=n (fr::cs);obtain⟨c,rfl,r⟩:=o e b q;refine⟨v,g,c,b,_,_,_,⟨rfl,rfl⟩,r,G9 hat d,?_⟩;exact Steps.trans i (.one (step_leave_returned j))
theorem DT(x:Int):∀l,(s8 x l).Perm (x::l)
 |[]=>agn _
 |y::l=>by
  simp only[s8];split;·exact((DT x l).cons y).trans (afA x y l)
  exact agn _
theorem ru:∀l,(gQ l).Perm l|[]=>agn _|x::l=>(DT x (gQ l)).trans ((ru l).cons x)
theorem IK(x:Int):∀l,l.Pairwise (·<=·)->(s8 x l).Pairwise (·<=·)
 |[],_=>by simp[s8]
 |y::l,h=>by
  simp only[s8];rw[afW]at h;split
  .rename_i a;rw[lz]at a;have a:y<x:=by simpa using a
   rw[afW];refine⟨λz b=>?_,IK x l h.2⟩;rcases aer.1 ((DT x l).mem_iff.1 b)with e|e;·rw[e];omega
   exact h.1 z e
  rename_i a;rw[lz]at a;have a:¬y<x:=by simpa using a
  rw[afW];refine⟨λz b=>?_,afW.2 h⟩;rcases aer.1 b with e|e;·rw[e];omega
  have:=h.1 z e;omega
theorem vN:∀l,(gQ l).Pairwise (·<=·)|[]=>agv|x::l=>IK x _ (vN l)
theorem Ap:∀{l m:List Int},l.Pairwise (·<=·)->m.Pairwise (·<=·)->l.Perm m->l=m
 |[],m,_,_,h=>(List.nil_perm.1 h).symm
 |a::l,[],_,_,h=>by simp at h
 |a::l,b::m,h1,h2,h=>by
  rw[afW]at h1 h2;have d:a=b:=by
   have f:a∈b::m:=h.mem_iff.1 (acm ..);have hb:b∈a::l:=h.mem_iff.2 (acm ..);rcases aer.1 f with e|e;·exact e
   rcases aer.1 hb with c|c;·exact c.symm
   have:=h1.1 b c;have:=h2.1 a e;omega
  subst d;rw[Ap h1.2 h2.2 ((List.perm_cons a).1 h)]
theorem Q5{a b:List Int}(h:a.Perm b):(a.mergeSort λx y=>decide (x<=y))=gQ b:=by refine Ap ?_ (vN b) ((List.mergeSort_perm a _).trans (h.trans (ru b).symm));have:=List.pairwise_mergeSort (le:=λx y:Int=>decide (x<=y)) (by simp;omega) (by simp;omega) a;simpa using this
def tb(c:am AV):Nat->Nat->Option (List Int)
 |_,0=>some []
 |o,n+1=>match c.bN .agx o,tb c (o+1) n with
  |.int 3 z,some l=>some (z::l)
  |_,_=>none
theorem IL{c:am AV}:∀{n o:Nat}{a:List Int},tb c o n=some a->a.length=n/\∀i(h:i<a.length),c.bN .agx (o+i)=.int 3 (a[i])
 |0,o,a,h=>by simp only[tb,aas]at h;subst h;simp
 |n+1,o,a,h=>by
  simp only[tb]at h;split at h;·rename_i z l h1 h2;injection h with h;subst h;obtain⟨b,d⟩:=IL h2;refine⟨by simp[b],λi hi=>?_⟩;cases i with|zero=>simpa using h1|succ i=>have:=d i (by simpa using hi);rw[show o+(i+1)=o+1+i by omega,this];rfl
  cases h
def pd(args:List AV)(H:ai):Option (AV×ai):=
 match args with
 |[.aG]=>some (.tuple [],H)
 |[.slice id 0 n _ _]=>match H.get id with
  |.cells c m 3 true aM 0=>if aeF m n&&ae0 0 n&&afx n 4000000 then match tb c 0 n with
    |some a=>some (.tuple [],(H.dP aM).set id (.cells (bX ((gQ a).map λz=>.int 3 z)) n 3 true [] 0))
    |none=>none
   else none
  |_=>none
 |_=>none
open Go.Sort in theorem Q6{f:FuncId}(Z:DR P f)(hs:∀(be off cap:Nat)(d:List Int)(w:World),Holds (Value.int .i64) w be off d.toArray->be<w.heap.size->d.length<4611686018427387904->Calls P f #[.slice (some ⟨be,off,none⟩) d.length cap] w λe w'=>e=.returned (.tuple #[])/\∃n os,w'=grow (putRow (Value.int .i64) (Sort.ahead w n) be off (d.mergeSort λx y=>decide (x<=y)).toArray) os)(hn:∀(p:Option Addr)(cap:Nat)(w:World),Calls P f #[.slice p 0 cap] w λe w'=>e=.returned (.tuple #[])/\w'=w):sS P f pd:=by
 intro Wr R H H' w args v r hg h O fr cs hat;unfold pd at hg;split at hg
 .injection hg with hg;injection hg with B C;subst B;subst C;obtain⟨l⟩:=r;cases l with
  |nil=>simp[aR]at h
  |cons c l=>
   cases l with
   |cons _ _=>simp[aR]at h
   |nil=>
    simp only[aR,and_true]at h;have hc:c=.slice none 0 0:=by exact h.kz
    subst hc;refine DS Z (hn none 0 w) ?_ fr cs hat;rintro e w'⟨rfl,rfl⟩;exact⟨_,rfl,b9.bL O (by simp[VR,aR])⟩
 .rename_i id n cap ex;split at hg;case h_2=>cases hg
  rename_i c m aM A;split at hg;case isFalse=>cases hg
  rename_i s;simp only[aew]at s;obtain⟨⟨D,I⟩,J⟩:=s;have D:=aey D;subst D;have I:0<m:=Eq.mp afs I;have J:=aeG J;split at hg;case h_2=>cases hg
  rename_i d hz;injection hg with hg;injection hg with B C;subst B;subst C;obtain⟨K,V⟩:=IL hz;obtain⟨l⟩:=r;cases l with
  |nil=>simp[aR]at h
  |cons cv l=>
   cases l with
   |cons _ _=>simp[aR]at h
   |nil=>
    simp only[aR,and_true]at h;obtain⟨b,x,ob,S,L,q,E⟩:=O.be (i:=id) (by rw[A];simp);have W:∃cc,cv=.slice (some ⟨b,x,none⟩) m cc:=by
     cases cv with
     |slice a n' cc=>cases a with|none=>simp[VR]at h|some a=>simp only[VR]at h;obtain⟨h1,h2,h3,h4,b',x',Q,h5,h6⟩:=h;rw[S]at Q;injection Q with Q;injection Q with q1 q2;subst q1;subst q2;rw[h5 ab,h1];exact⟨cc,rfl⟩
     |_=>simp[VR]at h
    obtain⟨cc,rfl⟩:=W;rw[A]at E;cases ob<;>simp only[OR]at E;rename_i cells el fz;obtain⟨rfl,X,N,t⟩:=E;have hH:Holds (Value.int .i64) w b x d.toArray:=by
     intro j hj;have M:j<d.length:=by simpa using hj
     obtain⟨y,hy,T⟩:=N j ab;have:=V j M;rw[aeL]at this;rw[this]at T;constructor
     .simp only[World.cell?,q,Option.isSome_none,abu,bA,hy];cases y<;>simp only[VR]at T;rename_i kk z;obtain⟨h1,h2⟩:=T;have:kk=.i64:=by cases kk<;>simp[kc]at h1<;>rfl
      subst this;rw[<-h2];simp[getElem!_pos,M]
     have:=t trivial (x+j) ab ab;obtain⟨lo,hi⟩:=fz;simp only[World.frozen?,q];simp only at this;simp;omega
    have g:=hs b x cc d w hH L ab;rw[K]at g;refine DS Z g ?_ fr cs hat;rintro e w'⟨rfl,k,os,rfl⟩;refine⟨_,rfl,?_⟩;rw[Q5 (agn d)];have Y:(gQ d).length=m:=by rw[(ru d).length_eq,K]
    have u:bh P Wr R ((H.dP aM).set id (.cells (bX ((gQ d).map λz=>.int 3 z)) m 3 true [] 0)) {w with heap:=w.heap.setIfInBounds b (.cells (putCells (Value.int .i64) x (gQ d).toArray cells) 3 fz)}/\cW Wr w {w with heap:=w.heap.setIfInBounds b (.cells (putCells (Value.int .i64) x (gQ d).toArray cells) 3 fz)}:=by
     have:=O.nI (i:=id) (b:=b) (x:=x) (o':=.cells (bX ((gQ d).map λz=>.int 3 z)) m 3 true [] 0) (ob':=.cells (putCells (Value.int .i64) x (gQ d).toArray cells) 3 fz) (w':={w with heap:=w.heap.setIfInBounds b (.cells (putCells (Value.int .i64) x (gQ d).toArray cells) 3 fz)}) (by rw[A];simp) (by rw[A];rfl) S rfl ?_ ?_ rfl rfl rfl rfl;·rw[A]at this;exact this
     .simp only[OR];refine⟨trivial,by simp[putCells];exact X,λi hi=>?_,λ_ i h1 h2=>t trivial i h1 (by simpa[putCells]using h2)⟩;have F:i<(gQ d).length:=ab;refine⟨.int .i64 ((gQ d)[i]),?_,?_⟩;·simp only[putCells,Array.getElem?_mapIdx];rw[getElem?_pos cells (x+i) ab];simp[Y,hi,F,getElem!_pos]
      rw[lW _ _ (by simpa using F)];simp[agt,F,VR,kc]
     have o:=O.im id b x _ (by rw[A];simp) S q;rw[A]at o;simp only[ef]at o⊢;rw[o];simp[putCells]
    have G:(grow (putRow (Value.int .i64) (Sort.ahead w k) b x (gQ d).toArray) os).heap=w.heap.setIfInBounds b (.cells (putCells (Value.int .i64) x (gQ d).toArray cells) 3 fz)++os:=by
     show(w.heap.modify b (onCells _))++os=_;congr 1;apply agf;intro i;rw[Array.getElem?_modify,aeH];by_cases hi:b=i;·subst hi;rw[aH rfl,aH rfl,q,aH L];rfl
     rw[ap hi,ap hi]
    obtain⟨u1,u2⟩:=bh.grow u.1 (w':=grow (putRow (Value.int .i64) (Sort.ahead w k) b x (gQ d).toArray) os) (os:=os) G rfl rfl rfl;exact⟨R,bR.refl R,by simp[VR,aR],u1,u.2.trans u2⟩
 cases hg
end
section
def DU(b a:Nat):bg:=.seq (.region [bD 2 (.bw (.c .aG))]) (.seq (.region [bD 3 (.bw (tt 0)),bD 4 (.call (.c (.func b [] [])) [tt 3]),bD 5 (.call (.c (.func a [] [])) [tt 4]),bD 2 (.bw (tt 5))]) .ret)
def Aq(a b:Nat):bg:=.seq (.region [bD 2 (.bw (.c .aG))]) (.seq (.region [bD 4 (.bw (tt 0)),bD 5 (.call (.c (.func a [] [])) [tt 4]),bD 3 (.bw (tt 5))]) (.seq (.region [bD 6 (.bw (tt 3)),bD 7 (.call (.c (.func b [] [])) [tt 6])]) (.seq (.region [bD 8 (.bw (tt 3)),bD 2 (.bw (tt 8))]) .ret)))
def Ar(a e1:Nat):bg:=.seq (.region [bD 1 (.box e1 (tt 0)),bD 2 (.bw (.c .nilFunc))]) (.seq (.region [bD 3 (.mu a [] [tt 1]),bD 2 (.bw (tt 3))]) .ret)
def yg(a:Nat):bg:=.seq (.region [bD 2 (.bw (.c .aG))]) (.seq (.region [bD 3 (.bw (tt 0)),bD 4 (.call (.c (.func a [] [])) [.c .aG,tt 3]),bD 2 (.bw (tt 4))]) .ret)
def Q7:bg:=.seq (.region [bD 10 (.bw (tt 0)),bD 11 (.bw (tt 3)),bD 12 (.call (tt 10) [tt 11]),bD 13 (.unary .not (tt 12))]) (.cond (tt 13) .ret .skip)
def As:bg:=.seq (.region [bD 4 (.bk (tt 1)),bD 5 (.ln (tt 4))]) (mD 0 1 (sl 5) (sl 6) (sl 7) (sl 8) (sl 9) (sl 3) Q7)
def rA:bg:=.region [bD 5 (.bw (tt 7))]
def rB:bg:=.block 1 (.region [bD 8 (.bk (tt 2)),bD 9 (.bw (tt 5)),bD 10 (.buildSlice 3 1 [.int 3 (.ofNat 0)] [(0,1,tt 9)]),bD 11 (.append 3 8 1 [.int 3 (.ofNat 0)] false (tt 8) (tt 10)),nH (.store 1 (tt 2) (tt 11))])
def tc(e2:Nat):bg:=.seq (.region [bD 2 (.box e2 (tt 0)),bD 4 (.bw (.c .aG))]) (.seq (.seq (.region [bD 6 (.bw (tt 1))]) (.block 0 (.rangeFunc (tt 6) [sl 7] rA rB))) (.seq (.region [bD 12 (.bk (tt 2)),bD 4 (.bw (tt 12))]) .ret))
section
variable[Ov]
variable{ac:Nat->aX}
theorem DV{c:am AV}{n:Nat}:∀{l:List Int}{o:Nat},o+l.length<=n->(∀i(h:i<l.length),c.bN .agx (o+i)=.int 3 (l[i]))->eX c n o l.length=some (l.map λz=>.int 3 z)
 |[],o,_,_=>by simp[eX]
 |z::l,o,h,hg=>by
  simp only[aeJ,eX,aez];have h0:c.bN .agx o=.int 3 z:=hg 0 aC;have d:ae0 o n=true:=agu afs (by simp at h;omega);have b:=DV (c:=c) (n:=n) (l:=l) (o:=o+1) (by simp at h;omega) (λi hi=>by have:=hg (i+1) (by simpa using hi);rw[show o+(i+1)=o+1+i by omega]at this;simpa using this);have a:o<n:=by simp at h;omega
  simp[a,h0,b]
def pe(H:ai)(lo:Nat)(l:List Int)(a:AV):Prop:=
 (l=[]/\a=.aG)\/∃id c aM,a=.slice id 0 l.length l.length false/\l≠ []/\lo<id.az/\id.az<H.next.az/\H.get id=.cells c l.length 3 true aM 0/\(∀i(h:i<l.length),c.bN .agx i=.int 3 (l[i]))/\∀p∈aM,lo<p.az
theorem pe.frame{H a:ai}{lo:Nat}{l:List Int}{b:AV}(h:pe H lo l b)(i:H.next.az<=a.next.az)(hg:∀j:af,lo<j.az->j.az<H.next.az->a.get j=H.get j):pe a lo l b:=by
 rcases h with h|⟨id,c,aM,h1,h2,h3,d,e,f,g⟩;·exact .inl h
 exact .inr ⟨id,c,aM,h1,h2,h3,ab,by rw[hg id h3 d];exact e,f,g⟩
theorem Q8{aa:am AV}{H:ai}{x y:aK}{m:AV}{T:af}{lo:Nat}{l:List Int}{k:Int}(o:gv aa x=m)(q:gv aa y=.slice T 0 1 1 true)(hT:H.get T=.cells (bX [.int 3 k]) 1 3 true [] 0)(hs:pe H lo l m)(d:lo<H.next.az)(hl:l.length<1000):∃f g,aE (.append 3 8 1 [.int 3 (.ofNat 0)] false x y) aa H=some (f,g)/\H.next.az<=g.next.az/\(∀j:af,j.az<=lo->g.get j=H.get j)/\pe g lo (l++[k]) f:=by
 have a:fB H 1 (.slice T 0 1 1 true)=some (1,[.int 3 k]):=by
  have:eX (bX [AV.int 3 k]) 1 0 1=some [.int 3 k]:=by have:=DV (c:=bX [AV.int 3 k]) (n:=1) (l:=[k]) (o:=0) aC (λi hi=>by simp only[ae8]at hi;have:i=0:=ab;subst this;rw[lW _ _ aC];rfl);simpa using this
  simp[fB,du,hT,this]
 have b:∀n:Nat,n<=1000->(dG (n*8)&&dG n)=true:=λn B=>by simp only[dG,aew];exact⟨aff ab,aff ab⟩
 rcases hs with⟨rfl,rfl⟩|⟨id,c,aM,rfl,A,h3,C,s,t,u⟩
 .refine⟨.slice H.next 0 1 1 false,H.new (.cells (bX [.int 3 k]) 1 3 true [] 0),?_,?_,?_,?_⟩;·simp only[aE,abu,bA,o,q,a,iK];have:=b 1 ab;simp[cE,AV.db,dG]
  .show _<=H.next.succ.az;rw[af.fH];omega
  .intro j hj;rw[ai.cZ,ap (dg ab)]
  refine .inr ⟨H.next,bX [.int 3 k],[],rfl,aC,d,by show _<H.next.succ.az;rw[af.fH];omega,by rw[ai.cZ,aH rfl];rfl,λi hi=>?_,aC⟩;simp only[afz,ae8]at hi;have:i=0:=ab;subst this;rw[lW _ _ aC];rfl
 have hrd:eX c l.length 0 (l.length*1)=some (l.map λz=>.int 3 z):=by rw[af0];exact DV ab λi hi=>by rw[aeL];exact t i hi
 have r:id≠H.next:=dg ab;refine⟨.slice H.next 0 (l.length+1) (l.length+1) false,(H.set id (.cells c l.length 3 false aM 0)).new (.cells (bX ((l.map λz=>.int 3 z)++[.int 3 k])) ((l.length+1)*1) 3 true (id::aM) (0 - 0)),?_,?_,?_,?_⟩
 .simp only[aE,abu,bA,o,q,a,iK];have hb:=b (l.length+1) ab;have h1:cE [.int 3 k]=true:=rfl;have h2:afx (l.length+1) l.length=false:=by cases h:afx (l.length+1) l.length with|false=>rfl|true=>have:=aeG h;omega
  have v:(true&&aeF l.length l.length&&aeF (0+l.length*1) l.length&&aeF 3 3&&afx 0 l.length)=true:=by simp[afM]
  simp only[h1,h2,hb,s,hrd,v,aeY,abu,bA,bc]
 .show _<=H.next.succ.az;rw[af.fH];omega
 .intro j hj;rw[ai.cZ,ai.eI,ap (dg ab),ai.aJ,ap (dg ab)]
 refine .inr ⟨H.next,bX ((l.map λz=>.int 3 z)++[.int 3 k]),id::aM,aC,aC,d,by show _<H.next.succ.az;rw[af.fH];omega,by rw[ai.cZ,ai.eI,aH rfl];simp,λi hi=>?_,?_⟩
 .rw[lW _ _ (by simpa using hi)];simp only[aex,ae8]at hi;by_cases he:i<l.length;·simp[agt,aeM,he,List.getElem_append_left]
  have:i=l.length:=ab;subst this;simp[agt]
 intro p w;rcases aer.1 w with e|e;·rw[e];exact h3
 exact u p e
theorem Xf.yield{n:Nat}{L p d:af}{v:AV}{H:ai}{bP:bU}{fn:Nat}{aa:am AV}{as_ a:bg}{K:KT}(U:H.get L=.loop .ready bP fn aa [p] as_ a d)(h:Xc ac n as_ ⟨aa.set .agx p v,[],some L⟩ H λj fr b=>j=.none/\b.get L=.loop .ready bP fn aa [p] as_ a d/\Xc ac n a fr (b.set L (.loop .busy bP fn aa [p] as_ a d)) λj _ c=>j=.none/\c.get L=.loop .busy bP fn aa [p] as_ a d/\K (.bool true) (c.set L (.loop .ready .none fn aa [p] as_ a d))):Xf ac (n+1) (.yield L) [v] H K:=by simp only[Xf,dT,U,ae8,bc];refine Xc.mono (aeq _) ?_ h;rintro j fr b⟨rfl,h1,h2⟩;simp only[h1];refine Xc.mono (aeq _) ?_ h2;rintro j fr c⟨rfl,h3,e⟩;simp only[h3];exact e
theorem Xc.rangeFunc{n:Nat}{f:aK}{i:List af}{as_ j:bg}{aa:am AV}{bz:List af}{H:ai}{K:bU->Fr->ai->Prop}(h:Xf ac n (gv aa f) [.yield (H.new (.deferred false)).next] ((H.new (.deferred false)).new (.loop .ready .none 0 aa i as_ j H.next)) λ_ e=>∃st bP fn a b c d g,st≠oM.busy/\e.get (H.new (.deferred false)).next=.loop st bP fn a b c d g/\K bP ⟨aa,H.next::bz,none⟩ (e.set (H.new (.deferred false)).next (.loop .exhausted bP fn a b c d g))):Xc ac (n+1) (.rangeFunc f i as_ j) ⟨aa,bz,none⟩ H K:=by simp only[Xc,exec];refine Xf.mono (aeq _) ?_ h;rintro _ e⟨st,bP,fn,a,b,c,d,g,h1,h2,h3⟩;simp only[h2];cases st<;>first|exact h3|exact absurd rfl h1
end
end
section
variable[Ov]
section
variable{ac:Nat->aX}
theorem IM:∀{l m:List Int},l.Nodup->(∀x∈l,x∈m)->l.length<=m.length
 |[],_,_,_=>by simp
 |a::l,m,b,hs=>by
  rw[afX]at b;have f:a∈m:=hs a (acm ..);have c:=IM (l:=l) (m:=m.erase a) b.2 λx g=>by have d:x≠a:=λe=>b.1 (e▸g);exact(List.mem_erase_of_ne d).2 (hs x (aen _ g))
  have h:0<m.length:=List.length_pos_of_mem f;rw[List.length_erase_of_mem f]at c;simp only[aeJ];omega
theorem Q9{aa:am AV}{H:ai}{x:aK}{k:Int}(h:gv aa x=.int 3 k):aE (.buildSlice 3 1 [.int 3 (.ofNat 0)] [(0,1,x)]) aa H=some (.slice H.next 0 1 1 true,H.new (.cells (bX [.int 3 k]) 1 3 true [] 0)):=by
 have h1:kp aa (ep [AV.int 3 (.ofNat 0)] 1) [(0,1,x)]=some [.int 3 k]:=by simp only[kp,h];rfl
 simp only[aE,h1];rfl
theorem IN{aa:am AV}{H:ai}{x:aK}{v:AV}{e:Nat}(h:gv aa x=v)(h1:v.cells=[v])(h2:v.db=true):aE (.box e x) aa H=some (.aD H.next 0,H.new (.cells (bX [v]) 1 e true [] 0)):=by simp only[aE,h,h1,cE,h2,Bool.and_true,bc,ae8]
structure pf(A:ai)(bv:AV)(B1 B2 D L:af)(e1 e2:Nat)(envA:am AV)(lo:Nat)(l:List Int)(H1:ai):Prop where
 nx:lo<H1.next.az
 rr:∀j:af,j.az<A.next.az->H1.get j=A.get j
 b1:H1.get B1=.cells (bX [bv]) 1 e1 true [] 0
 b2:∃c2 sv,H1.get B2=.cells c2 1 e2 true [] 0/\c2.bN .agx 0=sv/\pe H1 lo l sv
 dd:H1.get D=.deferred false
 ll:H1.get L=.loop .ready .none 0 envA [sl 7] rA rB D
 o1:A.next.az<=B1.az
 o2:B1.az<B2.az
 o3:B2.az<D.az
 o4:D.az<L.az
 o5:L.az<=lo
theorem pf.zy{A:ai}{b:AV}{c d D L:af}{e f:Nat}{a:am AV}{lo:Nat}{l:List Int}{g:ai}(J:pf A b c d D L e f a lo l g){I:af}(h1:L.az<I.az)(h2:I.az<=lo)(h:bO):pf A b c d D L e f a lo l (g.set I h):=by
 have o1:=J.o1;have o2:=J.o2;have o3:=J.o3;have o4:=J.o4;obtain⟨c2,i,k,m,n⟩:=J.b2;refine⟨J.nx,λj hj=>?_,?_,⟨c2,i,?_,m,?_⟩,?_,?_,J.o1,J.o2,J.o3,J.o4,J.o5⟩;·rw[ai.aJ,ap (dg ab)];exact J.rr j hj
 .rw[ai.aJ,ap (dg ab)];exact J.b1
 .rw[ai.aJ,ap (dg ab)];exact k
 .refine n.frame (aeq _) λj h3 o=>?_;rw[ai.aJ,ap (dg ab)]
 .rw[ai.aJ,ap (dg ab)];exact J.dd
 rw[ai.aJ,ap (dg ab)];exact J.ll
theorem Q'{A:ai}{F:AV}{t d D L:af}{G n:Nat}{b:am AV}{lo:Nat}{l:List Int}{f:ai}(J:pf A F t d D L G n b lo l f)(H:b.get .agx (sl 2)=.aD d 0)(hl:l.length<1000){k:Int}{K:KT}(I:∀u:ai,pf A F t d D L G n b lo (l++[k]) u->(∀j:af,L.az<j.az->j.az<=lo->u.get j=f.get j)->K (.bool true) u):Xf ac 40 (.yield L) [.int 3 k] f K:=by
 have o1:=J.o1;have o2:=J.o2;have o3:=J.o3;have o4:=J.o4;have o5:=J.o5;have S:=J.nx;obtain⟨c2,o,b1,b2,M⟩:=J.b2;refine Xf.yield (n:=39) J.ll (Xc.region (n:=38) ?_);refine Xo.op (n:=37) (v:=.int 3 k) (H':=f) (by simp[aE,gv,am.aJ]) (Xo.nil (n:=36) ⟨rfl,J.ll,?_⟩);generalize m:f.set L (.loop .busy .none 0 b [sl 7] rA rB D)=e;have p:∀j:af,j≠L->e.get j=f.get j:=λj hj=>by rw[<-m,ai.aJ,ap hj]
 have N:e.get L=.loop .busy .none 0 b [sl 7] rA rB D:=by rw[<-m,ai.aJ,aH rfl]
 have nb:e.next=f.next:=by rw[<-m];rfl
 have w:bx e d 0=some o:=by unfold bx;rw[p d (dg ab),b1];simp only[show ae0 0 1=true from rfl,bc,b2]
 generalize g:e.new (.cells (bX [.int 3 k]) 1 3 true [] 0)=q;have r:∀j:af,j≠e.next->q.get j=e.get j:=λj hj=>by rw[<-g,ai.cZ,ap hj]
 have T:q.next.az=f.next.az+1:=by rw[<-g];show e.next.succ.az=_;rw[af.fH,nb]
 have x:pe q lo l o:=M.frame ab λj h1 h2=>by rw[r j (dg (by rw[nb];omega)),p j (dg ab)]
 refine Xc.block (n:=38) (Xc.region (n:=37) ?_);refine Xo.op (n:=36) (v:=o) (H':=e) (j8 (by simp[gv,aO,am.aJ,br];exact H) w) ?_;refine Xo.op (n:=35) (v:=.int 3 k) (H':=e) (by simp[aE,gv,aO,am.aJ,br]) ?_;refine Xo.op (n:=34) (v:=.slice e.next 0 1 1 true) (H':=q) (by rw[<-g];exact Q9 (by simp[gv,aO,am.aJ,br])) ?_;generalize v:aO (aO (aO (aO (am.set .agx (sl 7) (.int 3 k) b) (some (sl 5)) (.int 3 k)) (some (sl 8)) o) (some (sl 9)) (.int 3 k)) (some (sl 10)) (.slice e.next 0 1 1 true)=E;have O:gv E (tt 8)=o:=by rw[<-v];simp[gv,aO,am.aJ,br]
 have y:gv E (tt 10)=.slice e.next 0 1 1 true:=by rw[<-v];simp[gv,aO,am.aJ,br]
 have P:E.get .agx (sl 2)=.aD d 0:=by rw[<-v];simp[aO,am.aJ,br];exact H
 obtain⟨a,H',Q,V,a3,a4⟩:=Q8 (lo:=lo) (l:=l) (k:=k) O y (by rw[<-g,ai.cZ,aH rfl]) x ab hl;refine Xo.op (n:=33) (v:=a) (H':=H') Q ?_;have z:H'.get d=.cells c2 1 n true [] 0:=by rw[a3 d ab,r d (dg (by rw[nb];omega)),p d (dg ab)];exact b1
 have i:([a]:List AV)=a.cells/\cE [a]=true:=by
  rcases a4 with⟨h,_⟩|⟨id,c,aM,h,_⟩;·simp at h
  subst h;exact⟨rfl,rfl⟩
 have B:gw H' d 0 [a]=some (H'.set d (.cells (fi c2 0 [a]) 1 n true [] 0)):=by unfold gw;rw[z];simp only[aeq,decide_true,ae8,aeL,agj,i.2,bc];rfl
 refine Xo.op (n:=32) (v:=.agx) (H':=H'.set d (.cells (fi c2 0 [a]) 1 n true [] 0)) ?_ (Xo.nil (n:=31) ?_)
 .have R:gv (aO E (some (sl 11)) a) (tt 2)=.aD d 0:=by simp[gv,aO,am.aJ,br];exact P
  have C:gv (aO E (some (sl 11)) a) (tt 11)=a:=by simp[gv,aO,am.aJ,br]
  simp only[aE,R,C,<-i.1,ae8,bc,B]
 have s:∀j:af,j.az<=lo->j≠L->j≠d->((H'.set d (.cells (fi c2 0 [a]) 1 n true [] 0)).set L (.loop .ready .none 0 b [sl 7] rA rB D)).get j=f.get j:=λj h1 h2 h3=>by rw[ai.aJ,ap h2,ai.aJ,ap h3,a3 j h1,r j (dg (by rw[nb];omega)),p j h2]
 refine⟨rfl,?_,I _ ⟨?_,λj hj=>?_,?_,⟨fi c2 0 [a],a,?_,?_,?_⟩,?_,?_,o1,o2,o3,o4,o5⟩ λj h1 h2=>?_⟩;·rw[ai.aJ,ap (dg ab),a3 L ab,r L (dg (by rw[nb];omega))];exact N
 .show lo<H'.next.az;omega
 .rw[s j ab (dg ab) (dg ab)];exact J.rr j hj
 .rw[s t ab (dg ab) (dg ab)];exact J.b1
 .rw[ai.aJ,ap (dg ab),ai.aJ,aH rfl]
 .rw[nJ];simp
 .refine a4.frame (aeq _) λj h1 h2=>?_;rw[ai.aJ,ap (dg ab),ai.aJ,ap (dg ab)]
 .rw[s D ab (dg ab) (dg ab)];exact J.dd
 .rw[ai.aJ,aH rfl]
 exact s j ab (dg ab) (dg ab)
end
section
variable{ac:Nat->aX}
theorem IP:∀{es:List aV}{ks:List Int},iC es=some ks->ks.Nodup->∀{x y:aV}{k:Int},x∈es->y∈es->x.key=.int 3 k->y.key=.int 3 k->x=y
 |[],_,_,_,_,_,_,h,_,_,_=>by cases h
 |a::es,ks,h,d,x,y,k,f,g,e1,e2=>by
  simp only[iC]at h;split at h
  .rename_i i l h1 h2;injection h with h;subst h;rw[afX]at d;have e:∀z∈es,z.key=.int 3 i->False:=λz j he=>by obtain⟨m,c,b⟩:=(vK h2).1 z j;rw[he]at b;injection b with _ b;exact d.1 (b▸c)
   rcases aer.1 f with c|c<;>rcases aer.1 g with b|b;·rw[c,b]
   .subst c;rw[h1]at e1;injection e1 with _ e1;subst e1;exact(e y b e2).elim
   .subst b;rw[h1]at e2;injection e2 with _ e2;subst e2;exact(e x c e1).elim
   exact IP h2 d.2 c b e1 e2
  cases h
theorem Xf.Ra{n c:Nat}{f:Nat}{first args a:List AV}{d:List fM}{body:bg}{H:ai}{K:KT}(i:ac f=.code c d body)(hl:(first++args++a).length<=c)(h:Xc ac n body ⟨iL (first++args++a) .xH .aF,[],none⟩ H λj fr e=>(match j with|.exit _=>False|_=>True)/\∃b l,gV e fr.bz=some b/\ee fr.aa b d=some l/\K (fG l) b):Xf ac (n+1) (.func f first a) args H K:=by simp only[Xf,dT,i];rw[aH (aff hl)];refine Xc.mono (aeq _) ?_ h;rintro j fr e⟨h1,b,l,h2,h3,g⟩;cases j with|exit=>exact h1.elim|none=>simp only[h2,h3];exact g|ret=>simp only[h2,h3];exact g
theorem IQ(a b:AV):iL ([]++[a]++[b]) .xH .aF=(am.aF.set AV.agx (sl 0) a).set .agx (sl 1) b:=rfl
def rC(ac:Nat->aX)(n a:Nat)(bv:AV)(A:ai)(ks:List Int):Prop:=
 ∀{B1 B2 D L:af}{e1 e2:Nat}{envA:am AV}{H1:ai}{K:KT},pf A bv B1 B2 D L e1 e2 envA L.az [] H1->H1.next=L.succ->envA.get .agx (sl 2)=.aD B2 0->
  (∀lo l b,pf A bv B1 B2 D L e1 e2 envA lo l b->l.Perm ks->K (.tuple []) b)->Xf ac n (.func a [] [.aD B1 0]) [.yield L] H1 K
theorem Rb{i:Nat}(hf:ac i=.code 14 [] As){m:af}{A:ai}{d:List aV}{c:Nat}{s:List Int}(Y:A.get m=.map d c)(y:m.az<A.next.az)(hb:(d.map (·.born)).Nodup)(R:∀e∈d,e.born<c)(M:iC d=some s)(Z:s.Nodup)(ag:s.length<=1000):rC ac (d.length+100) i (.map m) A s:=by
 intro B1 B2 D L e1 e2 envA f K J S hA hK;have o1:=J.o1;have o2:=J.o2;have o3:=J.o3;have o4:=J.o4;have hI:f.next.az=L.az+1:=by rw[S,af.fH]
 refine Xf.code (n:=d.length+99) hf aC ?_;rw[IQ];generalize N:(am.aF.set AV.agx (sl 0) (.yield L)).set .agx (sl 1) (.aD B1 0)=aa;have h0:aa.get .agx (sl 0)=.yield L:=by rw[<-N];simp[am.aJ,br]
 have h1:aa.get .agx (sl 1)=.aD B1 0:=by rw[<-N];simp[am.aJ,br]
 clear N;have gm:f.get m=.map d c:=by rw[J.rr m y];exact Y
 have T:bx f B1 0=some (.map m):=by unfold bx;rw[J.b1];simp only[show ae0 0 1=true from rfl,bc];rw[lW _ _ aC];rfl
 refine Xc.iq (n:=20) (m:=60+15+d.length) (k:=d.length+98) ab ab (Xc.region (n:=19) ?_);refine Xo.op (n:=18) (v:=.map m) (H':=f) (j8 h1 T) ?_;refine Xo.op (n:=17) (v:=.aD f.next 0) (H':=f.new (.mapIter (some m) c [] c)) (by simp[aE,gv,aO,am.aJ,gm]) (Xo.nil (n:=16) ?_);have J1:pf A (.map m) B1 B2 D L e1 e2 envA f.next.az [] (f.new (.mapIter (some m) c [] c)):=by
  have u:∀j:af,j.az<=L.az->(f.new (.mapIter (some m) c [] c)).get j=f.get j:=λj hj=>by rw[ai.cZ,ap (dg ab)]
  obtain⟨c2,sv,b1,b2,b3⟩:=J.b2;refine⟨by show _<f.next.succ.az;rw[af.fH];omega,λj hj=>by rw[u j ab];exact J.rr j hj,by rw[u B1 ab];exact J.b1,⟨c2,sv,by rw[u B2 ab];exact b1,b2,?_⟩,by rw[u D ab];exact J.dd,by rw[u L ab];exact J.ll,o1,o2,o3,o4,ab⟩;rcases b3 with h|⟨_,_,_,_,h,_⟩;·exact .inl h
  exact absurd rfl h
 refine Ic bK bK bK bK bK hb R (id:=f.next) (m:=m) (I:=λseen aa o=>aa.get .agx (sl 0)=.yield L/\aa.get .agx (sl 5)=.aD f.next 0/\o.get f.next=.mapIter (some m) c seen c/\∃l,pf A (.map m) B1 B2 D L e1 e2 envA f.next.az l o/\l.Nodup/\(∀k∈l,k∈s/\∃e∈d,e.born∈seen/\e.key=.int 3 k)/\∀e∈d,e.born∈seen->∃k∈l,e.key=.int 3 k) ?_ 60 ?_ ?_ d.length [] _ _ ?_ (List.length_filter_le ..);·rintro seen aa o⟨F,G,O,l,v,_⟩;exact⟨G,O,by rw[v.rr m y];exact Y⟩
 .rintro seen aa o e⟨F,G,O,l,v,H,w,P⟩he z;obtain⟨t,B,g⟩:=(vK M).1 e he;have p:t∉l:=λh=>by obtain⟨I,q,n,a3⟩:=(w t h).2;rw[IP M Z he q g a3]at z;exact z n
  have E:l.length<1000:=by
   have V:(l++[t]).Nodup:=by rw[afa];exact⟨H,aC,λa Q b hb=>by simp only[aaN]at hb;subst hb;exact λe=>p (e▸Q)⟩
   have:=IM V (m:=s) λx hx=>by
    rcases aeu.1 hx with h|h;·exact(w x h).1
    rw[aaN]at h;rw[h];exact B
   simp at this;omega
  refine Xc.iq (n:=50) (m:=50) (k:=59) ab ab (Xc.region (n:=49) ?_);refine Xo.op (n:=48) (v:=.yield L) (H':=o.set f.next (.mapIter (some m) c (seen++[e.born]) c)) (by simp[aE,gv,am.aJ,br];exact F) ?_;refine Xo.op (n:=47) (v:=.int 3 t) (H':=o.set f.next (.mapIter (some m) c (seen++[e.born]) c)) (by simp[aE,gv,aO,am.aJ,br];exact g) ?_;refine Xo.call (n:=46) ?_;simp only[gv,aO,am.aJ,br,aez,afC];refine Xf.mono (n:=40) ab (λ_ _ h=>h) (Q' (v.zy (I:=f.next) ab (aeq _) _) hA E λH3 J3 r=>?_);refine Xo.op (n:=45) (v:=.bool false) (H':=H3) (by simp[aE,gv,aO,am.aJ,br,ux]) (Xo.nil (n:=44) ?_);refine Xc.nU (n:=49) (by simp[gv,aO,am.aJ,br]) (Xc.skip (n:=48) ⟨rfl,rfl,rfl,?_,?_,?_,l++[t],J3,?_,?_,?_⟩);·simp[aO,am.aJ,br];exact F
  .simp[aO,am.aJ,br];exact G
  .rw[r f.next ab (aeq _),ai.aJ,aH rfl]
  .rw[afa];exact⟨H,aC,λa Q b hb=>by simp only[aaN]at hb;subst hb;exact λe=>p (e▸Q)⟩
  .intro k W;rcases aeu.1 W with h|h;·obtain⟨a0,I,q,n,a3⟩:=w k h;exact⟨a0,I,q,aeN _ n,a3⟩
   rw[aaN]at h;subst h;exact⟨B,e,he,aeU _ (aaN.2 rfl),g⟩
  intro I C X;rcases aeu.1 X with h|h;·obtain⟨k',q,n⟩:=P I C h;exact⟨k',aeN _ q,n⟩
  rw[aaN]at h;rw[DM hb C he h];exact⟨t,aeU _ (aaN.2 rfl),g⟩
 .rintro seen aa o⟨F,G,O,l,v,H,w,P⟩eG;refine⟨trivial,rfl,[],rfl,hK _ l o v ((List.perm_ext_iff_of_nodup H Z).2 λx=>⟨λh=>(w x h).1,λh=>?_⟩)⟩;obtain⟨e,he,g⟩:=(vK M).2 x h;obtain⟨k',q,n⟩:=P e he (eG e he);rw[g]at n;injection n with _ n;rw[n];exact q
 exact⟨by simp[aO,am.aJ,br];exact h0,by simp[aO,am.aJ,br],by rw[ai.cZ,aH rfl],[],J1,List.nodup_nil,aC,aC⟩
theorem Rc{b:Nat}(i:ac b=.code 14 [] As){A:ai}:rC ac 100 b .d9 A []:=by
 intro B1 B2 D L e1 e2 envA a K J e o k;have o1:=J.o1;have o2:=J.o2;have o3:=J.o3;have o4:=J.o4;have p:a.next.az=L.az+1:=by rw[e,af.fH]
 refine Xf.code (n:=99) i aC ?_;rw[IQ];generalize g:(am.aF.set AV.agx (sl 0) (.yield L)).set .agx (sl 1) (.aD B1 0)=aa;have h1:aa.get .agx (sl 1)=.aD B1 0:=by rw[<-g];simp[am.aJ,br]
 clear g;have f:bx a B1 0=some .d9:=by unfold bx;rw[J.b1];simp only[show ae0 0 1=true from rfl,bc];rw[lW _ _ aC];rfl
 refine Xc.iq (n:=90) (m:=90) (k:=98) ab ab (Xc.region (n:=89) ?_);refine Xo.op (n:=88) (v:=.d9) (H':=a) (j8 h1 f) ?_;refine Xo.op (n:=87) (v:=.aD a.next 0) (H':=a.new (.mapIter none 0 [] 0)) (by simp[aE,gv,aO,am.aJ]) (Xo.nil (n:=86) ?_);have l:pf A .d9 B1 B2 D L e1 e2 envA L.az [] (a.new (.mapIter none 0 [] 0)):=by
  have d:∀j:af,j.az<=L.az->(a.new (.mapIter none 0 [] 0)).get j=a.get j:=λj hj=>by rw[ai.cZ,ap (dg ab)]
  obtain⟨c2,m,b1,b2,n⟩:=J.b2;refine⟨by show _<a.next.succ.az;rw[af.fH];omega,λj hj=>by rw[d j ab];exact J.rr j hj,by rw[d B1 ab];exact J.b1,⟨c2,m,by rw[d B2 ab];exact b1,b2,?_⟩,by rw[d D ab];exact J.dd,by rw[d L ab];exact J.ll,o1,o2,o3,o4,aeq _⟩;rcases n with h|⟨_,_,_,_,h,_⟩;·exact .inl h
  exact absurd rfl h
 unfold mD;refine Xc.block (n:=89) (Xc.loop (n:=88) (Xc.seq (n:=87) (Xc.region (n:=86) (Xo.next (n:=85) (cs:=[none]) (aft:=λ_=>(.tuple [.bool false],a.new (.mapIter none 0 [] 0))) ?_ ?_))));·simp[gv,aO,am.aJ,pK,ai.cZ]
 intro c _;refine Xo.op (n:=84) (v:=.bool false) (H':=a.new (.mapIter none 0 [] 0)) (by simp[aE,gv,aO,am.aJ,kO]) (Xo.nil (n:=83) ?_);refine Xc.seq (n:=86) (Xc.nU (n:=85) (by simp[gv,aO,am.aJ]) (Xc.exit (n:=84) ?_));exact⟨trivial,rfl,[],rfl,k _ [] _ l (agn _)⟩
theorem Re{k a n e2:Nat}(B:ac k=.code 13 [.tmp (sl 4)] (tc e2)){w:AV}{A d:ai}{x:List Int}(t:rC ac n a w A x){B1:af}{e1:Nat}(C:d.get B1=.cells (bX [w]) 1 e1 true [] 0)(D:A.next.az<=B1.az)(u:B1.az<d.next.az)(v:∀j:af,j.az<A.next.az->d.get j=A.get j){K:KT}(E:∀i e lo l,A.next.az<=lo/\lo<e.next.az->pe e lo l i->l.Perm x->(∀j:af,j.az<A.next.az->e.get j=A.get j)->K i e):Xf ac (n+40) (.func k [] []) [.aG,.func a [] [.aD B1 0]] d K:=by
 refine Xf.Ra (n:=n+39) B aC ?_;show Xc ac (n+39) (tc e2) ⟨(am.aF.set .agx (sl 0) .aG).set .agx (sl 1) (.func a [] [.aD B1 0]),[],none⟩ d _;generalize f:(am.aF.set AV.agx (sl 0) .aG).set .agx (sl 1) (.func a [] [.aD B1 0])=aa;have h0:aa.get .agx (sl 0)=.aG:=by rw[<-f];simp[am.aJ,br]
 have h1:aa.get .agx (sl 1)=.func a [] [.aD B1 0]:=by rw[<-f];simp[am.aJ,br]
 clear f;refine Xc.iq (n:=20) (m:=n+37) (k:=n+38) ab ab (Xc.region (n:=19) ?_);refine Xo.op (n:=18) (v:=.aD d.next 0) (H':=d.new (.cells (bX [.aG]) 1 e2 true [] 0)) (IN h0 rfl rfl) ?_;refine Xo.op (n:=17) (v:=.aG) (H':=d.new (.cells (bX [.aG]) 1 e2 true [] 0)) (by simp[aE,gv]) (Xo.nil (n:=16) ?_);generalize m:d.new (.cells (bX [.aG]) 1 e2 true [] 0)=b;have F:b.next=d.next.succ:=by rw[<-m];rfl
 have r:∀j,b.get j=if j=d.next then .cells (bX [.aG]) 1 e2 true [] 0 else d.get j:=λj=>by rw[<-m,ai.cZ]
 clear m;generalize f:aO (aO aa (some (sl 2)) (.aD d.next 0)) (some (sl 4)) .aG=g;have G:g.get .agx (sl 1)=.func a [] [.aD B1 0]:=by rw[<-f];simp[aO,am.aJ,br];exact h1
 have H:g.get .agx (sl 2)=.aD d.next 0:=by rw[<-f];simp[aO,am.aJ,br]
 clear f;refine Xc.iq (n:=n+30) (m:=20) (k:=n+36) ab ab (Xc.iq (n:=20) (m:=n+20) (k:=n+29) ab ab (Xc.region (n:=19) ?_));refine Xo.op (n:=18) (v:=.func a [] [.aD B1 0]) (H':=b) (by simp[aE,gv];exact G) (Xo.nil (n:=17) ?_);generalize f:aO g (some (sl 6)) (.func a [] [.aD B1 0])=c;have y:c.get .agx (sl 2)=.aD d.next 0:=by rw[<-f];simp[aO,am.aJ,br];exact H
 have I:gv c (tt 6)=.func a [] [.aD B1 0]:=by rw[<-f];simp[gv,aO,am.aJ]
 clear f;refine Xc.block (n:=n+19) (Xc.mono (n:=n+1) ab (λ_ _ _ h=>h) (Xc.rangeFunc (n:=n) ?_));rw[I];have nd:(b.new (.deferred false)).next=b.next.succ:=rfl;have L:b.next.az=d.next.az+1:=by rw[F,af.fH]
 have P:(b.new (.deferred false)).next.az=d.next.az+2:=by rw[nd,af.fH,L]
 have p:∀j,((b.new (.deferred false)).new (.loop .ready .none 0 c [sl 7] rA rB b.next)).get j=if j=(b.new (.deferred false)).next then .loop .ready .none 0 c [sl 7] rA rB b.next else if j=b.next then .deferred false else b.get j:=λj=>by rw[ai.cZ,ai.cZ]
 refine t (B1:=B1) (B2:=d.next) (D:=b.next) (L:=(b.new (.deferred false)).next) (e1:=e1) (e2:=e2) (envA:=c) ?_ rfl y ?_
 .refine⟨by show _<(b.new (.deferred false)).next.succ.az;rw[af.fH];omega,λj hj=>?_,?_,⟨bX [.aG],.aG,?_,?_,.inl ⟨rfl,rfl⟩⟩,?_,?_,D,u,ab,ab,aeq _⟩;·rw[p,ap (dg ab),ap (dg ab),r,ap (dg ab)];exact v j hj
  .rw[p,ap (dg ab),ap (dg ab),r,ap (dg ab)];exact C
  .rw[p,ap (dg ab),ap (dg ab),r,aH rfl]
  .rw[lW _ _ aC];rfl
  .rw[p,ap (dg ab),aH rfl]
  rw[p,aH rfl]
 intro lo l s J M;have o5:=J.o5;refine⟨_,_,_,_,_,_,_,_,aC,J.ll,?_⟩;obtain⟨c2,i,b1,b2,N⟩:=J.b2;generalize o:s.set (b.new (.deferred false)).next (.loop .exhausted .none 0 c [sl 7] rA rB b.next)=e;have q:∀j,j≠(b.new (.deferred false)).next->e.get j=s.get j:=λj hj=>by rw[<-o,ai.aJ,ap hj]
 have z:e.next=s.next:=by rw[<-o];rfl
 clear o;have O:bx e d.next 0=some i:=by unfold bx;rw[q _ (dg ab),b1];simp only[show ae0 0 1=true from rfl,bc,b2]
 refine Xc.iq (n:=18) (m:=18) (k:=19) ab ab (Xc.region (n:=17) ?_);refine Xo.op (n:=16) (v:=i) (H':=e) (j8 (by simp[gv];exact y) O) ?_;refine Xo.op (n:=15) (v:=i) (H':=e) (by simp[aE,gv,aO,am.aJ]) (Xo.nil (n:=14) ?_);refine Xc.ret (n:=17) ⟨trivial,e.set b.next (.deferred true),[i],?_,?_,?_⟩;·simp only[gV,q b.next (dg ab),J.dd]
 .simp[ee,aO,am.aJ]
 refine E i _ lo l ⟨ab,by show lo<e.next.az;rw[z];exact J.nx⟩ ?_ M λj hj=>?_;·refine N.frame (by show _<=e.next.az;rw[z];exact aeq _) λj h1 h2=>?_;rw[ai.aJ,ap (dg ab),q j (dg ab)]
 rw[ai.aJ,ap (dg ab),q j (dg ab)];exact J.rr j hj
end
section
variable{ac:Nat->aX}
theorem Xf.fV{n f:Nat}{g:List AV->ai->Option (AV×ai)}{first args a:List AV}{H H':ai}{v:AV}{K:KT}(b:ac f=.fV g)(hg:g (first++args++a) H=some (v,H'))(c:K v H'):Xf ac (n+1) (.func f first a) args H K:=by simp only[Xf,dT,b,hg];exact c
theorem Rf{b d a n r:Nat}(s:ac b=.code 5 [.tmp (sl 2)] (yg d))(t:ac d=.code 13 [.tmp (sl 4)] (tc r)){o:AV}{A f:ai}{p:List Int}(i:rC ac n a o A p){c:af}{u:Nat}(v:f.get c=.cells (bX [o]) 1 u true [] 0)(w:A.next.az<=c.az)(k:c.az<f.next.az)(m:∀j:af,j.az<A.next.az->f.get j=A.get j){K:KT}(x:∀g e lo l,A.next.az<=lo/\lo<e.next.az->pe e lo l g->l.Perm p->(∀j:af,j.az<A.next.az->e.get j=A.get j)->K g e):Xf ac (n+60) (.func b [] []) [.func a [] [.aD c 0]] f K:=by
 refine Xf.code (n:=n+59) s aC ?_;rw[show iL ([]++[AV.func a [] [.aD c 0]]++[]) .xH .aF=am.aF.set AV.agx (sl 0) (.func a [] [.aD c 0])from rfl];generalize q:am.aF.set AV.agx (sl 0) (.func a [] [.aD c 0])=aa;have h0:aa.get .agx (sl 0)=.func a [] [.aD c 0]:=by rw[<-q];simp[am.aJ]
 clear q;refine Xc.iq (n:=20) (m:=n+57) (k:=n+58) ab ab (Xc.region (n:=19) ?_);refine Xo.op (n:=18) (v:=.aG) (H':=f) (by simp[aE,gv]) (Xo.nil (n:=17) ?_);refine Xc.iq (n:=n+50) (m:=10) (k:=n+56) ab ab (Xc.region (n:=n+49) ?_);refine Xo.op (n:=n+48) (v:=.func a [] [.aD c 0]) (H':=f) (by simp[aE,gv,aO,am.aJ,br];exact h0) ?_;refine Xo.call (n:=n+47) ?_;simp only[gv,aO,am.aJ,br,aez,afC];refine Xf.mono (n:=n+40) ab (λ_ _ h=>h) (Re t i v w k m λg e lo l y z B C=>?_);refine Xo.op (n:=n+46) (v:=g) (H':=e) (by simp[aE,gv,aO,am.aJ]) (Xo.nil (n:=n+45) ?_);exact Xc.ret (n:=9) ⟨trivial,rfl,[g],by simp[ee,aO,am.aJ],x g e lo l y z B C⟩
theorem IR{c:am AV}:∀{l:List Int}{o:Nat},(∀i(h:i<l.length),c.bN .agx (o+i)=.int 3 (l[i]))->tb c o l.length=some l
 |[],_,_=>rfl
 |z::l,o,h=>by
  have h0:c.bN .agx o=.int 3 z:=h 0 aC;have a:=IR (c:=c) (l:=l) (o:=o+1) λi hi=>by have:=h (i+1) (by simpa using hi);rw[show o+(i+1)=o+1+i by omega]at this;exact this
  simp only[aeJ,tb,h0,a]
def Au(H:ai)(lo:Nat)(ks:List Int)(v:AV):Prop:=
 (ks=[]/\v=.aG)\/∃id,v=.slice id 0 ks.length ks.length false/\ks≠ []/\lo<=id.az/\H.get id=.cells (bX ((gQ ks).map λz=>.int 3 z)) ks.length 3 true [] 0
theorem Rg{b:Nat}(hs:ac b=.fV pd){A d:ai}{p:AV}{lo:Nat}{l f:List Int}(h1:A.next.az<=lo/\lo<d.next.az)(h2:pe d lo l p)(h3:l.Perm f)(y:f.length<=1000)(q:∀j:af,j.az<A.next.az->d.get j=A.get j){n:Nat}{K:KT}(r:∀g,Au g A.next.az f p->(∀j:af,j.az<A.next.az->g.get j=A.get j)->((∀id o n c e,p=.slice id o n c e->id.az<g.next.az)/\A.next.az<=g.next.az)->K (.tuple []) g):Xf ac (n+1) (.func b [] []) [p] d K:=by
 have a:=h3.length_eq;rcases h2 with⟨rfl,rfl⟩|⟨id,c,aM,rfl,s,B,t,u,v,w⟩;·refine Xf.fV hs (H':=d) (v:=.tuple []) rfl (r d (.inl ⟨List.nil_perm.1 h3,rfl⟩) q ⟨λ_ _ _ _ _ h=>(by cases h),ab⟩)
 have k:0<l.length:=by cases l with|nil=>exact absurd rfl s|cons _ _=>simp
 have m:gQ l=gQ f:=Ap (vN l) (vN f) ((ru l).trans (h3.trans (ru f).symm));have hg:pd [.slice id 0 l.length l.length false] d=some (.tuple [],(d.dP aM).set id (.cells (bX ((gQ l).map λz=>.int 3 z)) l.length 3 true [] 0)):=by
  have x:(aeF l.length l.length&&ae0 0 l.length&&afx l.length 4000000)=true:=by rw[afM,show ae0 0 l.length=true from agu afs k,aff ab];rfl
  simp only[pd,u,x,bc,IR (l:=l) (o:=0) λi hi=>by rw[aeL];exact v i hi]
 refine Xf.fV hs hg (r _ (.inr ⟨id,by rw[a],λe=>?_,ab,?_⟩) (λj hj=>?_) ⟨λ_ _ _ _ _ h=>(by injection h with h;subst h;rw[ai.eI,ai.io];exact t),by rw[ai.eI,ai.io];omega⟩);·rw[e]at a;simp at a;exact s (by simpa using a)
 .rw[ai.aJ,aH rfl,m,a]
 rw[ai.aJ,ap (dg ab),ai.sM,ap λh=>by have:=w j h;omega];exact q j hj
theorem Rh{b d f i a n x:Nat}(hd:ac b=.code 9 [.tmp (sl 2)] (Aq f d))(hs:ac d=.fV pd)(y:ac f=.code 5 [.tmp (sl 2)] (yg i))(z:ac i=.code 13 [.tmp (sl 4)] (tc x)){t:AV}{A A1:ai}{m:List Int}(p:m.length<=1000)(q:rC ac n a t A m){B1:af}{e1:Nat}(B:A1.get B1=.cells (bX [t]) 1 e1 true [] 0)(C:A.next.az<=B1.az)(r:B1.az<A1.next.az)(s:∀j:af,j.az<A.next.az->A1.get j=A.get j){K:KT}(D:∀v g,Au g A.next.az m v->(∀j:af,j.az<A.next.az->g.get j=A.get j)->((∀id o n c e,v=.slice id o n c e->id.az<g.next.az)/\A.next.az<=g.next.az)->K v g):Xf ac (n+90) (.func b [] []) [.func a [] [.aD B1 0]] A1 K:=by
 refine Xf.code (n:=n+89) hd aC ?_;rw[show iL ([]++[AV.func a [] [.aD B1 0]]++[]) .xH .aF=am.aF.set AV.agx (sl 0) (.func a [] [.aD B1 0])from rfl];generalize u:am.aF.set AV.agx (sl 0) (.func a [] [.aD B1 0])=aa;have h0:aa.get .agx (sl 0)=.func a [] [.aD B1 0]:=by rw[<-u];simp[am.aJ]
 clear u;refine Xc.iq (n:=20) (m:=n+87) (k:=n+88) ab ab (Xc.region (n:=19) ?_);refine Xo.op (n:=18) (v:=.aG) (H':=A1) (by simp[aE,gv]) (Xo.nil (n:=17) ?_);refine Xc.iq (n:=n+70) (m:=n+80) (k:=n+86) ab ab (Xc.region (n:=n+69) ?_);refine Xo.op (n:=n+68) (v:=.func a [] [.aD B1 0]) (H':=A1) (by simp[aE,gv,aO,am.aJ,br];exact h0) ?_;refine Xo.call (n:=n+67) ?_;simp only[gv,aO,am.aJ,br,aez,afC];refine Xf.mono (n:=n+60) ab (λ_ _ h=>h) (Rf y z q B C r s λk w lo l E F G H=>?_);refine Xo.op (n:=n+66) (v:=k) (H':=w) (by simp[aE,gv,aO,am.aJ]) (Xo.nil (n:=n+65) ?_);refine Xc.iq (n:=20) (m:=20) (k:=n+79) ab ab (Xc.region (n:=19) ?_);refine Xo.op (n:=18) (v:=k) (H':=w) (by simp[aE,gv,aO,am.aJ]) ?_;refine Xo.call (n:=17) ?_;simp only[gv,aO,am.aJ,br,aez,afC];refine Rg hs E F G p H λg I J L=>?_;refine Xo.nil (n:=16) ?_;refine Xc.iq (n:=10) (m:=10) (k:=19) ab ab (Xc.region (n:=9) ?_);refine Xo.op (n:=8) (v:=k) (H':=g) (by simp[aE,gv,aO,am.aJ,br]) ?_;refine Xo.op (n:=7) (v:=k) (H':=g) (by simp[aE,gv,aO,am.aJ,br]) (Xo.nil (n:=6) ?_);exact Xc.ret (n:=9) ⟨trivial,rfl,[k],by simp[ee,aO,am.aJ],D k g I J L⟩
theorem Ri{c a d:Nat}(g:ac c=.code 4 [.tmp (sl 2)] (Ar a d)){b:AV}(hb:b.cells=[b])(e:b.db=true){A:ai}{K:KT}(h:K (.func a [] [.aD A.next 0]) (A.new (.cells (bX [b]) 1 d true [] 0))):Xf ac 40 (.func c [] []) [b] A K:=by
 refine Xf.code (n:=39) g aC ?_;rw[show iL ([]++[b]++[]) .xH .aF=am.aF.set AV.agx (sl 0) b from rfl];generalize f:am.aF.set AV.agx (sl 0) b=aa;have h0:aa.get .agx (sl 0)=b:=by rw[<-f];simp[am.aJ]
 clear f;refine Xc.iq (n:=20) (m:=30) (k:=38) ab ab (Xc.region (n:=19) ?_);refine Xo.op (n:=18) (v:=.aD A.next 0) (H':=A.new (.cells (bX [b]) 1 d true [] 0)) (IN h0 hb e) ?_;refine Xo.op (n:=17) (v:=.nilFunc) (H':=A.new (.cells (bX [b]) 1 d true [] 0)) (by simp[aE,gv]) (Xo.nil (n:=16) ?_);refine Xc.iq (n:=20) (m:=20) (k:=29) ab ab (Xc.region (n:=19) ?_);refine Xo.op (n:=18) (v:=.func a [] [.aD A.next 0]) (H':=A.new (.cells (bX [b]) 1 d true [] 0)) (by simp[aE,gv,aO,am.aJ,br]) ?_;refine Xo.op (n:=17) (v:=.func a [] [.aD A.next 0]) (H':=A.new (.cells (bX [b]) 1 d true [] 0)) (by simp[aE,gv,aO,am.aJ,br]) (Xo.nil (n:=16) ?_);exact Xc.ret (n:=19) ⟨trivial,rfl,[.func a [] [.aD A.next 0]],by simp[ee,aO,am.aJ],h⟩
theorem Rj{c d a e f i g n e1 r:Nat}(hl:ac c=.code 6 [.tmp (sl 2)] (DU d a))(s:ac d=.code 4 [.tmp (sl 2)] (Ar g e1))(hd:ac a=.code 9 [.tmp (sl 2)] (Aq f e))(hs:ac e=.fV pd)(t:ac f=.code 5 [.tmp (sl 2)] (yg i))(u:ac i=.code 13 [.tmp (sl 4)] (tc r)){b:AV}(hb:b.cells=[b])(m:b.db=true){A:ai}{l:List Int}(o:l.length<=1000)(p:rC ac n g b A l){K:KT}(w:∀v k,Au k A.next.az l v->(∀j:af,j.az<A.next.az->k.get j=A.get j)->K v k):Xf ac (n+150) (.func c [] []) [b] A K:=by
 refine Xf.code (n:=n+149) hl aC ?_;rw[show iL ([]++[b]++[]) .xH .aF=am.aF.set AV.agx (sl 0) b from rfl];generalize q:am.aF.set AV.agx (sl 0) b=aa;have h0:aa.get .agx (sl 0)=b:=by rw[<-q];simp[am.aJ]
 clear q;refine Xc.iq (n:=20) (m:=n+140) (k:=n+148) ab ab (Xc.region (n:=19) ?_);refine Xo.op (n:=18) (v:=.aG) (H':=A) (by simp[aE,gv]) (Xo.nil (n:=17) ?_);refine Xc.iq (n:=n+130) (m:=10) (k:=n+139) ab ab (Xc.region (n:=n+129) ?_);refine Xo.op (n:=n+128) (v:=b) (H':=A) (by simp[aE,gv,aO,am.aJ,br];exact h0) ?_;refine Xo.call (n:=n+127) ?_;simp only[gv,aO,am.aJ,br,aez,afC];refine Xf.mono (n:=40) ab (λ_ _ h=>h) (Ri s hb m ?_);refine Xo.call (n:=n+126) ?_;simp only[gv,aO,am.aJ,br,aez,afC];refine Xf.mono (n:=n+90) ab (λ_ _ h=>h) (Rh hd hs t u o p (A1:=A.new (.cells (bX [b]) 1 e1 true [] 0)) (B1:=A.next) (e1:=e1) (by rw[ai.cZ,aH rfl]) (aeq _) (by show _<A.next.succ.az;rw[af.fH];omega) (λj hj=>by rw[ai.cZ,ap (dg ab)]) λv k x y _=>?_);refine Xo.op (n:=n+125) (v:=v) (H':=k) (by simp[aE,gv,aO,am.aJ]) (Xo.nil (n:=n+124) ?_);exact Xc.ret (n:=9) ⟨trivial,rfl,[v],by simp[ee,aO,am.aJ],w v k x y⟩
end
section
variable{P:Program}
theorem bf.eP{ρ d:aQ}(h:bR ρ d):∀{es:List aV}{f l:List MapEntry},bf ρ es f->bf d es l->bf ρ es l|[],_,[],_,_=>by simp[bf]|[],_,_::_,_,k=>by simp[bf]at k|_::_,[],_,b,_=>by simp[bf]at b|_::_,_::_,[],_,k=>by simp[bf]at k|e::es,c0::f,c::l,b,k=>by simp only[bf]at b k⊢;exact⟨VR.eP h _ _ _ b.1 k.1,VR.eP h _ _ _ b.2.1 k.2.1,k.2.2.1,bf.eP h b.2.2.2 k.2.2.2⟩
theorem co.eP{ρ d:aQ}(h:bR ρ d):∀{es:List aV}{f l:List MapEntry},co ρ es f->co d es l->co ρ es l|[],_,[],_,_=>by simp[co]|[],_,_::_,_,k=>by simp[co]at k|_::_,[],_,b,_=>by simp[co]at b|_::_,_::_,[],_,k=>by simp[co]at k|e::es,c0::f,c::l,b,k=>by simp only[co]at b k⊢;exact⟨VR.eP h _ _ _ b.1 k.1,VR.eP h _ _ _ b.2.1 k.2.1,co.eP h b.2.2 k.2.2⟩
theorem OR.eP{ρ f:aQ}(h:bR ρ f){o:bO}(m:(∃c n e g aM fz,o=.cells c n e g aM fz)\/∃es,dX o=some es){p x:Nat}{b i:Obj}(d:OR P ρ o p b)(k:OR P f o x i):OR P ρ o x i:=by
 rcases m with⟨c,n,e,g,aM,fz,rfl⟩|⟨es,he⟩;·exact OR.Q4 h d k
 cases o with|map j c=>cases b<;>simp only[OR]at d;cases i<;>simp only[OR]at k⊢;exact⟨k.1,k.2.1,k.2.2.1,bf.eP h d.2.2.2 k.2.2.2⟩|dt j=>cases b<;>simp only[OR]at d;cases i<;>simp only[OR]at k⊢;obtain⟨_,_,v,_,r⟩:=d;obtain⟨s,t,l,u,q⟩:=k;exact⟨s,t,l,u,co.eP h r q⟩|_=>simp[dX]at he
variable{a:bS}{ρ:aQ}{H:ai}{w:World}
theorem bh.Rl(A:bh P a ρ H w){hl:af->Prop}(B:∀j,hl j->(H.get j).l8){Hs:ai}(l:Hs.next=H.next)(i:∀j,(hl j->Hs.get j=.none)/\(¬hl j->Hs.get j=H.get j))(d:bh P (a.iN ρ hl λ_=>False) ρ Hs w){f:aQ}{z:ai}{q:World}(r:bR ρ f)(t:bh P (a.iN ρ hl λ_=>False) f z q)(C:cW (a.iN ρ hl λ_=>False) w q)(u:∀j:af,j.az<H.next.az->z.get j=Hs.get j)(v:∀j,¬hl j->H.get j≠.none->(∃c n e y aM fz,H.get j=.cells c n e y aM fz)\/∃es,dX (H.get j)=some es):∃b,bR ρ b/\bh P a b H q/\cW a w q:=by
 classical
  let b:aQ:=⟨λj=>if j.az<Hs.next.az then ρ j else if False then f j else none,f.k⟩;have p:bR ρ b:=by
   intro j x hj;refine⟨?_,(r j x hj).2⟩;show(if j.az<Hs.next.az then ρ j else _)=_;rcases afg j.az Hs.next.az with h|h;·rw[aH h];exact hj
   rw[(d.dD j h).2]at hj;cases hj
  have s:=bh.II d r t (H2:=Hs) (aeq _) id (λ_=>False) b rfl (λj h1 h2=>absurd (d.dD j h1).1 h2) (λ_ h=>h.elim) (λ_ _ h=>h.elim) (λj hj hg=>by have m:¬hl j:=λh=>hg ((i j).1 h);have D:=u j (by rw[<-l];exact hj);rw[D];refine⟨hg,hg,rfl,rfl,rfl,rfl,λx I o=>?_,λ_ _ h=>h⟩;obtain⟨J,K,G,_,_,g⟩:=d.cJ j hg;rw[(i j).2 m]at o g hg⊢;exact OR.mono p (OR.eP r (v j m hg) g o));obtain⟨E,F⟩:=A.IH B s.1 s.2 C (H2:=H) l.symm (λ_ _=>rfl) (λj h=>((i j).2 h).symm);exact⟨b,s.1,E,F⟩
theorem bh.Rm(N:bh P a ρ H w){hl:af->Prop}(O:∀j,hl j->(H.get j).l8){Hs:ai}(g:Hs.next=H.next)(s:∀j,(hl j->Hs.get j=.none)/\(¬hl j->Hs.get j=H.get j))(m:bh P (a.iN ρ hl λ_=>False) ρ Hs w){l:aQ}{A:ai}{z:World}(B:bR ρ l)(u:bh P (a.iN ρ hl λ_=>False) l A z)(Q:cW (a.iN ρ hl λ_=>False) w z)(E:∀j:af,j.az<H.next.az->A.get j=Hs.get j)(F:∀j,¬hl j->H.get j≠.none->(∃c n e G aM fz,H.get j=.cells c n e G aM fz)\/∃es,dX (H.get j)=some es){id:af}{o:bO}(I:H.next.az<=id.az)(C:A.get id=o)(f:o.l8)(J:∀K d:aQ,∀x t,OR P K o x t->OR P d o x t):∃d:aQ,bR ρ d/\bh P a d (H.new o) z/\cW a w z/\d H.next=l id/\d.k=l.k:=by
 classical
  let d:aQ:=⟨λj=>if j.az<Hs.next.az then ρ j else if j=H.next then l ((λ_=>id) j)else none,l.k⟩;have y:bR ρ d:=by
   intro j x hj;refine⟨?_,(B j x hj).2⟩;show(if j.az<Hs.next.az then ρ j else _)=_;rcases afg j.az Hs.next.az with h|h;·rw[aH h];exact hj
   rw[(m.dD j h).2]at hj;cases hj
  have L:d H.next=l id:=by show(if H.next.az<Hs.next.az then _ else if H.next=H.next then _ else _)=_;rw[ap (by rw[g];omega),aH rfl]
  have q:(Hs.new o).next.az=Hs.next.az+1:=af.fH _;obtain⟨b,x,t,Y,V,W,p⟩:=u.be (i:=id) (by rw[C];exact f.2.2);rw[C]at p;have D:=bh.II m B u (H2:=Hs.new o) (by rw[q];omega) (λ_=>id) (λj=>j=H.next) d rfl (λj h1 h2=>by
   rw[ai.cZ]at h2;split at h2;·rename_i e;rw[e,g]
   exact absurd (m.dD j h1).1 h2) (λj hj=>by rw[hj,C,ai.cZ,aH g.symm];exact⟨by rw[g];exact aeq _,by rw[q,g];omega,by rw[g];exact I,f.2.2,f.2.1,f.1,f.2.1,f.1,rfl,λx t h=>J _ _ x t h,λ_ _ h=>h⟩) (λi j h1 h2 _=>h1.trans h2.symm) (λj hj hg=>by rw[ai.cZ,ap (dg ab)]at hg⊢;have v:¬hl j:=λh=>hg ((s j).1 h);have R:=E j (by rw[<-g];exact hj);rw[R];refine⟨hg,hg,rfl,rfl,rfl,rfl,λx t p=>?_,λ_ _ h=>h⟩;obtain⟨Z,x0,X,_,_,r⟩:=m.cJ j hg;rw[(s j).2 v]at p r hg⊢;exact OR.mono y (OR.eP B (F j v hg) r p));have M:¬hl H.next:=λh=>(O _ h).2.2 (N.dD _ (aeq _)).1;obtain⟨S,T⟩:=N.IH O D.1 D.2 Q (H2:=H.new o) (by show H.next.succ=Hs.next.succ;rw[g]) (λj h=>by rw[ai.cZ,ap λe:j=H.next=>M (e▸h)]) (λj h=>by
   rw[ai.cZ,ai.cZ,g];split;·rfl
   exact((s j).2 h).symm);exact⟨d,D.1,S,T,L,rfl⟩
theorem IS(m:bh P a ρ H w)(pg:af->Prop):∃(hl:af->Prop)(Hs:ai),(∀j,hl j->(H.get j).l8)/\(∀j,pg j->¬hl j)/\Hs.next=H.next/\(∀j,(hl j->Hs.get j=.none)/\(¬hl j->Hs.get j=H.get j))/\bh P (a.iN ρ hl λ_=>False) ρ Hs w/\∀j,¬hl j->H.get j≠.none->pg j\/∃c n e d aM fz,H.get j=.cells c n e d aM fz:=by
 classical
  let hl:af->Prop:=λj=>(H.get j).l8/\¬pg j;obtain⟨Hs,f,b⟩:=H.gu (λj h=>(m.dD j h).1) hl;refine⟨hl,Hs,λj h=>h.1,λj g h=>h.2 g,f,b,m.kV (λi h=>h.1) (λ_ h=>h.elim) f (λj=>?_) (λj h=>(b j).1 h),λj h1 h2=>?_⟩
  .by_cases h:hl j;·exact .inr ((b j).1 h)
   exact .inl ((b j).2 h)
  by_cases g:pg j;·exact .inl g
  right;have l:¬(H.get j).l8:=λh=>h1 ⟨h,g⟩;cases k:H.get j with|cells c n e d aM fz=>exact⟨c,n,e,d,aM,fz,rfl⟩|none=>exact absurd k h2|_=>exact absurd ⟨by rw[k];rfl,by rw[k];rfl,h2⟩ l
theorem Rn{l:List Int}{n e:Nat}(g:n=l.length)(d f:aQ)(x:Nat)(c:Obj)(h:OR P d (.cells (bX (l.map λz=>.int 3 z)) n e true [] 0) x c):OR P f (.cells (bX (l.map λz=>.int 3 z)) n e true [] 0) x c:=by cases c<;>simp only[OR]at h⊢;refine⟨h.1,h.2.1,λi hi=>?_,h.2.2.2⟩;obtain⟨v,h1,h2⟩:=h.2.2.1 i hi;refine⟨v,h1,?_⟩;have b:i<l.length:=ab;rw[lW _ _ (by simpa using b)]at h2⊢;simp only[agt,ae5,getElem?_pos l i b,aeT,afc]at h2⊢;cases v<;>simp only[VR]at h2⊢;exact h2
theorem Av:∀{es:List aV}{ks:List Int},iC es=some ks↔es.map (·.key)=ks.map λk=>.int 3 k
 |[],ks=>by cases ks<;>simp[iC]
 |e::es,ks=>by
  simp only[iC];constructor
  .intro h;split at h;·rename_i k l h1 h2;injection h with h;subst h;simp only[aez,h1,Av.1 h2]
   cases h
  intro h;cases ks with|nil=>simp at h|cons k ks=>simp only[aez,ae1]at h;simp only[h.1,Av.2 h.2]
theorem Ro{es b:List aV}{ks:List Int}(g:(b.map aV.kv).Perm (es.map aV.kv))(h:iC es=some ks):∃c,iC b=some c/\c.Perm ks:=by
 have d:(b.map (·.key)).Perm (ks.map λk=>.int 3 k):=by have:=g.map agw;rw[af8,af8]at this;rw[<-Av.1 h];exact this
 let f:AV->Int:=λv=>match v with|.int _ k=>k|_=>0;have e:(ks.map λk=>AV.int 3 k).map f=ks:=by
  rw[af8];have:(f∘λk=>AV.int 3 k)=id:=by funext k;rfl
  rw[this,List.map_id]
 refine⟨(b.map (·.key)).map f,Av.2 ?_,by have:=d.map f;rw[e]at this;exact this⟩;rw[af8];conv=>lhs;rw[<-List.map_id (b.map (·.key))]
 refine afK λv i=>?_;have:=d.mem_iff.1 i;rw[aeK]at this;obtain⟨k,_,rfl⟩:=this;rfl
theorem Rp{ac:Nat->aX}(ht:gC P ac){listF keysF sortedF sortF collF appF iterF e1 e2:Nat}(hl:ac listF=.code 6 [.tmp (sl 2)] (DU keysF sortedF))(hk:ac keysF=.code 4 [.tmp (sl 2)] (Ar iterF e1))(hd:ac sortedF=.code 9 [.tmp (sl 2)] (Aq collF sortF))(hs:ac sortF=.fV pd)(hc:ac collF=.code 5 [.tmp (sl 2)] (yg appF))(hf:ac appF=.code 13 [.tmp (sl 4)] (tc e2))(hi:ac iterF=.code 14 [] As):sS P listF Ak:=by
 have D:∀{a:bS}{ρ:aQ}{H A:ai}{w:World}{g:af->Prop}{Hs:ai}{bv:AV}{ks:List Int}{argv:Array Value}{n:Nat}(eP:∀{E:bS}{u:aQ}{J:ai}{w':World},bh P E u J w'->(∀j:af,j.az<H.next.az->J.get j=A.get j)->∃L:ai,L.next=J.next/\bh P E u L w'/\(∀j:af,j.az<H.next.az->L.get j=Hs.get j)/\∀j:af,H.next.az<=j.az->L.get j=J.get j),bh P a ρ H w->(∀j,g j->(H.get j).l8)->Hs.next=H.next->(∀j,(g j->Hs.get j=.none)/\(¬g j->Hs.get j=H.get j))->bh P (a.iN ρ g λ_=>False) ρ A w->A.next=H.next->bh P (a.iN ρ g λ_=>False) ρ Hs w->(∀j,¬g j->H.get j≠.none->(∃c n e av aM fz,H.get j=.cells c n e av aM fz)\/∃es,dX (H.get j)=some es)->aR ρ [bv] argv.toList->bv.cells=[bv]->bv.db=true->ks.length<=1000->rC ac n iterF bv A ks->∀(fr:Frame)(cs:List Frame),nO fr->u6 P a ρ w (callFunc listF argv) fr cs λM b=>(ks=[]/\M=.aG/\b=H)\/(ks≠ []/\M=.slice H.next 0 ks.length ks.length false/\b=H.new (.cells (bX ((gQ ks).map λn=>.int 3 n)) ks.length 3 true [] 0)):=by
  intro a ρ H A w g Hs bv ks argv n eP B hy R S aw ax T V ha ay a1 x F fr cs hat;have Z:=Rj (n:=n) hl hk hd hs hc hf ay a1 x F (K:=λv H4=>Au H4 A.next.az ks v/\∀j:af,j.az<A.next.az->H4.get j=A.get j) (λv H4 h1 h2=>⟨h1,h2⟩);have q:=(vA ht (n+150)).1 (n+150) (aeq _) Z (fv:=.func (.func listF) #[] #[]) (by simp[VR,aR]) ha aw fr cs hat;have ag:lA (.func (.func listF) #[] #[]) argv=callFunc listF argv:=by simp[lA,Deferred.ofValue,invoke]
  rw[ag]at q;obtain⟨v,H4,c,w',d,f,t,⟨k1,k2⟩,⟨u,hx,N,a2,s⟩,q1,q2⟩:=q;rw[ax]at k1 k2;obtain⟨L,n3,W,f1,f2⟩:=eP a2 k2;rcases k1 with⟨rfl,rfl⟩|⟨id,rfl,G,X,hg⟩;·obtain⟨I,O,k,x3⟩:=bh.Rl B hy R S T hx W s f1 V;have a6:=N.kz;subst a6;exact⟨.aG,H,_,w',d,f,t,.inl ⟨rfl,rfl,rfl⟩,⟨I,O,by simp[VR],k,x3⟩,q1,q2⟩
  have a8:ks.length=(gQ ks).length:=(ru ks).length_eq.symm;obtain⟨I,O,k,x3,x4,x5⟩:=bh.Rm B hy R S T hx W s f1 V X (by rw[f2 id X];exact hg) ⟨rfl,rfl,aC⟩ (Rn a8);refine⟨_,_,c,w',d,f,t,.inr ⟨G,rfl,rfl⟩,⟨I,O,?_,k,x3⟩,q1,q2⟩;cases c with
  |slice ba n' m'=>cases ba with|none=>simp[VR]at N|some ba=>simp only[VR]at N⊢;rw[x4,x5];exact N
  |_=>simp[VR]at N
 intro a ρ H H' w args v argv hg ha B fr cs hat;unfold Ak at hg;split at hg
 .injection hg with hg;injection hg with l o;subst l;subst o;obtain⟨g,Hs,y1,_,K,y3,Q,y5⟩:=IS B λ_=>False;obtain⟨v,b,c,w',d,f,t,C,r⟩:=D (A:=Hs) (ks:=[]) (n:=100) (bv:=.d9) (λh1 h2=>⟨_,rfl,h1,h2,λ_ _=>rfl⟩) B y1 K y3 Q K Q (λj h1 h2=>.inl ((y5 j h1 h2).resolve_left id)) ha rfl rfl aC (Rc hi) fr cs hat;rcases C with⟨_,rfl,rfl⟩|⟨h,_⟩;·exact⟨_,_,c,w',d,f,t,⟨rfl,rfl⟩,r⟩
  exact absurd rfl h
 .rename_i m;have go:∀{ks:List Int},jk H m=some ks->ks.length<=1000->u6 P a ρ w (callFunc listF argv) fr cs λM b=>(ks=[]/\M=.aG/\b=H)\/(ks≠ []/\M=.slice H.next 0 ks.length ks.length false/\b=H.new (.cells (bX ((gQ ks).map λn=>.int 3 n)) ks.length 3 true [] 0)):=by
   intro ks p x;obtain⟨es,e1,e2,e3⟩:=x7 p;obtain⟨g,Hs,y1,y0,K,y3,Q,y5⟩:=IS B λj=>j=m;have gm:Hs.get m=H.get m:=(y3 m).2 (y0 m rfl);have Y:m.az<H.next.az:=by
    rcases afg m.az H.next.az with h|h;·exact h
    rw[(B.dD m h).1]at e1;simp[dX]at e1
   obtain⟨y,i,i1,p1,p2,p3,eP⟩:=Ip Q (m:=m) (es:=es) (by rw[gm];exact e1);obtain⟨z,O,k⟩:=Ro p1 e2;have F:rC ac (y.length+100) iterF (.map m) (Hs.set m (.map y i)) z:=Rb hi (m:=m) (A:=Hs.set m (.map y i)) (by rw[ai.aJ,aH rfl]) (by show m.az<Hs.next.az;rw[K];exact Y) p2 p3 O (k.nodup_iff.2 e3) (by rw[k.length_eq];exact x);obtain⟨v,b,c,w',d,f,t,C,r⟩:=D (A:=Hs.set m (.map y i)) (ks:=z) (bv:=.map m) (H:=H) (Hs:=Hs) (λ{E u J w'}h1 h2=>⟨J.set m (Hs.get m),rfl,eP h1 (by rw[h2 m Y,ai.aJ,aH rfl]),λj hj=>by
    rw[ai.aJ];split;·rename_i e;rw[e]
    rename_i e;rw[h2 j hj,ai.aJ,ap e],λj hj=>by rw[ai.aJ,ap (dg ab)]⟩) B y1 K y3 i1 (by show Hs.next=_;exact K) Q (λj h1 h2=>by
    rcases y5 j h1 h2 with h|h;·exact .inr ⟨es,by rw[h];exact e1⟩
    exact .inl h) ha rfl rfl (by rw[k.length_eq];exact x) F fr cs hat;refine⟨v,b,c,w',d,f,t,?_,r⟩;rw[Ap (vN z) (vN ks) ((ru z).trans (k.trans (ru ks).symm)),k.length_eq]at C;rcases C with⟨h,h'⟩|⟨h,h'⟩;·exact .inl ⟨by rw[h]at k;exact List.nil_perm.1 k,h'⟩
   exact .inr ⟨λe=>h (by rw[e]at k;exact List.perm_nil.1 k),h'⟩
  split at hg
  .rename_i p;injection hg with hg;injection hg with l o;subst l;subst o;obtain⟨v,b,c,w',d,f,t,C,r⟩:=go p aC;rcases C with⟨_,rfl,rfl⟩|⟨h,_⟩;·exact⟨_,_,c,w',d,f,t,⟨rfl,rfl⟩,r⟩
   exact absurd rfl h
  .rename_i ks G p;split at hg;case isFalse=>cases hg
   rename_i a';injection hg with hg;injection hg with l o;subst l;subst o;obtain⟨v,b,c,w',d,f,t,C,r⟩:=go p (aeG a');rcases C with⟨h,_⟩|⟨_,rfl,rfl⟩;·exact(G h).elim
   exact⟨_,_,c,w',d,f,t,⟨rfl,rfl⟩,r⟩
  cases hg
 cases hg
end
section
variable{P:Program}
end
section
variable{P:Program}
def kA(P:Program)(f:Nat):aX->Prop
 |.none=>True
 |.code a b body=>∃fn,P.funcs[f]?=some fn/\oS P fn=some (.code a b body)/\(fn.name== "runtime.NumGoroutine")=false
 |.fV g=>sS P f g
 |.eF g=>zW P f g
theorem vO{ac:Nat->aX}(h:∀f,kA P f (ac f)):gC P ac:=by have key:∀f v,ac f=v->kA P f v:=λf v e=>e▸h f;exact⟨λf a b body e=>key f _ e,λf g e=>key f (.fV g) e,λf g e=>key f (.eF g) e⟩
theorem Rr{da a:Nat}(h1:kA P da (.code 32 [] (ye a)))(h2:kA P a (.code 13 [.tmp (sl 4)] vM)):gC P (l7 da a):=vO λf=>by
 unfold l7;split;·rename_i h;rw[aey h];exact h1
 split;·rename_i h;rw[aey h];exact h2
 trivial
def tf(l:List (Nat×aX))(f:Nat):aX:=
 match l with
 |[]=>.none
 |(n,v)::l=>if aeF n f then v else tf l f
def IT(Q:Nat->aX->Prop):List (Nat×aX)->Prop
 |[]=>True
 |(n,v)::l=>Q n v/\IT Q l
theorem Aw:∀{l:List (Nat×aX)},IT (kA P) l->∀f,kA P f (tf l f)
 |[],_,_=>trivial
 |(n,v)::l,h,f=>by
  simp only[tf];split;·rename_i e;rw[<-aey e];exact h.1
  exact Aw h.2 f
end
section
variable{P:Program}
theorem Rs{ac:Nat->aX}(L:gC P ac){f nt:Nat}{rs:List fM}{body:bg}(hg:ac f=.code nt rs body){n:Nat}{args:List AV}{H:ai}{K:KT}(he:Xf ac n (.func f [] []) args H K){M:bS}{ρ:aQ}{w:World}{d:Array Value}(R:aR ρ args d.toList)(S:bh P M ρ H w):Calls P f d w λe y=>∃v z c,e=.returned c/\K v z/\b9 P M ρ w v z c y:=by
 intro cs;cases n with
 |zero=>simp only[Xf,dT]at he
 |succ n=>
  have o:u9 P ac n:=(vA L n).2.1;simp only[Xf,dT,hg,afz,afu]at he;obtain⟨fn,q,r,I⟩:=L.code f nt rs body hg;split at he;case isFalse=>exact he.elim
  rename_i m;have m:=aeG m;simp only[oS,aep,aaw,aet,aas,aX.code.injEq]at r;obtain⟨cc,B,J,p,C,F,T,V,W⟩:=r;subst T;subst V;subst W;let b:Frame:={(default:Frame)with fn:=f,kind:=.normal};let a:Act:={tmps:=d++agk (fn.ntmps - d.size) undef,defers:=[]};have k:Frame.enter P f d .normal=b.atR a [.code cc]:=by simp only[Frame.enter,Frame.atR,q,B,b,a,aeT,afc,afY];rfl
  have X:fD ρ fn.ntmps ⟨iL args .xH .aF,[],none⟩ b.roundOf a:=⟨Db R m,trivial,trivial⟩;obtain⟨j,s,z,G,A,y,t,h1,h2,h3,Y,Z,N,h7⟩:=o p he X S [] cs;have u:∃i:Frame,i={b.atR A i.todo with mode:=.returning}/\step P (lone (b.atR A t) cs y)=.next (lone i cs y):=by cases j with|none=>rw[show t=[]from N];exact⟨_,rfl,stepR_end rfl⟩|exit id=>exact h1.elim|ret=>obtain⟨k0,rfl⟩:=N;exact⟨_,rfl,stepR_ret rfl⟩
  obtain⟨i,g,cz⟩:=u;have h:(match gV z s.bz with
   |some H=>match ee s.aa H C with|some l=>K (fG l) H|none=>False
   |none=>False):=by cases j with|none=>exact h1|exit id=>exact h1.elim|ret=>exact h1
  split at h
  .rename_i H2 hm;split at h
   .rename_i l hl;have x:i={i with defers:=A.defers}:=by rw[g];rfl
    obtain⟨w2,O,Q,s3⟩:=zU Y h3.D hm i cs (by rw[g]);rw[<-x]at O;obtain⟨c,hc,hv⟩:=Dd Q h3.E F hl;refine⟨.returned c,w2,{i with defers:=[]},⟨fG l,H2,c,rfl,h,G,h2,hv,Q,Z.trans s3⟩,?_,?_,?_⟩;·rw[k];exact h7.trans (.head cz O)
    .show i.fn=f;rw[g];rfl
    refine⟨by rw[g],rfl,by rw[g];rfl,fn,by rw[g];exact q,?_⟩;rw[g];exact hc
   exact h.elim
  exact h.elim
end
section
variable{P:Program}
def Rt(w:World):bS:=⟨λb=>w.heap.size<=b,λb=>w.heap.size<=b,λ_=>False,λ_=>False⟩
def IU(n:Nat):aQ:=⟨λj=>if j.az<=n then some (j.az - 1,0)else none,λ_=>(0,0)⟩
theorem Rv{n:Nat}(d:P.globals.size=n){w:World}(e:n<=w.heap.size):bh P (Rt w) (IU n) ⟨.aF,af.cq n⟩ w:=by
 have hg:∀j,ai.get ⟨.aF,af.cq n⟩ j=.none:=nQ _;have hi:∀j b x,IU n j=some (b,x)->j.az<=n/\b=j.az - 1:=by
  intro j b x h;have:(if j.az<=n then some (j.az - 1,0)else none)=some (b,x):=h;split at this;·rename_i a;injection this with this;injection this with h1 _;exact⟨a,h1.symm⟩
  cases this
 refine⟨λi h=>absurd (hg i) h,λi j b x y _ h=>absurd (hg i) h,λi j h=>?_,λi b x h=>absurd (hg i) h,λi h=>⟨hg i,?_⟩,λk c=>⟨c,c⟩,λg h=>?_,λi b x f h=>absurd (hg i) h,λi b x h=>?_,λi b x h=>absurd (hg i) h,λi h=>h.elim,λi h=>h.elim⟩;·rw[hg]at h;cases h
 .have:(af.cq n).az<=i.az:=h;rw[af.jD]at this;show(if i.az<=n then _ else _)=_;rw[ap ab]
 .show(if(af.cq g).az<=n then _ else _)=_;rw[af.jD,aH ab];simp
 obtain⟨h1,h2⟩:=hi i b x h;have:=af.oT i;omega
end
end
section
variable{ac:Nat->aX}
structure Ax(ac:Nat->aX)(n:Nat):Prop where
 exec:∀{c fr H}{K:Nat->bU->Fr->ai->Prop},(∀m m' j fr H,m<=m'->K m j fr H->K m' j fr H)->exec False cA ac n c fr H (λj fr H=>∃m,K m j fr H)->∃m,exec False cA ac n c fr H (K m)
 aq:∀{l fr H}{K:Nat->Fr->ai->Prop},(∀m m' fr H,m<=m'->K m fr H->K m' fr H)->Go.ak.aq False cA ac n l fr H (λfr H=>∃m,K m fr H)->∃m,Go.ak.aq False cA ac n l fr H (K m)
 call:∀{f args H}{K:Nat->KT},(∀m m' v H,m<=m'->K m v H->K m' v H)->dT False cA ac n f args H (λv H=>∃m,K m v H)->∃m,dT False cA ac n f args H (K m)
theorem Rw{n:Nat}(h:Ax ac n){c:bg}{fr:Fr}{H:ai}{K:Nat->bU->Fr->ai->Prop}(g:∀m p j fr H,m<=p->K m j fr H->K p j fr H)(he:exec False cA ac (n+1) c fr H (λj fr H=>∃m,K m j fr H)):∃m,exec False cA ac (n+1) c fr H (K m):=by
 have mo:=mono ac n;cases c with
 |skip=>simp only[exec]at he⊢;exact he
 |region l=>simp only[exec]at he⊢;exact h.aq (λm p fr H=>g m p .none fr H) he
 |seq a b=>
  simp only[exec]at he⊢;refine h.exec (K:=λm j fr H=>match j with|.none=>exec False cA ac n b fr H (K m)|j=>K m j fr H) (λm p j fr H k hj=>?_) (mo.exec (aeq _) (λj fr H hj=>?_) he);·cases j with|none=>exact mo.exec (aeq _) (λj fr H=>g m p j fr H k) hj|exit i=>exact g _ _ _ _ _ k hj|ret=>exact g _ _ _ _ _ k hj
  cases j with|none=>exact h.exec g hj|exit i=>exact hj|ret=>exact hj
 |cond c a b=>
  simp only[exec]at he⊢;split at he;·exact h.exec g he
  .exact h.exec g he
  exact he.elim
 |block id b=>
  simp only[exec]at he⊢;refine h.exec (K:=λm j fr H=>match j with|.exit i=>if aeF i id then K m .none fr H else K m (.exit i) fr H|j=>K m j fr H) (λm p j fr H k hj=>?_) (mo.exec (aeq _) (λj fr H hj=>?_) he);·cases j with|none=>exact g _ _ _ _ _ k hj|exit i=>simp only at hj⊢;split at hj<;>rename_i hi<;>simp only[hi,bc,bA,abu]<;>exact g _ _ _ _ _ k hj|ret=>exact g _ _ _ _ _ k hj
  cases j with|none=>exact hj|exit i=>simp only at hj⊢;split at hj<;>rename_i hi<;>simp only[hi,bc,bA,abu]<;>exact hj|ret=>exact hj
 |loop b=>
  simp only[exec]at he⊢;refine h.exec (K:=λm j fr H=>match j with|.none=>exec False cA ac n (.loop b) fr H (K m)|j=>K m j fr H) (λm p j fr H k hj=>?_) (mo.exec (aeq _) (λj fr H hj=>?_) he);·cases j with|none=>exact mo.exec (aeq _) (λj fr H=>g m p j fr H k) hj|exit i=>exact g _ _ _ _ _ k hj|ret=>exact g _ _ _ _ _ k hj
  cases j with|none=>exact h.exec g hj|exit i=>exact hj|ret=>exact hj
 |rangeFunc f q as_ r=>
  simp only[exec]at he⊢;have go:∀(K:bU->Fr->ai->Prop)(w:bU->Fr->ai->Prop)(_:∀j fr H,K j fr H->w j fr H)(fr:Fr)(l:af)(e:ai),(match e.get l with
   |.loop st bP fn aa q as_ r d=>match st with|.busy=>False|_=>K bP fr (e.set l (.loop .exhausted bP fn aa q as_ r d))
   |_=>False)->(match e.get l with
   |.loop st bP fn aa q as_ r d=>match st with|.busy=>False|_=>w bP fr (e.set l (.loop .exhausted bP fn aa q as_ r d))
   |_=>False):=by
   intro K w x fr l e o;cases s:e.get l with
   |loop st bP fn aa q as_ r d=>rw[s]at o;cases st<;>first|exact o.elim|exact x _ _ _ o
   |_=>rw[s]at o;exact o.elim
  have u:∀(fr:Fr)(l:af)(e:ai),(match e.get l with
   |.loop st bP fn aa q as_ r d=>match st with|.busy=>False|_=>∃m,K m bP fr (e.set l (.loop .exhausted bP fn aa q as_ r d))
   |_=>False)->∃m,(match e.get l with
   |.loop st bP fn aa q as_ r d=>match st with|.busy=>False|_=>K m bP fr (e.set l (.loop .exhausted bP fn aa q as_ r d))
   |_=>False):=by
   intro fr l e o;cases s:e.get l with
   |loop st bP fn aa q as_ r d=>rw[s]at o;cases st<;>first|exact o.elim|exact o
   |_=>rw[s]at o;exact o.elim
  cases y:fr.bB with
  |none=>rw[y]at he;simp only at he⊢;exact h.call (λm p v e k=>go _ _ (λj fr H=>g m p j fr H k) _ _ _) (mo.call (aeq _) (λv e o=>u _ _ _ o) he)
  |some l=>
   rw[y]at he;simp only at he⊢;split at he;·exact h.call (λm p v e k=>go _ _ (λj fr H=>g m p j fr H k) _ _ _) (mo.call (aeq _) (λv e o=>u _ _ _ o) he)
   exact he.elim
 |exit id=>simp only[exec]at he⊢;exact he
 |ret=>simp only[exec]at he⊢;exact he
 |eF t=>
  simp only[exec]at he⊢;split at he
  .split at he;·exact he
   exact he.elim
  exact he.elim
theorem IV{Q:Nat->Nat->Prop}(c:∀i m d,m<=d->Q i m->Q i d):∀n,(∀i,i<n->∃m,Q i m)->∃m,∀i,i<n->Q i m
 |0,_=>⟨0,λi h=>by omega⟩
 |n+1,h=>by
  obtain⟨a,f⟩:=IV c n λi hi=>h i ab;obtain⟨b,hb⟩:=h n ab;refine⟨max a b,λi hi=>?_⟩;by_cases e:i=n;·subst e;exact c _ _ _ (Nat.le_max_right ..) hb
  exact c _ _ _ (Nat.le_max_left ..) (f i ab)
theorem Rx{n:Nat}(h:Ax ac n){l:List bu}{fr:Fr}{H:ai}{K:Nat->Fr->ai->Prop}(k:∀m d fr H,m<=d->K m fr H->K d fr H)(he:Go.ak.aq False cA ac (n+1) l fr H (λfr H=>∃m,K m fr H)):∃m,Go.ak.aq False cA ac (n+1) l fr H (K m):=by
 have mo:=mono ac n;cases l with
 |nil=>simp only[Go.ak.aq]at he⊢;exact he
 |cons o l=>
  simp only[Go.ak.aq]at he⊢;have j:∀(m d:Nat)(s:List (af×bO))(v:AV)(H:ai),m<=d->(if dl (aO fr.aa o.dst v) (cB H s) o.re=true then Go.ak.aq False cA ac n l {fr with aa:=aO fr.aa o.dst v} (cB H s) (K m)else False)->(if dl (aO fr.aa o.dst v) (cB H s) o.re=true then Go.ak.aq False cA ac n l {fr with aa:=aO fr.aa o.dst v} (cB H s) (K d)else False):=by
   intro m d s v H e a;split at a;·rename_i p;rw[aH p];exact mo.aq (aeq _) (λfr H=>k m d fr H e) a
   exact a.elim
  have b:∀(s:List (af×bO))(v:AV)(H:ai),(if dl (aO fr.aa o.dst v) (cB H s) o.re=true then Go.ak.aq False cA ac n l {fr with aa:=aO fr.aa o.dst v} (cB H s) (λfr H=>∃m,K m fr H)else False)->∃m,(if dl (aO fr.aa o.dst v) (cB H s) o.re=true then Go.ak.aq False cA ac n l {fr with aa:=aO fr.aa o.dst v} (cB H s) (K m)else False):=by
   intro s v H a;split at a;·rename_i p;obtain⟨m,e⟩:=h.aq k a;exact⟨m,by rw[aH p];exact e⟩
   exact a.elim
  split at he
  .rename_i hg;simp only[aH hg];split at he;·rename_i f args;exact h.call (λm d v q e=>j m d _ v q e) (mo.call (aeq _) (λv q a=>b _ v q a) he)
   .split at he
    .rename_i cs g _;refine IV (Q:=λi m=>match cs[i]? with|some c=>if dl (aO fr.aa o.dst (g c).1) (cB (g c).2 (cS fr.aa H o.gu).2) o.re=true then Go.ak.aq False cA ac n l {fr with aa:=aO fr.aa o.dst (g c).1} (cB (g c).2 (cS fr.aa H o.gu).2) (K m)else False|none=>False) (λi m d e a=>?_) cs.length λi hi=>?_
     .split at a;·exact j _ _ _ _ _ e a
      exact a.elim
     have:=he i hi;simp only at this;split at this;·rename_i x r;obtain⟨m,e⟩:=b _ _ _ this;exact⟨m,by simp only[r];exact e⟩
     exact this.elim
    exact he.elim
   split at he;·exact b _ _ _ he
   exact he.elim
  rename_i hg;simp only[ap hg];split at he;·rename_i hd;simp only[aH hd];exact h.aq k he
  exact he.elim
def yh(l:af)(K:KT)(j:bU)(H:ai):Prop:=
 match H.get l with
 |.loop _ _ fn aa a as_ b d=>match j with
  |.none=>K (.bool true) (H.set l (.loop .ready .none fn aa a as_ b d))
  |j=>K (.bool false) (H.set l (.loop .done j fn aa a as_ b d))
 |_=>False
theorem Ry{n:Nat}(h:Ax ac n){f:AV}{args:List AV}{H:ai}{K:Nat->KT}(q:∀m k v H,m<=k->K m v H->K k v H)(he:dT False cA ac (n+1) f args H (λv H=>∃m,K m v H)):∃m,dT False cA ac (n+1) f args H (K m):=by
 have mo:=mono ac n;cases f<;>(try(simp only[dT]at he;done))
 .rename_i f first p;simp only[dT]at he⊢;split at he;·exact he.elim
  .exact he.elim
  .split at he;·exact he
   exact he.elim
  split at he
  .rename_i x results body _ r;simp only[aH r];have aA:∀(K:KT)(K':KT)(_:∀v H,K v H->K' v H)(fr:Fr)(H:ai),(match gV H fr.bz with
    |some H=>match ee fr.aa H results with|some l=>K (fG l) H|none=>False
    |none=>False)->(match gV H fr.bz with
    |some H=>match ee fr.aa H results with|some l=>K' (fG l) H|none=>False
    |none=>False):=by
    intro K K' s fr H a;split at a
    .split at a;·exact s _ _ a
     exact a.elim
    exact a.elim
   have g:∀(fr:Fr)(H:ai),(match gV H fr.bz with
    |some H=>match ee fr.aa H results with|some l=>∃m,K m (fG l) H|none=>False
    |none=>False)->∃m,(match gV H fr.bz with
    |some H=>match ee fr.aa H results with|some l=>K m (fG l) H|none=>False
    |none=>False):=by
    intro fr H a;split at a
    .split at a;·exact a
     exact a.elim
    exact a.elim
   refine h.exec (K:=λm j fr H=>match j with
    |.exit _=>False
    |_=>match gV H fr.bz with
     |some H=>match ee fr.aa H results with|some l=>K m (fG l) H|none=>False
     |none=>False) (λm k j fr H c hj=>?_) (mo.exec (aeq _) (λj fr H hj=>?_) he);·cases j with|exit i=>exact hj.elim|none=>exact aA _ _ (λv H=>q m k v H c) _ _ hj|ret=>exact aA _ _ (λv H=>q m k v H c) _ _ hj
   cases j with|exit i=>exact hj.elim|none=>exact g _ _ hj|ret=>exact g _ _ hj
  exact he.elim
 rename_i l;simp only[dT]at he⊢;split at he
 .split at he
  .split at he
   .rename_i hl;simp only[aH hl];refine h.exec (K:=λm j fr H=>match j,H.get l with
     |.none,.loop .ready bP fn aa e as_ t d=>exec False cA ac n _ fr (H.set l (.loop .busy bP fn aa e as_ t d)) λj _ H=>match H.get l with
      |.loop _ _ fn aa e as_ o d=>match j with|.none=>K m (.bool true) (H.set l (.loop .ready .none fn aa e as_ o d))|j=>K m (.bool false) (H.set l (.loop .done j fn aa e as_ o d))
      |_=>False
     |_,_=>False) (λm k j fr H c hj=>?_) (mo.exec (aeq _) (λj fr H hj=>?_) he)
    .split at hj;·refine mo.exec (aeq _) (λj _ H a=>?_) hj;cases b:H.get l with|loop st bP fn aa e as_ o d=>rw[b]at a;cases j<;>exact q _ _ _ _ c a|_=>rw[b]at a;exact a.elim
     exact hj.elim
    split at hj;·have u:=mo.exec (aeq _) (K':=λj _ H=>∃m,yh l (K m) j H) (λj _ H a=>(by unfold yh;cases b:H.get l with|loop st bP fn aa e as_ o d=>rw[b]at a;cases j<;>exact a|_=>rw[b]at a;exact a.elim)) hj;obtain⟨m,c⟩:=h.exec (K:=λm j _ H=>yh l (K m) j H) (λm k j _ H c a=>by unfold yh at a⊢;cases b:H.get l with|loop st bP fn aa e as_ o d=>rw[b]at a;cases j<;>exact q _ _ _ _ c a|_=>rw[b]at a;exact a.elim) u;rename_i w;refine⟨m,?_⟩;simp only[w];refine mo.exec (aeq _) (λj _ H a=>?_) c;unfold yh at a;cases b:H.get l with|loop st bP fn aa e as_ o d=>rw[b]at a;cases j<;>exact a|_=>rw[b]at a;exact a.elim
    exact hj.elim
   exact he.elim
  exact he.elim
 exact he.elim
theorem vP(ac:Nat->aX):∀n,Ax ac n|0=>⟨λ_ he=>by simp only[exec]at he,λ_ he=>by simp only[Go.ak.aq]at he,λ_ he=>by simp only[dT]at he⟩|n+1=>by have h:=vP ac n;exact⟨Rw h,Rx h,Ry h⟩
end
end Go.ak
end
