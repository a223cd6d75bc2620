/- A part. No conditions. -/
import Derived.Test.YtcipmlnpjkngpaaGreatDoorA03
import Derived.Test.YtcipmlnpjkngpaaGreatDoorA01
set_option linter.all false
open List renaming range->afD
open Nat renaming beq->aeF,blt->ae0,ble->afx
open Array renaming replicate->agk
open List.Perm renaming swap->afA
open Eq renaming mpr->agu
open Prod renaming fst->agw
noncomputable section
namespace Go.ak
section
variable[Ov]
section
variable{P:Program}{nt:Nat}{aq:Array Oper}{l:List bu}{aB:List Nat}{T:Option iX}
theorem lB(aa:am AV)(d:Option af)(v:AV)(t:af):(aO aa d v).get .agx t=if d=some t then v else aa.get .agx t:=by
 cases d with
 |none=>simp[aO]
 |some d=>
  simp only[aO,am.aJ];by_cases a:t=d;·subst a;simp
  rw[ap a,ap (λb=>a (by injection b with b;exact b.symm))]
theorem Dk{aa a:am AV}{x:bu}(c:∀t∈x.gY,aa.get .agx t=a.get .agx t):dc aa x.guard=dc a x.guard:=by cases hg:x.guard with|none=>rfl|some d=>obtain⟨p,b⟩:=d;have:=c p (by simp[bu.gY,hg]);simp only[dc,this]
theorem Hu{aa a:am AV}{x:bu}(c:∀t∈x.gY,aa.get .agx t=a.get .agx t):iM aa x.guard=iM a x.guard:=by cases hg:x.guard with|none=>rfl|some d=>obtain⟨p,b⟩:=d;have:=c p (by simp[bu.gY,hg]);simp only[iM,this]
theorem vq{x:bu}{t:af}(a:t∈x.op.bV):t∈x.gY:=by simp[bu.gY,a]
structure z7(l:List bu)(cC:Array Nat)(aB:List Nat)(T:iX):Prop where
 i0:T.i0∈aB
 qh:∃x,l[T.i0]?=some x/\x.op=.je/\x.guard=none/\x.dst=some T.t0
 nd:T.us.Nodup
 bQ:∀u∈T.us,u.u∉aB
 op:∀u∈T.us,∃x,l[u.u]?=some x/\x.dst=none/\x.guard=none/\x.op=.iV u.d (.t T.t0) (.c u.k) u.v/\lr u.d=true
 cC:∀u∈T.us,∀k∈aB,∀t,dH l k t->t∈T.t0::u.v.bV->ey cC u.u k
 key:∀u∈T.us,∀w∈T.us,w.u=u.u\/cQ 64 u.d u.k w.k=some false
def Dl(T:Option iX)(i:Nat):Prop:=∃t,T=some t/\∃a∈t.us,a.u=i
structure gP(P:Program)(nt:Nat)(aq:Array Oper)(l:List bu)(aB:List Nat)(T:Option iX):Prop where
 hl:aq.toList.mapM (nG P nt aq)=some l
 he:uM aq=true
 eG:∀i,i<aq.size->i∈aB\/Dl T i
 dL:sL l (Region.before aq) aB=true
 hT:∀t,T=some t->z7 l (Region.before aq) aB t
theorem Hv{d c:Type}{o:d->Option c}:∀{as_:List d}{bs:List c},as_.mapM o=some bs->∀(i:Nat)(b:c),bs[i]?=some b->∃a,as_[i]?=some a/\o a=some b|[],bs,m,i,b,hb=>by simp only[List.mapM_nil,aet,aas]at m;subst m;simp at hb|a::as_,bs,m,i,b,hb=>by simp only[agd,aep,aaw,aet,aas]at m;obtain⟨k,h0,j,h1,rfl⟩:=m;cases i with|zero=>simp only[afZ,aas]at hb;subst hb;exact⟨a,aC,h0⟩|succ i=>simp only[afh]at hb;simpa using Hv h1 i b hb
theorem gP.op(b:gP P nt aq l aB T){i:Nat}{x:bu}(a:l[i]?=some x):∃o,aq[i]?=some o/\nG P nt aq o=some x:=by obtain⟨o,h1,h2⟩:=Hv b.hl i x a;exact⟨o,by rw[<-afi];exact h1,h2⟩
theorem gP.Pq(a:gP P nt aq l aB T){i:Nat}(hi:i∈aB):¬Dl T i:=λ⟨t,b,u,hu,c⟩=>(a.hT t b).bQ u hu (c▸hi)
def Dm(l:List bu)(cC:Array Nat)(c:Option Nat)(seen:List Nat)(e aa:am AV)(H:ai)(i:Nat):Prop:=
 ∃(x:bu)(b ch:List Nat)(ex:am AV),l[i]?=some x/\seen=b++i::ch/\
  (∀t,(∃k∈ch,dH l k t)->ex.get .agx t=aa.get .agx t)/\(∀t,(∀k∈ch,¬dH l k t)->ex.get .agx t=e.get .agx t)/\
  ((dc ex x.guard=false/\iM ex x.guard=true/\∀d,x.dst=some d->aa.get .agx d=.agx)\/
   (dc ex x.guard=true/\∃v,(∀d,x.dst=some d->aa.get .agx d=v)/\
    ((x.op.jC=false/\∀a:ai,aE x.op ex a=some (v,a))\/
    (x.op.gX=true/\(∀j,x.op.target ex=some j->H.get j≠.none/\∀k∈seen,Mk l aa k j->ey cC i k/\c≠some k)/\∀a:ai,(∀j,x.op.target ex=some j->a.get j=H.get j)->aE x.op ex a=some (v,a))\/
    (x.op.jC=true/\∃(nv:jF)(cJ:bO)(j:af),cJ.j7/\v=nv.of j/\H.get j=cJ/\∀a:ai,aE x.op ex a=some (nv.of a.next,a.new cJ)))))
def jg(aa:am AV)(dn:List Lt):List aV:=dn.map λu=>⟨u.k,gv aa u.v,0⟩
structure ft(l:List bu)(T:Option iX)(L:Array Bool)(aa:am AV)(seen:List Nat)(dn:List Lt)(H G:ai):Prop where
 next:G.next=H.next
 nd:dn.Nodup
 none:T=none->dn=[]
 mem:∀t,T=some t->∀u,u∈dn↔u∈t.us/\In L u.u
 sW:(∀t,T=some t->t.i0∉seen)->∀j,G.get j=H.get j
 ri:∀t,T=some t->t.i0∈seen->∃id,aa.get .agx t.t0=.map id/\H.get id=.map [] 0/\(dn≠ []/\G.get id=.dt (jg aa dn)\/dn=[]/\G.get id=.map [] 0)/\∀j,j≠id->G.get j=H.get j
structure Dr(P:Program)(Wr:bS)(nt:Nat)(aq:Array Oper)(l:List bu)(aB:List Nat)(T:Option iX)(ac:Nat->aX)(K:Fr->ai->Prop)(bz:List af)(bB:Option af)(env0:am AV)
  (L:Array Bool)(seen rest:List Nat)(n:Nat)(aa:am AV)(H:ai)(epi:am AV)(pn:List af)(ρ:aQ)(w:World)(tmps:Array Value):Prop where
 dQ:seen.reverse++rest=aB
 size:L.size=aq.size
 sub:∀i,In L i->i∈seen\/Dl T i
 jh:∀i,In L i->∀j,iO aq i j->In L j
 z8:∀i∈seen,Ch l i->In L i
 run:Go.ak.aq False cA ac n (lV l (Region.before aq) (kw T) seen rest++oQ T) ⟨aa,bz,bB⟩ H K
 oZ:∀t,(∀i∈seen,¬dH l i t)->aa.get .agx t=env0.get .agx t
 o0:∀t,(∀i∈seen,¬In L i->¬dH l i t)->epi.get .agx t=aa.get .agx t
 vr:∀t i,i∈seen->¬In L i->dH l i t->epi.get .agx t=env0.get .agx t
 lC:∀j,j∈pn↔∃i∈seen,¬In L i/\Mk l aa i j
 gY:∀i i' j,i∈seen->i'∈seen->Mk l aa i j->Mk l aa i' j->i=i'
 mC:∀i j,i∈seen->Mk l aa i j->j.az<H.next.az/\(j∈pn\/ρ j≠none)
 j7:∀i j,i∈seen->Mk l aa i j->(∀c∈seen,Ch l c->¬ey (Region.before aq) c i)->(H.get j).j7
 bP:∀i∈seen,¬In L i->Dm l (Region.before aq) (kw T) seen env0 aa H i
 di:∀j∈pn,ρ j=none/\¬Wr.un j/\∀k,j∉(H.get k).aM
 E:fW ρ nt epi tmps
 jf:∃dn G,ft l T L aa seen dn H G/\bh P Wr ρ (G.dP pn) w
section
variable{g:bS}{ac:Nat->aX}{K:Fr->ai->Prop}{bz:List af}{bB:Option af}{e:am AV}{L:Array Bool}{seen rest:List Nat}{n:Nat}{aa:am AV}{H:ai}{f:am AV}{h:List af}{ρ:aQ}{w:World}{tmps:Array Value}
theorem xF(a:gP P nt aq l aB T)(b:seen.reverse++rest=aB):seen.Pairwise (λj i=>pP l (Region.before aq) i j=true)/\(∀i∈seen,∀j∈rest,pP l (Region.before aq) i j=true):=by have:=(xE a.dL).1;rw[<-b,List.pairwise_append]at this;exact⟨List.pairwise_reverse.1 this.1,λi hi j hj=>this.2.2 i (aga.2 hi) j hj⟩
theorem kW(a:seen.reverse++rest=aB){i:Nat}(hi:i∈seen):i∈aB:=by rw[<-a];simp[hi]
theorem lY(a:seen.reverse++rest=aB){i:Nat}(hi:i∈rest):i∈aB:=by rw[<-a];simp[hi]
theorem rj(a:gP P nt aq l aB T){i:Nat}(hi:i∈aB):∃x,l[i]?=some x/\pQ x=true:=(xE a.dL).2 i hi
theorem vt(a:gP P nt aq l aB T)(b:seen.reverse++rest=aB){i:Nat}(hi:i∈rest):i∉seen:=by intro hs;obtain⟨x,c,_⟩:=rj a (lY b hi);exact(nS ((xF a b).2 i hs i hi) c c).1 rfl
theorem Hw(c:gP P nt aq l aB T)(d:seen.reverse++rest=aB){a ch:List Nat}{i:Nat}(hs:seen=a++i::ch):(∀k∈ch,pP l (Region.before aq) k i=true)/\(∀k∈a,pP l (Region.before aq) i k=true):=by have:=(xF c d).1;rw[hs,List.pairwise_append,afW]at this;exact⟨λk b=>this.2.1.1 k b,λk b=>this.2.2 k b i (acm ..)⟩
theorem Dr.zR(J:gP P nt aq l aB T)(d:Dr P g nt aq l aB T ac K bz bB e L seen rest n aa H f h ρ w tmps){i:Nat}(hi:¬In L i)(hd:∀j,iO aq i j->In L j){x:bu}{D ch:List Nat}{ex:am AV}(I:l[i]?=some x)(hs:seen=D++i::ch)(h1:∀t,(∃k∈ch,dH l k t)->ex.get .agx t=aa.get .agx t)(h2:∀t,(∀k∈ch,¬dH l k t)->ex.get .agx t=e.get .agx t):∀t∈x.gY,f.get .agx t=ex.get .agx t:=by
 intro t M;have E:=nR d.jh i hd;obtain⟨q,A⟩:=Hw J d.dQ hs;have inj:∀{a b:Nat},a∈seen->b∈seen->dH l a t->dH l b t->a=b:=λO hb=>dH.inj J.dL (kW d.dQ O) (kW d.dQ hb);have dB:i∈seen:=by rw[hs];simp
 by_cases B:∃k∈seen,dH l k t
 .obtain⟨k,o,s⟩:=B;have C:=o;rw[hs,aeu,aer]at C;obtain⟨y,p,r⟩:=s;rcases C with F|rfl|F;·have G:=((nS (A k F) I p).2.2.2.1 t r M).1;have u:¬In L k:=λv=>hi (nR d.jh k (d.jh k v) i G);rw[d.vr t k o u ⟨y,p,r⟩];refine(h2 t λN m c=>?_).symm;have:=inj o (by rw[hs];simp[m]) ⟨y,p,r⟩ c;subst this;exact(nS (q k m) p I).2.1 G
  .rw[d.vr t k o hi ⟨y,p,r⟩];refine(h2 t λN m c=>?_).symm;have:=inj o (by rw[hs];simp[m]) ⟨y,p,r⟩ c;subst this;exact(nS (q k m) p p).1 rfl
  have G:=((nS (q k F) p I).2.2.1 t r).2 M;have v:=E k G;rw[h1 t ⟨k,F,y,p,r⟩];refine d.o0 t λN m u c=>?_;have:=inj o m ⟨y,p,r⟩ c;subst this;exact u v
 have z:∀k∈seen,¬dH l k t:=λk o s=>B ⟨k,o,s⟩;rw[d.o0 t λk o _=>z k o,d.oZ t z];exact(h2 t λk o=>z k (by rw[hs];simp[o])).symm
theorem Dr.Pr(c:gP P nt aq l aB T)(d:Dr P g nt aq l aB T ac K bz bB e L seen rest n aa H f h ρ w tmps){i:Nat}(m:i∈rest)(hd:∀j,iO aq i j->In L j){x:bu}(o:l[i]?=some x):∀t∈x.gY,f.get .agx t=aa.get .agx t:=by intro t p;refine d.o0 t λk q a b=>?_;obtain⟨y,r,s⟩:=b;exact a (nR d.jh i hd k (((nS ((xF c d.dQ).2 k q i m) r o).2.2.1 t s).2 p))
end
theorem Dr.vu(a:gP P nt aq l aB T){g:bS}{ac:Nat->aX}{K:Fr->ai->Prop}{bz:List af}{bB:Option af}{e:am AV}{L:Array Bool}{seen rest:List Nat}{n:Nat}{aa:am AV}{H:ai}{f:am AV}{h:List af}{ρ:aQ}{w:World}{tmps:Array Value}(d:Dr P g nt aq l aB T ac K bz bB e L seen rest n aa H f h ρ w tmps){i:Nat}(hi:i∈aB)(b:In L i):i∈seen:=(d.sub i b).resolve_right (a.Pq hi)
section
variable{L:Array Bool}{aa:am AV}{seen:List Nat}{dn:List Lt}{H G:ai}
theorem ft.Do(c:ft l T L aa seen dn H G)(hd:dn=[]):∀j,G.get j=H.get j:=by
 by_cases hs:∀t,T=some t->t.i0∉seen;·exact c.sW hs
 simp only[Classical.not_forall,afP]at hs;obtain⟨t,a,hs⟩:=hs;obtain⟨id,_,h2,h3,b⟩:=c.ri t a hs;intro j;by_cases d:j=id;·subst d;rw[h2];exact(h3.resolve_left λq=>q.1 hd).2
 exact b j d
theorem ft.cases(c:ft l T L aa seen dn H G):(∀j,G.get j=H.get j)\/∃t id,T=some t/\t.i0∈seen/\aa.get .agx t.t0=.map id/\H.get id=.map [] 0/\G.get id=.dt (jg aa dn)/\∀j,j≠id->G.get j=H.get j:=by
 by_cases hd:dn=[];·exact .inl (c.Do hd)
 by_cases hs:∀t,T=some t->t.i0∉seen;·exact .inl (c.sW hs)
 simp only[Classical.not_forall,afP]at hs;obtain⟨t,a,hs⟩:=hs;obtain⟨id,h1,h2,h3,b⟩:=c.ri t a hs;exact .inr ⟨t,id,a,hs,h1,h2,(h3.resolve_right λq=>hd q.1).2,b⟩
theorem ft.aM(d:ft l T L aa seen dn H G){i j:af}(hi:i∈(G.get j).aM):i∈(H.get j).aM:=by
 rcases d.cases with c|⟨t,id,_,_,_,_,a,b⟩;·rwa[c]at hi
 by_cases c:j=id;·subst c;rw[a]at hi;cases hi
 rwa[b j c]at hi
theorem ft.ne(i:ft l T L aa seen dn H G)(j:af):G.get j=.none↔H.get j=.none:=by
 rcases i.cases with d|⟨t,id,_,_,_,a,b,c⟩;·rw[d]
 by_cases d:j=id;·subst d;rw[a,b];simp
 rw[c j d]
theorem ft.vi(k:ft l T L aa seen dn H G){j:af}(a:(H.get j).j7):(G.get j).vi:=by
 rcases k.cases with i|⟨t,id,_,_,_,d,b,c⟩;·rw[i];exact sU a
 by_cases i:j=id;·subst i;rw[b];exact⟨rfl,rfl,aC⟩
 rw[c j i];exact sU a
theorem ft.bL(p:ft l T L aa seen dn H G)(a:gP P nt aq l aB T){j:af}(hj:∀t,T=some t->t.i0∈seen->¬Mk l aa t.i0 j):G.get j=H.get j:=by
 rcases p.cases with o|⟨t,id,h1,h2,h3,k,m,b⟩;·exact o j
 refine b j λo=>hj t h1 h2 ?_;obtain⟨x,c,d,_,i⟩:=(a.hT t h1).qh;exact⟨x,t.t0,c,by rw[d];rfl,i,by rw[h3,o];rfl⟩
theorem ft.Dp(i:ft l T L aa seen dn H G){j:af}(hj:∀t,T=some t->t.i0∈seen->aa.get .agx t.t0≠.map j):G.get j=H.get j:=by
 rcases i.cases with d|⟨t,id,h1,h2,h3,b,c,a⟩;·exact d j
 exact a j λd=>hj t h1 h2 (by rw[h3,d])
theorem ft.Dq(d:ft l T L aa seen dn H G){i j:af}(hi:i∈(H.get j).aM):i∈(G.get j).aM:=by
 rcases d.cases with c|⟨t,id,_,_,_,a,_,b⟩;·rwa[c]
 by_cases c:j=id;·subst c;rw[a]at hi;cases hi
 rwa[b j c]
theorem ft.nil(p:ft l T L aa seen dn H G)(c:gP P nt aq l aB T)(a:∀i,In L i->∀j,iO aq i j->In L j){t:iX}(b:T=some t)(d:¬In L t.i0):dn=[]:=by cases dn with|nil=>rfl|cons o r=>exfalso;obtain⟨h1,h2⟩:=(p.mem t b o).1 (acm ..);have hT:=c.hT t b;obtain⟨x,k,_,_,m⟩:=hT.qh;exact d (nR a o.u (a o.u h2) t.i0 (hT.cC o h1 t.i0 hT.i0 t.t0 ⟨x,k,m⟩ (acm ..)))
theorem ft.gv(x:ft l T L aa seen dn H G)(q:gP P nt aq l aB T)(c:∀i,In L i->∀j,iO aq i j->In L j){t:iX}(m:T=some t){env':am AV}(hs:∀b,(∀k,k∈aB->In L k->dH l k b->env'.get .agx b=aa.get .agx b)/\((∀k∈aB,¬dH l k b)->env'.get .agx b=aa.get .agx b)):jg env' dn=jg aa dn:=by
 have hT:=q.hT t m;refine afK λs hu=>?_;obtain⟨h1,h2⟩:=(x.mem t m s).1 hu;rw[ip (aa:=env') (env':=aa) (x:=s.v) λp r=>?_];by_cases o:∃k∈aB,dH l k p;·obtain⟨k,d,a⟩:=o;exact(hs p).1 k d (nR c s.u (c s.u h2) k (hT.cC s h1 k d p a (aen _ r))) a
 exact(hs p).2 λk d a=>o ⟨k,d,a⟩
theorem ft.bj(d:ft l T L aa seen dn H G)(c:gP P nt aq l aB T){i:Nat}(hi:i∈aB)(a:i<L.size):ft l T (L.setIfInBounds i true) aa seen dn H G:=⟨d.next,d.nd,d.none,λt b u=>by rw[d.mem t b u];refine and_congr_right λhu=>?_;rw[vm a];exact⟨.inr,λq=>q.resolve_left λj=>(c.hT t b).bQ u hu (j▸hi)⟩,d.sW,d.ri⟩
theorem ft.step(V:ft l T L aa seen dn H G)(p:gP P nt aq l aB T)(y:∀i,In L i->∀j,iO aq i j->In L j){i:Nat}(hi:i∈aB)(z:¬In L i){x:bu}(E:l[i]?=some x)(h0:∀t,T=some t->t.i0≠i){v:AV}{q r:ai}(F:r.next=q.next)(hs:∀j,(∀t,T=some t->t.i0∈seen->aa.get .agx t.t0≠.map j)->r.get j=q.get j)(s:∀t id,T=some t->t.i0∈seen->aa.get .agx t.t0=.map id->q.get id=H.get id/\r.get id=G.get id):ft l T L (aO aa x.dst v) (i::seen) dn q r:=by
 have c:∀t,x.dst=some t->dH l i t:=λt S=>⟨x,E,S⟩;have d:∀t,T=some t->t.i0∈i::seen->t.i0∈seen:=λt a m=>(aer.1 m).resolve_left (h0 t a);have A:∀t,T=some t->jg (aO aa x.dst v) dn=jg aa dn:=λt a=>V.gv p y a λu=>by
  refine⟨λk s B C=>?_,λD=>?_⟩;·rw[lB,ap λS=>z (dH.inj p.dL s hi C (c u S)▸B)]
  rw[lB,ap λS=>D i hi (c u S)]
 refine⟨F,V.nd,V.none,V.mem,λI j=>hs j λt a m=>absurd (aen _ m) (I t a),λt a m=>?_⟩;have o:=d t a m;obtain⟨id,h1,h2,h3,R⟩:=V.ri t a o;obtain⟨J,K⟩:=s t id a o h1;have hT:=p.hT t a;obtain⟨M,N,_,_,O⟩:=hT.qh;refine⟨id,?_,by rw[J,h2],by rw[K,A t a];exact h3,λj hj=>hs j λu b Q=>?_⟩;·rw[lB,ap λS=>h0 t a (dH.inj p.dL hT.i0 hi ⟨M,N,O⟩ (c _ S)),h1]
 rw[a]at b;injection b with b;subst b;rw[h1];intro S;injection S with S;exact hj S.symm
end
theorem Aa{o:Oper}{x:bu}(c:nG P nt aq o=some x){aa:am AV}{H:ai}{r:AV×ai}(a:aE x.op aa H=some r):bG P nt o=some x.op:=by
 obtain⟨_,_,_,b,_⟩:=vc c;rw[b]at a;rw[b];split at a;·simp[aE]at a
 rename_i d;rw[ap d];cases i:bG P nt o with|none=>rw[i]at a;simp[aE]at a|some q=>rfl
theorem xG{o:Oper}{op:bC}{i:Nat}{is:List Nat}{b:Frame}{a:Act}{k:List Item}{cs:List Frame}{w q:World}{c:Value}(j:aq[i]?=some o)(s:bG P nt o=some op)(hg:Region.wanted o (yielded aq a.tmps)=true)(m:(execOp a.eval o).run P w=.ok (.value c) q\/((execOp a.eval o).run P w=.ok .skip q/\c=undef)):Steps P (lone (b.atR a (.inRegion aq (i::is)::k)) cs w) (lone (b.atR (a.put o.dst c) (.inRegion aq is::k)) cs q):=by
 have p:(b.atR a (.inRegion aq (i::is)::k)).finish c=b.atR (a.put o.dst c) (.inRegion aq is::k):=by rw[Frame.finish_atR,j];rfl
 have d:=stepGR_op (P:=P) (b:=b) (a:=a) (k:=k) (cs:=cs) (w:=w) (rest:=is) j hg;rw[Oper.semAt_eq _ _ _ (xB s)]at d;refine .one (step_lone_go ?_);rw[d,<-p];rcases m with r|⟨r,rfl⟩;·exact C9 r
 exact C' r
theorem Hy{o:Oper}{i:Nat}{is:List Nat}{b:Frame}{a:Act}{k:List Item}{cs:List Frame}{w:World}(c:aq[i]?=some o)(hg:Region.wanted o (yielded aq a.tmps)=false):Steps P (lone (b.atR a (.inRegion aq (i::is)::k)) cs w) (lone (b.atR (a.put o.dst undef) (.inRegion aq is::k)) cs w):=by have cz:=stepR_op_skip (P:=P) (b:=b) (a:=a) (k:=k) (cs:=cs) (w:=w) (ops:=aq) (i:=i) (rest:=is) (by simp[c,hg]);rw[c]at cz;exact .one cz
theorem Ds{ρ:aQ}{aa:am AV}{tmps:Array Value}(c:fW ρ nt aa tmps){o:Oper}{x:bu}(b:nG P nt aq o=some x)(a:iM aa x.guard=true):Region.wanted o (yielded aq tmps)=dc aa x.guard:=He (a:=⟨tmps,[]⟩) (fr:=⟨aa,[],none⟩) (ro:=none) ⟨c,trivial,trivial⟩ b a
theorem xJ(a:Act)(d:Option Tmp)(c:Value):(a.put d c).defers=a.defers:=by cases d<;>rfl
theorem fW.put{ρ:aQ}{aa:am AV}{a:Act}(i:fW ρ nt aa a.tmps){v:AV}{c:Value}(b:VR ρ v c)(d:Option Tmp):fW ρ nt (aO aa (d.map af.cq) v) (a.put d c).tmps:=by cases d with|none=>exact i|some d=>exact i.set b
end
section
variable{P:Program}{nt:Nat}{aq:Array Oper}{l:List bu}{aB:List Nat}{T:Option iX}
variable{e:bS}{ac:Nat->aX}{K:Fr->ai->Prop}{bz:List af}{bB:Option af}{f:am AV}{L:Array Bool}{seen rest:List Nat}{n:Nat}{aa:am AV}{H:ai}{d:am AV}{c:List af}{ρ:aQ}{w:World}{tmps:Array Value}
theorem Dr.mark(D:gP P nt aq l aB T)(V:Dr P e nt aq l aB T ac K bz bB f L seen rest n aa H d c ρ w tmps){i:Nat}(dB:i∈seen)(z:i<aq.size)(B:∀j,iO aq i j->In L j){g:am AV}{r:List af}{m:aQ}{E:World}{q:Array Value}(C:bR ρ m)(o:∀t,(dH l i t->g.get .agx t=aa.get .agx t)/\(¬dH l i t->g.get .agx t=d.get .agx t))(s:∀j,j∈r↔j∈c/\¬Mk l aa i j)(u:∀j,Mk l aa i j->m j≠none)(v:∀j∈r,m j=none)(I:fW m nt g q){dn:List Lt}{G:ai}(J:ft l T L aa seen dn H G)(M:bh P e m (G.dP r) E):Dr P e nt aq l aB T ac K bz bB f (L.setIfInBounds i true) seen rest n aa H g r m E q:=by
 have b:∀j,In (L.setIfInBounds i true) j↔j=i\/In L j:=vm (by rw[V.size];exact z);have p:∀j,¬In (L.setIfInBounds i true) j->j≠i/\¬In L j:=λj hj=>⟨λW=>hj ((b j).2 (.inl W)),λW=>hj ((b j).2 (.inr W))⟩;refine⟨V.dQ,by rw[Array.size_setIfInBounds];exact V.size,?_,?_,λk a N=>(b k).2 (.inr (V.z8 k a N)),V.run,V.oZ,?_,?_,?_,V.gY,?_,V.j7,λk a y=>V.bP k a (p k y).2,?_,I,dn,G,J.bj D (kW V.dQ dB) (by rw[V.size];exact z),M⟩
 .intro j hj;rcases(b j).1 hj with W|W;·rw[W];exact .inl dB
  exact V.sub j W
 .intro j hj k a;rcases(b j).1 hj with W|W;·rw[W]at a;exact(b k).2 (.inr (B k a))
  exact(b k).2 (.inr (V.jh j W k a))
 .intro t O;by_cases hd:dH l i t;·exact(o t).1 hd
  rw[(o t).2 hd];refine V.o0 t λk a y=>?_;by_cases W:k=i;·rw[W];exact hd
  exact O k a λh=>(b k).1 h|>.elim W y
 .intro t k a y A;obtain⟨h1,h2⟩:=p k y;rw[(o t).2 λhd=>h1 (dH.inj D.dL (kW V.dQ a) (kW V.dQ dB) A hd)];exact V.vr t k a h2 A
 .intro j;rw[s,V.lC];constructor;·rintro⟨⟨k,a,h1,h2⟩,h3⟩;exact⟨k,a,λh=>(b k).1 h|>.elim (λW=>h3 (W▸h2)) h1,h2⟩
  rintro⟨k,a,h1,h2⟩;obtain⟨Q,R⟩:=p k h1;exact⟨⟨k,a,R,h2⟩,λh3=>Q (V.gY k i j a dB h2 h3)⟩
 .intro k j a S;obtain⟨h1,h2⟩:=V.mC k j a S;refine⟨h1,?_⟩;rcases h2 with h2|h2
  .by_cases hi:Mk l aa i j;·exact .inr (u j hi)
   exact .inl ((s j).2 ⟨h2,hi⟩)
  right;intro W;cases F:ρ j with|none=>exact h2 F|some x=>rw[(C _ _ F).1]at W;cases W
 intro j hj;exact⟨v j hj,(V.di j ((s j).1 hj).1).2⟩
theorem jF.Pt{n:jF}{i:af}{m:Value}(h:VR ρ (n.of i) m):ρ i≠none:=by
 cases n with
 |aD=>obtain⟨b,x,k,_⟩:=VR.kT h;rw[k];simp
 |slice a b k=>
  simp only[jF.of]at h;cases m with
  |slice ad g j=>cases ad with|none=>simp[VR]at h|some ad=>simp only[VR]at h;obtain⟨_,_,_,_,b,x,k,_⟩:=h;rw[k];simp
  |_=>simp[VR]at h
 |map=>obtain⟨b,k,_⟩:=VR.ly h;rw[k];simp
theorem ji(H:ai)(c:List af)(j:af):(H.dP c).get j=if j∈c then .none else H.get j:=ai.sM c H j
theorem Dr.Pu(hR:gP P nt aq l aB T)(cv:Dr P e nt aq l aB T ac K bz bB f L seen rest n aa H d c ρ w tmps){i:Nat}(dB:i∈seen)(hi:¬In L i)(z:∀j,iO aq i j->In L j){b:Frame}{a:Act}(ha:a.tmps=tmps)(is:List Nat)(k:List Item)(cs:List Frame):∃(r:aQ)(O:World)(a':Act)(W:am AV)(I:List af),bR ρ r/\cW e w O/\a'.defers=a.defers/\Steps P (lone (b.atR a (.inRegion aq (i::is)::k)) cs w) (lone (b.atR a' (.inRegion aq is::k)) cs O)/\Dr P e nt aq l aB T ac K bz bB f (L.setIfInBounds i true) seen rest n aa H W I r O a'.tmps:=by
 subst ha;obtain⟨x,cn,ch,ex,hx,hs,h1,h2,s⟩:=cv.bP i dB hi;obtain⟨dn,G,hG,A⟩:=cv.jf;obtain⟨o,S,ay⟩:=hR.op hx;obtain⟨xd,_⟩:=vc ay;have ba:i<aq.size:=by
  rcases afg i aq.size with q|q;·exact q
  rw[ae3 q]at S;cases S
 have bb:=cv.zR hR hi z hx hs h1 h2;have cd:iM ex x.guard=true:=by
  rcases s with⟨_,h,_⟩|⟨h,_⟩;·exact h
  exact De h
 have bd:Region.wanted o (yielded aq a.tmps)=dc ex x.guard:=by rw[Ds cv.E ay (by rw[Hu bb];exact cd)];exact Dk bb
 have X:∀H',aE x.op d H'=aE x.op ex H':=λH'=>Dh (λp hp=>bb p (vq hp)) H';have Y:∀{v:AV},(∀t,x.dst=some t->aa.get .agx t=v)->∀t,(dH l i t->(aO d x.dst v).get .agx t=aa.get .agx t)/\(¬dH l i t->(aO d x.dst v).get .agx t=d.get .agx t):=by
  intro v Q t;rw[lB];refine⟨λ⟨y,R,dy⟩=>?_,λhn=>?_⟩;·rw[hx]at R;injection R with R;subst R;rw[aH dy,Q t dy]
  rw[ap λcx=>hn ⟨x,hx,cx⟩]
 have N:∀j,Mk l aa i j->x.op.jC=true/\∃t,x.dst=some t/\fj (aa.get .agx t)=some j:=by rintro j⟨y,t,R,g1,g2,g3⟩;rw[hx]at R;injection R with R;subst R;exact⟨g1,t,g2,g3⟩
 have J:∀j∈c,j.az<H.next.az:=λj hj=>by obtain⟨k',bv,_,D⟩:=(cv.lC j).1 hj;exact(cv.mC k' j bv D).1
 have Z:∀j∈c,∀k,j∉((G.dP c).get k).aM:=λj hj k hk=>by
  rw[ji]at hk;split at hk;·cases hk
  exact(cv.di j hj).2.2 k (hG.aM hk)
 have M:(G.dP c).next=H.next:=by rw[ai.io,hG.next]
 have av:∀{v:AV},x.op.jC=false->aE x.op d (G.dP c)=some (v,G.dP c)->(∀t,x.dst=some t->aa.get .agx t=v)->dc ex x.guard=true->∃(r:aQ)(O:World)(a':Act)(W:am AV)(I:List af),bR ρ r/\cW e w O/\a'.defers=a.defers/\Steps P (lone (b.atR a (.inRegion aq (i::is)::k)) cs w) (lone (b.atR a' (.inRegion aq is::k)) cs O)/\Dr P e nt aq l aB T ac K bz bB f (L.setIfInBounds i true) seen rest n aa H W I r O a'.tmps:=by intro v D u Q hg;have b0:=A.iN (hl:=λ_=>False) (dd:=λj=>j∈c) (λ_ h=>h.elim) (λj hj=>⟨by rw[ji,aH hj],(cv.di j hj).1,by rw[M];exact J j hj,Z j hj⟩) rfl (λ_=>.inl rfl) (λ_ h=>h.elim);have B:=Aa ay u;obtain⟨cy,O,ag,r,m,a1,V,hK⟩:=uY (cO.mk cv.E b0) B u;obtain⟨u1,u2⟩:=A.zZ (hl:=λ_=>False) (λ_ h=>h.elim) m V hK (H2:=G.dP c) rfl (λ_ h=>h.elim) (λ_ _=>rfl);refine⟨r,O,a.put o.dst cy,aO d x.dst v,c,m,u2,xJ ..,xG S B (by rw[bd];exact hg) ag,?_⟩;refine cv.mark hR dB ba z m (Y Q) (λj=>⟨λhj=>⟨hj,λh=>by rw[D]at N;have:=(N j h).1;cases this⟩,λhj=>hj.1⟩) (λj h=>by rw[D]at N;have:=(N j h).1;cases this) (λj hj=>(V.di j (.inr hj)).2) ?_ hG u1;rw[xd];exact(cv.E.mono m).put a1 o.dst
 rcases s with⟨hg,_,Q⟩|⟨hg,v,Q,s⟩
 .refine⟨ρ,w,a.put o.dst undef,aO d x.dst .agx,c,bR.refl ρ,cW.refl e w,xJ ..,Hy S (by rw[bd];exact hg),?_⟩;have b6:∀j,¬Mk l aa i j:=λj h=>by obtain⟨_,t,g1,g2⟩:=N j h;rw[Q t g1]at g2;simp[AV.agx,fj]at g2
  refine cv.mark hR dB ba z (bR.refl ρ) (Y Q) (λj=>⟨λhj=>⟨hj,b6 j⟩,λhj=>hj.1⟩) (λj h=>absurd h (b6 j)) (λj hj=>(cv.di j hj).1) ?_ hG A;rw[xd];exact cv.E.put (VR.agx ρ) o.dst
 rcases s with⟨D,u⟩|⟨hr,b7,u⟩|⟨D,nv,cJ,F,R,rfl,b',u⟩;·exact av (v:=v) D (by rw[X];exact u (G.dP c)) Q hg
 .refine av (v:=v) (qf hr).2.1 ?_ Q hg;rw[X];refine u (G.dP c) λj hj=>?_;rw[ji,ap];·exact hG.bL hR λt ht D C=>((b7 j hj).2 t.i0 D C).2 (by rw[ht];rfl)
  intro cf;obtain⟨k',bv,hn,C⟩:=(cv.lC j).1 cf;exact hn (nR cv.jh i z k' ((b7 j hj).2 k' bv C).1)
 obtain⟨x',a2,ca⟩:=rj hR (kW cv.dQ dB);rw[hx]at a2;injection a2 with a2;subst a2;obtain⟨t0,b3⟩:∃t,x.dst=some t:=by cases hd:x.dst with|some t=>exact⟨t,rfl⟩|none=>simp[pQ,hd,(vn D).1,(vn D).2.2]at ca
 have aw:fj (aa.get .agx t0)=some F:=by rw[Q t0 b3];exact jF.name nv F
 have b4:Mk l aa i F:=⟨x,t0,hx,D,b3,aw⟩;have ax:∀j,Mk l aa i j->j=F:=by intro j h;obtain⟨_,t,g1,g2⟩:=N j h;rw[b3]at g1;injection g1 with g1;subst g1;rw[aw]at g2;injection g2 with g2;exact g2.symm
 have a6:F∈c:=(cv.lC F).2 ⟨i,dB,hi,b4⟩;have g:∀j,j∈c.filter (λj=>decide (j≠F))↔j∈c/\j≠F:=λj=>by simp
 generalize cp:c.filter (λj=>decide (j≠F))=I at g;have b0:=A.iN (hl:=λ_=>False) (dd:=λj=>j∈I) (λ_ h=>h.elim) (λj hj=>⟨by rw[ji,aH ((g j).1 hj).1],(cv.di j ((g j).1 hj).1).1,by rw[M];exact J j ((g j).1 hj).1,Z j ((g j).1 hj).1⟩) rfl (λ_=>.inl rfl) (λ_ h=>h.elim);have a8:∀H':ai,aE x.op d H'=some (nv.of H'.next,H'.new cJ):=λH'=>by rw[X];exact u H'
 have B:=Aa ay (a8 H);obtain⟨cy,O,ag,r,m,a1,V,hK⟩:=Pf b0 cv.E B R a8 (cv.di F a6).1 (by rw[M];exact J F a6) (by
  rintro(h|h|h);·exact(cv.di F a6).2.1 h
  .exact h
  exact((g F).1 h).2 rfl) (Z F a6);obtain⟨u1,u2⟩:=A.zZ (hl:=λ_=>False) (λ_ h=>h.elim) m V hK (H2:=G.dP I) (by rw[ai.io,ai.eI,ai.io]) (λ_ h=>h.elim) (λj _=>by
  rw[ji,ai.aJ,ji];by_cases cx:j=F
  .subst cx;rw[ap λh=>((g j).1 h).2 rfl,aH rfl,<-b'];by_cases hl:∃t,T=some t/\t.i0=i;·obtain⟨t,ht,rfl⟩:=hl;exact hG.Do (hG.nil hR cv.jh ht hi) j
   exact hG.bL hR λt ht D C=>hl ⟨t,ht,cv.gY _ _ _ D dB C b4⟩
  by_cases e':j∈c;·rw[aH ((g j).2 ⟨e',cx⟩),ap cx,aH e']
  rw[ap λh=>e' ((g j).1 h).1,ap cx,ap e']);refine⟨r,O,a.put o.dst cy,aO d x.dst (nv.of F),I,m,u2,xJ ..,xG S B (by rw[bd];exact hg) ag,?_⟩;refine cv.mark hR dB ba z m (Y Q) (λj=>?_) (λj h=>?_) (λj hj=>(V.di j (.inr hj)).2) ?_ hG u1;·rw[g];exact⟨λh=>⟨h.1,λD=>h.2 (ax j D)⟩,λh=>⟨h.1,λcx=>h.2 (cx▸b4)⟩⟩
 .rw[ax j h];exact jF.Pt a1
 rw[xd];exact(cv.E.mono m).put a1 o.dst
end
section
variable{P:Program}{nt:Nat}{aq:Array Oper}{l:List bu}{aB:List Nat}{T:Option iX}
variable{e:bS}{ac:Nat->aX}{K:Fr->ai->Prop}{bz:List af}{bB:Option af}{f:am AV}{L:Array Bool}{seen rest:List Nat}{n:Nat}{aa:am AV}{H:ai}{d:am AV}{c:List af}{ρ:aQ}{w:World}{tmps:Array Value}
theorem Mk.Dt{aa a:am AV}{i:Nat}{j:af}(h:∀t,dH l i t->a.get .agx t=aa.get .agx t):Mk l a i j↔Mk l aa i j:=by
 constructor;·rintro⟨x,t,b,h1,h2,h3⟩;exact⟨x,t,b,h1,h2,by rw[<-h t ⟨x,b,h2⟩];exact h3⟩
 rintro⟨x,t,b,h1,h2,h3⟩;exact⟨x,t,b,h1,h2,by rw[h t ⟨x,b,h2⟩];exact h3⟩
theorem Pv(q:gP P nt aq l aB T){B:Nat}{rest:List Nat}(r:seen.reverse++B::rest=aB){a ex:am AV}{i:Nat}{y:bu}{p ch:List Nat}(s:l[i]?=some y)(o:y.op.gX=true)(hs:seen=p++i::ch)(h1:∀t,(∃k∈ch,dH l k t)->ex.get .agx t=a.get .agx t)(h2:∀t,(∀k∈ch,¬dH l k t)->ex.get .agx t=f.get .agx t)(h0:∀t,(∀k∈B::seen,¬dH l k t)->a.get .agx t=f.get .agx t):∀t∈y.gY,a.get .agx t=ex.get .agx t:=by
 intro t u;by_cases v:∃k∈ch,dH l k t;·exact(h1 t v).symm
 rw[h2 t λk b j=>v ⟨k,b,j⟩];refine h0 t λk b j=>?_;obtain⟨z,m,x⟩:=j;have dB:i∈seen:=by rw[hs];simp
 have after:pP l (Region.before aq) i k=true->False:=λdL=>by have:=((nS dL s m).2.2.2.1 t x u).2;rw[o]at this;cases this
 rcases aer.1 b with rfl|b;·exact after ((xF q r).2 i dB k (acm ..))
 rw[hs,aeu,aer]at b;rcases b with b|rfl|b;·exact after ((Hw q r hs).2 k b)
 .obtain⟨A,g,h⟩:=rj q (kW r dB);rw[s]at g;injection g with g;subst g;rw[s]at m;injection m with m;subst m;have:y.gY.contains t=true:=by simpa using u
  simp[pQ,(qf o).1,(qf o).2.2,(qf o).2.1,x,o,this]at h;exact h u
 exact v ⟨k,b,z,m,x⟩
theorem Dr.Hz(hR:gP P nt aq l aB T){cy:Nat}(cR:Dr P e nt aq l aB T ac K bz bB f L seen (cy::rest) n aa H d c ρ w tmps){x:bu}(hx:l[cy]?=some x)(a6:x.op.fO=true)(ag:∀j,iO aq cy j->In L j){v:AV}{H2:ai}{n':Nat}{I:aQ}{w':World}{R:Array Value}(b3:bR ρ I)(ha:∀j k,k∈seen->¬ey (Region.before aq) cy k->Mk l aa k j->H2.get j=H.get j){dn:List Lt}{G2:ai}(hG:ft l T L (aO aa x.dst v) (cy::seen) dn H2 G2)(hI:bh P e I (G2.dP c) w')(S:∀j∈c,I j=none/\∀k,j∉(H2.get k).aM)(b4:∀j k,k∈seen->Mk l aa k j->j.az<H2.next.az)(ca:∀i∈seen,¬In L i->∀y,l[i]?=some y->y.op.gX=true->dc (aO aa x.dst v) y.guard=true->∀t,y.dst=some t->(∀j,H2.get j=H.get j)\/∃H1,aE y.op (aO aa x.dst v) H2=some ((aO aa x.dst v).get .agx t,H1))(hE:fW I nt (aO d x.dst v) R)(b6:Go.ak.aq False cA ac n' (lV l (Region.before aq) (kw T) (cy::seen) rest++oQ T) ⟨aO aa x.dst v,bz,bB⟩ H2 K):Dr P e nt aq l aB T ac K bz bB f (L.setIfInBounds cy true) (cy::seen) rest n' (aO aa x.dst v) H2 (aO d x.dst v) c I w' R:=by
 obtain⟨o,a8,cv⟩:=hR.op hx;have a':cy<aq.size:=by
  rcases afg cy aq.size with q|q;·exact q
  rw[ae3 q]at a8;cases a8
 have b:∀j,In (L.setIfInBounds cy true) j↔j=cy\/In L j:=vm (by rw[cR.size];exact a');have N:∀j,¬In (L.setIfInBounds cy true) j->j≠cy/\¬In L j:=λj hj=>⟨λcx=>hj ((b j).2 (.inl cx)),λcx=>hj ((b j).2 (.inr cx))⟩;have ay:cy∈cy::rest:=acm .. ;have Z:cy∉seen:=vt hR cR.dQ ay;have ba:∀t,dH l cy t↔x.dst=some t:=λt=>⟨λ⟨y,r,dy⟩=>by rw[hx]at r;injection r with r;subst r;exact dy,λh=>⟨x,hx,h⟩⟩;have E:∀i t,i∈seen->dH l i t->x.dst≠some t:=λi t hi hd cx=>Z (dH.inj hR.dL (kW cR.dQ hi) (lY cR.dQ ay) hd ((ba t).2 cx)▸hi);have s:∀t,x.dst≠some t->(aO aa x.dst v).get .agx t=aa.get .agx t:=λt h=>by rw[lB,ap h]
 have av:∀t,x.dst≠some t->(aO d x.dst v).get .agx t=d.get .agx t:=λt h=>by rw[lB,ap h]
 have A:∀i j,i∈cy::seen->(Mk l (aO aa x.dst v) i j↔i∈seen/\Mk l aa i j):=by
  intro i j hi;rcases aer.1 hi with cx|cx;·subst cx;refine⟨λh=>?_,λh=>absurd h.1 Z⟩;obtain⟨y,t,r,G,_⟩:=h;rw[hx]at r;injection r with r;subst r;rw[(Po a6).1]at G;cases G
  rw[Mk.Dt λt C=>s t (E i t cx C)];exact⟨λh=>⟨cx,h⟩,λh=>h.2⟩
 have h0:∀t,(∀k∈cy::seen,¬dH l k t)->(aO aa x.dst v).get .agx t=f.get .agx t:=by intro t C;rw[s t λcx=>C cy (acm ..) ((ba t).2 cx)];exact cR.oZ t λk a=>C k (aen _ a)
 refine⟨by rw[<-cR.dQ];simp,by rw[Array.size_setIfInBounds];exact cR.size,?_,?_,?_,b6,h0,?_,?_,?_,?_,?_,?_,?_,?_,hE,dn,G2,hG.bj hR (lY cR.dQ ay) (by rw[cR.size];exact a'),hI⟩
 .intro j hj;rcases(b j).1 hj with cx|cx;·rw[cx];exact .inl (acm ..)
  exact(cR.sub j cx).imp (aen _) id
 .intro j hj k a;rcases(b j).1 hj with cx|cx;·rw[cx]at a;exact(b k).2 (.inr (ag k a))
  exact(b k).2 (.inr (cR.jh j cx k a))
 .intro j hj hc;rcases aer.1 hj with cx|cx;·exact(b j).2 (.inl cx)
  exact(b j).2 (.inr (cR.z8 j cx hc))
 .intro t C;by_cases cx:x.dst=some t;·rw[lB,lB,aH cx,aH cx]
  rw[av t cx,s t cx];refine cR.o0 t λk a hn=>C k (aen _ a) λh=>?_;rcases(b k).1 h with e'|e';·exact Z (e'▸a)
  exact hn e'
 .intro t k a hn J;obtain⟨F,D⟩:=N k hn;have bb:k∈seen:=(aer.1 a).resolve_left F;rw[av t (E k t bb J)];exact cR.vr t k bb D J
 .intro j;rw[cR.lC];constructor;·rintro⟨k,a,F,D⟩;exact⟨k,aen _ a,λh=>(b k).1 h|>.elim (λcx=>Z (cx▸a)) F,(A k j (aen _ a)).2 ⟨a,D⟩⟩
  rintro⟨k,a,F,D⟩;obtain⟨g3,g4⟩:=(A k j a).1 D;exact⟨k,g3,(N k F).2,g4⟩
 .intro i i' j hi cd F D;obtain⟨X,Y⟩:=(A i j hi).1 F;obtain⟨b1,b2⟩:=(A i' j cd).1 D;exact cR.gY i i' j X b1 Y b2
 .intro i j hi F;obtain⟨X,Y⟩:=(A i j hi).1 F;refine⟨b4 j i X Y,?_⟩;rcases(cR.mC i j X Y).2 with g|g;·exact .inl g
  right;intro cx;cases W:ρ j with|none=>exact g W|some z=>rw[(b3 _ _ W).1]at cx;cases cx
 .intro i j hi F D;obtain⟨X,Y⟩:=(A i j hi).1 F;rw[ha j i X (D cy (acm ..) ⟨x,hx,a6⟩) Y];exact cR.j7 i j X Y λk a=>D k (aen _ a)
 .intro i hi hn;obtain⟨F,D⟩:=N i hn;have dB:i∈seen:=(aer.1 hi).resolve_left F;obtain⟨y,b7,ch,ex,r,hs,h1,h2,B⟩:=cR.bP i dB D;have bd:∀t,(∃k∈ch,dH l k t)->ex.get .agx t=(aO aa x.dst v).get .agx t:=by rintro t⟨k,a,J⟩;rw[s t (E k t (by rw[hs];simp[a]) J)];exact h1 t ⟨k,a,J⟩
  have O:∀t,y.dst=some t->(aO aa x.dst v).get .agx t=aa.get .agx t:=λt C=>s t (E i t dB ⟨y,r,C⟩);refine⟨y,cy::b7,ch,ex,r,by rw[hs];rfl,bd,h2,?_⟩;rcases B with⟨hg,cf,hv⟩|⟨hg,u,hv,B⟩;·exact .inl ⟨hg,cf,λt C=>by rw[O t C];exact hv t C⟩
  refine .inr ⟨hg,u,λt C=>by rw[O t C];exact hv t C,?_⟩;rcases B with⟨G,M⟩|⟨W,a1,M⟩|⟨G,nv,cJ,j0,cn,bv,b',M⟩;·exact .inl ⟨G,M⟩
  .have b0:=Pv hR cR.dQ r W hs bd h2 h0;obtain⟨y',m,Q⟩:=rj hR (kW cR.dQ dB);rw[r]at m;injection m with m;subst m;obtain⟨t0,a2⟩:∃t,y.dst=some t:=by cases hd:y.dst with|some t=>exact⟨t,rfl⟩|none=>simp[pQ,hd,(qf W).1,(qf W).2.2]at Q
   right;left;have aw:∀j,(∀k∈seen,Mk l aa k j->ey (Region.before aq) i k/\kw T≠some k)->∀k∈cy::seen,Mk l (aO aa x.dst v) k j->ey (Region.before aq) i k/\kw T≠some k:=λj h k a G=>by obtain⟨X,Y⟩:=(A k j a).1 G;exact h k X Y
   rcases ca i dB D y r W (by rw[Dk b0];exact hg) t0 a2 with V|⟨H1,ax⟩;·exact⟨W,λj hj=>⟨by rw[V];exact(a1 j hj).1,aw j (a1 j hj).2⟩,λH' cp=>M H' λj hj=>by rw[cp j hj,V]⟩
   rw[O t0 a2,hv t0 a2,Dh (λp hp=>b0 p (vq hp))]at ax;obtain⟨_,q2,q3⟩:=Hl W ax;exact⟨W,λj hj=>⟨q2 j hj,aw j (a1 j hj).2⟩,q3⟩
  right;right;refine⟨G,nv,cJ,j0,cn,bv,?_,M⟩;rw[ha j0 i dB (λhA=>D (nR cR.jh cy ag i hA)) ?_];·exact b'
  obtain⟨y',m,Q⟩:=rj hR (kW cR.dQ dB);rw[r]at m;injection m with m;subst m;cases hd:y.dst with|some t=>exact⟨y,t,r,G,hd,by rw[hv t hd,bv];exact jF.name nv j0⟩|none=>simp[pQ,hd,(vn G).1,(vn G).2.2]at Q
 intro j hj;exact⟨(S j hj).1,(cR.di j hj).2.1,(S j hj).2⟩
theorem Dr.Pw(hR:gP P nt aq l aB T)(b6:∀m,m<n->oW P ac m){ec:Nat}(ea:Dr P e nt aq l aB T ac K bz bB f L seen (ec::rest) n aa H d c ρ w tmps)(ds:Ch l ec)(O:∀j,iO aq ec j->In L j){b:Frame}{a:Act}(hat:a.tmps=tmps)(is:List Nat)(k:List Item)(cs:List Frame):∃(C:aQ)(w':World)(bb:Act)(n':Nat)(env':am AV)(H':ai)(ay:am AV)(bd:List af),n'<=n/\bR ρ C/\cW e w w'/\bb.defers=a.defers/\Steps P (lone (b.atR a (.inRegion aq (ec::is)::k)) cs w) (lone (b.atR bb (.inRegion aq is::k)) cs w')/\Dr P e nt aq l aB T ac K bz bB f (L.setIfInBounds ec true) (ec::seen) rest n' env' H' ay bd C w' bb.tmps:=by
 subst hat;obtain⟨x,hx,aw⟩:=ds;obtain⟨o,ax,bv⟩:=hR.op hx;obtain⟨xd,_,_,xo,_⟩:=vc bv;have a6:ec∈ec::rest:=acm .. ;have av:=ea.Pr hR a6 O hx;have J:iM aa x.guard=true->Region.wanted o (yielded aq a.tmps)=dc aa x.guard:=λb0=>by rw[Ds ea.E bv (by rw[Hu av];exact b0)];exact Dk av
 have r:=ea.run;simp only[lV,hx,afk]at r;obtain⟨dn,G,hG,Q⟩:=ea.jf;have b3:=lY ea.dQ a6;have cf:¬In L ec:=λh=>vt hR ea.dQ a6 (ea.vu hR b3 h);have cn:∀t,T=some t->t.i0≠ec:=λt N eb=>by obtain⟨y,g1,g2,_⟩:=(hR.hT t N).qh;rw[eb,hx]at g1;injection g1 with g1;subst g1;rw[g2]at aw;cases aw
 cases n with
 |zero=>simp only[Go.ak.aq]at r
 |succ n=>
  have a2:(G.dP c).next=H.next:=by rw[ai.io,hG.next]
  have b7:∀j∈c,j.az<H.next.az:=λj hj=>by obtain⟨X,B,_,F⟩:=(ea.lC j).1 hj;exact(ea.mC X j B F).1
  simp only[Go.ak.aq,CG,aw,Bool.true_or,bc]at r;cases hg:dc aa x.guard with
  |false=>
   rw[hg]at r J;simp only[abu,bA]at r;split at r;case isFalse=>exact r.elim
   rename_i b0;have J:=J b0;refine⟨ρ,w,a.put o.dst undef,n,aO aa x.dst .agx,H,aO d x.dst .agx,c,Nat.le_succ n,bR.refl ρ,cW.refl e w,xJ ..,Hy ax J,?_⟩;exact ea.Hz hR hx aw O (bR.refl ρ) (λ_ _ _ _ _=>rfl) (hG.step hR ea.jh b3 cf hx cn hG.next (λj hj=>hG.Dp hj) λ_ _ _ _ _=>⟨rfl,rfl⟩) Q (λj hj=>⟨(ea.di j hj).1,(ea.di j hj).2.2⟩) (λj k hk F=>(ea.mC k j hk F).1) (λ_ _ _ _ _ _ _ _ _=>.inl λ_=>rfl) (by rw[xd];exact ea.E.put (VR.agx ρ) o.dst) r
  |true=>
   have J:=J (De hg);rw[hg]at r J;simp only[bc]at r;generalize cR:xj l (Region.before aq) (kw T) seen ec=s at r;have R:=z6 aa s H;have S:∀j,j∈fN aa s↔∃k∈seen,(¬ey (Region.before aq) ec k\/kw T=some k)/\Mk l aa k j:=λj=>by rw[<-cR];exact Hq
   have a':∀j∈c,j∈fN aa s:=λj hj=>by obtain⟨X,B,W,F⟩:=(ea.lC j).1 hj;exact(S j).2 ⟨X,B,.inl λhA=>W (nR ea.jh ec O X hA),F⟩
   have b':∀t id,T=some t->t.i0∈seen->aa.get .agx t.t0=.map id->Mk l aa t.i0 id:=λt id N F he=>by obtain⟨y',k1,k2,_,k4⟩:=(hR.hT t N).qh;exact⟨y',t.t0,k1,by rw[k2];rfl,k4,by rw[he];rfl⟩
   have cp:∀t id,T=some t->t.i0∈seen->aa.get .agx t.t0=.map id->id∈fN aa s:=λt id N F he=>(S id).2 ⟨t.i0,F,.inr (by rw[N];rfl),b' t id N F he⟩;have ca:∀j,j∉fN aa s->G.get j=H.get j:=λj hj=>hG.bL hR λt N F c9=>hj ((S j).2 ⟨t.i0,F,.inr (by rw[N];rfl),c9⟩);have ag:∀i,(i∈fN aa s/\i∉c)->((G.dP c).get i).vi:=by
    rintro i⟨h1,h2⟩;obtain⟨X,B,W,F⟩:=(S i).1 h1;rw[ji,ap h2];refine hG.vi ?_;by_cases hl:∃t,T=some t/\t.i0=X
    .obtain⟨t,N,rfl⟩:=hl;obtain⟨id,q1,q2,_⟩:=hG.ri t N B;have:i=id:=by obtain⟨y,t',g1,g2,g3,g4⟩:=F;obtain⟨y',k1,_,_,k4⟩:=(hR.hT t N).qh;rw[k1]at g1;injection g1 with g1;subst g1;rw[k4]at g3;injection g3 with g3;subst g3;rw[q1]at g4;injection g4 with g4;exact g4.symm
     rw[this,q2];rfl
    have W:=W.resolve_right λeb=>by cases hT:T with|none=>rw[hT]at eb;cases eb|some t=>rw[hT]at eb;injection eb with eb;exact hl ⟨t,hT,eb⟩
    refine ea.j7 X i B F λdr dv⟨z,hz,dx⟩hA=>?_;exact W (((nS ((xF hR ea.dQ).2 dr dv ec a6) hz hx).2.2.2.2 dx).2 X hA)
   have b4:=Q.iN (hl:=λi=>i∈fN aa s/\i∉c) (dd:=λj=>j∈c) ag (λj hj=>⟨by rw[ji,aH hj],(ea.di j hj).1,by rw[a2];exact b7 j hj,λk hk=>by
    rw[ji]at hk;split at hk;·cases hk
    exact(ea.di j hj).2.2 k (hG.aM hk)⟩) (H2:=(cS aa H s).1) (by rw[(R .xH).2.1,a2]) (λj=>by
    rw[(R j).1,ji];by_cases eb:j∈fN aa s;·rw[aH eb];exact .inr rfl
    rw[ap eb,ap λh=>eb (a' j h)];exact .inl (ca j eb).symm) (λi hi=>by rw[(R i).1,aH hi.1]);have aA:∀{v:AV}{H1:ai}{cv:Value}{w':World}{C:aQ},bR ρ C->VR C v cv->bh P (e.iN ρ (λi=>i∈fN aa s/\i∉c) λj=>j∈c) C H1 w'->cW (e.iN ρ (λi=>i∈fN aa s/\i∉c) λj=>j∈c) w w'->Steps P (lone (b.atR a (.inRegion aq (ec::is)::k)) cs w) (lone (b.atR (a.put o.dst cv) (.inRegion aq is::k)) cs w')->(if dl (aO aa x.dst v) (cB H1 (cS aa H s).2) (gX l (Region.before aq) seen ec)=true then Go.ak.aq False cA ac n (lV l (Region.before aq) (kw T) (ec::seen) rest++oQ T) ⟨aO aa x.dst v,bz,bB⟩ (cB H1 (cS aa H s).2) K else False)->∃(C:aQ)(w':World)(bb:Act)(n':Nat)(env':am AV)(H':ai)(ay:am AV)(bd:List af),n'<=n+1/\bR ρ C/\cW e w w'/\bb.defers=a.defers/\Steps P (lone (b.atR a (.inRegion aq (ec::is)::k)) cs w) (lone (b.atR bb (.inRegion aq is::k)) cs w')/\Dr P e nt aq l aB T ac K bz bB f (L.setIfInBounds ec true) (ec::seen) rest n' env' H' ay bd C w' bb.tmps:=by
    intro v H1 cv w' C A hv D hK cz a8;split at a8;case isFalse=>exact a8.elim
    rename_i cx;have Y:∀j,(cB H1 (cS aa H s).2).get j=if j∈fN aa s then H.get j else H1.get j:=λj=>((R j).2.2 H1).1;have a1:(cB H1 (cS aa H s).2).next=H1.next:=((R .xH).2.2 H1).2;generalize cB H1 (cS aa H s).2=H2 at a8 cx Y a1;obtain⟨G2,q1,q2,q3⟩:∃G2:ai,G2.next=H2.next/\(∀j,j∈fN aa s->G2.get j=G.get j)/\∀j,(∀t,T=some t->t.i0∈seen->aa.get .agx t.t0≠.map j)->G2.get j=H2.get j:=by
     rcases hG.cases with eb|⟨t,id,g1,g2,g3,g4,g5,g6⟩;·exact⟨H2,rfl,λj hj=>by rw[Y,aH hj,eb],λ_ _=>rfl⟩
     refine⟨H2.set id (G.get id),rfl,λj hj=>?_,λj hj=>?_⟩
     .rw[ai.aJ];by_cases eb:j=id;·rw[aH eb,eb]
      rw[ap eb,Y,aH hj,g6 j eb]
     rw[ai.aJ,ap λeb=>hj t g1 g2 (by rw[g3,eb])]
    have dy:ft l T L (aO aa x.dst v) (ec::seen) dn H2 G2:=hG.step hR ea.jh b3 cf hx cn q1 q3 λt id N F he=>by have:=cp t id N F he;exact⟨by rw[Y,aH this],q2 id this⟩
    obtain⟨u1,u2⟩:=Q.zZ ag A D hK (H2:=G2.dP c) (by rw[ai.io,q1];exact a1) (λi hi=>by rw[ji,ji,ap hi.2,ap hi.2,q2 i hi.1]) (λi hi=>by
     rw[ji];by_cases eb:i∈c;·rw[aH eb];exact(D.un i (.inr (.inr eb))).1.symm
     have cy:i∉fN aa s:=λh=>hi ⟨h,eb⟩;rw[ap eb,q3 i λt N F he=>cy (cp t i N F he),Y,ap cy]);refine⟨C,w',a.put o.dst cv,n,aO aa x.dst v,H2,aO d x.dst v,c,Nat.le_succ n,A,u2,xJ ..,cz,?_⟩;refine ea.Hz hR hx aw O (v:=v) A (λj X B W F=>by rw[Y,aH ((S j).2 ⟨X,B,.inl W,F⟩)]) dy u1 ?_ ?_ ?_ (by rw[xd];exact(ea.E.mono A).put hv o.dst) a8
    .intro j hj;refine⟨(D.di j (.inr hj)).2,λX B=>?_⟩;rw[Y]at B;split at B;·exact(ea.di j hj).2.2 X B
     exact(D.un j (.inr (.inr hj))).2.2 X B
    .intro j X B F;rw[a1];by_cases eb:j∈fN aa s
     .by_cases e':j∈c;·exact(D.un j (.inr (.inr e'))).2.1
      exact(D.un j (.inr (.inl ⟨eb,e'⟩))).2.1
     have hl:ρ j≠none:=((ea.mC X j B F).2).resolve_left λh=>eb (a' j h);rcases afg j.az H1.next.az with q|q;·exact q
     exfalso;cases hr:ρ j with|none=>exact hl hr|some z=>have:=(D.dD j q).2;rw[(A _ _ hr).1]at this;cases this
    intro i hi W y hy hr dz t N;right;have F:=Pp (l:=l) (cC:=Region.before aq) (i:=ec) hi hy hr (λhA=>W (nR ea.jh ec O i hA)) N;obtain⟨H3,h3⟩:=Hr cx _ F dz;exact⟨H3,h3⟩
   split at r
   .rename_i ei args u;have M:bG P nt o=some (.call ei args)/\uK o.op=true:=by
     rw[xo]at u;split at u;·cases u
     rename_i W;rw[u]at W;simp only[bC.uL,agj,afj,Bool.not_eq_false]at W;refine⟨?_,W⟩;cases hc:bG P nt o with|none=>rw[hc]at u;cases u|some q=>rw[hc]at u;simp only[afc]at u;rw[u]
    obtain⟨cc,g,ho,d0,h1,h2⟩:=Hf M.2 M.1;have Z:=stepGR_op (P:=P) (b:=b) (a:=a) (k:=k) (cs:=cs) (w:=w) (rest:=is) ax J;rw[Oper.semAt_eq _ _ _ (xB M.1)]at Z;have c':execOp a.eval o=lA (a.eval g) (cc.args.map a.eval):=by simp only[execOp,ho,resolve,d0,lA]
    rw[c']at Z;have hf:gv aa ei=gv d ei:=ip λp hp=>(av p (vq (by rw[u];simp[bC.bV,hp]))).symm;have d1:args.map (gv aa)=args.map (gv d):=xD λp hp=>(av p (vq (by rw[u];simp only[bC.bV,aeu];exact .inr hp))).symm;have cd:aR ρ (args.map (gv d)) (cc.args.map a.eval).toList:=by rw[Array.toList_map];exact uT ea.E Q h2
    obtain⟨v,H1,dr,w',d5,d6,w1,hK,⟨C,A,hv,D,I⟩,hb,hs⟩:=b6 n (Nat.lt_succ_self n) r (by rw[hf];exact uS h1 ea.E Q) (by rw[d1];exact cd) b4 (b.atR a (.inRegion aq (ec::is)::k)) cs (by simp[nO,Frame.atR]);have dm:(b.atR a (.inRegion aq (ec::is)::k)).finish dr=b.atR (a.put o.dst dr) (.inRegion aq is::k):=by rw[Frame.finish_atR,ax];rfl
    refine aA A hv D I ?_ hK;rw[<-dm];exact .head (step_lone_go (by rw[Z];exact hb)) hs
   .rename_i it u;have V:bG P nt o=some (.jy it):=by
     rw[xo]at u;split at u;·cases u
     cases hc:bG P nt o with|none=>rw[hc]at u;cases u|some q=>rw[hc]at u;simp only[afc]at u;rw[u]
    split at r;·rename_i d4 d7 W;rw[ip (env':=d) (x:=it) λp hp=>(av p (vq (by rw[u];simpa[bC.bV]using hp))).symm]at W;obtain⟨j,d',hj,d2,cv,w',hr,C,A,hv,D,I⟩:=G8 (cO.mk ea.E b4) V W;have r:=r j hj;simp only[d2]at r;exact aA A hv D I (xG ax V J hr) r
    exact r.elim
   split at r
   .rename_i v H1 d3;have ba:aE x.op d (cS aa H s).1=some (v,H1):=by rw[Dh (λp hp=>av p (vq hp))];exact d3
    have V:=Aa bv ba;obtain⟨cv,w',hr,C,A,hv,D,I⟩:=uY (cO.mk ea.E b4) V ba;exact aA A hv D I (xG ax V J hr) r
   exact r.elim
end
section
variable{P:Program}{nt:Nat}{aq:Array Oper}{l:List bu}{aB:List Nat}{T:Option iX}
variable{g:bS}{ac:Nat->aX}{K:Fr->ai->Prop}{bz:List af}{bB:Option af}{h:am AV}{L:Array Bool}{seen rest:List Nat}{n:Nat}{aa:am AV}{H:ai}{f:am AV}{e:List af}{ρ:aQ}{w:World}{tmps:Array Value}
theorem Dr.HD(d:Dr P g nt aq l aB T ac K bz bB h L seen rest n aa H f e ρ w tmps){j:af}(m:H.get j≠.none):j.az<H.next.az:=by
 rcases afg j.az H.next.az with q|q;·exact q
 exfalso;obtain⟨dn,G,b,a⟩:=d.jf;have h1:=(a.dD j (by rw[ai.io,b.next];exact q)).1;rw[ji]at h1;split at h1;·rename_i hj;obtain⟨k,c,_,i⟩:=(d.lC j).1 hj;have:=(d.mC k j c i).1;omega
 exact m ((b.ne j).1 h1)
theorem Dr.HG(hR:gP P nt aq l aB T){i:Nat}(d:Dr P g nt aq l aB T ac K bz bB h L seen (i::rest) n aa H f e ρ w tmps){x:bu}(hx:l[i]?=some x)(av:x.op.fO=false){v:AV}{G:ai}{n':Nat}{pn':List af}(B:∀j,H.get j≠.none->G.get j=H.get j)(a8:H.next.az<=G.next.az)(I:∀j,j∈pn'↔j∈e\/Mk l (aO aa x.dst v) i j)(m:∀j,Mk l (aO aa x.dst v) i j->H.next.az<=j.az/\j.az<G.next.az/\(G.get j).j7/\ρ j=none/\¬g.un j/\∀k,j∉(G.get k).aM){dn:List Lt}{G2:ai}(hG:ft l T L (aO aa x.dst v) (i::seen) dn G G2)(hI:bh P g ρ (G2.dP pn') w)(eZ:∀j∈e,∀k,j∉(G.get k).aM)(hp:Dm l (Region.before aq) (kw T) (i::seen) h (aO aa x.dst v) G i)(Z:Go.ak.aq False cA ac n' (lV l (Region.before aq) (kw T) (i::seen) rest++oQ T) ⟨aO aa x.dst v,bz,bB⟩ G K):Dr P g nt aq l aB T ac K bz bB h L (i::seen) rest n' (aO aa x.dst v) G f pn' ρ w tmps:=by
 have O:i∈i::rest:=acm .. ;have R:i∉seen:=vt hR d.dQ O;have S:¬In L i:=λba=>R (d.vu hR (lY d.dQ O) ba);have J:∀t,dH l i t↔x.dst=some t:=λt=>⟨λ⟨y,r,dy⟩=>by rw[hx]at r;injection r with r;subst r;exact dy,λba=>⟨x,hx,ba⟩⟩;have C:∀k t,k∈seen->dH l k t->x.dst≠some t:=λk t a hd a'=>R (dH.inj hR.dL (kW d.dQ a) (lY d.dQ O) hd ((J t).2 a')▸a);have p:∀t,x.dst≠some t->(aO aa x.dst v).get .agx t=aa.get .agx t:=λt ba=>by rw[lB,ap ba]
 have o:∀k j,k∈seen->(Mk l (aO aa x.dst v) k j↔Mk l aa k j):=λk j a=>Mk.Dt λt s=>p t (C k t a s);have aw:∀j,Mk l (aO aa x.dst v) i j->H.get j=.none:=λj hj=>by apply aeW;intro ax;have:=d.HD ax;have:=(m j hj).1;omega
 refine⟨by rw[<-d.dQ];simp,d.size,λj hj=>(d.sub j hj).imp (aen _) id,d.jh,?_,Z,?_,?_,?_,?_,?_,?_,?_,?_,?_,d.E,dn,G2,hG,hI⟩
 .intro j hj hc;rcases aer.1 hj with a'|a';·subst a';obtain⟨y,r,V⟩:=hc;rw[hx]at r;injection r with r;subst r;rw[av]at V;cases V
  exact d.z8 j a' hc
 .intro t s;rw[p t λa'=>s i (acm ..) ((J t).2 a')];exact d.oZ t λk a=>s k (aen _ a)
 .intro t s;rw[p t λa'=>s i (acm ..) S ((J t).2 a')];exact d.o0 t λk a=>s k (aen _ a)
 .intro t k a hn F;rcases aer.1 a with a'|a';·subst a';have W:∀q∈seen,¬dH l q t:=λq b hd=>C q t b hd ((J t).1 F);rw[d.o0 t λq b _=>W q b];exact d.oZ t W
  exact d.vr t k a' hn F
 .intro j;rw[I,d.lC];constructor
  .rintro(⟨k,a,h1,h2⟩|ba);·exact⟨k,aen _ a,h1,(o k j a).2 h2⟩
   exact⟨i,acm ..,S,ba⟩
  rintro⟨k,a,h1,h2⟩;rcases aer.1 a with a'|a';·subst a';exact .inr h2
  exact .inl ⟨k,a',h1,(o k j a').1 h2⟩
 .intro k q j a b h1 h2;rcases aer.1 a with a'|a'
  .rcases aer.1 b with A|A;·rw[a',A]
   subst a';have:=(d.mC q j A ((o q j A).1 h2)).1;have:=(m j h1).1;omega
  rcases aer.1 b with A|A;·subst A;have:=(d.mC k j a' ((o k j a').1 h1)).1;have:=(m j h2).1;omega
  exact d.gY k q j a' A ((o k j a').1 h1) ((o q j A).1 h2)
 .intro k j a D;rcases aer.1 a with a'|a';·subst a';exact⟨(m j D).2.1,.inl ((I j).2 (.inr D))⟩
  obtain⟨h1,h2⟩:=d.mC k j a' ((o k j a').1 D);exact⟨ab,h2.imp (λba=>(I j).2 (.inl ba)) id⟩
 .intro k j a D hc;rcases aer.1 a with a'|a';·subst a';exact(m j D).2.2.1
  have r:=d.j7 k j a' ((o k j a').1 D) λc ay=>hc c (aen _ ay);rw[B j (sU r).2.2];exact r
 .intro k a hn;rcases aer.1 a with a'|a';·subst a';exact hp
  obtain⟨y,ag,ch,ex,r,hs,h1,h2,z⟩:=d.bP k a' hn;have M:∀t,y.dst=some t->(aO aa x.dst v).get .agx t=aa.get .agx t:=λt s=>p t (C k t a' ⟨y,r,s⟩);refine⟨y,i::ag,ch,ex,r,by rw[hs];rfl,?_,h2,?_⟩;·rintro t⟨q,b,F⟩;rw[p t (C q t (by rw[hs];simp[b]) F)];exact h1 t ⟨q,b,F⟩
  rcases z with⟨hg,a1,hv⟩|⟨hg,u,hv,z⟩;·exact .inl ⟨hg,a1,λt s=>by rw[M t s];exact hv t s⟩
  refine .inr ⟨hg,u,λt s=>by rw[M t s];exact hv t s,?_⟩;rcases z with ba|⟨hr,X,Q⟩|⟨D,nv,cJ,j0,Y,a2,N,Q⟩;·exact .inl ba
  .refine .inr (.inl ⟨hr,λj hj=>?_,λH' a6=>Q H' λj hj=>by rw[a6 j hj,B j (X j hj).1]⟩);obtain⟨g1,g2⟩:=X j hj;refine⟨by rw[B j g1];exact g1,λq b D=>?_⟩;rcases aer.1 b with A|A;·subst A;exact absurd (aw j D) g1
   exact g2 q A ((o q j A).1 D)
  refine .inr (.inr ⟨D,nv,cJ,j0,Y,a2,?_,Q⟩);rw[B j0 (by rw[N];exact(sU Y).2.2)];exact N
 intro j hj;rcases(I j).1 hj with ba|ba;·exact⟨(d.di j ba).1,(d.di j ba).2.1,eZ j ba⟩
 exact(m j ba).2.2.2
theorem Dr.Du(Y:gP P nt aq l aB T):∀(rest:List Nat){seen:List Nat}{n:Nat}{aa:am AV}{H:ai}{e:List af},Dr P g nt aq l aB T ac K bz bB h L seen rest n aa H f e ρ w tmps->∃(C c:List Nat)(n':Nat)(z:am AV)(H':ai)(pn':List af),n'<=n/\Dr P g nt aq l aB T ac K bz bB h L C c n' z H' f pn' ρ w tmps/\∀i r,c=i::r->Ch l i
 |[],seen,n,aa,H,e,d=>⟨seen,[],n,aa,H,e,aeq n,d,λi r d4=>by cases d4⟩
 |i::rest,seen,n,aa,H,e,d=>by
  have ax:i∈i::rest:=acm .. ;obtain⟨x,Q,av⟩:=rj Y (lY d.dQ ax);cases D:x.op.fO with
  |true=>exact⟨seen,i::rest,n,aa,H,e,aeq n,d,λi' r d4=>by injection d4 with d4 _;subst d4;exact⟨x,Q,D⟩⟩
  |false=>
   have a:=d.run;simp only[lV,Q,afk]at a;obtain⟨dn,G,hG,N⟩:=d.jf;have ba:=lY d.dQ ax;cases n with
   |zero=>simp only[Go.ak.aq]at a
   |succ n=>
    simp only[Go.ak.aq,CG,D,Bool.false_or,abu,bA,dl,bc]at a;have go:∀{z:am AV}{H':ai}{pn':List af},Dr P g nt aq l aB T ac K bz bB h L (i::seen) rest n z H' f pn' ρ w tmps->∃(C c:List Nat)(n':Nat)(z:am AV)(H':ai)(pn':List af),n'<=n+1/\Dr P g nt aq l aB T ac K bz bB h L C c n' z H' f pn' ρ w tmps/\∀i r,c=i::r->Ch l i:=by intro z H' pn' d';obtain⟨s,r,m,d5,d4,p,h1,h2,h3⟩:=Dr.Du Y rest d';exact⟨s,r,m,d5,d4,p,Nat.le_succ_of_le h1,h2,h3⟩
    have b4:i∉seen:=vt Y d.dQ ax;have bb:¬In L i:=λd4=>b4 (d.vu Y ba d4);have E:(x.op.jC=false\/dc aa x.guard=false)->∀t,T=some t->t.i0≠i:=λd4 t o d5=>by
     obtain⟨y,Z,g2,g3,g4⟩:=(Y.hT t o).qh;rw[d5,Q]at Z;injection Z with Z;subst Z;rcases d4 with d4|d4;·rw[g2]at d4;cases d4
     rw[g3]at d4;cases d4
    have a8:∀k t,k∈seen->dH l k t->x.dst≠some t:=λk t F hd d5=>b4 (dH.inj Y.dL (kW d.dQ F) (lY d.dQ ax) hd ⟨x,Q,d5⟩▸F);have V:∀v t,(∃k∈seen,dH l k t)->aa.get .agx t=(aO aa x.dst v).get .agx t:=by rintro v t⟨k,F,cv⟩;rw[lB,ap (a8 k t F cv)]
    have ag:∀v j,Mk l (aO aa x.dst v) i j->x.op.jC=true/\fj v=some j:=by rintro v j⟨y,t,hy,Z,g2,g3⟩;rw[Q]at hy;injection hy with hy;subst hy;rw[lB,aH g2]at g3;exact⟨Z,g3⟩
    have O:∀v t,x.dst=some t->(aO aa x.dst v).get .agx t=v:=λv t o=>by rw[lB,aH o]
    have R:∀{v:AV}{H2:ai},(∀j,H2.get j=H.get j)->H2.next=H.next->(∀j,¬Mk l (aO aa x.dst v) i j)->x.op.jC=false\/dc aa x.guard=false->Dm l (Region.before aq) (kw T) (i::seen) h (aO aa x.dst v) H2 i->Go.ak.aq False cA ac n (lV l (Region.before aq) (kw T) (i::seen) rest++oQ T) ⟨aO aa x.dst v,bz,bB⟩ H2 K->∃(C c:List Nat)(n':Nat)(z:am AV)(H':ai)(pn':List af),n'<=n+1/\Dr P g nt aq l aB T ac K bz bB h L C c n' z H' f pn' ρ w tmps/\∀i r,c=i::r->Ch l i:=by intro v H2 h1 h2 h3 h6 h4 h5;refine go (d.HG Y Q D (v:=v) (pn':=e) (λj _=>h1 j) (by rw[h2];exact aeq _) (λj=>⟨.inl,λd4=>d4.resolve_right (h3 j)⟩) (λj d4=>absurd d4 (h3 j)) (dn:=dn) (G2:=G) ?_ N (λj hj k=>by rw[h1];exact(d.di j hj).2.2 k) h4 h5);exact hG.step Y d.jh ba bb Q (E h6) (by rw[hG.next,h2]) (λj hj=>by rw[h1];exact hG.Dp hj) λt id o hm he=>⟨h1 id,rfl⟩
    cases hg:dc aa x.guard with
    |false=>
     rw[hg]at a;simp only[abu,bA]at a;split at a;case isFalse=>exact a.elim
     rename_i cx;refine R (v:=.agx) (λ_=>rfl) rfl (λj d4=>?_) (.inr hg) ?_ a;·have:=(ag _ j d4).2;simp[AV.agx,fj]at this
     exact⟨x,[],seen,aa,Q,rfl,V _,λt o=>d.oZ t o,.inl ⟨hg,cx,λt o=>O _ t o⟩⟩
    |true=>
     rw[hg]at a;simp only[bc]at a;split at a;·rename_i bd;rw[bd]at D;simp[bC.fO]at D
     .rename_i bd;rw[bd]at D;simp[bC.fO]at D
     split at a;case h_2=>exact a.elim
     rename_i v H1 I;cases hrd:x.op.gX with
     |true=>
      rw[hrd]at I a;simp only[bc]at I a;generalize ca:xj l (Region.before aq) (kw T) seen i=W at I a;have J:=z6 aa W H;have cd:∀j,j∈fN aa W↔∃k∈seen,(¬ey (Region.before aq) i k\/kw T=some k)/\Mk l aa k j:=λj=>by rw[<-ca];exact Hq
      obtain⟨q1,q2,q3⟩:=Hl hrd I;subst q1;have bv:∀j,(cB (cS aa H W).1 (cS aa H W).2).get j=H.get j:=λj=>by rw[((J j).2.2 _).1,(J j).1];split<;>rfl
      refine R (v:=v) bv (by rw[((J .xH).2.2 _).2,(J .xH).2.1]) (λj d4=>?_) (.inl (qf hrd).2.1) ?_ a;·have:=(ag _ j d4).1;rw[(qf hrd).2.1]at this;cases this
      refine⟨x,[],seen,aa,Q,rfl,V _,λt o=>d.oZ t o,.inr ⟨hg,v,λt o=>O _ t o,.inr (.inl ⟨hrd,λj hj=>?_,λH' cy=>q3 H' λj hj=>?_⟩)⟩⟩
      .have E:=q2 j hj;have ay:j∉fN aa W:=λd4=>E (by rw[(J j).1,aH d4]);rw[(J j).1,ap ay]at E;refine⟨by rw[bv];exact E,λk F hm=>?_⟩;rcases aer.1 F with d5|d5;·subst d5;have:=(ag _ j hm).1;rw[(qf hrd).2.1]at this;cases this
       apply aeW;intro hA;exact ay ((cd j).2 ⟨k,d5,by
        by_cases hq:ey (Region.before aq) i k;·exact .inr (aeW λq=>hA ⟨hq,q⟩)
        exact .inl hq,(Mk.Dt λt o=>by rw[lB,ap (a8 k t d5 o)]).1 hm⟩)
      have E:=q2 j hj;have ay:j∉fN aa W:=λd4=>E (by rw[(J j).1,aH d4]);rw[cy j hj,bv,(J j).1,ap ay]
     |false=>
      rw[hrd]at I a;simp only[abu,bA,cS,cB]at I a;cases A:x.op.jC with
      |false=>
       have cR:x.op.plain=true:=by
        simp only[pQ,D,Bool.false_or,A,hrd,Bool.false_and,Bool.or_self,afm]at av;rcases av with d4|d4;·exact d4
        split at d4<;>cases d4
       obtain⟨q1,q2⟩:=Pd cR I;subst q1;refine R (v:=v) (λ_=>rfl) rfl (λj d4=>?_) (.inl A) ?_ a;·have:=(ag _ j d4).1;rw[A]at this;cases this
       exact⟨x,[],seen,aa,Q,rfl,V _,λt o=>d.oZ t o,.inr ⟨hg,v,λt o=>O _ t o,.inl ⟨A,q2⟩⟩⟩
      |true=>
       obtain⟨nv,cJ,rfl,rfl,hy,a'⟩:=Pe A I;obtain⟨f1,f2,f3⟩:=sU hy;have M:∀j,(H.new cJ).get j=if j=H.next then cJ else H.get j:=λj=>ai.cZ _ _ _;have d0:(H.new cJ).next.az=H.next.az+1:=af.fH _;have b0:H.get H.next=.none:=aeW λd4=>by have:=d.HD d4;omega
       have aw:∀j,Mk l (aO aa x.dst (nv.of H.next)) i j->j=H.next:=λj d4=>by have:=(ag _ j d4).2;rw[jF.name]at this;injection this with this;exact this.symm
       have c9:Mk l (aO aa x.dst (nv.of H.next)) i H.next:=by cases hd:x.dst with|some t=>exact⟨x,t,Q,A,hd,by rw[<-hd,O _ t hd];exact jF.name nv _⟩|none=>simp[pQ,hd,D,(vn A).2.2]at av
       have cf:∀k,H.next∉((H.new cJ).get k).aM:=λk F=>by
        rw[M]at F;by_cases d5:k=H.next;·rw[aH d5,f2]at F;cases F
        rw[ap d5]at F;by_cases e':k∈e
        .obtain⟨k',c',hn,hm⟩:=(d.lC k).1 e';have:=d.bP k' c' hn;obtain⟨y,_,_,ex,dm,_,_,_,S⟩:=this;obtain⟨y',t,a1,m1,m2,m3⟩:=hm;rw[dm]at a1;injection a1 with a1;subst a1;rcases S with⟨_,_,hv⟩|⟨_,u,hv,S⟩;·rw[hv t m2]at m3;simp[AV.agx,fj]at m3
         rcases S with⟨hm,_⟩|⟨hr,_⟩|⟨_,d1,dz,j0,dr,ds,cn,_⟩;·rw[m1]at hm;cases hm
         .rw[(vn m1).2.1]at hr;cases hr
         rw[hv t m2,ds,jF.name]at m3;injection m3 with m3;subst m3;rw[cn,(sU dr).2.1]at F;cases F
        have:=(N.aM H.next k (by rw[ji,ap e'];exact hG.Dq F)).1;rw[ai.io,hG.next]at this;omega
       have a2:∀j,(G.new cJ).get j=if j=H.next then cJ else G.get j:=λj=>by rw[ai.cZ,hG.next]
       have b6:(G.new cJ).next=(H.new cJ).next:=by show G.next.succ=H.next.succ;rw[hG.next]
       have b7:∀j,G.get j=H.get j->(G.new cJ).get j=(H.new cJ).get j:=λj d5=>by rw[a2,M,d5]
       have cp:ft l T L (aO aa x.dst (nv.of H.next)) (i::seen) dn (H.new cJ) (G.new cJ):=by
        by_cases h0:∃t,T=some t/\t.i0=i
        .obtain⟨t,o,b3⟩:=h0;have hd:=hG.nil Y d.jh o (by rw[b3];exact bb);obtain⟨y,Z,g2,g3,g4⟩:=(Y.hT t o).qh;rw[b3,Q]at Z;injection Z with Z;subst Z;have he:=a' H;rw[g2]at he;simp only[aE,aas,acn]at he;obtain⟨dv,dx⟩:=he;have b':cJ=.map [] 0:=by have:=congrArg (λX:ai=>X.get H.next) dx;simp only[ai.cZ,bc]at this;exact this.symm
         refine⟨b6,hG.nd,hG.none,hG.mem,λhf=>absurd (b3▸acm ..) (hf t o),λt' a6 _=>?_⟩;rw[o]at a6;injection a6 with a6;subst a6;exact⟨H.next,by rw[lB,aH g4,dv],by rw[M,aH rfl,b'],.inr ⟨hd,by rw[a2,aH rfl,b']⟩,λj _=>b7 j (hG.Do hd j)⟩
        refine hG.step Y d.jh ba bb Q (λt o d5=>h0 ⟨t,o,d5⟩) b6 (λj hj=>b7 j (hG.Dp hj)) λt id o hm he=>?_;have E:id≠H.next:=λd5=>by obtain⟨d2,q1,q2,_⟩:=hG.ri t o hm;rw[q1]at he;injection he with he;rw[he,d5,b0]at q2;cases q2
        exact⟨by rw[M,ap E],by rw[a2,ap E]⟩
       refine go (d.HG Y Q D (v:=nv.of H.next) (pn':=H.next::e) (hG:=cp) (λj hj=>by rw[M,ap (λd5:j=H.next=>hj (by rw[d5];exact b0))]) ab (λj=>?_) (λj d4=>?_) ?_ (λj hj k F=>?_) ?_ a);·rw[aer];exact⟨λd4=>d4.elim (λd5=>.inr (d5▸c9)) .inl,λd4=>d4.elim .inr λd4=>.inl (aw j d4)⟩
       .rw[aw j d4];refine⟨aeq _,ab,by rw[M,aH rfl];exact hy,(N.dD H.next (by rw[ai.io,hG.next];exact aeq _)).2,λhu=>?_,cf⟩;have:=(N.un H.next hu).2.1;rw[ai.io,hG.next]at this;omega
       .have h0:=N;have B:∀j,((G.new cJ).dP (H.next::e)).get j=(G.dP e).get j:=λj=>by
         rw[ji,ji,a2];by_cases d5:j=H.next
         .subst d5;rw[aH (acm ..)];split;·rfl
          exact((hG.ne _).2 b0).symm
         by_cases e':j∈e;·rw[aH (aen _ e'),aH e']
         rw[ap (by simp[d5,e']),ap d5,ap e']
        have d3:((G.new cJ).dP (H.next::e)).next.az=(G.dP e).next.az+1:=by rw[ai.io,ai.io];exact af.fH _
        exact⟨λi hi=>by rw[B]at hi⊢;exact h0.cJ i hi,λi j b x y dy hi hj=>by rw[B]at hi hj;rw[B,B];exact h0.iY i j b x y dy hi hj,λi j hi=>by rw[B]at hi⊢;exact⟨by have:=(h0.aM i j hi).1;omega,(h0.aM i j hi).2⟩,λi b x hi hf=>by rw[B]at hi hf;exact h0.wr i b x hi hf,λi hi=>by rw[B];exact h0.dD i ab,h0.new,h0.jP,λi b x ob hi=>by rw[B]at hi⊢;exact h0.im i b x ob hi,h0.dU,λi b x hi=>by rw[B]at hi;exact h0.rd i b x hi,λi hi=>by rw[B];exact⟨(h0.un i hi).1,by have:=(h0.un i hi).2.1;omega,λj=>by rw[B];exact(h0.un i hi).2.2 j⟩,h0.di⟩
       .rw[M]at F;split at F;·rw[f2]at F;cases F
        exact(d.di j hj).2.2 k F
       exact⟨x,[],seen,aa,Q,rfl,V _,λt o=>d.oZ t o,.inr ⟨hg,_,λt o=>O _ t o,.inr (.inr ⟨A,nv,cJ,H.next,hy,rfl,by rw[M,aH rfl],a'⟩)⟩⟩
theorem z7.inj{cC:Array Nat}{t:iX}(p:z7 l cC aB t){m a:Lt}(hu:m∈t.us)(d:a∈t.us)(o:a.u=m.u):a=m:=by obtain⟨x,h1,_,_,h2,_⟩:=p.op m hu;obtain⟨y,b,_,_,i,_⟩:=p.op a d;rw[o,h1]at b;injection b with b;subst b;rw[h2]at i;injection i with j _ c k;injection c with c;cases m;cases a;simp only at o j c k;rw[o,j,c,k]
theorem Dr.Px(hR:gP P nt aq l aB T)(cv:Dr P g nt aq l aB T ac K bz bB h L seen rest n aa H f e ρ w tmps){cy:iX}(C:T=some cy){cn:Lt}(hu:cn∈cy.us)(hi:¬In L cn.u)(M:∀j,iO aq cn.u j->In L j){b:Frame}{a:Act}(ha:a.tmps=tmps)(is:List Nat)(k:List Item)(cs:List Frame):∃(I:aQ)(w':World),bR ρ I/\cW g w w'/\Steps P (lone (b.atR a (.inRegion aq (cn.u::is)::k)) cs w) (lone (b.atR a (.inRegion aq is::k)) cs w')/\Dr P g nt aq l aB T ac K bz bB h (L.setIfInBounds cn.u true) seen rest n aa H f e I w' tmps:=by
 subst ha;have hT:=hR.hT cy C;obtain⟨x,hx,ba,xg,bv,av⟩:=hT.op cn hu;obtain⟨o,S,V⟩:=hR.op hx;obtain⟨xd,_⟩:=vc V;obtain⟨dn,G,D,N⟩:=cv.jf;have b0:cn.u<aq.size:=by
  rcases afg cn.u aq.size with q|q;·exact q
  rw[ae3 q]at S;cases S
 have O:=nR cv.jh cn.u M;obtain⟨x0,g1,g2,g3,g4⟩:=hT.qh;have aw:In L cy.i0:=O _ (hT.cC cn hu cy.i0 hT.i0 cy.t0 ⟨x0,g1,g4⟩ (acm ..));have W:cy.i0∈seen:=cv.vu hR hT.i0 aw;obtain⟨id,e1,e2,e3,e4⟩:=D.ri cy C W;have ax:∀p∈cy.t0::cn.v.bV,f.get .agx p=aa.get .agx p:=λp hp=>cv.o0 p λi dB F b3=>F (O i (hT.cC cn hu i (kW cv.dQ dB) p b3 hp));have A:id∉e:=λcx=>by obtain⟨k',X,F,hm⟩:=(cv.lC id).1 cx;have:k'=cy.i0:=cv.gY k' cy.i0 id X W hm ⟨x0,cy.t0,g1,by rw[g2];rfl,g4,by rw[e1];rfl⟩;exact F (this▸aw)
 have Q:cn∉dn:=λcx=>hi ((D.mem cy C cn).1 cx).2;have ay:(G.dP e).get id=G.get id:=by rw[ji,ap A]
 have Y:bh P g ρ ((G.dP e).set id (.dt (jg aa dn))) w:=by
  rcases e3 with⟨_,e3⟩|⟨hd,e3⟩
  .refine N.congr rfl λj=>?_;rw[ai.aJ];by_cases cp:j=id;·rw[aH cp,cp,ay,e3]
   rw[ap cp]
  rw[hd];exact xA N (esx:=[]) (es':=[]) (by rw[ay,e3]) (agn _) rfl
 have Z:dK cn.d cn.k (jg aa dn)=some none:=by
  have:∀ds:List Lt,(∀w∈ds,w∈dn)->dK.go cn.d cn.k (jg aa ds)=some none:=by intro ds;induction ds with|nil=>intro _;rfl|cons w ds ih=>intro hw;have a1:=hw w (acm ..);have h1:=(D.mem cy C w).1 a1;have h2:=(hT.key cn hu w h1.1).resolve_left λcp=>Q (hT.inj hu h1.1 cp▸a1);show dK.go cn.d cn.k (⟨w.k,gv aa w.v,0⟩::jg aa ds)=some none;simp only[dK.go,h2,ih λq hq=>hw q (aen _ hq)]
  simp only[dK,av,bc];exact this dn λ_ cx=>cx
 have b4:gB cn.d cn.k=true:=by revert av;cases cn.d<;>simp[lr,gB]
 have b6:gv f cn.v=gv aa cn.v:=ip λp hp=>ax p (aen _ hp);have b7:f.get .agx cy.t0=.map id:=by rw[ax _ (acm ..),e1]
 generalize a2:(G.dP e).set id (.dt (jg aa dn))=H0 at Y;have J:∀j,H0.get j=if j=id then .dt (jg aa dn)else if j∈e then .none else G.get j:=λj=>by rw[<-a2,ai.aJ,ji]
 have a6:H0.next=H.next:=by rw[<-a2,ai.eI,ai.io,D.next]
 have bb:jg aa dn++[⟨cn.k,gv aa cn.v,0⟩]=jg aa (dn++[cn]):=by simp[jg]
 have a8:aE x.op f H0=some (.agx,H0.set id (.dt (jg aa (dn++[cn])))):=by have h1:gv f (.t cy.t0)=.map id:=b7;have h2:gv f (.c cn.k)=cn.k:=rfl;rw[bv];simp only[aE,h1,h2,b4,aeY,abu,bA,J id,bc,Z,b6,bb]
 have ag:∀j∈e,j.az<H.next.az:=λj hj=>by obtain⟨k',X,_,hm⟩:=(cv.lC j).1 hj;exact(cv.mC k' j X hm).1
 have b':=Y.iN (hl:=λ_=>False) (dd:=λj=>j∈e) (λ_ cx=>cx.elim) (λj hj=>⟨by rw[J,ap λcp:j=id=>A (cp▸hj),aH hj],(cv.di j hj).1,by rw[a6];exact ag j hj,λk r=>by
  rw[J]at r;split at r;·cases r
  split at r;·cases r
  exact(cv.di j hj).2.2 k (D.aM r)⟩) rfl (λ_=>.inl rfl) (λ_ cx=>cx.elim);have R:=Aa V a8;obtain⟨cR,w',bd,I,B,cf,a',hK⟩:=uY (cO.mk cv.E b') R a8;obtain⟨u1,u2⟩:=Y.zZ (hl:=λ_=>False) (λ_ cx=>cx.elim) B a' hK (H2:=H0.set id (.dt (jg aa (dn++[cn])))) rfl (λ_ cx=>cx.elim) (λ_ _=>rfl);have ca:o.dst=none:=by rw[ba]at xd;cases cx:o.dst with|none=>rfl|some q=>rw[cx]at xd;cases xd
 have cz:=xG (is:=is) (b:=b) (k:=k) (cs:=cs) S R (by rw[Ds cv.E V (by rw[xg];rfl),xg];rfl) bd;rw[ca]at cz;have s:∀j,In (L.setIfInBounds cn.u true) j↔j=cn.u\/In L j:=vm (by rw[cv.size];exact b0);have cd:∀i∈seen,i≠cn.u:=λi dB cp=>hT.bQ cn hu (cp▸kW cv.dQ dB);have y:∀i∈seen,(In (L.setIfInBounds cn.u true) i↔In L i):=λi dB=>⟨λcx=>((s i).1 cx).resolve_left (cd i dB),λcx=>(s i).2 (.inr cx)⟩;refine⟨I,w',B,u2,cz,cv.dQ,by rw[Array.size_setIfInBounds];exact cv.size,?_,?_,λk r hc=>(s k).2 (.inr (cv.z8 k r hc)),cv.run,cv.oZ,λt' cx=>cv.o0 t' λi dB F=>cx i dB λq=>F ((y i dB).1 q),λt' i dB F=>cv.vr t' i dB λq=>F ((y i dB).2 q),?_,cv.gY,?_,cv.j7,λi dB F=>cv.bP i dB λq=>F ((y i dB).2 q),λj hj=>⟨(a'.di j (.inr hj)).2,(cv.di j hj).2⟩,cv.E.mono B,dn++[cn],G.set id (.dt (jg aa (dn++[cn]))),?_,?_⟩
 .intro j hj;rcases(s j).1 hj with cp|cp;·exact .inr ⟨cy,C,cn,hu,cp.symm⟩
  exact cv.sub j cp
 .intro j hj k r;rcases(s j).1 hj with cp|cp;·rw[cp]at r;exact(s k).2 (.inr (M k r))
  exact(s k).2 (.inr (cv.jh j cp k r))
 .intro j;rw[cv.lC];exact⟨λ⟨k,r,h1,h2⟩=>⟨k,r,λq=>h1 ((y k r).1 q),h2⟩,λ⟨k,r,h1,h2⟩=>⟨k,r,λq=>h1 ((y k r).2 q),h2⟩⟩
 .intro i j dB hm;obtain⟨h1,h2⟩:=cv.mC i j dB hm;refine⟨h1,h2.imp (λq=>q) λcx cp=>?_⟩;cases hr:ρ j with|none=>exact cx hr|some z=>rw[(B _ _ hr).1]at cp;cases cp
 .refine⟨D.next,afa.2 ⟨D.nd,aC,λp hp q hq cp=>Q (by rw[<-aaN.1 hq,<-cp];exact hp)⟩,λcp=>(by rw[C]at cp;cases cp),λt' m u'=>?_,λhf=>absurd W (hf cy C),λt' m _=>?_⟩
  .rw[C]at m;injection m with m;subst m;rw[aeu,aaN,D.mem cy C u',s];constructor
   .rintro(⟨h1,h2⟩|rfl);·exact⟨h1,.inr h2⟩
    exact⟨hu,.inl rfl⟩
   rintro⟨h1,h2|h2⟩;·exact .inr (hT.inj hu h1 h2)
   exact .inl ⟨h1,h2⟩
  rw[C]at m;injection m with m;subst m;exact⟨id,e1,e2,.inl ⟨aC,by rw[ai.aJ,aH rfl]⟩,λj hj=>by rw[ai.aJ,ap hj];exact e4 j hj⟩
 refine u1.congr (by rw[ai.io,ai.eI,ai.eI,a6,D.next]) λj=>?_;rw[ji,ai.aJ,ai.aJ,J];by_cases cp:j=id;·rw[aH cp,aH cp,cp,ap A]
 rw[ap cp,ap cp,ap cp]
end
section
variable{P:Program}
theorem Py{d:bS}{e:aQ}{w:World}{G:ai}(h:bh P d e G w){id:af}{es b:List aV}(c:G.get id=.dt es)(f:es.Perm b):bh P d e (G.set id (.dt b)) w:=by refine h.C3 (by rw[c];simp) (by rw[c];rfl) (by rw[c];rfl) rfl ?_;intro x g a;rw[c]at a;cases g<;>simp only[OR]at a⊢;obtain⟨rfl,dL,l,h1,h2⟩:=a;obtain⟨i,p1,p2⟩:=co.C4 f h2;exact⟨⟨by trivial,dL,i,p1.trans h1,p2⟩,λq=>by simp[ef]⟩
theorem Ab{t0:af}{b:Nat}{x:bu}{r:Lt}(h:xi t0 b x=some r):r.u=b/\x.dst=none/\x.guard=none/\x.op=.iV r.d (.t t0) (.c r.k) r.v/\lr r.d=true:=by
 unfold xi at h;split at h
 .split at h;·rename_i a;injection h with h;subst h;rw[a.1];exact⟨rfl,rfl,rfl,rfl,a.2⟩
  cases h
 cases h
theorem Pz{l:List bu}{cC:Array Nat}{aB:List Nat}{t:iX}(h:CF l=some t)(r:t.ok l cC aB=true):z7 l cC aB t:=by
 unfold CF at h;rw[aes]at h;obtain⟨⟨i0,t0⟩,_,rfl⟩:=h;simp only[iX.ok,aew,afv]at r;obtain⟨⟨y,d⟩,f⟩:=r;have kX:∀C∈l.zipIdx.filterMap (λp=>xi t0 p.2 p.1),∃x,l[C.u]?=some x/\xi t0 C.u x=some C:=λC hu=>by rw[List.mem_filterMap]at hu;obtain⟨⟨x,i⟩,g,h1⟩:=hu;rw[List.mem_zipIdx_iff_getElem?]at g;have:=(Ab h1).1;simp only at this g h1;rw[this];exact⟨x,g,by rw[<-this]at h1⊢;exact h1⟩
 refine⟨by simpa using y,?_,?_,λC hu=>?_,λC hu=>?_,λC hu k j s m n=>?_,λC hu w z=>?_⟩
 .split at d
  .rename_i x c;simp only[Option.any_eq_true]at d;obtain⟨⟨i,s⟩,h1,h2⟩:=d;unfold CE at h1;split at h1;·rename_i B re hd;injection h1 with h1;injection h1 with _ h1;subst h1;exact⟨_,c,rfl,rfl,by simpa using h2⟩
   cases h1
  cases d
 .rw[List.Nodup,List.pairwise_filterMap];refine List.Pairwise.imp_of_mem ?_ (List.pairwise_map.1 (by rw[List.zipIdx_map_snd];exact List.nodup_range'));rintro a b _ _ o C hu D A e;exact o (by rw[<-(Ab hu).1,<-(Ab A).1,e])
 .have:=f C hu;simpa using this.1.1
 .obtain⟨x,c,h1⟩:=kX C hu;obtain⟨_,h2⟩:=Ab h1;exact⟨x,c,h2⟩
 .have:=f C hu;have:=this.1.2 k j;obtain⟨x,c,hd⟩:=m;rw[c]at this;simp only[hd,afm,afj]at this;rcases this with h|h
  .have:(t0::C.v.bV).contains s=true:=by simpa using n
   rw[this]at h;cases h
  exact h
 have:=f C hu;have:=this.2 w z;simp only[afm,beq_iff_eq]at this;refine this.imp (λq=>q) λh=>?_;split at h;·rename_i b hb;rw[hb];simpa using h
 cases h
theorem PA{nt:Nat}{aq:Array Oper}{l:List bu}{aB:List Nat}{T:Option iX}(D:gP P nt aq l aB T){M:bS}{ac:Nat->aX}{K:Fr->ai->Prop}{bz:List af}{bB:Option af}{O:am AV}{b:Frame}(cn:List Item)(cs:List Frame):∀(f cd:Nat){L:Array Bool}{seen g:List Nat}{n:Nat}{aa:am AV}{H:ai}{A:am AV}{Q:List af}{B:aQ}{w:World}{a:Act},(∀m,m<n->oW P ac m)->sV L aq.size<=f->Dr P M nt aq l aB T ac K bz bB O L seen g n aa H A Q B w a.tmps->ia B bz a.defers->kS B bB b.roundOf->(∀i r,g=i::r->Ch l i)->gO P M B nt w b cn cs (lone (b.atR a (.inRegion aq (Region.linearise.go .any aq f cd L [])::cn)) cs w) λj fr H=>(match j with|.none=>True|_=>False)/\K fr H:=by
 have aA:∀{L:Array Bool}{seen g:List Nat}{n:Nat}{aa:am AV}{H:ai}{A:am AV}{Q:List af}{B:aQ}{w:World}{a:Act},(∀i,i<aq.size->In L i)->Dr P M nt aq l aB T ac K bz bB O L seen g n aa H A Q B w a.tmps->ia B bz a.defers->kS B bB b.roundOf->gO P M B nt w b cn cs (lone (b.atR a (.inRegion aq []::cn)) cs w) λj fr H=>(match j with|.none=>True|_=>False)/\K fr H:=by
  intro L seen g n aa H A Q B w a eG d F N;obtain⟨dn,G,Z,C⟩:=d.jf;have J:∀i∈aB,i<aq.size:=λi hi=>by
   obtain⟨x,hx,_⟩:=rj D hi;obtain⟨o,ho,_⟩:=D.op hx;rcases afg i aq.size with q|q;·exact q
   rw[ae3 q]at ho;cases ho
  have X:g=[]:=by cases g with|nil=>rfl|cons i r=>have hi:i∈i::r:=acm .. ;exact absurd (d.vu D (lY d.dQ hi) (eG i (J i (lY d.dQ hi)))) (vt D d.dQ hi)
  subst X;have ag:∀i∈seen,In L i:=λi hi=>eG i (J i (kW d.dQ hi));have a8:Q=[]:=List.eq_nil_iff_forall_not_mem.2 λj hj=>by obtain⟨i,hi,h1,_⟩:=(d.lC j).1 hj;exact h1 (ag i hi)
  subst a8;have s:=d.run;simp only[lV,afz]at s;have hE:fW B nt aa a.tmps:=⟨d.E.1,λcd ht=>by rw[<-d.o0 _ λi hi hn=>absurd (ag i hi) hn];exact d.E.2 cd ht⟩;have C:bh P M B G w:=C;have key:∃H',bh P M B H' w/\K ⟨aa,bz,bB⟩ H':=by
   cases n with
   |zero=>simp only[Go.ak.aq]at s
   |succ n=>
    cases hT:T with
    |none=>rw[hT]at s;simp only[oQ,Go.ak.aq]at s;exact⟨H,C.congr Z.next.symm λj=>(Z.sW (λcd e=>by rw[hT]at e;cases e) j).symm,s⟩
    |some cd=>
     rw[hT]at s;have ht:=D.hT cd hT;simp only[oQ,Go.ak.aq,dc,bc,cS]at s;split at s;case h_2=>exact s.elim
     rename_i cp H1 av;simp only[cB,dl,bc,aO]at s;have hs:cd.i0∈seen:=by have:=ht.i0;rw[<-d.dQ,afu,aga]at this;exact this
     obtain⟨id,e1,e2,S,e4⟩:=Z.ri cd hT hs;have hm:gv aa (.t cd.t0)=.map id:=e1;simp only[aE,hm,e2,aas,acn,af8]at av;obtain⟨_,rfl⟩:=av;have Y:dn.Perm cd.us:=(List.perm_ext_iff_of_nodup Z.nd ht.nd).2 λcf=>by
      rw[Z.mem cd hT cf];refine⟨λh=>h.1,λh=>⟨h,eG _ ?_⟩⟩;obtain⟨x,hx,_⟩:=ht.op cf h;obtain⟨o,ho,_⟩:=D.op hx;rcases afg cf.u aq.size with q|q;·exact q
      rw[ae3 q]at ho;cases ho
     have gD:(jg aa dn).Perm (cd.us.map ((λp=>(⟨p.1,gv aa p.2,0⟩:aV))∘λcf=>(cf.k,cf.v))):=Y.map _;cases n with
     |zero=>simp only[Go.ak.aq]at s
     |succ n=>
      simp only[Go.ak.aq]at s;refine⟨_,?_,s⟩;have a':bh P M B (G.set id (.dt (cd.us.map ((λp=>(⟨p.1,gv aa p.2,0⟩:aV))∘λcf=>(cf.k,cf.v))))) w:=by
       rcases S with⟨_,S⟩|⟨hd,S⟩;·exact Py C S gD
       rw[hd]at gD;exact xA C (esx:=[]) (es':=[]) S (by simpa[jg]using gD) rfl
      refine a'.congr Z.next.symm λj=>?_;rw[ai.aJ,ai.aJ];by_cases e:j=id;·rw[aH e,aH e]
      rw[ap e,ap e,e4 j e]
  obtain⟨H',ba,hK⟩:=key;exact .fI (.one stepR_region_end) (.zY (fr:=⟨aa,bz,bB⟩) ⟨hE,F,N⟩ ba ⟨trivial,hK⟩ cn cs)
 intro f;induction f with
 |zero=>intro cd L seen g n aa H A Q B w a z hf d F N hh;simp only[Region.linearise.go,List.reverse_nil];refine aA (λi hi=>?_) d F N;apply aeW;intro hn;have:=Pn hi hn;omega
 |succ f ih=>
  intro cd L seen g n aa H A Q B w a z hf d F N hh;simp only[Region.linearise.go];change gO P M B nt w b cn cs (lone (b.atR a (.inRegion aq (match(Region.ready .any aq L)[cd %(Region.ready .any aq L).length]? with|some i=>Region.linearise.go .any aq f (cd/(Region.ready .any aq L).length) (L.setIfInBounds i true) [i]|none=>[].reverse)::cn)) cs w) _;cases hi:(Region.ready .any aq L)[cd %(Region.ready .any aq L).length]? with
  |none=>
   have a2:Region.ready .any aq L=[]:=by cases hr:Region.ready .any aq L with|nil=>rfl|cons x xs=>rw[hr]at hi;have J:cd %(x::xs).length<(x::xs).length:=Nat.mod_lt _ aC;simp at hi;simp at J;omega
   simp only[List.reverse_nil];exact aA (Pl d.size D.he a2) d F N
  |some i=>
   simp only[];rw[linearise_go_acc,List.reverse_singleton,List.singleton_append];obtain⟨h1,h2,h3⟩:=Pk d.size (List.mem_of_getElem? hi);have V:sV (L.setIfInBounds i true) aq.size<=f:=by have:=Pm d.size h1 h2;omega
   by_cases dB:i∈seen;·obtain⟨aw,w',b',a6,bb,I,g2,g3,g4,g5⟩:=d.Pu D dB h2 h3 rfl (b:=b) (a:=a) (Region.linearise.go .any aq f (cd/(Region.ready .any aq L).length) (L.setIfInBounds i true) []) cn cs;refine .pZ I g2 (.fI g4 (ih _ z V g5 (by rw[g3];exact F.mono I) ?_ hh));exact(fD.mono (nt:=nt) (fr:=⟨A,bz,bB⟩) (ro:=b.roundOf) (a:=a) I ⟨d.E,F,N⟩).R
   rcases D.eG i h1 with ax|⟨t',bd,cf,hu,rfl⟩;case inr=>obtain⟨aw,w',I,g2,g4,g5⟩:=d.Px D bd hu h2 h3 rfl (b:=b) (a:=a) (Region.linearise.go .any aq f (cd/(Region.ready .any aq L).length) (L.setIfInBounds cf.u true) []) cn cs;refine .pZ I g2 (.fI g4 (ih _ z V g5 (F.mono I) ?_ hh));exact(fD.mono (nt:=nt) (fr:=⟨A,bz,bB⟩) (ro:=b.roundOf) (a:=a) I ⟨d.E,F,N⟩).R
   have W:i∈g:=by rw[<-d.dQ,aeu,aga]at ax;exact ax.resolve_left dB
   cases g with
   |nil=>cases W
   |cons c g=>
    have ay:=hh c g rfl;have bv:i=c:=by
     rcases aer.1 W with e|e;·exact e
     exfalso;obtain⟨x,hx,b0⟩:=ay;obtain⟨y,hy,_⟩:=rj D (lY d.dQ W);have a1:=(xE D.dL).1;rw[<-d.dQ,List.pairwise_append,afW]at a1;have hA:=((nS (a1.2.1.1 i e) hx hy).2.2.2.2 b0).1;have:=nR d.jh i h3 c hA;exact vt D d.dQ (acm ..) (d.vu D (lY d.dQ (acm ..)) this)
    subst bv;obtain⟨aw,w',b',n',b6,H',a6,bb,g0,I,g2,g3,g4,g5⟩:=d.Pw D z ay h3 rfl (b:=b) (a:=a) (Region.linearise.go .any aq f (cd/(Region.ready .any aq L).length) (L.setIfInBounds i true) []) cn cs;obtain⟨b3,b4,n2,b7,H2,ca,e1,e2,S⟩:=g5.Du D;refine .pZ I g2 (.fI g4 (ih _ (λm hm=>z m ab) V e2 (by rw[g3];exact F.mono I) ?_ S));exact(fD.mono (nt:=nt) (fr:=⟨A,bz,bB⟩) (ro:=b.roundOf) (a:=a) I ⟨d.E,F,N⟩).R
theorem PB{ac:Nat->aX}{n:Nat}(o:∀m,m<n->oW P ac m):Hg P ac n:=by
 intro v F H w G fr M id aq K b a f he x N k cs;simp only[sK,aep,aaw,aeY,abu,bA]at f;obtain⟨l,hl,f⟩:=f;obtain⟨aB,T,I,p,rfl⟩:∃aB T,gP P G aq l aB T/\(P.follows .mixedOrders||!Region.departs aq)=true/\M=lV l (Region.before aq) (kw T) [] aB++oQ T:=by
  split at f;·rename_i g;simp only[aet,aas]at f;simp only[aew,afv,afR]at g;obtain⟨⟨⟨p,y⟩,s⟩,z⟩:=g;exact⟨_,none,⟨hl,y,λi hi=>.inl (by simpa using s i hi),z,λt e=>by cases e⟩,p,by rw[<-f];simp[kw,oQ]⟩
  simp only[aaw]at f;obtain⟨t,A,f⟩:=f;split at f;case isFalse=>cases f
  rename_i g;simp only[aet,aas]at f;simp only[aew]at g;obtain⟨⟨⟨⟨p,y⟩,s⟩,z⟩,O⟩:=g;refine⟨_,some t,⟨hl,y,λi hi=>?_,z,λX e=>by injection e with e;subst e;exact Pz A O⟩,p,f.symm⟩;rw[afv]at s;have:=s i (afR.2 hi);simp only[afm,List.contains_iff_mem,List.any_eq_true,beq_iff_eq]at this;exact this.imp (λq=>q) λ⟨ag,h1,h2⟩=>⟨t,rfl,ag,h1,h2⟩
 have c:∀i,¬In (agk aq.size false) i:=λi h=>by unfold In at h;simp only[ae6,Array.getElem?_replicate]at h;split at h<;>cases h
 let J:World:={w with drawn:=w.drawn+1};have d:Dr P v G aq l aB T ac K fr.bz fr.bB fr.aa (agk aq.size false) [] aB n fr.aa H fr.aa [] F J a.tmps:=⟨rfl,aC,λi h=>absurd h (c i),λi h=>absurd h (c i),λ_ h=>absurd h aeS,he,λt _=>rfl,λt _=>rfl,λ_ _ h=>absurd h aeS,λj=>⟨λh=>absurd h aeS,λ⟨i,h,_⟩=>absurd h aeS⟩,λ_ _ _ h=>absurd h aeS,λ_ _ h=>absurd h aeS,λ_ _ h=>absurd h aeS,λ_ h=>absurd h aeS,λ_ h=>absurd h aeS,x.E,[],H,⟨rfl,List.nodup_nil,λ_=>rfl,λt _ ag=>⟨λh=>absurd h aeS,λh=>absurd h.2 (c ag.u)⟩,λ_ _=>rfl,λt _ h=>absurd h aeS⟩,N.drew⟩;obtain⟨B,C,Y,L,Z,W,e1,Q,S⟩:=d.Du I;have r:Region.schedule (P.follows .mixedOrders) aq (w.tape w.drawn (.order b.fn id))=Region.linearise.go .any aq aq.size (w.tape w.drawn (.order b.fn id)) (agk aq.size false) []:=by
  have:(P.follows .mixedOrders||!Region.departs aq)=true:=by simpa using p
  simp only[Region.schedule,this,bc];rfl
 have cz:=stepR_region_draw (P:=P) (b:=b) (a:=a) (k:=k) (cs:=cs) (w:=w) (ops:=aq) (id:=id);rw[r]at cz;have V:cW v w J:=(cW.refl v w).drew;refine .pZ (bR.refl F) V (.fI (.one cz) ?_);refine PA I k cs aq.size _ (λm hm=>o m ab) ?_ Q x.D x.R S;unfold sV;exact af2 (List.length_filter_le _ _) aC
theorem vA{ac:Nat->aX}(d:gC P ac):∀n,(∀m,m<=n->oW P ac m)/\u9 P ac n/\zX P ac n
 |0=>by
  refine⟨λm f=>?_,?_,?_⟩;·have:m=0:=ab;subst this;intro g h H w o args K fv j he;simp only[dT]at he
  .intro g h H w k fr c cc K b a i he;simp only[exec]at he
  intro g h H w k fr l is aq K b a p he;simp only[Go.ak.aq]at he
 |n+1=>by
  obtain⟨h1,h2,h3⟩:=vA d n;have i:oW P ac (n+1):=Pc d h2;refine⟨λm f=>?_,Pb d h2 h3 (PB λm f=>h1 m ab) (h1 n (aeq n)),OY (h1 n (aeq n)) h3⟩;by_cases e:m=n+1;·subst e;exact i
  exact h1 m ab
theorem PC{ac:Nat->aX}(a:gC P ac)(n:Nat):oW P ac n:=(vA a n).1 n (aeq n)
end
end
end Go.ak
namespace Go.ak.K
section
variable{b:Type}
theorem iB(n:Nat)(k:Nat->Prop):dF n k=k n:=by cases n<;>rfl
theorem qi(n:Int)(k:Int->Prop):kP n k=k n:=by cases n<;>simp only[kP,iB]
theorem vB:∀(p:af)(k:af->Prop),nB p k=k p|.xH,_=>rfl|.xO p,k=>vB p λp=>k (.xO p)|.xI p,k=>vB p λp=>k (.xI p)
theorem Dv:∀(p:af)(k:af->Prop),wV p k=k p.succ|.xH,_=>rfl|.xO _,_=>rfl|.xI p,k=>Dv p λp=>k (.xO p)
theorem fu(a:Bool)(x y:Prop):dj a x y=if a=true then x else y:=by cases a<;>simp[dj]
theorem HH(a:Bool)(k:Bool->Prop):uA a k=k a:=by cases a<;>rfl
theorem Ac(d:b):∀p:af,(am.aF:am b).get d p=d|.xH=>rfl|.xO p=>Ac d p|.xI p=>Ac d p
theorem vC(d:b):∀(p:af)(t:am b)(k:b->Prop),sG d p t k=k (t.get d p)|.xH,.aF,_=>rfl|.xH,.node _ _ _,_=>rfl|.xO p,.aF,k=>by show k d=k ((am.aF:am b).get d p);rw[Ac]|.xO p,.node l _ _,k=>vC d p l k|.xI p,.aF,k=>by show k d=k ((am.aF:am b).get d p);rw[Ac]|.xI p,.node _ _ r,k=>vC d p r k
theorem rl(d:b):∀(p:af)(v:b)(t:am b)(k:am b->Prop),sH d p v t k=k (t.set d p v)|.xH,_,.aF,_=>rfl|.xH,_,.node _ _ _,_=>rfl|.xO p,v,.aF,k=>rl d p v .aF λl=>k (.node l d .aF)|.xO p,v,.node l w r,k=>rl d p v l λl=>k (.node l w r)|.xI p,v,.aF,k=>rl d p v .aF λr=>k (.node .aF d r)|.xI p,v,.node l w r,k=>rl d p v r λr=>k (.node l w r)
theorem vD(d:b):∀(t:am b)(n:Nat)(k:b->Prop),nC d t n k=k (t.bN d n)
 |.aF,n,k=>by cases n<;>rfl
 |.node l v r,0,k=>rfl
 |.node l v r,m+1,k=>by
  show dj (aeF (Nat.mod m 2) 0) (nC d l (Nat.div m 2) k) (nC d r (Nat.div m 2) k)=_;rw[fu,vD d l,vD d r];simp only[am.bN];show(if aeF (m % 2) 0=true then k (l.bN d (m/2))else k (r.bN d (m/2)))=_;by_cases h:m % 2=0;·rw[aH (by rw[h];rfl),aH h]
  rw[ap (by intro e;exact h (aey e)),ap h]
theorem HI(d x:b)(t:am b)(k:am b->Prop):BT d x t k=k (.node t.left x t.right):=by cases t<;>rfl
theorem xK(d:b):∀(f n:Nat)(x:b)(t:am b)(k:am b->Prop),sI d f n x t k=k (t.kN d f n x)
 |0,0,x,t,k=>HI d x t k
 |0,n+1,x,t,k=>rfl
 |f+1,0,x,t,k=>HI d x t k
 |f+1,m+1,x,t,k=>by
  show dj (aeF (Nat.mod m 2) 0) (lK d (sI d f) (Nat.div m 2) x t k) (rK d (sI d f) (Nat.div m 2) x t k)=_;have hl:lK d (sI d f) (Nat.div m 2) x t k=k (.node (t.left.kN d f (m/2) x) (t.val d) t.right):=by cases t with|aF=>exact xK d f (m/2) x .aF λl=>k (.node l d .aF)|node l w r=>exact xK d f (m/2) x l λl=>k (.node l w r)
  have a:rK d (sI d f) (Nat.div m 2) x t k=k (.node t.left (t.val d) (t.right.kN d f (m/2) x)):=by cases t with|aF=>exact xK d f (m/2) x .aF λr=>k (.node .aF d r)|node l w r=>exact xK d f (m/2) x r λr=>k (.node l w r)
  rw[fu,hl,a];simp only[am.kN];show(if aeF (m % 2) 0=true then _ else _)=_;by_cases h:m % 2=0;·rw[aH (by rw[h];rfl),aH h]
  rw[ap (by intro e;exact h (aey e)),ap h]
theorem HJ:∀(l:List Nat)(k:List Nat->Prop),zn l k=k l|[],_=>rfl|n::l,k=>by show dF n (λn=>zn l λl=>k (n::l))=_;rw[iB,HJ l]
def Ad(l:List AV):(List AV->Prop)->Prop:=
 AV.rec_1 (motive_1:=λ_=>(AV->Prop)->Prop) (motive_2:=λ_=>(List AV->Prop)->Prop)
   (λ_ c k=>c λl=>k (.tuple l))
   (λ_ c k=>c λl=>k (.agg l))
   (λi k=>uA i λi=>k (.bool i))
   (λj n k=>dF j λj=>kP n λn=>k (.int j n))
   (λs k=>zn s λs=>k (.str s))
   (λid off k=>nB id λid=>dF off λoff=>k (.aD id off))
   (λk=>k .j5)
   (λid off len cap ex k=>nB id λid=>dF off λoff=>dF len λlen=>dF cap λcap=>uA ex λex=>k (.slice id off len cap ex))
   (λk=>k .aG)
   (λid k=>nB id λid=>k (.map id))
   (λk=>k .d9)
   (λf _ _ d e k=>dF f λf=>d λa=>e λi=>k (.func f a i))
   (λid k=>nB id λid=>k (.yield id))
   (λk=>k .nilFunc)
   (λt _ c k=>dF t λt=>c λv=>k (.iface t v))
   (λk=>k .nilIface)
   (λk=>k .ct)
   (λk=>k [])
   (λ_ _ g h k=>g λv=>h λl=>k (v::l)) l
mutual
theorem sX:∀(v:AV)(k:AV->Prop),oO v k=k v
 |.tuple l,k=>xL l λl=>k (.tuple l)
 |.agg l,k=>xL l λl=>k (.agg l)
 |.bool d,k=>HH d λd=>k (.bool d)
 |.int j n,k=>by show dF j (λj=>kP n λn=>k (.int j n))=_;rw[iB,qi]
 |.str s,k=>HJ s λs=>k (.str s)
 |.aD i o,k=>by show nB i (λi=>dF o λo=>k (.aD i o))=_;rw[vB,iB]
 |.j5,_=>rfl
 |.slice i o l c e,k=>by show nB i (λi=>dF o λo=>dF l λl=>dF c λc=>uA e λe=>k (.slice i o l c e))=_;rw[vB,iB,iB,iB,HH]
 |.aG,_=>rfl
 |.map i,k=>vB i λi=>k (.map i)
 |.d9,_=>rfl
 |.func f a d,k=>by show dF f (λf=>Ad a λa=>Ad d λd=>k (.func f a d))=_;rw[iB,xL a,xL d]
 |.yield i,k=>vB i λi=>k (.yield i)
 |.nilFunc,_=>rfl
 |.iface t v,k=>by show dF t (λt=>oO v λv=>k (.iface t v))=_;rw[iB,sX v]
 |.nilIface,_=>rfl
 |.ct,_=>rfl
theorem xL:∀(l:List AV)(k:List AV->Prop),Ad l k=k l
 |[],_=>rfl
 |v::l,k=>by show oO v (λv=>Ad l λl=>k (v::l))=_;rw[sX v,xL l]
end
theorem nT:∀(l:List AV)(k:List AV->Prop),kQ l k=k l|[],_=>rfl|v::l,k=>by show oO v (λv=>kQ l λl=>k (v::l))=_;rw[sX,nT l]
theorem fE(aa:am AV)(x:aK)(k:AV->Prop):ev aa x k=k (gv aa x):=by cases x with|t p=>exact vC _ _ _ _|c v=>rfl
theorem HK(aa:am AV):∀(l:List aK)(k:List AV->Prop),zo aa l k=k (l.map (gv aa))|[],_=>rfl|x::l,k=>by show ev aa x (λv=>zo aa l λl=>k (v::l))=_;rw[fE,HK aa l];rfl
theorem xM(a:b)(k:b->Prop):il (some a) k=k a:=rfl
theorem Dw(H:ai)(i:af)(k:bO->Prop):wX H i k=k (H.get i):=vC _ _ _ _
theorem vE(H:ai)(i:af)(o:bO)(k:ai->Prop):nD H i o k=k (H.set i o):=rl _ _ _ _ _
theorem rm(H:ai)(o:bO)(k:af->ai->Prop):ls H o k=k H.next (H.new o):=by show sH .none H.next o H.t (λa=>wV H.next λm=>k H.next ⟨a,m⟩)=_;rw[rl,Dv];rfl
theorem HL:∀(l:List af)(H:ai)(k:ai->Prop),BU l H k=k (H.dP l)|[],_,_=>rfl|i::l,H,k=>by show nD H i .none (λH=>BU l H k)=_;rw[vE,HL l];rfl
def PD(o:bO)(k:am AV->Nat->Nat->Bool->List af->Nat->Prop):Prop:=
 match o with
 |.cells c n e rw aM fz=>k c n e rw aM fz
 |_=>False
theorem Ae(H:ai)(i:af)(k:am AV->Nat->Nat->Bool->List af->Nat->Prop):sJ H i k=PD (H.get i) k:=by unfold sJ;rw[Dw];cases H.get i<;>rfl
theorem Dx(c:am AV)(n:Nat):∀(m off:Nat)(k:List AV->Prop),zp c n m off k=il (eX c n off m) k
 |0,_,_=>rfl
 |m+1,off,k=>by
  show dj (ae0 off n) (dF off λoff=>nC .agx c off λv=>zp c n m (Nat.succ off) λl=>k (v::l)) False=_;rw[fu,iB,vD,Dx c n m];simp only[eX];by_cases h:off<n;·rw[aH (agu afs h),aH h];cases eX c n (off+1) m<;>rfl
  rw[ap (λe=>h (Eq.mp afs e)),ap h];rfl
theorem Af:∀(l:List AV)(c:am AV)(off:Nat)(k:am AV->Prop),wY l c off k=k (fi c off l)|[],_,_,_=>rfl|v::l,c,off,k=>by show dF off (λoff=>sI .agx off off v c λc=>wY l c (Nat.succ off) k)=_;rw[iB,xK,Af l];rfl
theorem PE(H:ai)(i:af)(off m:Nat)(k:List AV->Prop):zq H i off m k=il (du H i off m) k:=by unfold zq;rw[Ae];unfold du;cases H.get i<;>first|rfl|exact Dx _ _ _ _ _
theorem lZ(a c:Bool):kr a c=(a&&c):=by cases a<;>rfl
theorem xN:∀l:List AV,uB l=cE l|[]=>rfl|v::l=>by show kr v.db (uB l)=_;rw[lZ,xN l];rfl
theorem qj:∀l:List b,kR l=l.length|[]=>rfl|_::l=>by show Nat.succ (kR l)=_;rw[qj l];rfl
theorem Dy(H:ai)(i:af)(off:Nat)(l:List AV)(k:ai->Prop):uC H i off l k=il (gw H i off l) k:=by
 unfold uC;rw[Ae];unfold gw;cases H.get i<;>(try rfl);rename_i c n e a aM fz;show BV H i off l k c n e a aM fz=_;unfold BV;rw[fu,HL,Af,vE,lZ,lZ,lZ,qj,xN];cases a with
 |false=>rfl
 |true=>
  simp only[agj];have h1:afx fz off=decide (fz<=off):=by
   by_cases h:fz<=off;·rw[decide_eq_true h,aff h]
   rw[decide_eq_false h];cases hb:afx fz off with|false=>rfl|true=>exact absurd (aeG hb) h
  have h2:afx (Nat.add off l.length) n=decide (off+l.length<=n):=by
   by_cases h:off+l.length<=n;·rw[decide_eq_true h];exact aff h
   rw[decide_eq_false h];cases hb:afx (Nat.add off l.length) n with|false=>rfl|true=>exact absurd (aeG hb) h
  rw[h1,h2,Bool.and_assoc];cases(decide (fz<=off)&&(decide (off+l.length<=n)&&cE l))<;>rfl
theorem sY(H:ai)(l:List AV)(n a:Nat)(k:af->ai->Prop):pL H l n a k=k H.next (H.new (.cells (bX l) n a true [] 0)):=by unfold pL;rw[Af,iB,rm];rfl
end
section
def gE(o:Option (AV×ai))(k:KV):Prop:=
 match o with
 |some p=>k p.1 p.2
 |none=>False
theorem PF(o:bC)(a:iW)(aa:am AV)(H:ai)(k:KV):eA o a aa H k=gE (aE o aa H) k:=by unfold eA;cases aE o aa H with|none=>rfl|some p=>exact sX p.1 λv=>k v p.2
theorem PG(b bytes size:Nat)(H:ai)(n:Nat)(l:List AV)(k:KV):BW b bytes size H n l k=gE (if aeF n 0 then some (.aG,H)else if dG (n*bytes)&&dG n then some (.slice H.next 0 n n false,H.new (.cells (bX l) (n*size) b true [] 0))else none) k:=by unfold BW;rw[fu,fu,sY,lZ];cases aeF n 0<;>(try rfl);cases(dG (n*bytes)&&dG n)<;>rfl
theorem HM(b bytes size:Nat)(H:ai)(s:AV)(n:Nat)(l:List AV)(k:KV):wZ b bytes size H s n l k=gE (iK b bytes size H s n l) k:=by
 unfold wZ iK;rw[fu,xN];cases cE l with
 |false=>rfl
 |true=>
  simp only[aeY,abu,bA,bc];cases s<;>(try rfl)
  .rename_i id off len cap exact;show BY b bytes size H n l k id off len cap exact=_;unfold BY;rw[iB,fu];show(if afx (len+n) cap=true then _ else _)=_;cases f:afx (len+n) cap with
   |true=>simp only[f,bc];unfold FY;rw[fu,iB,Dy];cases aeF n 0 with|true=>rfl|false=>simp only[abu,bA];show il (gw H id (off+len*size) l) _=_;cases gw H id (off+len*size) l<;>rfl
   |false=>simp only[f,abu,bA];rw[fu,lZ];show(if(dG ((len+n)*bytes)&&dG (len+n))=true then _ else _)=_;cases(dG ((len+n)*bytes)&&dG (len+n))with|false=>rfl|true=>simp only[bc,aeY,abu,bA];rw[Ae];cases H.get id<;>(try rfl);rename_i c m e d aM fz;show BX b size H l k id off len cap exact (len+n) c m e d aM fz=_;unfold BX;rw[Dx];show il (eX c m off (len*size)) _=_;simp only;cases eX c m off (len*size)with|none=>rfl|some cM=>rw[xM,nT,fu,fu,sY];cases exact with|true=>rfl|false=>simp only[abu,bA];unfold FZ;rw[fu,vE,Af,iB,iB,rm,lZ,lZ,lZ];show(if aeF len cap=true then(if(d&&(aeF (off+cap*size) m&&(aeF e b&&afx fz m)))=true then _ else False)else False)=gE (if(d&&aeF len cap&&aeF (off+cap*size) m&&aeF e b&&afx fz m)=true then _ else none) k;cases d<;>cases aeF len cap<;>cases aeF (off+cap*size) m<;>cases aeF e b<;>cases afx fz m<;>rfl
  exact PG b bytes size H n l k
theorem PH(c b:Int)(k:Int->Prop):F3 c b k=k (c+b):=by cases c with|negSucc m=>exact qi (.negSucc m+b) k|ofNat m=>cases b with|negSucc n=>exact qi (.ofNat m+ .negSucc n) k|ofNat n=>exact iB (m+n) λs=>k (.ofNat s)
theorem PJ(c b:Int)(k:Int->Prop):F4 c b k=k (c - b):=by
 cases c with
 |negSucc m=>exact qi (.negSucc m - b) k
 |ofNat m=>
  cases b with
  |negSucc n=>exact qi (.ofNat m - .negSucc n) k
  |ofNat n=>
   show dj (afx n m) (dF (Nat.sub m n) λs=>k (.ofNat s)) (kP (.ofNat m - .ofNat n) k)=_;rw[fu,iB,qi];split;·rename_i h;have:=aeG h;congr 1;show((m - n:Nat):Int)=(m:Int) - (n:Int);omega
   rfl
theorem PK(n:Int)(k:Int->Prop):F5 n k=k (fA 3 n):=by
 cases n with
 |negSucc m=>exact qi (fA 3 (.negSucc m)) k
 |ofNat m=>
  show dj (ae0 m 9223372036854775808) (k (.ofNat m)) (kP (fA 3 (.ofNat m)) k)=_;rw[fu,qi];split;·rename_i h;simp only[fA,h,bc]
  rfl
theorem HN(j:Nat)(n:Int)(k:Int->Prop):zr j n k=k (fA j n):=by
 unfold zr;rw[fu,qi,PK];split;·rename_i h;rw[aey h]
 rfl
theorem HO(c b:Int):BZ c b=gU c b:=by cases c<;>cases b<;>rfl
theorem HP(c b:Int):w6 c b=jz c b:=by cases c<;>cases b<;>rfl
theorem HQ(b:Bool):zt b=!b:=by cases b<;>rfl
theorem Ag(b:Bool)(k:AV->Prop):nE b k=k (.bool b):=by cases b<;>rfl
theorem PL(op:BinOp)(j:Nat)(d b:Int)(k:AV->Prop):B4 op j d b k=il (eT op j d b) k:=by
 have eA:∀c,pM c j d b k=il (eT c j d b) k:=λc=>by unfold pM;cases eT c j d b with|none=>rfl|some v=>exact sX v k
 cases op;·show B0 j d b k=_;unfold B0;rw[PH,HN];rfl
 .show B3 j d b k=_;unfold B3;rw[PJ,HN];rfl
 all_goals first|exact eA _|rfl|(show nE _ k=_;rw[Ag,HO];rfl)|(show nE _ k=_;rw[Ag,HQ,HO];rfl)|(show nE _ k=_;rw[Ag,HP];rfl)|(show nE _ k=_;rw[Ag,HQ,HP];rfl)
theorem PM(op:BinOp)(j:Nat)(x y:AV)(k:AV->Prop):B5 op j x y k=il (uu op j x y) k:=by unfold B5 F1 uu;cases x<;>(try rfl);cases y<;>(try rfl);rename_i i c l b;show dj (kr (aeF i j) (aeF l j)) (B4 op j c b k) False=_;rw[fu,lZ,PL];simp only;cases(aeF i j&&aeF l j)<;>rfl
theorem Ah(o:Option AV)(H:ai)(k:KV):gE (o.map λv=>(v,H)) k=il o λv=>k v H:=by cases o<;>rfl
variable(a:iW)(aa:am AV)(H:ai)(k:KV)
theorem PN(c d b:aK):B6 c d b a aa H k=gE (aE (.pick c d b) aa H) k:=by unfold B6;rw[fE];simp only[aE];cases gv aa c<;>(try rfl);rename_i t;show dj t (ev aa d λv=>k v H) (ev aa b λv=>k v H)=_;rw[fE,fE];cases t<;>rfl
theorem PO(e:Nat)(x:aK):B7 e x a aa H k=gE (aE (.box e x) aa H) k:=by unfold B7;rw[fE,nT,fu,sY,xN,qj];simp only[aE];cases cE (gv aa x).cells<;>rfl
theorem PP(e:Nat)(b:List AV):B8 e b a aa H k=gE (aE (.alloc e b) aa H) k:=by unfold B8;rw[sY,qj];rfl
theorem PQ(e n:Nat)(b:List AV)(c:List (Nat×Nat×aK)):B9 e n b c a aa H k=gE (aE (.buildSlice e n b c) aa H) k:=by unfold B9;simp only[aE];cases kp aa (ep b n) c with|none=>rfl|some l=>rw[xM,nT,fu,sY,xN,qj];simp only;cases cE l<;>rfl
theorem PR(H:ai)(id:af)(off:Nat):du H id off 1=(match H.get id with|.cells c n _ _ _ _=>if off<n then some [c.bN .agx off]else none|_=>none):=by unfold du;cases H.get id<;>rfl
theorem PS(d:aK):B' d a aa H k=gE (aE (.bk d) aa H) k:=by
 unfold B';rw[fE];simp only[aE,Ah];unfold F8 qT gz;cases gv aa d<;>(try rfl);rename_i id off;show sJ H id (F7 off λv=>k v H)=_;rw[Ae];simp only[PR];cases H.get id<;>(try rfl);rename_i c n e b aM fz;show dj (ae0 off n) (nC .agx c off λv=>k v H) False=_;rw[fu,vD];by_cases h:off<n;·rw[aH (agu afs h)];simp only[h,bc];rfl
 rw[ap (λe=>h (Eq.mp afs e))];simp only[h,bA];rfl
theorem PT(n:Nat)(b:aK):Ca n b a aa H k=gE (aE (.fL n b) aa H) k:=by unfold Ca;rw[fE];simp only[aE,Ah];unfold qT gz;cases gv aa b<;>(try rfl);rename_i id off;show zq H id off n _=_;rw[PE];simp only;cases du H id off n<;>rfl
theorem PU(n:Nat)(b x:aK):Cb n b x a aa H k=gE (aE (.store n b x) aa H) k:=by
 unfold Cb;rw[fE,fE,nT];unfold F9 qT;simp only[aE];cases gv aa b<;>(try rfl);rename_i id off;show dj (aeF (kR (gv aa x).cells) n) (uC H id off (gv aa x).cells λH=>k .agx H) False=_;rw[fu,Dy,qj];by_cases h:(gv aa x).cells.length=n;·rw[aH (by rw[h];exact afM n)];simp only[h,bc];cases gw H id off (gv aa x).cells<;>rfl
 rw[ap (λe=>h (aey e))];simp only[h,bA];rfl
theorem PV(op:BinOp)(j:Nat)(x y:aK):Cc op j x y a aa H k=gE (aE (.arith op j x y) aa H) k:=by unfold Cc;rw[fE,fE,PM];simp only[aE,Ah]
theorem PW(off:Nat)(x:aK):Cd off x a aa H k=gE (aE (.jx off x) aa H) k:=by unfold Cd;rw[fE];unfold qT;simp only[aE];cases gv aa x<;>(try rfl);exact iB _ _
theorem PX(s:Nat)(x i:aK):Ce s x i a aa H k=gE (aE (.dO s x i) aa H) k:=by unfold Ce;rw[fE,fE];unfold Ga;simp only[aE];cases gv aa x<;>(try rfl);cases gv aa i<;>(try rfl);rename_i z;cases z<;>(try rfl);rename_i id o len c e b j;show dj (ae0 j len) (dF (Nat.add o (Nat.mul j s)) λo=>k (.aD id o) H) False=_;rw[fu,iB];show _=gE (if ae0 j len=true then _ else _) k;cases ae0 j len<;>rfl
theorem PY:Cf a aa H k=gE (aE .je aa H) k:=by unfold Cf;rw[rm];rfl
theorem PZ(e b s:Nat)(f:List AV)(x y:aK):Cg e b s f x y a aa H k=gE (aE (.ng e b s f x y) aa H) k:=by
 unfold Cg;rw[fE,fE];simp only[aE];generalize gv aa x=g;generalize gv aa y=h;unfold Gb;split;·rename_i l c;rw[fu,nT,sY,lZ,lZ,<-Bool.and_assoc];simp only;cases(afx l c&&dG (c*b)&&dG c)<;>rfl
 rename_i d;split;·rename_i l c;exact absurd rfl (d l c rfl)
 rfl
theorem P1(e:Nat)(x:aK):Ci e x a aa H k=gE (aE (.sy e x) aa H) k:=by unfold Ci;rw[fE];unfold Gc;simp only[aE];cases gv aa x<;>(try rfl);rename_i s;show kQ _ _=_;rw[nT,sY,iB];rfl
theorem P3(e b s:Nat)(d:List AV)(m:Bool)(x y:aK):Cj e b s d m x y a aa H k=gE (aE (.append e b s d m x y) aa H) k:=by
 unfold Cj;rw[fE,fE,fu];simp only[aE];cases m with
 |true=>
  simp only[bc];generalize gv aa y=f;unfold Gd;split;·rename_i n;rw[fu,nT,HM,lZ];simp only;cases(dG (n*b)&&dG n)<;>rfl
  rename_i c;split;·rename_i n;exact absurd rfl (c n)
  rfl
 |false=>simp only[abu,bA];cases fB H s (gv aa y)with|none=>rfl|some p=>show dF p.1 (λn=>kQ p.2 λl=>wZ e b s H (gv aa x) n l k)=_;rw[iB,nT,HM]
theorem P4(s:Nat)(x y:aK):Cl s x y a aa H k=gE (aE (.copy s x y) aa H) k:=by
 unfold Cl;rw[fE,fE];simp only[aE];cases fB H s (gv aa y)with
 |none=>cases gv aa x<;>rfl
 |some p=>
  show Ck s H k (gv aa x) p.1 p.2=_;unfold Ck;cases gv aa x<;>(try rfl);rename_i id off len c e;show dF (min p.1 len) _=_;rw[iB,fu,nT,Dy];simp only;by_cases h:min p.1 len=0;·rw[aH (by rw[h];rfl)];simp only[h,bc];rfl
  rw[ap (λe=>h (aey e))];simp only[h,bA];cases gw H id off (p.2.take (min p.1 len*s))<;>rfl
theorem P5(x:aK):Cm x a aa H k=gE (aE (.oK x) aa H) k:=by unfold Cm;rw[fE];unfold Ge;simp only[aE];cases gv aa x<;>(try rfl);show ls _ _ _=_;rw[rm];rfl
theorem P6(x:aK):Cn x a aa H k=gE (aE (.ln x) aa H) k:=by
 unfold Cn;rw[fE];unfold Gf;simp only[aE];cases gv aa x<;>(try rfl);·rename_i m;show wX H m _=_;rw[Dw];simp only;cases H.get m<;>(try rfl);show ls _ _ _=_;rw[rm];rfl
 show ls _ _ _=_;rw[rm];rfl
theorem HR:∀(l:List AV)(n:Nat)(k:AV->Prop),Co l n k=il (kO l n) k|[],_,_=>rfl|_::_,0,_=>rfl|_::l,n+1,k=>HR l n k
theorem P7(x:aK)(i:Nat):Cp x i a aa H k=gE (aE (.extract x i) aa H) k:=by unfold Cp;rw[fE];unfold Gh;simp only[aE];cases gv aa x<;>(try rfl);rename_i l;show Co l i _=_;rw[HR,Ah]
theorem P8(x:aK):Cq x a aa H k=gE (aE (.nilCheck x) aa H) k:=by unfold Cq;rw[fE];unfold Gi;simp only[aE];cases gv aa x<;>rfl
theorem P9(x:aK):Cr x a aa H k=gE (aE (.kn x) aa H) k:=by unfold Cr;rw[fE];unfold Gj;simp only[aE];cases gv aa x<;>rfl
theorem Qa(o:bC)(h:o.uL=false)(h2:∀b,o≠.jy b):uD o a aa H k=gE (aE o aa H) k:=by
 cases o;case call=>simp[bC.uL]at h
 case jy b=>exact absurd rfl (h2 b)
 case bw x=>exact fE _ _ _
 case pick=>exact PN a aa H k _ _ _
 case box=>exact PO a aa H k _ _
 case alloc=>exact PP a aa H k _ _
 case buildSlice=>exact PQ a aa H k _ _ _ _
 case bk=>exact PS a aa H k _
 case fL=>exact PT a aa H k _ _
 case store=>exact PU a aa H k _ _ _
 case arith=>exact PV a aa H k _ _ _ _
 case jx=>exact PW a aa H k _ _
 case dO=>exact PX a aa H k _ _ _
 case je=>exact PY a aa H k
 case ng=>exact PZ a aa H k _ _ _ _ _ _
 case sy=>exact P1 a aa H k _ _
 case append=>exact P3 a aa H k _ _ _ _ _ _ _
 case copy=>exact P4 a aa H k _ _ _
 case oK=>exact P5 a aa H k _
 case ln=>exact P6 a aa H k _
 case extract=>exact P7 a aa H k _ _
 case nilCheck=>exact P8 a aa H k _
 case kn=>exact P9 a aa H k _
 all_goals exact PF _ a aa H k
theorem Qb(f:aK)(args:List aK):uD (.call f args) a aa H k=a.call (gv aa f) (args.map (gv aa)) H k:=by show ev aa f (λf=>zo aa args λargs=>a.call f args H k)=_;rw[fE,HK]
theorem Qc(b:aK):uD (.jy b) a aa H k=(match pK H (gv aa b)with
 |some (cs,d)=>cA cs.length λi=>match cs[i]? with|some c=>k (d c).1 (d c).2|none=>False
 |none=>False):=by show ev aa b (λb=>Gg H b k)=_;rw[fE];rfl
end
section
theorem xP(j:bU)(x:Prop)(y:Nat->Prop)(z:Prop):uE j x y z=(match j with|.none=>x|.exit i=>y i|.ret=>z):=by cases j<;>rfl
theorem Qd(v:AV)(t f:Prop):zu v t f=(match v with|.bool true=>t|.bool false=>f|_=>False):=by unfold zu;cases v<;>(try rfl);rename_i b;show dj b t f=_;cases b<;>rfl
theorem HS(aa:am AV)(d:Option af)(v:AV)(k:am AV->Prop):zw aa d v k=k (aO aa d v):=by cases d with|none=>rfl|some p=>exact rl _ _ _ _ _
theorem Qe(aa:am AV)(H:ai)(l:List fU)(x:Prop):Cs aa H l x=if dl aa H l=true then x else False:=by cases l with|nil=>simp[Cs,dl]|cons a l=>exact fu _ _ _
theorem Qf(aa:am AV)(g:Option (af×Bool))(x y:Prop):zx aa g x y=if dc aa g=true then x else if iM aa g=true then y else False:=by cases g with|none=>simp[zx,dc]|some g=>show dj (dc aa (some g)) x (dj (iM aa (some g)) y False)=_;rw[fu,fu]
theorem HT:∀(l:List AV)(p:af)(t:am AV)(k:am AV->Prop),Ct l p t k=k (iL l p t)|[],_,_,_=>rfl|v::l,p,t,k=>by show sH .agx p v t (λt=>wV p λp=>Ct l p t k)=_;rw[rl,Dv,HT l];rfl
theorem Dz(aa:am AV)(H:ai):∀(l:List fM)(k:List AV->Prop),w8 aa H l k=il (ee aa H l) k|[],_=>rfl|.tmp p::l,k=>by show sG .agx p aa (λv=>w8 aa H l λl=>k (v::l))=_;rw[vC,Dz aa H l];simp only[ee];cases ee aa H l<;>rfl|.cell p g n::l,k=>by show sG .agx p aa (λa=>il (gz H a n g) λv=>oO v λv=>w8 aa H l λl=>k (v::l))=_;rw[vC];simp only[ee];cases gz H (aa.get .agx p) n g with|none=>rfl|some v=>rw[xM,sX,Dz aa H l];cases ee aa H l<;>rfl
theorem Qg(l:List AV)(k:AV->Prop):Cu l k=k (fG l):=by match l with|[]=>rfl|[v]=>rfl|v::w::l=>rfl
theorem Qh(H:ai)(l:List af)(k:ai->Prop):Cv H l k=il (gV H l) k:=by cases l<;>rfl
def DA(o:bO)(k:LK):Prop:=
 match o with
 |.loop st bP fn aa a as_ b d=>k st bP fn aa a as_ b d
 |_=>False
theorem xQ(H:ai)(i:af)(k:LK):pO H i k=DA (H.get i) k:=by unfold pO;rw[Dw];cases H.get i<;>rfl
variable{ac:am aX}
structure xR(ac:am aX)(n:Nat):Prop where
 exec:∀c fr H K,(dp ac n).exec c fr H K=Go.ak.exec False cA (ac.bN .none) n c fr H K
 aq:∀l fr H K,(dp ac n).aq l fr H K=Go.ak.aq False cA (ac.bN .none) n l fr H K
 call:∀f args H K,(dp ac n).call f args H K=dT False cA (ac.bN .none) n f args H K
theorem HV{n:Nat}(h:xR ac n)(b:bg)(K:pN):uF (dp ac n) b K=λj fr H=>match j with|.none=>Go.ak.exec False cA (ac.bN .none) n b fr H K|j=>K j fr H:=by funext j fr H;unfold uF;rw[xP,h.exec];cases j<;>rfl
theorem Qi{n:Nat}(h:xR ac n)(c:bg)(fr:Fr)(H:ai)(K:pN):(dp ac (n+1)).exec c fr H K=Go.ak.exec False cA (ac.bN .none) (n+1) c fr H K:=by
 cases c with
 |skip=>simp only[Go.ak.exec];rfl
 |region l=>show(dp ac n).aq l fr H (K .none)=_;rw[h.aq];simp only[Go.ak.exec]
 |seq a b=>show(dp ac n).exec a fr H (uF (dp ac n) b K)=_;rw[h.exec,HV h];simp only[Go.ak.exec];rfl
 |cond c a b=>show ev fr.aa c (λv=>zu v ((dp ac n).exec a fr H K) ((dp ac n).exec b fr H K))=_;rw[fE,Qd,h.exec,h.exec];simp only[Go.ak.exec];rfl
 |block id b=>show(dp ac n).exec b fr H (Cw id K)=_;rw[h.exec];simp only[Go.ak.exec];congr 1;funext j fr H;unfold Cw;rw[xP];cases j with|none=>rfl|exit i=>exact fu _ _ _|ret=>rfl
 |loop b=>show(dp ac n).exec b fr H (uF (dp ac n) (.loop b) K)=_;rw[h.exec,HV h];simp only[Go.ak.exec];rfl
 |rangeFunc f e as_ k=>
  have go:∀(fr:Fr)(H:ai)(d:af)(aa:am AV),uG (dp ac n) aa e as_ k (gv fr.aa f) K fr H d=dT False cA (ac.bN .none) n (gv fr.aa f) [.yield H.next] (H.new (.loop .ready .none 0 aa e as_ k d)) λ_ o=>match o.get H.next with
   |.loop st bP fn aa e as_ k d=>match st with|.busy=>False|_=>K bP fr (o.set H.next (.loop .exhausted bP fn aa e as_ k d))
   |_=>False:=by intro fr H d aa;unfold uG;rw[rm,h.call];congr 1;funext v o;rw[xQ];cases o.get H.next<;>(try rfl);rename_i st bP fn aa e as_ k d;unfold DA Cy;simp only[vE];cases st<;>rfl
  show ev fr.aa f (λfv=>Option.rec (motive:=λ_=>Prop) (ls H (.deferred false) λm H=>uG (dp ac n) fr.aa e as_ k fv K ⟨fr.aa,m::fr.bz,fr.bB⟩ H m) (λl=>pO H l λ_ _ _ _ _ _ _ d=>uG (dp ac n) fr.aa e as_ k fv K fr H d) fr.bB)=_;rw[fE];simp only[Go.ak.exec];cases p:fr.bB with|none=>show ls H (.deferred false) _=_;rw[rm];exact go ⟨fr.aa,H.next::fr.bz,none⟩ (H.new (.deferred false)) H.next fr.aa|some l=>show pO H l _=_;rw[xQ];simp only;cases H.get l<;>(try rfl);exact go fr H _ fr.aa
 |exit id=>simp only[Go.ak.exec];rfl
 |ret=>simp only[Go.ak.exec];rfl
 |eF t=>show nC .none ac t (λg=>aX.rec (motive:=λ_=>Prop) False (λ_ _ _=>False) (λ_=>False) (zA fr H K) g)=_;rw[vD];simp only[Go.ak.exec];cases ac.bN .none t<;>(try rfl);rename_i g;show zA fr H K g=_;unfold zA;show il (g fr.aa H) _=_;simp only;cases g fr.aa H<;>rfl
theorem Qj{n:Nat}(h:xR ac n)(l:List bu)(fr:Fr)(H:ai)(K:Fr->ai->Prop):(dp ac (n+1)).aq l fr H K=Go.ak.aq False cA (ac.bN .none) (n+1) l fr H K:=by
 cases l with
 |nil=>simp only[Go.ak.aq];rfl
 |cons o l=>
  show zx fr.aa o.guard (Cz (dp ac n) o.op fr.aa H o.gu (after (dp ac n) l K o.dst o.re fr.aa fr.bz fr.bB)) (zw fr.aa o.dst .agx λaa=>(dp ac n).aq l ⟨aa,fr.bz,fr.bB⟩ H K)=_;rw[Qf,HS,h.aq];simp only[Go.ak.aq];congr 1;have c:∀(s:List (af×bO))(v:AV)(H:ai),after (dp ac n) l K o.dst o.re fr.aa fr.bz fr.bB v (cB H s)=if dl (aO fr.aa o.dst v) (cB H s) o.re=true then Go.ak.aq False cA (ac.bN .none) n l {fr with aa:=aO fr.aa o.dst v} (cB H s) K else False:=by intro s v H;unfold after;rw[HS,Qe,h.aq]
  have j:Cz (dp ac n) o.op fr.aa H o.gu (after (dp ac n) l K o.dst o.re fr.aa fr.bz fr.bB)=uD o.op (dp ac n) fr.aa (cS fr.aa H o.gu).1 λv b=>after (dp ac n) l K o.dst o.re fr.aa fr.bz fr.bB v (cB b (cS fr.aa H o.gu).2):=by cases o.gu<;>rfl
  rw[j];have k:(λv b=>after (dp ac n) l K o.dst o.re fr.aa fr.bz fr.bB v (cB b (cS fr.aa H o.gu).2))=λv b=>if dl (aO fr.aa o.dst v) (cB b (cS fr.aa H o.gu).2) o.re=true then Go.ak.aq False cA (ac.bN .none) n l {fr with aa:=aO fr.aa o.dst v} (cB b (cS fr.aa H o.gu).2) K else False:=by funext v b;exact c _ v b
  rw[k];split;·rename_i f args a;rw[a,Qb,h.call]
  .rename_i i a;rw[a,Qc];rfl
  rename_i d g;rw[Qa _ _ _ _ _ (by cases a:o.op<;>first|rfl|exact absurd a (d _ _)) (λi e=>g i e)];cases aE o.op fr.aa (cS fr.aa H o.gu).1<;>rfl
theorem Qk{n:Nat}(h:xR ac n)(f:AV)(args:List AV)(H:ai)(K:KV):(dp ac (n+1)).call f args H K=dT False cA (ac.bN .none) (n+1) f args H K:=by
 cases f<;>(try(simp only[dT];rfl))
 .rename_i f first a;show nC .none ac f (λg=>kQ (first++args++a) λall=>aX.rec (motive:=λ_=>Prop) False (zB (dp ac n) H K all) (zC H K all) (λ_=>False) g)=_;rw[vD,nT];simp only[dT];cases ac.bN .none f<;>(try rfl)
  .rename_i q m body;show zB (dp ac n) H K (first++args++a) q m body=_;unfold zB;rw[fu,qj,HT,h.exec];simp only;congr 2;funext j fr H;have o:CB m K fr H=(match gV H fr.bz with
    |some H=>match ee fr.aa H m with|some l=>K (fG l) H|none=>False
    |none=>False):=by show Cv H fr.bz (λH=>w8 fr.aa H m λl=>Cu l λv=>K v H)=_;rw[Qh];cases gV H fr.bz with|none=>rfl|some r=>rw[xM,Dz];simp only;cases ee fr.aa r m with|none=>rfl|some l=>rw[xM,Qg]
   unfold Gk;rw[xP,o];cases j<;>rfl
  rename_i g;show zC H K (first++args++a) g=_;unfold zC;simp only;cases g (first++args++a) H with|none=>rfl|some p=>exact sX p.1 λv=>K v p.2
 rename_i l;show CD (dp ac n) args H K l=_;unfold CD;rw[xQ];simp only[dT];cases H.get l<;>(try rfl);rename_i st bP fn aa b as_ c d;show xe st (dj (aeF (kR args) (kR b)) ((dp ac n).exec as_ ⟨kq b args aa,[],some l⟩ H (xf (dp ac n) l c K)) False) False False=_;cases st<;>(try rfl);show dj (aeF (kR args) (kR b)) ((dp ac n).exec as_ ⟨kq b args aa,[],some l⟩ H (xf (dp ac n) l c K)) False=_;rw[fu,qj,qj,h.exec];simp only;have s:xf (dp ac n) l c K=λj fr H=>match j,H.get l with
  |.none,.loop .ready bP fn aa b as_ k d=>Go.ak.exec False cA (ac.bN .none) n c fr (H.set l (.loop .busy bP fn aa b as_ k d)) λj _ H=>match H.get l with
   |.loop _ _ fn aa b as_ c d=>match j with|.none=>K (.bool true) (H.set l (.loop .ready .none fn aa b as_ c d))|j=>K (.bool false) (H.set l (.loop .done j fn aa b as_ c d))
   |_=>False
  |_,_=>False:=by funext j fr H;unfold xf;rw[xP];cases j with|none=>simp only;unfold Gl;rw[xQ];cases H.get l<;>(try rfl);rename_i st bP fn aa b as_ k d;show xe st _ False False=_;cases st<;>(try rfl);show nD H l (.loop .busy bP fn aa b as_ k d) (λH=>(dp ac n).exec c fr H (CC l K))=_;rw[vE,h.exec];simp only;congr 1;funext j t H;unfold CC;rw[xQ];cases H.get l<;>(try rfl);unfold DA;simp only;rw[xP];cases j<;>simp only[vE]|exit i=>cases H.get l<;>rfl|ret=>cases H.get l<;>rfl
 rw[s];by_cases hl:args.length=b.length;·rw[aH (by rw[hl];exact afM _),aH hl];rfl
 rw[ap (λe=>hl (aey e)),ap hl]
theorem xS(ac:am aX):∀n,xR ac n|0=>⟨λc fr H K=>by simp only[Go.ak.exec];rfl,λl fr H K=>by simp only[Go.ak.aq];rfl,λf args H K=>by simp only[dT];rfl⟩|n+1=>⟨Qi (xS ac n),Qj (xS ac n),Qk (xS ac n)⟩
end
end Go.ak.K
namespace Go.ak
section
variable{ac:Nat->aX}
structure Ai(ac:Nat->aX)(n:Nat):Prop where
 exec:∀{c fr H K K' m},n<=m->(∀j fr H,K j fr H->K' j fr H)->exec False cA ac n c fr H K->exec False cA ac m c fr H K'
 aq:∀{l fr H K K' m},n<=m->(∀fr H,K fr H->K' fr H)->Go.ak.aq False cA ac n l fr H K->Go.ak.aq False cA ac m l fr H K'
 call:∀{f args H K K' m},n<=m->(∀v H,K v H->K' v H)->dT False cA ac n f args H K->dT False cA ac m f args H K'
theorem Ql{n:Nat}(h:Ai ac n){c:bg}{fr:Fr}{H:ai}{K r:bU->Fr->ai->Prop}{m:Nat}(g:n<=m)(e:∀j fr H,K j fr H->r j fr H)(he:exec False cA ac (n+1) c fr H K):exec False cA ac (m+1) c fr H r:=by
 cases c with
 |skip=>simp only[exec]at he⊢;exact e _ _ _ he
 |region l=>simp only[exec]at he⊢;exact h.aq g (e _) he
 |seq a b=>simp only[exec]at he⊢;refine h.exec g (λj fr H hj=>?_) he;cases j with|none=>exact h.exec g e hj|exit i=>exact e _ _ _ hj|ret=>exact e _ _ _ hj
 |cond c a b=>
  simp only[exec]at he⊢;split at he;·exact h.exec g e he
  .exact h.exec g e he
  exact he.elim
 |block id b=>simp only[exec]at he⊢;refine h.exec g (λj fr H hj=>?_) he;cases j with|none=>exact e _ _ _ hj|exit i=>simp only at hj⊢;split at hj<;>rename_i hi<;>simp only[hi,bc,bA,abu]<;>exact e _ _ _ hj|ret=>exact e _ _ _ hj
 |loop b=>simp only[exec]at he⊢;refine h.exec g (λj fr H hj=>?_) he;cases j with|none=>exact h.exec g e hj|exit i=>exact e _ _ _ hj|ret=>exact e _ _ _ hj
 |rangeFunc f p as_ q=>
  simp only[exec]at he⊢;have go:∀(fr:Fr)(l:af)(v:AV)(k:ai),(match k.get l with
   |.loop st bP fn aa p as_ q d=>match st with|.busy=>False|_=>K bP fr (k.set l (.loop .exhausted bP fn aa p as_ q d))
   |_=>False)->(match k.get l with
   |.loop st bP fn aa p as_ q d=>match st with|.busy=>False|_=>r bP fr (k.set l (.loop .exhausted bP fn aa p as_ q d))
   |_=>False):=by
   intro fr l v k o;cases s:k.get l with
   |loop st bP fn aa p as_ q d=>rw[s]at o;cases st<;>first|exact o.elim|exact e _ _ _ o
   |_=>rw[s]at o;exact o.elim
  cases u:fr.bB with
  |none=>rw[u]at he;exact h.call g (λv k o=>go _ _ v k o) he
  |some l=>
   rw[u]at he;simp only at he⊢;split at he;·exact h.call g (λv k o=>go _ _ v k o) he
   exact he.elim
 |exit id=>simp only[exec]at he⊢;exact e _ _ _ he
 |ret=>simp only[exec]at he⊢;exact e _ _ _ he
 |eF t=>
  simp only[exec]at he⊢;split at he
  .split at he;·exact e _ _ _ he
   exact he.elim
  exact he.elim
theorem Qm{n:Nat}(h:Ai ac n){l:List bu}{fr:Fr}{H:ai}{K c:Fr->ai->Prop}{m:Nat}(d:n<=m)(e:∀fr H,K fr H->c fr H)(he:Go.ak.aq False cA ac (n+1) l fr H K):Go.ak.aq False cA ac (m+1) l fr H c:=by
 cases l with
 |nil=>simp only[Go.ak.aq]at he⊢;exact e _ _ he
 |cons o l=>
  simp only[Go.ak.aq]at he⊢;have j:∀(v:AV)(H:ai),(if dl (aO fr.aa o.dst v) (cB H (cS fr.aa H o.gu).2) o.re=true then Go.ak.aq False cA ac n l {fr with aa:=aO fr.aa o.dst v} (cB H (cS fr.aa H o.gu).2) K else False)->(if dl (aO fr.aa o.dst v) (cB H (cS fr.aa H o.gu).2) o.re=true then Go.ak.aq False cA ac m l {fr with aa:=aO fr.aa o.dst v} (cB H (cS fr.aa H o.gu).2) c else False):=by
   intro v H b;split at b;·rename_i f;rw[aH f];exact h.aq d e b
   exact b.elim
  have a:∀(s:List (af×bO))(v:AV)(H:ai),(if dl (aO fr.aa o.dst v) (cB H s) o.re=true then Go.ak.aq False cA ac n l {fr with aa:=aO fr.aa o.dst v} (cB H s) K else False)->(if dl (aO fr.aa o.dst v) (cB H s) o.re=true then Go.ak.aq False cA ac m l {fr with aa:=aO fr.aa o.dst v} (cB H s) c else False):=by
   intro s v H b;split at b;·rename_i f;rw[aH f];exact h.aq d e b
   exact b.elim
  split at he
  .rename_i hg;rw[aH hg];split at he;·exact h.call d (λv g b=>a _ v g b) he
   .split at he
    .intro i hi;have:=he i hi;simp only at this⊢;split at this;·exact a _ _ _ this
     exact this.elim
    exact he.elim
   split at he;·exact a _ _ _ he
   exact he.elim
  rename_i hg;rw[ap hg];split at he;·rename_i hd;rw[aH hd];exact h.aq d e he
  exact he.elim
theorem Qn{n:Nat}(h:Ai ac n){f:AV}{args:List AV}{H:ai}{K g:KT}{m:Nat}(c:n<=m)(a:∀v H,K v H->g v H)(he:dT False cA ac (n+1) f args H K):dT False cA ac (m+1) f args H g:=by
 cases f<;>(try(simp only[dT]at he;done))
 .rename_i f first b;simp only[dT]at he⊢;split at he;·exact he.elim
  .exact he.elim
  .split at he;·exact a _ _ he
   exact he.elim
  split at he
  .rename_i d;rw[aH d];refine h.exec c (λj fr H hj=>?_) he;cases j with
   |exit i=>exact hj.elim
   |none=>
    simp only at hj⊢;split at hj
    .split at hj;·exact a _ _ hj
     exact hj.elim
    exact hj.elim
   |ret=>
    simp only at hj⊢;split at hj
    .split at hj;·exact a _ _ hj
     exact hj.elim
    exact hj.elim
  exact he.elim
 rename_i l;simp only[dT]at he⊢;split at he
 .split at he
  .split at he
   .rename_i hl;rw[aH hl];refine h.exec c (λj fr H hj=>?_) he;split at hj
    .refine h.exec c (λj fr H hj=>?_) hj;split at hj
     .split at hj;·exact a _ _ hj
      cases j<;>first|exact a _ _ hj|skip
      all_goals first|exact a _ _ hj|(rename_i e;exact absurd rfl e)
     exact hj.elim
    exact hj.elim
   exact he.elim
  exact he.elim
 exact he.elim
theorem mono(ac:Nat->aX):∀n,Ai ac n|0=>⟨λ_ _ he=>by simp only[exec]at he,λ_ _ he=>by simp only[Go.ak.aq]at he,λ_ _ he=>by simp only[dT]at he⟩|n+1=>by have h:=mono ac n;refine⟨λb a he=>?_,λb a he=>?_,λb a he=>?_⟩;all_goals rename_i m;cases m with|zero=>omega|succ m=>first|exact Ql h ab a he|exact Qm h ab a he|exact Qn h ab a he
end
section
variable[Ov]
variable{ac:Nat->aX}
abbrev Xc(ac:Nat->aX)(n:Nat)(c:bg)(fr:Fr)(H:ai)(K:bU->Fr->ai->Prop):Prop:=exec False cA ac n c fr H K
abbrev Xo(ac:Nat->aX)(n:Nat)(l:List bu)(fr:Fr)(H:ai)(K:Fr->ai->Prop):Prop:=Go.ak.aq False cA ac n l fr H K
abbrev Xf(ac:Nat->aX)(n:Nat)(f:AV)(args:List AV)(H:ai)(K:KT):Prop:=dT False cA ac n f args H K
theorem Xo.nil{n:Nat}{fr:Fr}{H:ai}{K:Fr->ai->Prop}(h:K fr H):Xo ac (n+1) [] fr H K:=by simp only[Xo,Go.ak.aq];exact h
theorem Xo.op{n:Nat}{d:Option af}{op:bC}{l:List bu}{aa:am AV}{bz:List af}{bB:Option af}{H H':ai}{v:AV}{K:Fr->ai->Prop}(he:aE op aa H=some (v,H'))(h:Xo ac n l ⟨aO aa d v,bz,bB⟩ H' K):Xo ac (n+1) (⟨d,op,none,[],[]⟩::l) ⟨aa,bz,bB⟩ H K:=by
 simp only[Xo,Go.ak.aq,dc,cS,cB,dl,bc];split;·simp[aE]at he
 .simp[aE]at he
 rw[he];exact h
theorem Xo.next{n:Nat}{d:Option af}{a:aK}{l:List bu}{aa:am AV}{bz:List af}{bB:Option af}{H:ai}{cs:List (Option aV)}{aft:Option aV->AV×ai}{K:Fr->ai->Prop}(he:pK H (gv aa a)=some (cs,aft))(h:∀c∈cs,Xo ac n l ⟨aO aa d (aft c).1,bz,bB⟩ (aft c).2 K):Xo ac (n+1) (⟨d,.jy a,none,[],[]⟩::l) ⟨aa,bz,bB⟩ H K:=by simp only[Xo,Go.ak.aq,dc,cS,cB,dl,bc,he];intro i hi;rw[getElem?_pos cs i hi];exact h _ (acI hi)
theorem Xo.call{n:Nat}{d:Option af}{f:aK}{args:List aK}{l:List bu}{aa:am AV}{bz:List af}{bB:Option af}{H:ai}{K:Fr->ai->Prop}(h:Xf ac n (gv aa f) (args.map (gv aa)) H λv a=>Xo ac n l ⟨aO aa d v,bz,bB⟩ a K):Xo ac (n+1) (⟨d,.call f args,none,[],[]⟩::l) ⟨aa,bz,bB⟩ H K:=by simp only[Xo,Go.ak.aq,dc,cS,cB,dl,bc];exact h
theorem Xc.region{n:Nat}{l:List bu}{fr:Fr}{H:ai}{K:bU->Fr->ai->Prop}(h:Xo ac n l fr H (K .none)):Xc ac (n+1) (.region l) fr H K:=by simp only[Xc,exec];exact h
theorem Xc.seq{n:Nat}{a b:bg}{fr:Fr}{H:ai}{K:bU->Fr->ai->Prop}(h:Xc ac n a fr H λj fr H=>match j with|.none=>Xc ac n b fr H K|j=>K j fr H):Xc ac (n+1) (.seq a b) fr H K:=by simp only[Xc,exec];exact h
theorem Xc.mono{n m:Nat}(h:n<=m){c:bg}{fr:Fr}{H:ai}{K a:bU->Fr->ai->Prop}(b:∀j fr H,K j fr H->a j fr H)(he:Xc ac n c fr H K):Xc ac m c fr H a:=(Go.ak.mono ac n).exec h b he
theorem Xo.mono{n m:Nat}(h:n<=m){l:List bu}{fr:Fr}{H:ai}{K a:Fr->ai->Prop}(b:∀fr H,K fr H->a fr H)(he:Xo ac n l fr H K):Xo ac m l fr H a:=(Go.ak.mono ac n).aq h b he
theorem Xf.mono{n m:Nat}(h:n<=m){f:AV}{args:List AV}{H:ai}{K a:KT}(b:∀v H,K v H->a v H)(he:Xf ac n f args H K):Xf ac m f args H a:=(Go.ak.mono ac n).call h b he
theorem Xc.loop{n:Nat}{b:bg}{fr:Fr}{H:ai}{K:bU->Fr->ai->Prop}(h:Xc ac n b fr H λj fr H=>match j with|.none=>Xc ac n (.loop b) fr H K|j=>K j fr H):Xc ac (n+1) (.loop b) fr H K:=by simp only[Xc,exec];exact h
theorem Xc.rp{n:Nat}{c:aK}{a b:bg}{fr:Fr}{H:ai}{K:bU->Fr->ai->Prop}(d:gv fr.aa c=.bool true)(h:Xc ac n a fr H K):Xc ac (n+1) (.cond c a b) fr H K:=by simp only[Xc,exec,d];exact h
theorem Xc.nU{n:Nat}{c:aK}{a b:bg}{fr:Fr}{H:ai}{K:bU->Fr->ai->Prop}(d:gv fr.aa c=.bool false)(h:Xc ac n b fr H K):Xc ac (n+1) (.cond c a b) fr H K:=by simp only[Xc,exec,d];exact h
theorem Xc.block{n:Nat}{id:Nat}{b:bg}{fr:Fr}{H:ai}{K:bU->Fr->ai->Prop}(h:Xc ac n b fr H λj fr H=>match j with|.exit i=>if aeF i id then K .none fr H else K (.exit i) fr H|j=>K j fr H):Xc ac (n+1) (.block id b) fr H K:=by simp only[Xc,exec];exact h
theorem Xc.skip{n:Nat}{fr:Fr}{H:ai}{K:bU->Fr->ai->Prop}(h:K .none fr H):Xc ac (n+1) .skip fr H K:=by simp only[Xc,exec];exact h
theorem Xc.exit{n id:Nat}{fr:Fr}{H:ai}{K:bU->Fr->ai->Prop}(h:K (.exit id) fr H):Xc ac (n+1) (.exit id) fr H K:=by simp only[Xc,exec];exact h
theorem Xc.ret{n:Nat}{fr:Fr}{H:ai}{K:bU->Fr->ai->Prop}(h:K .ret fr H):Xc ac (n+1) .ret fr H K:=by simp only[Xc,exec];exact h
theorem Xc.iq{n m:Nat}{a b:bg}{fr:Fr}{H:ai}{K:bU->Fr->ai->Prop}{k:Nat}(c:n<=k)(d:m<=k)(h:Xc ac n a fr H λj fr H=>match j with|.none=>Xc ac m b fr H K|j=>K j fr H):Xc ac (k+1) (.seq a b) fr H K:=by refine Xc.seq (h.mono c λj fr H hj=>?_);cases j with|none=>exact hj.mono d λ_ _ _ h=>h|exit i=>exact hj|ret=>exact hj
def mD(a c:Nat)(d b ok e ex kv:af)(body:bg):bg:=
 .block a (.loop (.seq (.region [⟨some b,.jy (.t d),none,[],[]⟩,⟨some ok,.extract (.t b) 0,none,[],[]⟩])
   (.seq (.cond (.t ok) .skip (.exit a)) (.block c (.seq (.region [⟨some e,.pJ (.t d),none,[],[]⟩,⟨some ex,.extract (.t e) 0,none,[],[]⟩,⟨some kv,.bw (.t ex),none,[],[]⟩]) body)))))
theorem HW:∀{es:List aV}{e:aV}(i0:Nat),e∈es->(es.map (·.born)).Nodup->∃i,lT e.born es i0=some (i0+i)/\es[i]?=some e
 |[],_,_,h,_=>by cases h
 |a::es,e,i0,h,b=>by
  rw[aez,afX]at b;rcases aer.1 h with h|h;·subst h;exact⟨0,by simp[lT,afM],aC⟩
  have c:¬a.born=e.born:=λhe=>b.1 (by rw[he];exact aeX h);obtain⟨i,h1,h2⟩:=HW (i0+1) h b.2;refine⟨i+1,?_,by simpa using h2⟩;have:aeF a.born e.born=false:=by cases hb:aeF a.born e.born with|false=>rfl|true=>exact absurd (aey hb) c
  simp only[lT,this,abu,bA,h1];congr 1;omega
def iP(es:List aV)(seen:List Nat):List aV:=es.filter λe=>!seen.contains e.born
theorem Qo{es:List aV}{seen:List Nat}{e:aV}(he:e∈iP es seen):(iP es (seen++[e.born])).length<(iP es seen).length:=by
 have h1:iP es (seen++[e.born])=(iP es seen).filter λx=>!(x.born==e.born):=by simp only[iP,List.filter_filter];congr 1;funext x;simp only[List.contains_append,Bool.not_or,List.contains_cons,List.contains_nil,Bool.or_false];rw[Bool.and_comm]
 rw[h1];refine List.length_filter_lt_length_iff_exists.2 ⟨e,he,aC⟩
theorem HZ{H:ai}{id m:af}{es:List aV}{b:Nat}{seen:List Nat}(hi:H.get id=.mapIter (some m) b seen b)(g:H.get m=.map es b)(d:∀e∈es,e.born<b):∃f,pK H (.aD id 0)=some ((if(iP es seen).isEmpty then[none]else[])++(iP es seen).map some,f)/\f none=(.tuple [.bool false],H)/\∀e,f (some e)=(.tuple [.bool true,e.key,e.val],H.set id (.mapIter (some m) b (seen++[e.born]) b)):=by
 have eG:¬((!seen.isEmpty&&!es.isEmpty&&es.all λe=>afx b e.born)=true):=by intro h;simp only[aew,afv]at h;cases es with|nil=>simp at h|cons a es=>have:=aeG (h.2 a (acm ..));have:=d a (acm ..);omega
 have h1:(iP es seen).filter (λe=>ae0 e.born b)=iP es seen:=List.filter_eq_self.2 λe he=>agu afs (d e (age.1 he).1);have h2:(iP es seen).filter (λe=>!ae0 e.born b)=[]:=List.filter_eq_nil_iff.2 λe he=>by have:ae0 e.born b=true:=agu afs (d e (age.1 he).1);simp[this]
 refine⟨λc=>match c with|some e=>(.tuple [.bool true,e.key,e.val],H.set id (.mapIter (some m) b (seen++[e.born]) b))|none=>(.tuple [.bool false],H),?_,rfl,λe=>rfl⟩;simp only[pK,hi,g];rw[ap eG];show some ((if((iP es seen).filter (λe=>ae0 e.born b)).isEmpty then[none]else[])++((iP es seen).filter (λe=>ae0 e.born b)++(iP es seen).filter (λe=>!ae0 e.born b)).map some,_)=_;rw[h1,h2,afu];refine congrArg some (Prod.ext rfl ?_);funext c;cases c<;>rfl
theorem Ic{g r:Nat}{p f ok u ex kv:af}{body:bg}(X:g≠r)(R:p≠f)(S:p≠ok)(Y:f≠ok)(Z:u≠ex){es:List aV}{b:Nat}{id m:af}(hb:(es.map (·.born)).Nodup)(w:∀e∈es,e.born<b){bz:List af}{bB:Option af}{K:bU->Fr->ai->Prop}(I:List Nat->am AV->ai->Prop)(y:∀seen aa H,I seen aa H->aa.get .agx p=.aD id 0/\H.get id=.mapIter (some m) b seen b/\H.get m=.map es b)(d:Nat)(step:∀seen aa H e,I seen aa H->e∈es->e.born∉seen->Xc ac d body ⟨((((aa.set .agx f (.tuple [.bool true,e.key,e.val])).set .agx ok (.bool true)).set .agx u (.tuple [e.key,e.val])).set .agx ex e.key).set .agx kv e.key,bz,bB⟩ (H.set id (.mapIter (some m) b (seen++[e.born]) b)) λj fr H'=>j=.none/\fr.bz=bz/\fr.bB=bB/\I (seen++[e.born]) fr.aa H')(aA:∀seen aa H,I seen aa H->(∀e∈es,e.born∈seen)->K .none ⟨(aa.set .agx f (.tuple [.bool false])).set .agx ok (.bool false),bz,bB⟩ H):∀(k:Nat)seen aa H,I seen aa H->(iP es seen).length<=k->Xc ac (d+15+k) (mD g r p f ok u ex kv body) ⟨aa,bz,bB⟩ H K:=by
 have A:∀(k:Nat)seen aa H,I seen aa H->(iP es seen).length<=k->Xc ac (d+14+k) (.loop (.seq (.region [⟨some f,.jy (.t p),none,[],[]⟩,⟨some ok,.extract (.t f) 0,none,[],[]⟩]) (.seq (.cond (.t ok) .skip (.exit g)) (.block r (.seq (.region [⟨some u,.pJ (.t p),none,[],[]⟩,⟨some ex,.extract (.t u) 0,none,[],[]⟩,⟨some kv,.bw (.t ex),none,[],[]⟩]) body))))) ⟨aa,bz,bB⟩ H λj fr H=>j=.exit g/\K .none fr H:=by
  intro k;induction k with
  |zero=>intro seen aa H s C;obtain⟨h1,h2,h3⟩:=y seen aa H s;obtain⟨F,B,D,a3⟩:=HZ h2 h3 w;have n:iP es seen=[]:=aeQ ab;rw[n]at B;refine Xc.loop (n:=d+13) ?_;refine Xc.seq (n:=d+12) (Xc.region (n:=d+11) (Xo.next (n:=d+10) (by rw[show gv aa (.t p)=aa.get .agx p from rfl,h1];exact B) ?_));intro c o;simp only[List.isEmpty_nil,bc,afC,afu,aaN]at o;subst o;rw[D];refine Xo.op (n:=d+9) (v:=.bool false) (H':=H) (by simp[aE,gv,aO,am.aJ,kO]) (Xo.nil (n:=d+8) ?_);refine Xc.seq (n:=d+11) (Xc.nU (n:=d+10) (by simp[gv,aO,am.aJ]) (Xc.exit (n:=d+9) ?_));refine⟨by trivial,aA seen aa H s λe he=>?_⟩;apply aeW;intro v;have:e∈iP es seen:=age.2 ⟨he,by simpa using v⟩;rw[n]at this;cases this
  |succ k T=>
   intro seen aa H s C;obtain⟨h1,h2,h3⟩:=y seen aa H s;obtain⟨F,B,D,a3⟩:=HZ h2 h3 w;refine Xc.loop (n:=d+14+k) ?_;refine Xc.mono (n:=d+14) (K:=λj fr H=>match j with|.none=>exec False cA ac (d+14+k) (.loop (.seq (.region [⟨some f,.jy (.t p),none,[],[]⟩,⟨some ok,.extract (.t f) 0,none,[],[]⟩]) (.seq (.cond (.t ok) .skip (.exit g)) (.block r (.seq (.region [⟨some u,.pJ (.t p),none,[],[]⟩,⟨some ex,.extract (.t u) 0,none,[],[]⟩,⟨some kv,.bw (.t ex),none,[],[]⟩]) body))))) fr H λj fr H=>j=.exit g/\K .none fr H|j=>j=.exit g/\K .none fr H) ab (λ_ _ _ h=>h) ?_;refine Xc.seq (n:=d+13) (Xc.region (n:=d+12) (Xo.next (n:=d+11) (by rw[show gv aa (.t p)=aa.get .agx p from rfl,h1];exact B) ?_));intro c o;cases c with
   |none=>
    have n:iP es seen=[]:=by cases hu:iP es seen with|nil=>rfl|cons a l=>rw[hu]at o;simp at o
    rw[D];refine Xo.op (n:=d+10) (v:=.bool false) (H':=H) (by simp[aE,gv,aO,am.aJ,kO]) (Xo.nil (n:=d+9) ?_);refine Xc.seq (n:=d+12) (Xc.nU (n:=d+11) (by simp[gv,aO,am.aJ]) (Xc.exit (n:=d+10) ?_));refine⟨by trivial,aA seen aa H s λe he=>?_⟩;apply aeW;intro v;have:e∈iP es seen:=age.2 ⟨he,by simpa using v⟩;rw[n]at this;cases this
   |some e=>
    have q:e∈iP es seen:=by
     rw[aeu]at o;rcases o with o|o;·split at o<;>simp at o
     rw[aeK]at o;obtain⟨x,V,E⟩:=o;injection E with E;subst E;exact V
    have gD:e∈es:=(age.1 q).1;have G:e.born∉seen:=by have:=(age.1 q).2;simpa using this
    rw[a3];refine Xo.op (n:=d+10) (v:=.bool true) (H':=H.set id (.mapIter (some m) b (seen++[e.born]) b)) (by simp[aE,gv,aO,am.aJ,kO]) (Xo.nil (n:=d+9) ?_);refine Xc.seq (n:=d+12) (Xc.rp (n:=d+11) (by simp[gv,aO,am.aJ]) (Xc.skip (n:=d+10) ?_));refine Xc.block (n:=d+11) ?_;obtain⟨i,z,J⟩:=HW 0 gD hb;rw[aeL]at z;have L:id≠m:=λe=>by rw[e,h3]at h2;cases h2
    have M:(H.set id (.mapIter (some m) b (seen++[e.born]) b)).get id=.mapIter (some m) b (seen++[e.born]) b:=by rw[ai.aJ,aH rfl]
    have N:(H.set id (.mapIter (some m) b (seen++[e.born]) b)).get m=.map es b:=by rw[ai.aJ,ap (λh=>L h.symm)];exact h3
    refine Xc.seq (n:=d+10) (Xc.region (n:=d+9) ?_);refine Xo.op (n:=d+8) (v:=.tuple [e.key,e.val]) (H':=H.set id (.mapIter (some m) b (seen++[e.born]) b)) ?_ ?_;·simp only[aE,gv,aO,am.aJ,ap S,ap R,h1,M,N,List.getLast?_append,List.getLast?_singleton,Option.some_or,afM,bc,z,J]
    refine Xo.op (n:=d+7) (v:=e.key) (H':=H.set id (.mapIter (some m) b (seen++[e.born]) b)) (by simp[aE,gv,aO,am.aJ,kO]) ?_;refine Xo.op (n:=d+6) (v:=e.key) (H':=H.set id (.mapIter (some m) b (seen++[e.born]) b)) (by simp[aE,gv,aO,am.aJ]) (Xo.nil (n:=d+5) ?_);refine Xc.mono (n:=d) (m:=d+10) ab ?_ (step seen aa H e s gD G);rintro j fr H'⟨rfl,P,Q,W⟩;have O:fr=⟨fr.aa,bz,bB⟩:=by cases fr;simp only at P Q;subst P;subst Q;rfl
    rw[O];refine T (seen++[e.born]) fr.aa H' W ?_;have:=Qo q;omega
 intro k seen aa H s C;rw[show d+15+k=d+14+k+1 by omega];unfold mD;refine Xc.block (n:=d+14+k) (Xc.mono (aeq _) ?_ (A k seen aa H s C));rintro j fr H⟨rfl,h⟩;simp only[afM,bc];exact h
end
section
def DB:AV->AV->Bool
 |.bool a,.bool b=>a==b
 |.int j (.ofNat a),.int k (.ofNat b)=>aeF j k&&aeF a b
 |.d9,.d9=>true
 |.aG,.aG=>true
 |_,_=>false
def ir:aK->aK->Bool
 |.t p,.t q=>af.beq p q
 |.c a,.c b=>DB a b
 |_,_=>false
def vF:List aK->List aK->Bool
 |[],[]=>true
 |a::l,b::m=>ir a b&&vF l m
 |_,_=>false
def DC:bC->bC->Bool
 |.bw x,.bw y=>ir x y
 |.extract x i,.extract y j=>ir x y&&aeF i j
 |.pJ x,.pJ y=>ir x y
 |.jy x,.jy y=>ir x y
 |.ln x,.ln y=>ir x y
 |.bk x,.bk y=>ir x y
 |.dO s x i,.dO t y j=>aeF s t&&ir x y&&ir i j
 |.arith .neq k x i,.arith .neq l y j=>aeF k l&&ir x y&&ir i j
 |.iV .int x i u,.iV .int y j v=>ir x y&&ir i j&&ir u v
 |.eq a .map x i,.eq b .map y j=>(a==b)&&ir x y&&ir i j
 |.je,.je=>true
 |.store n x i,.store m y j=>aeF n m&&ir x y&&ir i j
 |.jx n x,.jx m y=>aeF n m&&ir x y
 |.kn x,.kn y=>ir x y
 |.call f l,.call g m=>ir f g&&vF l m
 |_,_=>false
def DD:Option af->Option af->Bool
 |none,none=>true
 |some p,some q=>af.beq p q
 |_,_=>false
def DE:bu->bu->Bool
 |⟨d,o,none,[],[]⟩,⟨e,p,none,[],[]⟩=>DD d e&&DC o p
 |_,_=>false
def vG:List bu->List bu->Bool
 |[],[]=>true
 |a::l,b::m=>DE a b&&vG l m
 |_,_=>false
def jQ:bg->bg->Bool
 |.skip,.skip=>true
 |.region l,.region m=>vG l m
 |.seq a b,.seq c d=>jQ a c&&jQ b d
 |.cond x a b,.cond y c d=>ir x y&&jQ a c&&jQ b d
 |.block i a,.block j b=>aeF i j&&jQ a b
 |.loop a,.loop b=>jQ a b
 |.exit i,.exit j=>aeF i j
 |.eF i,.eF j=>aeF i j
 |_,_=>false
theorem Qp{a b:AV}(h:DB a b=true):a=b:=by
 unfold DB at h;split at h;·simp only[beq_iff_eq]at h;rw[h]
 .simp only[aew]at h;rw[aey h.1,aey h.2]
 .rfl
 .rfl
 cases h
theorem l6{a b:aK}(h:ir a b=true):a=b:=by
 unfold ir at h;split at h;·rw[af.fo.1 h]
 .rw[Qp h]
 cases h
theorem Ie:∀{l m:List aK},vF l m=true->l=m|[],[],_=>rfl|a::l,b::m,h=>by simp only[vF,aew]at h;rw[l6 h.1,Ie h.2]|[],_::_,h=>by simp[vF]at h|_::_,[],h=>by simp[vF]at h
theorem Qq{a b:bC}(h:DC a b=true):a=b:=by unfold DC at h;split at h<;>(try simp only[aew,beq_iff_eq]at h)<;>first|(cases h;done)|rfl|(rw[l6 h];done)|(rw[l6 h.1,aey h.2];done)|(rw[aey h.1.1,l6 h.1.2,l6 h.2];done)|(rw[l6 h.1.1,l6 h.1.2,l6 h.2];done)|(rw[h.1.1,l6 h.1.2,l6 h.2];done)|(rw[aey h.1,l6 h.2];done)|(rw[l6 h.1,Ie h.2];done)
theorem Qr{a b:Option af}(h:DD a b=true):a=b:=by
 unfold DD at h;split at h;·rfl
 .rw[af.fo.1 h]
 cases h
theorem Qs{a b:bu}(h:DE a b=true):a=b:=by
 unfold DE at h;split at h;·simp only[aew]at h;rw[Qr h.1,Qq h.2]
 cases h
theorem If:∀{l m:List bu},vG l m=true->l=m|[],[],_=>rfl|a::l,b::m,h=>by simp only[vG,aew]at h;rw[Qs h.1,If h.2]|[],_::_,h=>by simp[vG]at h|_::_,[],h=>by simp[vG]at h
theorem Qt:∀{a b:bg},jQ a b=true->a=b:=by intro a;induction a with|skip=>intro b h;cases b<;>simp[jQ]at h;rfl|region l=>intro b h;cases b<;>simp[jQ]at h;rw[If h]|seq x y d e=>intro b h;cases b<;>simp[jQ]at h;rw[d h.1,e h.2]|cond c x y d e=>intro b h;cases b<;>simp[jQ]at h;rw[l6 h.1.1,d h.1.2,e h.2]|block i x g=>intro b h;cases b<;>simp[jQ]at h;rw[h.1,g h.2]|loop x g=>intro b h;cases b<;>simp[jQ]at h;rw[g h]|exit i=>intro b h;cases b<;>simp[jQ]at h;rw[h]|eF i=>intro b h;cases b<;>simp[jQ]at h;rw[h]|rangeFunc f j as_ k _ _=>intro b h;cases b<;>simp[jQ]at h|ret=>intro b h;cases b<;>simp[jQ]at h
def sZ(b:bg):List (Nat×bg)->Option Nat
 |[]=>none
 |(t,c)::l=>if jQ b c then some t else sZ b l
def xU(t:Nat):List (Nat×bg)->bg
 |[]=>.skip
 |(u,c)::l=>if aeF u t then c else xU t l
theorem Qu(l:List (Nat×bg))(a:(l.map (·.1)).Nodup)(b:bg)(t:Nat)(h:sZ b l=some t):b=xU t l:=by
 induction l with
 |nil=>simp[sZ]at h
 |cons p l d=>
  obtain⟨u,c⟩:=p;simp only[sZ]at h;rw[aez,afX]at a;split at h;·rename_i he;injection h with h;subst h;simp only[xU,afM,bc];exact Qt he
  have f:t∈l.map (·.1):=by
   clear d a;induction l with
   |nil=>simp[sZ]at h
   |cons q l d=>
    obtain⟨g,c2⟩:=q;simp only[sZ]at h;split at h;·injection h with h;subst h;simp
    exact aen _ (d h)
  have e:aeF u t=false:=by cases hb:aeF u t with|false=>rfl|true=>exact absurd (aey hb▸f) a.1
  simp only[xU,e,abu,bA];exact d a.2 h
@[reducible]def Qv(l:List (Nat×bg))(a:(l.map (·.1)).Nodup):Ov:=⟨λb=>sZ b l,λt=>xU t l,Qu l a⟩
def dX:bO->Option (List aV)
 |.map es _=>some es
 |.dt es=>some es
 |_=>none
def iC:List aV->Option (List Int)
 |[]=>some []
 |e::es=>match e.key,iC es with
  |.int 3 k,some l=>some (k::l)
  |_,_=>none
def s6:List aV->Option (List Int)
 |[]=>some []
 |e::es=>match e.key,e.val,s6 es with
  |.int 3 k,.bool true,some l=>some (k::l)
  |_,_,_=>none
def fc(x:Int):List Int->Bool
 |[]=>false
 |y::l=>gU x y||fc x l
def vH:List Int->Bool
 |[]=>true
 |x::l=>!fc x l&&vH l
def mE(x:Int)(l:List Int):List Int:=if fc x l then l else l++[x]
def iQ:List Int->List Int->List Int
 |[],l=>l
 |x::a,l=>iQ a (mE x l)
def iZ(l:List Int):List aV:=l.map λk=>⟨.int 3 k,.bool true,0⟩
def kY(aa:am AV):List af->am AV
 |[]=>aa
 |p::l=>kY (aa.set .agx p .ct) l
def mF(H:ai)(i:af):Option (List Int):=
 match dX (H.get i)with
 |some es=>match s6 es with
  |some l=>if vH l then some l else none
  |none=>none
 |none=>none
def jk(H:ai)(i:af):Option (List Int):=
 match dX (H.get i)with
 |some es=>match iC es with
  |some l=>if vH l then some l else none
  |none=>none
 |none=>none
def bx(H:ai)(i:af)(o:Nat):Option AV:=
 match H.get i with
 |.cells c n _ _ _ _=>if ae0 o n then some (c.bN .agx o)else none
 |_=>none
def mG(H:ai):AV->Option AV
 |.aD i o=>bx H i o
 |_=>none
def pa(H:ai)(s:AV)(x:Int):Option AV:=
 match s,x with
 |.slice i o n _ _,.ofNat j=>if ae0 j n then bx H i (o+j)else none
 |_,_=>none
def Ig(H:ai)(s:AV):List Int->Option (List Int)
 |[]=>some []
 |x::l=>match pa H s x,Ig H s l with
  |some (.int 3 r),some a=>some (r::a)
  |_,_=>none
def ai.skip(H:ai):ai:=⟨H.t,H.next.succ⟩
variable[Ov]
theorem pb(x:Int):∀l:List Int,fc x l=true↔x∈l|[]=>by simp[fc]|y::l=>by simp only[fc,afm,pb x l,aer];rw[eU];simp
theorem xV:∀l:List Int,vH l=true↔l.Nodup|[]=>by simp[vH]|x::l=>by simp only[vH,aew,afj,xV l,afX,<-pb];simp
theorem Ih(x y:Int)(l:List Int):y∈mE x l↔y=x\/y∈l:=by
 unfold mE;split;·rename_i h;rw[pb]at h;exact⟨.inr,λa=>a.elim (λe=>e▸h) id⟩
 simp[or_comm]
theorem Qw{x:Int}{l:List Int}(h:l.Nodup):(mE x l).Nodup:=by
 unfold mE;split;·exact h
 rename_i c;rw[pb]at c;rw[afa];refine⟨h,aC,λa d b hb=>?_⟩;simp only[aaN]at hb;subst hb;exact λe=>c (e▸d)
theorem rq(y:Int):∀(a l:List Int),y∈iQ a l↔y∈a\/y∈l|[],l=>by simp[iQ]|x::a,l=>by simp only[iQ,rq y a,Ih,aer];grind
theorem Aj:∀(a:List Int){l:List Int},l.Nodup->(iQ a l).Nodup|[],_,h=>h|_::a,_,h=>Aj a (Qw h)
end
abbrev sl(t:Nat):af:=af.cq t
abbrev bD(d:Nat)(o:bC):bu:=⟨some (sl d),o,none,[],[]⟩
abbrev nH(o:bC):bu:=⟨none,o,none,[],[]⟩
abbrev tt(a:Nat):aK:=.t (sl a)
def Qx:bg:=.region [bD 42 (.bw (tt 6)),bD 43 (.bk (tt 4)),bD 44 (.bw (tt 7)),bD 45 (.dO 1 (tt 43) (tt 44)),bD 46 (.bk (tt 45)),nH (.iV .int (tt 42) (tt 46) (.c (.bool true)))]
def Qy:bg:=.region [bD 33 (.bk (tt 3)),bD 34 (.bw (tt 5)),bD 35 (.dO 1 (tt 33) (tt 34)),bD 36 (.bk (tt 35)),bD 37 (.ln (tt 36))]
def Qz:bg:=mD 2 3 (sl 37) (sl 38) (sl 39) (sl 40) (sl 41) (sl 7) Qx
def QA:bg:=.seq Qy Qz
def QB:List af:=[sl 7,sl 33,sl 34,sl 35,sl 36,sl 37,sl 38,sl 39,sl 40,sl 41,sl 42,sl 43,sl 44,sl 45,sl 46]
def acD(aa:am AV)(H:ai):Option (am AV×ai):=
 match mG H (aa.get .agx (sl 3)),aa.get .agx (sl 5),mG H (aa.get .agx (sl 4)),aa.get .agx (sl 6)with
 |some a,.int _ v,some b,.map N=>match pa H a v with
  |some (.map m)=>if af.beq m N then none else match jk H m,mF H N with
   |some ks,some t0=>match Ig H b ks with
    |some c=>some (kY aa QB,(H.set N (.dt (iZ (iQ c t0)))).skip)
    |none=>none
   |_,_=>none
  |_=>none
 |_,_,_,_=>none
def QC:bg:=.seq (.region [bD 37 (.bw (tt 6)),bD 38 (.bw (tt 5)),bD 39 (.arith .neq 3 (tt 37) (tt 38))])
  (.cond (tt 39) (.region [bD 40 (.bk (tt 3)),bD 41 (.bw (tt 5)),bD 42 (.dO 1 (tt 40) (tt 41)),bD 43 (.bk (tt 42)),bD 44 (.bw (tt 6)),nH (.iV .int (tt 43) (tt 44) (.c (.bool true)))]) .skip)
def QD:bg:=.region [bD 31 (.bw (tt 4)),bD 32 (.ln (tt 31))]
def QE:bg:=mD 4 5 (sl 32) (sl 33) (sl 34) (sl 35) (sl 36) (sl 6) QC
def QF:bg:=.seq QD QE
def QG:List af:=[sl 6,sl 31,sl 32,sl 33,sl 34,sl 35,sl 36,sl 37,sl 38,sl 39,sl 40,sl 41,sl 42,sl 43,sl 44]
def xW(v:Int):List Int->List Int
 |[]=>[]
 |x::l=>if gU x v then xW v l else x::xW v l
def acE(aa:am AV)(H:ai):Option (am AV×ai):=
 match aa.get .agx (sl 4),aa.get .agx (sl 5),mG H (aa.get .agx (sl 3))with
 |.map m,.int 3 v,some a=>match pa H a v with
  |some (.map N)=>if af.beq m N then none else match jk H m,mF H N with
   |some ks,some t0=>some (kY aa QG,(H.set N (.dt (iZ (iQ (xW v ks) t0)))).skip)
   |_,_=>none
  |_=>none
 |_,_,_=>none
def QH:bg:=.seq (.seq (.region [bD 22 (.bk (tt 3)),bD 23 (.bw (tt 5)),bD 24 (.dO 1 (tt 22) (tt 23)),bD 25 (.bk (tt 24)),bD 26 (.eq false .map (tt 25) (.c .d9))])
   (.cond (tt 26) (.region [bD 27 (.bk (tt 3)),bD 28 (.bw (tt 5)),bD 29 .je,bD 30 (.dO 1 (tt 27) (tt 28)),nH (.store 1 (tt 30) (tt 29))]) .skip)) (.eF 1001)
def QI:bg:=.region [bD 16 (.bw (tt 4)),bD 17 (.ln (tt 16))]
def QJ:bg:=mD 2 3 (sl 17) (sl 18) (sl 19) (sl 20) (sl 21) (sl 5) QH
def QK:bg:=.seq QI QJ
def QL:List af:=[sl 5,sl 6]++(afD 29).map λi=>sl (16+i)
def DF(c:am AV)(o n:Nat)(m:af)(ks:List Int)(d:ai):List Int->am AV->ai->Option (am AV×ai)
 |[],b,a=>some (b,a)
 |k::l,b,a=>
  match k with
  |.ofNat j=>if ae0 j n then match c.bN .agx (o+j)with
    |.d9=>DF c o n m ks d l (fi b (o+j) [.map a.next]) (a.new (.dt (iZ (xW k ks))))
    |.map N=>if af.beq N m then none else match mF d N with
     |some t0=>DF c o n m ks d l b (a.set N (.dt (iZ (iQ (xW k ks) t0))))
     |none=>none
    |_=>none
   else none
  |_=>none
def DG(c:am AV)(o:Nat):List Int->List af
 |[]=>[]
 |k::l=>match c.bN .agx (o+k.toNat)with
  |.map N=>N::DG c o l
  |_=>DG c o l
def vI(p:af):List af->Bool
 |[]=>false
 |q::l=>af.beq p q||vI p l
def Ii:List af->Bool
 |[]=>true
 |p::l=>!vI p l&&Ii l
def acF(aa:am AV)(H:ai):Option (am AV×ai):=
 match aa.get .agx (sl 4),aa.get .agx (sl 3)with
 |.map m,.aD a o3=>match bx H a o3 with
  |some (.slice i o n _ _)=>match mF H m,H.get i with
   |some ks,.cells c b e true [] fz=>if !af.beq a i&&afx fz o&&afx (o+n) b&&Ii (DG c o ks)then
     match DF c o n m ks H ks c H with
     |some (d,f)=>some (kY aa QL,((f.set i (.cells d b e true [] fz)).set m (.dt (iZ ks))).skip)
     |none=>none
    else none
   |_,_=>none
  |_=>none
 |_,_=>none
def QM:bg:=.region [bD 62 (.bk (tt 11)),bD 63 (.bw (tt 16)),bD 64 (.jx 1 (tt 7)),bD 65 (.bk (tt 64)),bD 66 (.kn (tt 65)),bD 67 (.call (tt 62) [tt 63,tt 66])]
def Ij:bg:=.region [bD 53 (.bk (tt 5)),bD 54 (.bw (tt 15)),bD 55 (.dO 1 (tt 53) (tt 54)),bD 56 (.bk (tt 55)),bD 57 (.ln (tt 56))]
def Ik:bg:=mD 6 7 (sl 57) (sl 58) (sl 59) (sl 60) (sl 61) (sl 16) QM
def QN:bg:=.seq Ij Ik
def xX:List af:=sl 16::(afD 15).map λi=>sl (53+i)
def QO:bg:=.region [bD 85 (.bk (tt 11)),bD 86 (.bw (tt 19)),bD 87 (.call (tt 85) [tt 86,.c (.int 3 (.ofNat 0))])]
def Il:bg:=.region [bD 76 (.bk (tt 5)),bD 77 (.bw (tt 17)),bD 78 (.dO 1 (tt 76) (tt 77)),bD 79 (.bk (tt 78)),bD 80 (.ln (tt 79))]
def Im:bg:=mD 8 9 (sl 80) (sl 81) (sl 82) (sl 83) (sl 84) (sl 19) QO
def QP:bg:=.seq Il Im
def xY:List af:=sl 19::(afD 12).map λi=>sl (76+i)
def jl(H:ai)(i:af):Option (List (Int×Int)):=
 match dX (H.get i)with
 |some es=>go es
 |none=>none
where go:List aV->Option (List (Int×Int))
 |[]=>some []
 |e::es=>match e.key,e.val,go es with
  |.int 3 k,.int 3 v,some l=>some ((k,v)::l)
  |_,_,_=>none
def dR(pl:List (Int×Int))(bt:Int):List Int->List Int
 |[]=>[]
 |v::l=>if mH pl bt v then v::dR pl bt l else dR pl bt l
where mH(pl:List (Int×Int))(bt v:Int):Bool:=
 match pl with
 |[]=>true
 |(k,g)::pl=>if gU v k then !jz g bt else mH pl bt v
def jR(t0:List Int):List Int->Bool
 |[]=>false
 |v::l=>!fc v t0||jR t0 l
def jS(H:ai)(q:af):AV->Option AV
 |.aD i o=>if af.beq i q then none else bx H i o
 |_=>none
def qk(H:ai)(q:af)(s:AV)(x:Int):Option AV:=
 match s with
 |.slice i _ _ _ _=>if af.beq i q then none else pa H s x
 |_=>none
def vJ(da:Nat)(bt:af->Option Int)(to:Nat)(bV:List af)(aa:am AV)(H:ai):Option (am AV×ai):=
 match mG H (aa.get .agx (sl 11))with
 |some (.func f [] [c1,c2,c3,.aD a no])=>if aeF f da then
  match jS H a (aa.get .agx (sl 5)),aa.get .agx (sl to),jS H a (aa.get .agx (sl 11)),jS H a c1,jS H a c2,jS H a c3,bt a with
  |some g,.int _ t,some _,some (.map d),some h,some (.int _ b),some bt=>
   match qk H a g t,qk H a h b,H.get a with
   |some (.map m),some (.map N),.cells c n e true [] fz=>
    if af.beq d N||af.beq m d||!(afx fz no&&ae0 no n)then none else
    match jk H m,jk H d,jl H d,mF H N,c.bN .agx no with
    |some ks,some _,some pl,some t0,.bool i=>
     some (kY aa bV,((H.set N (.dt (iZ (iQ (dR pl bt ks) t0)))).set a (.cells (fi c no [.bool (i||jR t0 (dR pl bt ks))]) n e true [] fz)).skip)
    |_,_,_,_,_=>none
   |_,_,_=>none
  |_,_,_,_,_,_,_=>none
  else none
 |_=>none
def xZ(da:Nat)(aa:am AV)(H:ai):Option (am AV×ai):=
 vJ da (λa=>match aa.get .agx (sl 7)with
 |.aD i o=>if af.beq i a then none else match bx H i (o+1)with
  |some (.slice _ _ n _ _)=>some (.ofNat n)
  |some .aG=>some (.ofNat 0)
  |_=>none
 |_=>none) 15 xX aa H
def x6(da:Nat)(aa:am AV)(H:ai):Option (am AV×ai):=vJ da (λ_=>some (.ofNat 0)) 17 xY aa H
def s8(x:Int):List Int->List Int
 |[]=>[x]
 |y::l=>if jz y x then y::s8 x l else x::y::l
def gQ:List Int->List Int
 |[]=>[]
 |x::l=>s8 x (gQ l)
def Ak(args:List AV)(H:ai):Option (AV×ai):=
 match args with
 |[.d9]=>some (.aG,H)
 |[.map m]=>match jk H m with
  |some []=>some (.aG,H)
  |some ks=>if afx ks.length 1000 then some (.slice H.next 0 ks.length ks.length false,H.new (.cells (bX ((gQ ks).map λn=>.int 3 n)) ks.length 3 true [] 0))else none
  |none=>none
 |_=>none
def QQ:List (Nat×bg):=[(1001,QF),(1002,QK),(1003,QA),(1004,QN),(1005,QP)]
instance acG:Ov:=Qv QQ bK
section
variable[Ov]
variable{P:Program}{a:bS}{ρ:aQ}{H:ai}{w:World}{nt:Nat}
theorem DH:∀(l:List af)(aa:am AV)(t:af),(kY aa l).get .agx t=if t∈l then .ct else aa.get .agx t
 |[],aa,t=>by simp[kY]
 |p::l,aa,t=>by
  rw[kY,DH l,am.aJ];by_cases h:t∈l;·simp[h]
  by_cases e:t=p<;>simp[h,e]
theorem QR{ac:Nat->aX}(r:gC P ac){c1 c2:Code}{x y:bg}(h1:dA P nt c1=some x)(h2:dA P nt c2=some y){n:Nat}{fr:Fr}{K:bU->Fr->ai->Prop}{b:Frame}{z:Act}(he:Xc ac n (.seq x y) fr H K)(s:fD ρ nt fr b.roundOf z)(u:bh P a ρ H w)(k:List Item)(cs:List Frame):gO P a ρ nt w b k cs (lone (b.atR z (.code (.seq c1 c2)::k)) cs w) K:=by cases n with|zero=>simp only[Xc,exec]at he|succ n=>simp only[Xc,exec]at he;have c:u9 P ac n:=(vA r n).2.1;obtain⟨j,d,o,e,p,q,t,f,g,h,i,l,m,v⟩:=c h1 he s u (.code c2::k) cs;refine .fI (.one stepR_seq) (.fI v ?_);cases j with|none=>rw[show t=.code c2::k from m];exact .pZ g l (c h2 f h i k cs)|exit id=>exact⟨.exit id,d,o,e,p,q,t,f,g,h,i,l,m.oX (λ_ _=>rfl) trivial,Steps.refl _ _⟩|ret=>exact⟨.ret,d,o,e,p,q,t,f,g,h,i,l,m.oX (λ_ _=>rfl) trivial,Steps.refl _ _⟩
theorem Io(h:bh P a ρ H w){m:af}{es:List aV}{d:Nat}(g:H.get m=.map es d):(es.map (·.born)).Nodup/\∀e∈es,e.born<d:=by
 obtain⟨b,x,j,e,hl,hb,f⟩:=h.be (i:=m) (by rw[g];simp);rw[g]at f;cases j<;>simp only[OR]at f;rename_i bi k;obtain⟨_,rfl,dL,i⟩:=f;have key:∀{es:List aV}{l:List MapEntry},bf ρ es l->es.map (·.born)=l.map (·.born):=by intro es;induction es with|nil=>intro l h;cases l<;>simp[bf]at h;rfl|cons q es n=>intro l h;cases l with|nil=>simp[bf]at h|cons c l=>simp only[bf]at h;simp[h.2.2.1,n h.2.2.2]
 refine⟨by rw[key i];exact dL.1,λq o=>?_⟩;have:q.born∈es.map (·.born):=aeX o;rw[key i,aeK]at this;obtain⟨c,p,e⟩:=this;rw[<-e];exact dL.2 c p
theorem Ip(l:bh P a ρ H w){m:af}{es:List aV}(f:dX (H.get m)=some es):∃(d:List aV)(b:Nat),bh P a ρ (H.set m (.map d b)) w/\(d.map aV.kv).Perm (es.map aV.kv)/\(d.map (·.born)).Nodup/\(∀e∈d,e.born<b)/\∀{h:bS}{i:aQ}{n:ai}{w':World},bh P h i n w'->n.get m=.map d b->bh P h i (n.set m (H.get m)) w':=by
 cases g:H.get m with
 |map k c=>
  rw[g]at f;simp only[dX,aas]at f;subst f;have hb:=Io l g;refine⟨k,c,l.congr rfl λj=>?_,agn _,hb.1,hb.2,λh2 hg=>h2.congr rfl λj=>?_⟩
  .rw[ai.aJ];split;·rename_i e;rw[e,g]
   rfl
  rw[ai.aJ];split;·rename_i e;rw[e,hg]
  rfl
 |dt k=>rw[g]at f;simp only[dX,aas]at f;subst f;obtain⟨o,d,b,p1,p2,h1⟩:=GV l g;have hb:=Io h1 (m:=m) (by rw[ai.aJ,aH rfl]);exact⟨d,b,h1,by rw[p2];exact p1.map _,hb.1,hb.2,λh2 hg=>xA h2 hg p1 p2⟩
 |_=>rw[g]at f;simp[dX]at f
theorem vK:∀{es:List aV}{ks:List Int},iC es=some ks->(∀e∈es,∃k∈ks,e.key=.int 3 k)/\∀k∈ks,∃e∈es,e.key=.int 3 k
 |[],ks,h=>by simp only[iC,aas]at h;subst h;simp
 |n::es,ks,h=>by
  simp only[iC]at h;split at h
  .rename_i k l g hl;injection h with h;subst h;obtain⟨i,j⟩:=vK hl;refine⟨λe he=>?_,λm f=>?_⟩
   .rcases aer.1 he with b|b;·subst b;exact⟨k,acm ..,g⟩
    obtain⟨q,c,d⟩:=i e b;exact⟨q,aen _ c,d⟩
   rcases aer.1 f with b|b;·subst b;exact⟨n,acm ..,g⟩
   obtain⟨q,c,d⟩:=j m b;exact⟨q,aen _ c,d⟩
  cases h
theorem QS{es b:List aV}{g:List Int}(j:iC es=some g)(i:(b.map aV.kv).Perm (es.map aV.kv)):(∀e∈b,∃k∈g,e.key=.int 3 k)/\∀k∈g,∃e∈b,e.key=.int 3 k:=by
 obtain⟨l,m⟩:=vK j;constructor;·intro e he;have:e.kv∈es.map aV.kv:=i.mem_iff.1 (aeX he);rw[aeK]at this;obtain⟨f,c,d⟩:=this;obtain⟨k,h1,h2⟩:=l f c;have:e.key=f.key:=(congrArg agw d).symm;exact⟨k,h1,this.trans h2⟩
 intro k h;obtain⟨e,he,h2⟩:=m k h;have:e.kv∈b.map aV.kv:=i.mem_iff.2 (aeX he);rw[aeK]at this;obtain⟨f,c,d⟩:=this;have:f.key=e.key:=congrArg agw d;exact⟨f,c,this.trans h2⟩
theorem x7{m:af}{b:List Int}(h:jk H m=some b):∃es,dX (H.get m)=some es/\iC es=some b/\b.Nodup:=by
 unfold jk at h;split at h
 .rename_i es gD;split at h
  .rename_i l hl;split at h;·rename_i c;injection h with h;subst h;exact⟨es,gD,hl,(xV _).1 c⟩
   cases h
  cases h
 cases h
def sk(k:Int):AV×AV:=(.int 3 k,.bool true)
def jG(o:bO)(ks:List Int):Prop:=ks.Nodup/\∃es,dX o=some es/\es.map aV.kv=ks.map sk
theorem Iq:∀{es:List aV}{ks:List Int},s6 es=some ks->es.map aV.kv=ks.map sk
 |[],ks,h=>by simp only[s6,aas]at h;subst h;rfl
 |b::es,ks,h=>by
  simp only[s6]at h;split at h;·rename_i k l h1 h2 hl;injection h with h;subst h;simp only[aez,Iq hl,aV.kv,h1,h2,sk]
  cases h
theorem Ir{N:af}{b:List Int}(h:mF H N=some b):jG (H.get N) b:=by
 unfold mF at h;split at h
 .rename_i es gD;split at h
  .rename_i l hl;split at h;·rename_i c;injection h with h;subst h;exact⟨(xV _).1 c,es,gD,Iq hl⟩
   cases h
  cases h
 cases h
theorem Is(l:List Int):(iZ l).map aV.kv=l.map sk:=by simp[iZ,aV.kv,sk]
theorem QT{l:List Int}(h:l.Nodup):jG (.dt (iZ l)) l:=⟨h,iZ l,rfl,Is l⟩
theorem bh.It(h:bh P a ρ H w){N:af}{ks e:List Int}(hs:jG (H.get N) ks)(k:ks.Perm e):bh P a ρ (H.set N (.dt (iZ e))) w:=by
 obtain⟨_,es,he,i⟩:=hs;have g:(iZ ks).Perm (iZ e):=k.map _;have d:es.map aV.kv=(iZ ks).map aV.kv:=by rw[i,Is]
 cases b:H.get N with|map j c=>rw[b]at he;simp only[dX,aas]at he;subst he;exact xA h b g d|dt j=>rw[b]at he;simp only[dX,aas]at he;subst he;refine h.C3 (by rw[b];simp) (by rw[b];rfl) (by rw[b];rfl) rfl ?_;intro x m f;rw[b]at f;cases m<;>simp only[OR]at f⊢;obtain⟨h1,h2,l,h3,n⟩:=f;obtain⟨o,p1,p2⟩:=co.C4 g (co.kv d n);exact⟨⟨h1,h2,o,p1.trans h3,p2⟩,λq=>by simp[ef]⟩|_=>rw[b]at he;simp[dX]at he
theorem DI{k:Int}:∀{es:List aV}{ks:List Int},es.map aV.kv=ks.map sk->∀i0,(k∉ks->findKey .int (.int 3 k) es i0=some none)/\(k∈ks->∃i,findKey .int (.int 3 k) es i0=some (some (i0+i,.bool true))/\i<es.length/\ig (.bool true) (.int 3 k) es i=es)
 |[],[],_,i0=>by simp[findKey]
 |e::es,x::ks,h,i0=>by
  simp only[aez,ae1,aV.kv,sk,acn]at h;obtain⟨⟨h1,h2⟩,h3⟩:=h;obtain⟨f,g⟩:=DI (k:=k) h3 (i0+1);have b:cQ 64 .int (.int 3 k) (.int 3 x)=some (gU k x):=by simp[cQ]
  by_cases c:k=x
  .subst c;refine⟨λh=>absurd (acm ..) h,λ_=>⟨0,?_,aC,?_⟩⟩;·simp only[findKey,h1,b,eU,beq_self_eq_true,h2,agl]
   simp only[ig,<-h1,<-h2]
  have d:gU k x=false:=by rw[eU];simpa using c
  refine⟨λh=>?_,λh=>?_⟩;·simp only[findKey,h1,b,d];exact f λj=>h (aen _ j)
  obtain⟨i,l,m,n⟩:=g ((aer.1 h).resolve_left c);refine⟨i+1,?_,by simpa using m,?_⟩;·simp only[findKey,h1,b,d,l];congr 3;omega
  simp only[ig,n]
 |[],_::_,h,_=>by simp at h
 |_::_,[],h,_=>by simp at h
theorem DJ{k:Int}:∀{es:List aV}{ks:List Int},ks.Nodup->es.map aV.kv=ks.map sk->(k∉ks->dK.go .int (.int 3 k) es=some none)/\(k∈ks->dK.go .int (.int 3 k) es=some (some (.bool true))/\(jB .int (.int 3 k) (.bool true) es).map aV.kv=ks.map sk)
 |[],[],_,_=>by simp[dK.go]
 |e::es,x::ks,d,h=>by
  rw[afX]at d;simp only[aez,ae1,aV.kv,sk,acn]at h;obtain⟨⟨h1,h2⟩,h3⟩:=h;obtain⟨g,i⟩:=DJ (k:=k) d.2 h3;have b:cQ 64 .int (.int 3 k) (.int 3 x)=some (gU k x):=by simp[cQ]
  by_cases c:k=x
  .subst c;have hg:=g d.1;refine⟨λh=>absurd (acm ..) h,λ_=>⟨?_,?_⟩⟩;·simp only[dK.go,h1,b,eU,beq_self_eq_true,hg,h2]
   simp only[jB,jA,h1,b,eU,beq_self_eq_true,bc,(uW (v:=.bool true) hg).1,aez,aV.kv,sk];rw[<-h3]
  have f:gU k x=false:=by rw[eU];simpa using c
  refine⟨λh=>?_,λh=>?_⟩;·simp only[dK.go,h1,b,f,g λj=>h (aen _ j)]
  obtain⟨l,m⟩:=i ((aer.1 h).resolve_left c);refine⟨by simp only[dK.go,h1,b,f,l],?_⟩;simp only[jB,jA,h1,b,f,abu,bA,aez,m,aV.kv,h2,sk]
 |[],_::_,_,h=>by simp at h
 |_::_,[],_,h=>by simp at h
theorem Al(aa:am AV)(v:AV):gv aa (.c v)=v:=rfl
theorem QU{aa:am AV}{om ok_:aK}{N:af}{x:Int}{ks:List Int}(r:gv aa om=.map N)(s:gv aa ok_=.int 3 x)(hs:jG (H.get N) ks):∃o,aE (.iV .int om ok_ (.c (.bool true))) aa H=some (.agx,o)/\o.next=H.next/\(∀j,j≠N->o.get j=H.get j)/\jG (o.get N) (mE x ks)/\∀es D,H.get N=.map es D->∃A C,o.get N=.map A C/\(x∈ks->o.get N=H.get N):=by
 obtain⟨p,es,he,k⟩:=hs;have d:fc x ks=true↔x∈ks:=pb x ks;cases l:H.get N with
 |map f D=>
  rw[l]at he;simp only[dX,aas]at he;subst he;obtain⟨u,v⟩:=DI (k:=x) k 0;by_cases g:x∈ks
  .obtain⟨i,t,y,B⟩:=v g;rw[aeL]at t;refine⟨H.set N (.map (ig (.bool true) (.int 3 x) f i) D),?_,rfl,λj hj=>by rw[ai.aJ,ap hj],?_,λm c2 q=>⟨_,_,by rw[ai.aJ,aH rfl],λ_=>by rw[ai.aJ,aH rfl,B]⟩⟩;·have n:qS .int (.int 3 x) f i=true:=C5 rfl _ _ _ y;simp only[aE,gB,aeY,abu,bA,r,s,l,t,n,bc,Al]
   rw[ai.aJ,aH rfl];unfold mE;rw[aH (d.2 g)];exact⟨p,_,rfl,by rw[B];exact k⟩
  refine⟨H.set N (.map (f++[⟨.int 3 x,.bool true,D⟩]) (D+1)),?_,rfl,λj hj=>by rw[ai.aJ,ap hj],?_,λm c2 q=>⟨_,_,by rw[ai.aJ,aH rfl],λh=>absurd h g⟩⟩;·simp only[aE,gB,aeY,abu,bA,r,s,l,u g,Al]
  rw[ai.aJ,aH rfl];unfold mE;rw[ap (λh=>g (d.1 h))];refine⟨?_,_,rfl,by simp[k,aV.kv,sk]⟩;rw[afa];exact⟨p,aC,λE z b hb=>by simp only[aaN]at hb;subst hb;exact λe=>g (e▸z)⟩
 |dt f=>
  rw[l]at he;simp only[dX,aas]at he;subst he;obtain⟨u,v⟩:=DJ (k:=x) p k;by_cases g:x∈ks
  .obtain⟨t,y⟩:=v g;refine⟨H.set N (.dt (jB .int (.int 3 x) (.bool true) f)),?_,rfl,λj hj=>by rw[ai.aJ,ap hj],?_,λm c2 q=>by cases q⟩;·simp only[aE,gB,aeY,abu,bA,r,s,l,dK,lr,bc,t,Al]
   rw[ai.aJ,aH rfl];unfold mE;rw[aH (d.2 g)];exact⟨p,_,rfl,y⟩
  refine⟨H.set N (.dt (f++[⟨.int 3 x,.bool true,0⟩])),?_,rfl,λj hj=>by rw[ai.aJ,ap hj],?_,λm c2 q=>by cases q⟩;·simp only[aE,gB,aeY,abu,bA,r,s,l,dK,lr,bc,u g,Al]
  rw[ai.aJ,aH rfl];unfold mE;rw[ap (λh=>g (d.1 h))];refine⟨?_,_,rfl,by simp[k,aV.kv,sk]⟩;rw[afa];exact⟨p,aC,λE z b hb=>by simp only[aaN]at hb;subst hb;exact λe=>g (e▸z)⟩
 |_=>rw[l]at he;simp[dX]at he
theorem Iu{aa:am AV}{p g:aK}{N:af}{x:Int}{b:List Int}(k:gv aa p=.map N)(l:gv aa g=.int 3 x)(hs:jG (H.get N) b):aE (.lookup .int (.bool false) false p g) aa H=some (.bool (fc x b),H):=by
 obtain⟨r,es,he,j⟩:=hs;have e:fc x b=true↔x∈b:=pb x b;have hb:∀q:Bool,(x∈b↔q=true)->fc x b=q:=λq t=>by cases q<;>cases h:fc x b<;>simp_all
 cases f:H.get N with
 |map o c=>
  rw[f]at he;simp only[dX,aas]at he;subst he;obtain⟨m,n⟩:=DI (k:=x) j 0;by_cases d:x∈b;·obtain⟨i,s,_⟩:=n d;simp only[aE,gB,aeY,abu,bA,k,l,f,s,e.2 d]
  simp only[aE,gB,aeY,abu,bA,k,l,f,m d,hb false (by simp[d])]
 |dt o=>
  rw[f]at he;simp only[dX,aas]at he;subst he;obtain⟨m,n⟩:=DJ (k:=x) r j;by_cases d:x∈b;·simp only[aE,gB,aeY,abu,bA,k,l,f,dK,lr,bc,(n d).1,e.2 d]
  simp only[aE,gB,aeY,abu,bA,k,l,f,dK,lr,bc,m d,hb false (by simp[d])]
 |_=>rw[f]at he;simp[dX]at he
theorem DK{i:af}{o:Nat}{v:AV}(h:bx H i o=some v):∃c n e b aM fz,H.get i=.cells c n e b aM fz/\o<n/\c.bN .agx o=v:=by
 unfold bx at h;split at h
 .rename_i c n e b aM fz hi;split at h;·rename_i d;injection h with h;exact⟨c,n,e,b,aM,fz,hi,Eq.mp afs d,h⟩
  cases h
 cases h
theorem vL{b:ai}{i:af}(h:b.get i=H.get i)(o:Nat):bx b i o=bx H i o:=by unfold bx;rw[h]
theorem j8{aa:am AV}{x:aK}{i:af}{o:Nat}{v:AV}(b:gv aa x=.aD i o)(h:bx H i o=some v):aE (.bk x) aa H=some (v,H):=by obtain⟨c,n,e,d,aM,fz,h1,h2,h3⟩:=DK h;simp[aE,gz,b,du,h1,eX,h2,h3]
theorem x9{b v:AV}(h:mG H b=some v):∃i o,b=.aD i o/\bx H i o=some v:=by
 unfold mG at h;split at h;·exact⟨_,_,rfl,h⟩
 cases h
theorem Iv{s v:AV}{x:Int}(h:pa H s x=some v):∃i o n c e j,s=.slice i o n c e/\x=.ofNat j/\j<n/\bx H i (o+j)=some v:=by
 unfold pa at h;split at h
 .split at h;·rename_i b;exact⟨_,_,_,_,_,_,rfl,rfl,Eq.mp afs b,h⟩
  cases h
 cases h
theorem DL{aa:am AV}{x y:aK}{i:af}{o n c:Nat}{e:Bool}{j k:Nat}(b:gv aa x=.slice i o n c e)(d:gv aa y=.int k (.ofNat j))(hj:j<n):aE (.dO 1 x y) aa H=some (.aD i (o+j),H):=by have:ae0 j n=true:=agu afs hj;simp[aE,b,d,this]
end
section
mutual
theorem VR.eP{r p:aQ}(h:bR r p):∀(v:AV)(c0 c:Value),VR r v c0->VR p v c->VR r v c
 |.tuple l,c0,c,d,k=>by
  cases c0<;>simp only[VR]at d
  cases c<;>simp only[VR]at k⊢
  exact aR.eP h l _ _ d k
 |.agg l,c0,c,d,k=>by
  cases c0<;>simp only[VR]at d
  cases c<;>simp only[VR]at k⊢
  exact aR.eP h l _ _ d k
 |.bool _,c0,c,_,k=>by cases c<;>simp only[VR]at k⊢;exact k
 |.int _ _,c0,c,_,k=>by cases c<;>simp only[VR]at k⊢;exact k
 |.str _,c0,c,_,k=>by cases c<;>simp only[VR]at k⊢;exact k
 |.aD i o,c0,c,d,k=>by
  cases c0 with
  |pointer a0=>
   cases a0 with
   |none=>simp[VR]at d
   |some a0=>
    simp only[VR]at d
    obtain⟨q,s,j,_⟩:=d
    cases c with
    |pointer a=>
     cases a with
     |none=>simp[VR]at k
     |some a=>
      simp only[VR]at k⊢
      obtain⟨b,x,e,B⟩:=k
      have:=(h _ _ j).1.symm.trans e
      injection this with this;injection this with u w
      subst u;subst w
      exact⟨_,_,j,B⟩
    |_=>simp[VR]at k
  |_=>simp[VR]at d
 |.j5,c0,c,_,k=>by
  cases c with
  |pointer a=>cases a<;>simp[VR]at k⊢
  |_=>simp[VR]at k
 |.slice i o len cap ex,c0,c,d,k=>by
  cases c0 with
  |slice a0 G H=>
   cases a0 with
   |none=>simp[VR]at d
   |some a0=>
    simp only[VR]at d
    obtain⟨_,_,_,_,q,s,j,_⟩:=d
    cases c with
    |slice a n m=>
     cases a with
     |none=>simp[VR]at k
     |some a=>
      simp only[VR]at k⊢
      obtain⟨h1,h2,h3,C,b,x,e,D,z⟩:=k
      have:=(h _ _ j).1.symm.trans e
      injection this with this;injection this with u w
      subst u;subst w
      have A:=(h _ _ j).2
      simp only at A
      rw[A]at z
      exact⟨h1,h2,h3,C,_,_,j,D,z⟩
    |_=>simp[VR]at k
  |_=>simp[VR]at d
 |.aG,c0,c,_,k=>by
  cases c with
  |slice a n m=>
   unfold VR at k⊢
   split at k<;>first|trivial|(exact absurd k aC)|exact k
  |_=>simp[VR]at k
 |.map i,c0,c,d,k=>by
  cases c0 with
  |map q=>
   cases q with
   |none=>simp[VR]at d
   |some q=>
    simp only[VR]at d
    cases c with
    |map b=>
     cases b with
     |none=>simp[VR]at k
     |some b=>
      simp only[VR]at k⊢
      have:=(h _ _ d).1.symm.trans k
      rw[d];exact this
    |_=>simp[VR]at k
  |_=>simp[VR]at d
 |.d9,c0,c,_,k=>by
  cases c with
  |map b=>cases b<;>simp[VR]at k⊢
  |_=>simp[VR]at k
 |.func f a b,c0,c,d,k=>by
  cases c0 with
  |func t0 s E=>
   cases t0 with
   |func F=>
    simp only[VR]at d
    cases c with
    |func t x y=>
     cases t with
     |func g=>
      simp only[VR]at k⊢
      exact⟨k.1,aR.eP h a _ _ d.2.1 k.2.1,aR.eP h b _ _ d.2.2 k.2.2⟩
     |_=>simp[VR]at k
    |_=>simp[VR]at k
   |_=>simp[VR]at d
  |_=>simp[VR]at d
 |.yield i,c0,c,d,k=>by
  cases c0 with
  |func t0 s E=>
   cases t0 with
   |yield F=>
    simp only[VR]at d
    cases c with
    |func t x y=>
     cases t with
     |yield g=>
      simp only[VR]at k⊢
      have:=(h _ _ d.1).1.symm.trans k.1
      exact⟨by rw[d.1];exact this,k.2⟩
     |_=>simp[VR]at k
    |_=>simp[VR]at k
   |_=>simp[VR]at d
  |_=>simp[VR]at d
 |.nilFunc,c0,c,_,k=>by cases c<;>simp only[VR]at k⊢
 |.iface t v,c0,c,d,k=>by
  cases c0<;>simp only[VR]at d
  cases c<;>simp only[VR]at k⊢
  exact⟨k.1,VR.eP h v _ _ d.2 k.2⟩
 |.nilIface,c0,c,_,k=>by cases c<;>simp only[VR]at k⊢
 |.ct,c0,c,_,_=>by simp only[VR]
theorem aR.eP{e b:aQ}(h:bR e b):∀(l:List AV)(a m:List Value),aR e l a->aR b l m->aR e l m
 |[],a,m,_,k=>by cases m<;>simp only[aR]at k⊢
 |v::l,a,m,d,k=>by
  cases a with
  |nil=>simp[aR]at d
  |cons c0 a=>
   cases m with
   |nil=>simp[aR]at k
   |cons c m=>
    simp only[aR]at d k⊢
    exact⟨VR.eP h v _ _ d.1 k.1,aR.eP h l _ _ d.2 k.2⟩
end
theorem ia.eP{e c:aQ}(h:bR e c):∀{l:List af}{a m:List Deferred},ia e l a->ia c l m->ia e l m|[],a,m,_,k=>by cases m<;>simp only[ia]at k⊢|i::l,a,m,b,k=>by cases a with|nil=>simp[ia]at b|cons n a=>cases m with|nil=>simp[ia]at k|cons d m=>simp only[ia]at b k⊢;obtain⟨⟨o,f,_⟩,b⟩:=b;obtain⟨⟨r,g,j⟩,k⟩:=k;have:=(h _ _ f).1.symm.trans g;exact⟨⟨r,by rw[f];exact this,j⟩,ia.eP h b k⟩
section
variable[Ov]
variable{P:Program}
theorem fD.off{d c:aQ}{e:Nat}{fr b:Fr}{f:Option Nat}{a g:Act}{bV:List af}(h0:fD d e fr f a)(i:bR d c)(h:fD c e b f g)(hs:∀t,t∉bV->b.aa.get .agx t=fr.aa.get .agx t)(k:b.bz=fr.bz):fD d e {fr with aa:=Go.ak.kY fr.aa bV} f g:=by
 refine⟨⟨h.E.1,λt j=>?_⟩,?_,h0.R⟩
 .rw[DH];split;·simp only[VR]
  rename_i l;have:=h.E.2 t j;rw[hs _ l]at this;exact VR.eP i _ _ _ (h0.E.2 t j) this
 have:=h.D;rw[k]at this;exact ia.eP i h0.D this
theorem DM:∀{l:List aV},(l.map (·.born)).Nodup->∀{x y:aV},x∈l->y∈l->x.born=y.born->x=y
 |[],_,_,_,e,_,_=>by cases e
 |c::l,d,x,y,e,f,h=>by
  rw[aez,afX]at d;rcases aer.1 e with a|a<;>rcases aer.1 f with b|b;·rw[a,b]
  .subst a;exact absurd (h▸aeX b) d.1
  .subst b;exact absurd (h▸aeX a) d.1
  exact DM d.2 a b h
theorem QV{ac:Nat->aX}(ht:gC P ac){T:bS}{I:aQ}{H M:ai}{w:World}{V:Nat}{fr:Fr}{b:Frame}{a:Act}{c1 c2:Code}{Y body:bg}{y z:Nat}{p i ok C ex kv:af}(h1:dA P V c1=some Y)(h2:dA P V c2=some (mD y z p i ok C ex kv body))(ag:y≠z)(d1:p≠i)(d2:p≠ok)(d3:i≠ok)(d4:p≠C)(d5:C≠ex)(d6:p≠ex)(d7:p≠kv){bV:List af}(s1:i∈bV)(s2:ok∈bV)(s3:C∈bV)(s4:ex∈bV)(s5:kv∈bV)(hF:fD I V fr b.roundOf a)(hI:bh P T I H w){m:af}{es:List aV}{K:List Int}(Z:dX (H.get m)=some es)(hk:iC es=some K)(nh W:Nat)(R:∀d c,Xc ac nh Y fr (H.set m (.map d c)) λj f g=>j=.none/\f.bz=fr.bz/\f.bB=fr.bB/\(∀t,t∉bV->f.aa.get .agx t=fr.aa.get .agx t)/\f.aa.get .agx p=.aD H.next 0/\g=(H.set m (.map d c)).new (.mapIter (some m) c [] c))(J:List aV->Nat->List Int->ai->Prop)(J0:∀d c,(d.map aV.kv).Perm (es.map aV.kv)->J d c [] ((H.set m (.map d c)).new (.mapIter (some m) c [] c)))(av:∀d c l g o,J d c l g->J d c l (g.set H.next o))(Jm:∀d c l g,J d c l g->g.get m=.map d c)(B:∀d c l aa g k,k∈K->J d c l g->(∀t,t∉bV->aa.get .agx t=fr.aa.get .agx t)->aa.get .agx kv=.int 3 k->Xc ac W body ⟨aa,fr.bz,fr.bB⟩ g λj f u=>j=.none/\f.bz=fr.bz/\f.bB=fr.bB/\(∀t,t∉bV->f.aa.get .agx t=fr.aa.get .agx t)/\f.aa.get .agx p=aa.get .agx p/\u.get H.next=g.get H.next/\J d c (l++[k]) u)(aA:∀d c l g n w',(∀k,k∈l↔k∈K)->J d c l g->bR I n->bh P T n g w'->(∀{N:bS}{n:aQ}{u:ai}{w':World},bh P N n u w'->u.get m=.map d c->bh P N n (u.set m (H.get m)) w')->∃r,bR I r/\bh P T r M w')(k:List Item)(cs:List Frame):gO P T I V w b k cs (lone (b.atR a (.code (.seq c1 c2)::k)) cs w) λj f g=>j=.none/\f={fr with aa:=kY fr.aa bV}/\g=M:=by
 obtain⟨d,c,aw,hp,hb,ax,eP⟩:=Ip hI Z;obtain⟨ay,a2⟩:=QS hk hp;have a8:m≠H.next:=λe=>by have:=(hI.dD H.next (aeq _)).1;rw[<-e]at this;rw[this]at Z;simp[dX]at Z
 have run:Xc ac (nh+(W+15+d.length)+1) (.seq Y (mD y z p i ok C ex kv body)) fr (H.set m (.map d c)) λj f g=>j=.none/\f.bz=fr.bz/\(∀t,t∉bV->f.aa.get .agx t=fr.aa.get .agx t)/\∃l,(∀k,k∈l↔k∈K)/\J d c l g:=by
  refine Xc.iq (n:=nh) (m:=W+15+d.length) ab ab ((R d c).mono (aeq _) ?_);rintro j f g⟨rfl,g1,g2,g3,g4,rfl⟩;have S:f=⟨f.aa,fr.bz,fr.bB⟩:=by cases f;simp only at g1 g2;subst g1;subst g2;rfl
  rw[S];refine Ic ag d1 d2 d3 d5 hb ax (id:=H.next) (m:=m) (I:=λseen aa g=>(∀t,t∉bV->aa.get .agx t=fr.aa.get .agx t)/\aa.get .agx p=.aD H.next 0/\g.get H.next=.mapIter (some m) c seen c/\∃l,(∀k,k∈l->k∈K)/\(∀e∈d,e.born∈seen->∃k∈l,e.key=.int 3 k)/\J d c l g) ?_ W ?_ ?_ d.length [] f.aa _ ?_ ?_;·rintro seen aa g⟨X,v,L,l,D,E,x⟩;exact⟨v,L,Jm _ _ _ _ x⟩
  .rintro seen aa g e⟨X,v,L,l,D,E,x⟩he ba;obtain⟨kk,O,s⟩:=ay e he;refine(B d c l _ _ kk O (av _ _ _ _ _ x) ?_ ?_).mono (aeq _) ?_;·intro t h;have n1:t≠i:=λe=>h (e▸s1);have n2:t≠ok:=λe=>h (e▸s2);have n3:t≠C:=λe=>h (e▸s3);have n4:t≠ex:=λe=>h (e▸s4);have n5:t≠kv:=λe=>h (e▸s5);simp only[am.aJ,ap n1,ap n2,ap n3,ap n4,ap n5];exact X t h
   .rw[am.aJ,aH rfl];exact s
   rintro j bb u⟨r1,r2,r3,r4,r5,r6,r7⟩;refine⟨r1,r2,r3,r4,?_,?_,l++[kk],?_,?_,r7⟩;·rw[r5];simp only[am.aJ,ap d1,ap d2,ap d4,ap d6,ap d7];exact v
   .rw[r6,ai.aJ,aH rfl]
   .intro F A;rcases aeu.1 A with q|q;·exact D F q
    rw[aaN]at q;rw[q];exact O
   intro e' Q a6;rcases aeu.1 a6 with q|q;·obtain⟨F,a1,G⟩:=E e' Q q;exact⟨F,aeN _ a1,G⟩
   rw[aaN]at q;have:e'=e:=by exact DM hb Q he q
   subst this;exact⟨kk,aeU _ (aaN.2 rfl),s⟩
  .rintro seen aa g⟨X,v,L,l,D,E,x⟩eG;refine⟨rfl,rfl,?_,l,λF=>⟨D F,λA=>?_⟩,x⟩;·intro t h;have n1:t≠i:=λe=>h (e▸s1);have n2:t≠ok:=λe=>h (e▸s2);simp only[am.aJ,ap n1,ap n2];exact X t h
   obtain⟨e,he,s⟩:=a2 F A;obtain⟨k2,a1,G⟩:=E e he (eG e he);rw[s]at G;injection G with _ G;rw[G];exact a1
  .exact⟨g3,g4,by rw[ai.cZ,ai.eI,aH rfl],[],aC,aC,J0 d c hp⟩
  exact List.length_filter_le ..
 obtain⟨j,f,g,n,a',w',t,⟨rfl,e1,e2,l,e3,e4⟩,v,L,D,E,x,q7⟩:=QR ht h1 h2 run hF aw k cs;obtain⟨r,x2,I2⟩:=aA d c l g n w' e3 e4 v D eP;exact⟨.none,_,_,r,a',w',t,⟨rfl,rfl,rfl⟩,x2,(fD.off hF v L e2 e1).mono x2,I2,E,x,q7⟩
end
end
section
section
variable[Ov]
variable{P:Program}
theorem pc{H:ai}{i m:af}{o:Nat}{v:AV}(h:bx H i o=some v){es:List aV}(a:dX (H.get m)=some es):i≠m:=by obtain⟨c,n,e,b,aM,fz,h1,_⟩:=DK h;rintro rfl;rw[h1]at a;simp[dX]at a
theorem DN{P:Program}{a:bS}{b:aQ}{H:ai}{w:World}(d:bh P a b H w){i:af}{o:Nat}{v:AV}(h:bx H i o=some v):i≠H.next:=by obtain⟨c,n,e,f,aM,fz,h1,_⟩:=DK h;rintro rfl;rw[(d.dD _ (aeq _)).1]at h1;cases h1
theorem DO{H:ai}{N:af}{t:List Int}(h:mF H N=some t):∃es,dX (H.get N)=some es:=by obtain⟨_,es,h,_⟩:=Ir h;exact⟨es,h⟩
theorem Iw{H:ai}{N:af}{t:List Int}(h:jk H N=some t):∃es,dX (H.get N)=some es:=by obtain⟨es,h,_⟩:=x7 h;exact⟨es,h⟩
theorem Am{H:ai}{i m:af}{o:Nat}{x:bO}(h:i≠m):bx (H.set m x) i o=bx H i o:=vL (by rw[ai.aJ,ap h]) o
end
theorem br{a b:Nat}:af.cq a=af.cq b↔a=b:=⟨af.br,λh=>h▸rfl⟩
end
section
def ye(a:Nat):bg:=.seq (.region [bD 11 (.bk (tt 2)),bD 12 (.bw (tt 0)),bD 13 (.lookup .int (.int 3 (.ofNat 0)) true (tt 11) (tt 12)),bD 10 (.bw (tt 13)),bD 14 (.extract (tt 10) 0),bD 15 (.extract (tt 10) 1),bD 8 (.bw (tt 14)),bD 9 (.bw (tt 15))])
  (.seq (.region [bD 16 (.bw (tt 9)),bD 17 (.unary .not (tt 16)),bD 18 (.bw (tt 17)),⟨some (sl 19),.bw (tt 8),some (sl 18,false),[],[]⟩,⟨some (sl 20),.bw (tt 1),some (sl 18,false),[],[]⟩,⟨some (sl 21),.arith .geq 3 (tt 19) (tt 20),some (sl 18,false),[],[]⟩,bD 22 (.pick (tt 18) (.c (.bool true)) (tt 21))])
  (.cond (tt 22) (.region [bD 23 (.bk (tt 3)),bD 24 (.bk (tt 4)),bD 25 (.dO 1 (tt 23) (tt 24)),bD 26 (.bk (tt 25)),bD 27 (.bw (tt 0)),bD 28 (.call (.c (.func a [] [])) [tt 26,tt 27]),bD 29 (.bw (tt 28)),⟨some (sl 30),.bk (tt 5),some (sl 29,false),[],[]⟩,bD 31 (.pick (tt 29) (.c (.bool true)) (tt 30)),nH (.store 1 (tt 5) (tt 31))]) .skip))
def vM:bg:=.seq (.region [bD 4 (.bw (.c (.bool false)))]) (.seq (.region [bD 6 (.bw (tt 0)),bD 7 (.bw (tt 1)),bD 8 (.lookup .int (.bool false) false (tt 6) (tt 7)),bD 9 (.unary .not (tt 8)),bD 5 (.bw (tt 9))])
  (.seq (.region [bD 10 (.bw (tt 0)),bD 11 (.bw (tt 1)),nH (.iV .int (tt 10) (tt 11) (.c (.bool true)))]) (.seq (.region [bD 12 (.bw (tt 5)),bD 4 (.bw (tt 12))]) .ret)))
def l7(da a:Nat):Nat->aX:=λf=>if aeF f da then .code 32 [] (ye a)else if aeF f a then .code 13 [.tmp (sl 4)] vM else .none
section
variable[Ov]
variable{ac:Nat->aX}
theorem Xo.An{n:Nat}{d:Option af}{op:bC}{g:Option (af×Bool)}{l:List bu}{aa:am AV}{bz:List af}{bB:Option af}{H H':ai}{v:AV}{K:Fr->ai->Prop}(hg:dc aa g=true)(he:aE op aa H=some (v,H'))(h:Xo ac n l ⟨aO aa d v,bz,bB⟩ H' K):Xo ac (n+1) (⟨d,op,g,[],[]⟩::l) ⟨aa,bz,bB⟩ H K:=by
 simp only[Xo,Go.ak.aq,hg,cS,cB,dl,bc];split;·simp[aE]at he
 .simp[aE]at he
 rw[he];exact h
theorem Xo.Ao{n:Nat}{d:Option af}{op:bC}{g:Option (af×Bool)}{l:List bu}{aa:am AV}{bz:List af}{bB:Option af}{H:ai}{K:Fr->ai->Prop}(hg:dc aa g=false)(hd:iM aa g=true)(h:Xo ac n l ⟨aO aa d .agx,bz,bB⟩ H K):Xo ac (n+1) (⟨d,op,g,[],[]⟩::l) ⟨aa,bz,bB⟩ H K:=by simp only[Xo,Go.ak.aq,hg,hd,abu,bA,bc];exact h
theorem Xf.code{n c:Nat}{f:Nat}{first args a:List AV}{d:List fM}{body:bg}{H:ai}{K:KT}(i:ac f=.code c d body)(hl:(first++args++a).length<=c)(h:Xc ac n body ⟨iL (first++args++a) .xH .aF,[],none⟩ H λj fr b=>(match j with|.exit _=>False|_=>True)/\fr.bz=[]/\∃l,ee fr.aa b d=some l/\K (fG l) b):Xf ac (n+1) (.func f first a) args H K:=by
 simp only[Xf,dT,i];rw[aH (aff hl)];refine Xc.mono (aeq _) ?_ h;rintro j fr b⟨h1,h2,l,h3,e⟩;have g:gV b fr.bz=some b:=by rw[h2];rfl
 cases j with|exit=>exact h1.elim|none=>simp only[g,h3];exact e|ret=>simp only[g,h3];exact e
def fX(pl:List (Int×Int))(v:Int):Int×Bool:=
 match pl with
 |[]=>(0,false)
 |(k,g)::pl=>if gU v k then(g,true)else fX pl v
theorem Ix(bt v:Int):∀pl,dR.mH pl bt v=(!(fX pl v).2||!jz (fX pl v).1 bt)
 |[]=>by simp[dR.mH,fX]
 |(k,g)::pl=>by
  simp only[dR.mH,fX];split;·simp
  exact Ix bt v pl
theorem QW{pl:List (Int×Int)}{v:Int}(h:v∉pl.map (·.1)):fX pl v=(0,false):=by
 induction pl with
 |nil=>rfl
 |cons a pl b=>
  obtain⟨k,g⟩:=a;simp only[aez,aer,not_or]at h;have:gU v k=false:=by rw[eU];simpa using h.1
  simp only[fX,this,abu,bA];exact b h.2
theorem Iy:∀{es:List aV}{pl:List (Int×Int)}{ks:List Int},jl.go es=some pl->iC es=some ks->ks=pl.map (·.1)
 |[],pl,ks,h,b=>by simp only[jl.go,iC,aas]at h b;subst h;subst b;rfl
 |a::es,pl,ks,h,b=>by
  simp only[jl.go]at h;split at h
  .rename_i k v l h1 h2 h3;injection h with h;subst h;simp only[iC,h1]at b;split at b;·rename_i e f c d;injection b with b;subst b;injection c with _ c;rw[aez,<-Iy h3 d,c]
   cases b
  cases h
theorem Iz{v:Int}:∀{es:List aV}{pl:List (Int×Int)},jl.go es=some pl->∀i0,((fX pl v).2=false->findKey .int (.int 3 v) es i0=some none)/\((fX pl v).2=true->∃i,findKey .int (.int 3 v) es i0=some (some (i,.int 3 (fX pl v).1)))
 |[],pl,h,i0=>by simp only[jl.go,aas]at h;subst h;simp[fX,findKey]
 |a::es,pl,h,i0=>by
  simp only[jl.go]at h;split at h
  .rename_i k g l h1 h2 h3;injection h with h;subst h;have b:cQ 64 .int (.int 3 v) (.int 3 k)=some (gU v k):=by simp[cQ]
   cases hb:gU v k with|true=>simp only[fX,hb,bc,findKey,h1,b,h2];simp|false=>simp only[fX,hb,abu,bA,findKey,h1,b];exact Iz h3 (i0+1)
  cases h
theorem IA{v:Int}:∀{es:List aV}{pl:List (Int×Int)},jl.go es=some pl->(pl.map (·.1)).Nodup->((fX pl v).2=false->dK.go .int (.int 3 v) es=some none)/\((fX pl v).2=true->dK.go .int (.int 3 v) es=some (some (.int 3 (fX pl v).1)))
 |[],pl,h,_=>by simp only[jl.go,aas]at h;subst h;simp[fX,dK.go]
 |a::es,pl,h,c=>by
  simp only[jl.go]at h;split at h
  .rename_i k g l h1 h2 h3;injection h with h;subst h;simp only[aez,afX]at c;have b:cQ 64 .int (.int 3 v) (.int 3 k)=some (gU v k):=by simp[cQ]
   obtain⟨f,i⟩:=IA (v:=v) h3 c.2;cases hb:gU v k with
   |true=>
    have d:v=k:=by have:=eU v k;rw[hb]at this;simpa using this.symm
    have e:=f (by rw[d,QW c.1]);simp only[fX,hb,bc,dK.go,h1,b,e,h2];simp
   |false=>simp only[fX,hb,abu,bA,dK.go,h1,b];refine⟨λq=>by rw[f q],λq=>by rw[i q]⟩
  cases h
theorem QX{aa:am AV}{q e:aK}{H:ai}{j:af}{v:Int}{pl:List (Int×Int)}{o:List Int}(l:gv aa q=.map j)(m:gv aa e=.int 3 v)(h1:jl H j=some pl)(h2:jk H j=some o):aE (.lookup .int (.int 3 (.ofNat 0)) true q e) aa H=some (.tuple [.int 3 (fX pl v).1,.bool (fX pl v).2],H):=by
 obtain⟨es,b,w,x⟩:=x7 h2;unfold jl at h1;rw[b]at h1;have f:(pl.map (·.1)).Nodup:=by rw[<-Iy h1 w];exact x
 obtain⟨r,n⟩:=Iz (v:=v) h1 0;obtain⟨s,t⟩:=IA (v:=v) h1 f;have u:(fX pl v).2=false->(fX pl v).1=0:=by
  clear r n s t h1 f;induction pl with
  |nil=>intro _;rfl
  |cons a pl y=>
   obtain⟨k,g⟩:=a;simp only[fX];split;·intro h;cases h
   exact y
 cases d:H.get j with
 |map p c=>rw[d]at b;simp only[dX,aas]at b;subst b;cases hb:(fX pl v).2 with|true=>obtain⟨i,n⟩:=n hb;simp only[aE,gB,aeY,abu,bA,l,m,d,n,bc]|false=>rw[u hb];simp only[aE,gB,aeY,abu,bA,l,m,d,r hb,bc];rfl
 |dt p=>rw[d]at b;simp only[dX,aas]at b;subst b;cases hb:(fX pl v).2 with|true=>simp only[aE,gB,aeY,abu,bA,l,m,d,dK,lr,t hb,bc]|false=>rw[u hb];simp only[aE,gB,aeY,abu,bA,l,m,d,dK,lr,s hb,bc];rfl
 |_=>rw[d]at b;simp[dX]at b
end
end
section
variable[Ov]
variable{ac:Nat->aX}
theorem QY{a:Nat}(f:ac a=.code 13 [.tmp (sl 4)] vM){H:ai}{N:af}{v:Int}{ks:List Int}(hs:jG (H.get N) ks){K:KT}(g:∀b:ai,b.next=H.next->(∀j,j≠N->b.get j=H.get j)->jG (b.get N) (mE v ks)->(∀es c,H.get N=.map es c->v∈ks->b.get N=H.get N)->K (.bool (!fc v ks)) b):Xf ac 30 (.func a [] []) [.map N,.int 3 v] H K:=by
 refine Xf.code (n:=29) f aC ?_;show Xc ac 29 vM ⟨(am.aF.set .agx (sl 0) (.map N)).set .agx (sl 1) (.int 3 v),[],none⟩ H _;generalize d:(am.aF.set AV.agx (sl 0) (.map N)).set .agx (sl 1) (.int 3 v)=aa;have h0:aa.get .agx (sl 0)=.map N:=by rw[<-d];simp[am.aJ,br]
 have h1:aa.get .agx (sl 1)=.int 3 v:=by rw[<-d];simp[am.aJ,br]
 clear d;refine Xc.iq (n:=28) (m:=28) (k:=28) ab ab (Xc.region (n:=27) ?_);refine Xo.op (n:=26) (v:=.bool false) (H':=H) (by simp[aE,gv]) (Xo.nil (n:=25) ?_);refine Xc.iq (n:=27) (m:=27) (k:=27) ab ab (Xc.region (n:=26) ?_);refine Xo.op (n:=25) (v:=.map N) (H':=H) (by simp[aE,gv,aO,am.aJ,br];exact h0) ?_;refine Xo.op (n:=24) (v:=.int 3 v) (H':=H) (by simp[aE,gv,aO,am.aJ,br];exact h1) ?_;refine Xo.op (n:=23) (v:=.bool (fc v ks)) (H':=H) (Iu (N:=N) (x:=v) (by simp[gv,aO,am.aJ,br]) (by simp[gv,aO,am.aJ,br]) hs) ?_;refine Xo.op (n:=22) (v:=.bool (!fc v ks)) (H':=H) (by simp[aE,gv,aO,am.aJ,br,ux]) ?_;refine Xo.op (n:=21) (v:=.bool (!fc v ks)) (H':=H) (by simp[aE,gv,aO,am.aJ,br]) (Xo.nil (n:=20) ?_);refine Xc.iq (n:=26) (m:=26) (k:=26) ab ab (Xc.region (n:=25) ?_);obtain⟨b,i,k,l,m,n⟩:=QU (H:=H) (N:=N) (x:=v) (ks:=ks) (aa:=aO (aO (aO (aO (aO (aO (aO (aO aa (some (sl 4)) (.bool false)) (some (sl 6)) (.map N)) (some (sl 7)) (.int 3 v)) (some (sl 8)) (.bool (fc v ks))) (some (sl 9)) (.bool (!fc v ks))) (some (sl 5)) (.bool (!fc v ks))) (some (sl 10)) (.map N)) (some (sl 11)) (.int 3 v)) (om:=tt 10) (ok_:=tt 11) (by simp[gv,aO,am.aJ,br]) (by simp[gv,aO,am.aJ,br]) hs;refine Xo.op (n:=24) (v:=.map N) (H':=H) (by simp[aE,gv,aO,am.aJ,br];exact h0) ?_;refine Xo.op (n:=23) (v:=.int 3 v) (H':=H) (by simp[aE,gv,aO,am.aJ,br];exact h1) ?_;refine Xo.op (n:=22) (v:=.agx) (H':=b) i (Xo.nil (n:=21) ?_);refine Xc.iq (n:=25) (m:=25) (k:=25) ab ab (Xc.region (n:=24) ?_);refine Xo.op (n:=23) (v:=.bool (!fc v ks)) (H':=b) (by simp[aE,gv,aO,am.aJ,br]) ?_;refine Xo.op (n:=22) (v:=.bool (!fc v ks)) (H':=b) (by simp[aE,gv,aO,am.aJ,br]) (Xo.nil (n:=21) ?_);refine Xc.ret (n:=24) ⟨trivial,rfl,[.bool (!fc v ks)],?_,g b k l m λes c e h=>(n es c e).elim λ_ h1=>h1.elim λ_ h2=>h2.2 h⟩;simp[ee,aO,am.aJ,br]
theorem QZ{H:ai}{a:af}{no n fz:Nat}{c:am AV}{e:Nat}(h:H.get a=.cells c n e true [] fz)(h1:fz<=no)(h2:no<n)(b:Bool):gw H a no [.bool b]=some (H.set a (.cells (fi c no [.bool b]) n e true [] fz)):=by
 unfold gw;rw[h];have d:decide (fz<=no)=true:=by simpa using h1
 have f:decide (no+([.bool b]:List AV).length<=n)=true:=by simp;omega
 simp only[d,f,agj];rfl
theorem IB{da g:Nat}(Y:ac da=.code 32 [] (ye g))(Z:ac g=.code 13 [.tmp (sl 4)] vM){H:ai}{c1 c2 c3 s2:AV}{pm k N:af}{no n fz kb e:Nat}{pl:List (Int×Int)}{pks ks:List Int}{v bt b:Int}{c:am AV}{q:Bool}(E:mG H c1=some (.map pm))(F:mG H c2=some s2)(G:mG H c3=some (.int kb b))(g4:jl H pm=some pl)(g5:jk H pm=some pks)(g6:pa H s2 b=some (.map N))(D:H.get k=.cells c n e true [] fz)(g8:fz<=no)(Q:no<n)(B:c.bN .agx no=.bool q)(hs:jG (H.get N) ks){K:KT}(w:∀(r:AV)(o:ai)C c2,o.next=H.next->(∀j,j≠N->j≠k->o.get j=H.get j)->jG (o.get N) C->(∀x,x∈C↔x∈ks\/(x=v/\dR.mH pl bt v=true))->o.get k=.cells c2 n e true [] fz->(∀i,i≠no->c2.bN .agx i=c.bN .agx i)->c2.bN .agx no=.bool (q||(dR.mH pl bt v&&!fc v ks))->(∀es c,H.get N=.map es c->v∈ks->o.get N=H.get N)->K r o):Xf ac 80 (.func da [] [c1,c2,c3,.aD k no]) [.int 3 v,.int 3 bt] H K:=by
 obtain⟨I,o1,rfl,E⟩:=x9 E;obtain⟨z,o2,rfl,F⟩:=x9 F;obtain⟨A,o3,rfl,G⟩:=x9 G;obtain⟨is,os,ns,ag,av,js,e5,e6,e7,c5⟩:=Iv g6;have t:N≠k:=by rintro rfl;obtain⟨_,_,h,_⟩:=hs;rw[D]at h;simp[dX]at h
 have gq:bx H k no=some (.bool q):=by unfold bx;rw[D];simp only[agu afs Q,bc,B]
 refine Xf.code (n:=79) Y aC ?_;show Xc ac 79 (ye g) ⟨(((((am.aF.set .agx (sl 0) (.int 3 v)).set .agx (sl 1) (.int 3 bt)).set .agx (sl 2) (.aD I o1)).set .agx (sl 3) (.aD z o2)).set .agx (sl 4) (.aD A o3)).set .agx (sl 5) (.aD k no),[],none⟩ H _;generalize m:(((((am.aF.set AV.agx (sl 0) (.int 3 v)).set .agx (sl 1) (.int 3 bt)).set .agx (sl 2) (.aD I o1)).set .agx (sl 3) (.aD z o2)).set .agx (sl 4) (.aD A o3)).set .agx (sl 5) (.aD k no)=aa;have h0:aa.get .agx (sl 0)=.int 3 v:=by rw[<-m];simp[am.aJ,br]
 have h1:aa.get .agx (sl 1)=.int 3 bt:=by rw[<-m];simp[am.aJ,br]
 have h2:aa.get .agx (sl 2)=.aD I o1:=by rw[<-m];simp[am.aJ,br]
 have h3:aa.get .agx (sl 3)=.aD z o2:=by rw[<-m];simp[am.aJ,br]
 have R:aa.get .agx (sl 4)=.aD A o3:=by rw[<-m];simp[am.aJ,br]
 have S:aa.get .agx (sl 5)=.aD k no:=by rw[<-m];simp[am.aJ,br]
 clear m;rw[Ix]at w;generalize hg:(fX pl v).1=s at w;generalize hi:(fX pl v).2=ii at w;have p:=λ(aa:am AV)(om M:aK)(hm:gv aa om=.map pm)(hk:gv aa M=.int 3 v)=>QX (H:=H) hm hk g4 g5;rw[hg,hi]at p;refine Xc.iq (n:=70) (m:=70) (k:=78) ab ab (Xc.region (n:=69) ?_);refine Xo.op (n:=68) (v:=.map pm) (H':=H) (j8 (by simp[gv];exact h2) E) ?_;refine Xo.op (n:=67) (v:=.int 3 v) (H':=H) (by simp[aE,gv,aO,am.aJ,br];exact h0) ?_;refine Xo.op (n:=66) (v:=.tuple [.int 3 s,.bool ii]) (H':=H) (p _ _ _ (by simp[gv,aO,am.aJ,br]) (by simp[gv,aO,am.aJ,br])) ?_;refine Xo.op (n:=65) (v:=.tuple [.int 3 s,.bool ii]) (H':=H) (by simp[aE,gv,aO,am.aJ,br]) ?_;refine Xo.op (n:=64) (v:=.int 3 s) (H':=H) (by simp[aE,gv,aO,am.aJ,br,kO]) ?_;refine Xo.op (n:=63) (v:=.bool ii) (H':=H) (by simp[aE,gv,aO,am.aJ,br,kO]) ?_;refine Xo.op (n:=62) (v:=.int 3 s) (H':=H) (by simp[aE,gv,aO,am.aJ,br]) ?_;refine Xo.op (n:=61) (v:=.bool ii) (H':=H) (by simp[aE,gv,aO,am.aJ,br]) (Xo.nil (n:=60) ?_);generalize m:aO (aO (aO (aO (aO (aO (aO (aO aa (some (sl 11)) (.map pm)) (some (sl 12)) (.int 3 v)) (some (sl 13)) (.tuple [.int 3 s,.bool ii])) (some (sl 10)) (.tuple [.int 3 s,.bool ii])) (some (sl 14)) (.int 3 s)) (some (sl 15)) (.bool ii)) (some (sl 8)) (.int 3 s)) (some (sl 9)) (.bool ii)=a;have T:a.get .agx (sl 0)=.int 3 v:=by rw[<-m];simp[aO,am.aJ,br];exact h0
 have k1:a.get .agx (sl 1)=.int 3 bt:=by rw[<-m];simp[aO,am.aJ,br];exact h1
 have V:a.get .agx (sl 3)=.aD z o2:=by rw[<-m];simp[aO,am.aJ,br];exact h3
 have W:a.get .agx (sl 4)=.aD A o3:=by rw[<-m];simp[aO,am.aJ,br];exact R
 have X:a.get .agx (sl 5)=.aD k no:=by rw[<-m];simp[aO,am.aJ,br];exact S
 have k8:a.get .agx (sl 8)=.int 3 s:=by rw[<-m];simp[aO,am.aJ,br]
 have k9:a.get .agx (sl 9)=.bool ii:=by rw[<-m];simp[aO,am.aJ,br]
 clear m h0 h1 h2 h3 R S p;have cond:∀d:am AV,d.get .agx (sl 22)=.bool (!ii||!jz s bt)->d.get .agx (sl 0)=.int 3 v->d.get .agx (sl 3)=.aD z o2->d.get .agx (sl 4)=.aD A o3->d.get .agx (sl 5)=.aD k no->Xc ac 60 (.cond (tt 22) (.region [bD 23 (.bk (tt 3)),bD 24 (.bk (tt 4)),bD 25 (.dO 1 (tt 23) (tt 24)),bD 26 (.bk (tt 25)),bD 27 (.bw (tt 0)),bD 28 (.call (.c (.func g [] [])) [tt 26,tt 27]),bD 29 (.bw (tt 28)),⟨some (sl 30),.bk (tt 5),some (sl 29,false),[],[]⟩,bD 31 (.pick (tt 29) (.c (.bool true)) (tt 30)),nH (.store 1 (tt 5) (tt 31))]) .skip) ⟨d,[],none⟩ H λj fr H'=>(match j with|.exit _=>False|_=>True)/\fr.bz=[]/\∃l,ee fr.aa H' []=some l/\K (fG l) H':=by
  intro d u m0 m3 m4 J;cases hl:(!ii||!jz s bt)with
  |false=>rw[hl]at u w;refine Xc.nU (n:=59) (by simp[gv];exact u) (Xc.skip (n:=58) ⟨trivial,rfl,[],rfl,w _ H ks c rfl (λ_ _ _=>rfl) hs aC D (λ_ _=>rfl) (by simpa using B) (λ_ _ _ _=>rfl)⟩)
  |true=>
   rw[hl]at u w;refine Xc.rp (n:=59) (by simp[gv];exact u) (Xc.region (n:=58) ?_);refine Xo.op (n:=57) (v:=s2) (H':=H) (j8 (by simp[gv];exact m3) F) ?_;refine Xo.op (n:=56) (v:=.int kb b) (H':=H) (j8 (by simp[gv,aO,am.aJ,br];exact m4) G) ?_;refine Xo.op (n:=55) (v:=.aD is (os+js)) (H':=H) (DL (by simp[gv,aO,am.aJ,br];exact e5) (by simp[gv,aO,am.aJ,br];exact⟨rfl,e6⟩) e7) ?_;refine Xo.op (n:=54) (v:=.map N) (H':=H) (j8 (by simp[gv,aO,am.aJ,br]) c5) ?_;refine Xo.op (n:=53) (v:=.int 3 v) (H':=H) (by simp[aE,gv,aO,am.aJ,br];exact m0) ?_;refine Xo.call (n:=52) ?_;simp only[gv,aO,am.aJ,br,aez,afC];refine Xf.mono (n:=30) ab (λ_ _ h=>h) (QY Z hs λo w1 L w3 w4=>?_);have O:o.get k=.cells c n e true [] fz:=by rw[L _ (Ne.symm t)];exact D
   have P:bx o k no=some (.bool q):=by rw[vL (L k (Ne.symm t))];exact gq
   refine Xo.op (n:=51) (v:=.bool (!fc v ks)) (H':=o) (by simp[aE,gv,aO,am.aJ,br]) ?_;have aA:∀f:am AV,f.get .agx (sl 5)=.aD k no->f.get .agx (sl 31)=.bool (q||!fc v ks)->Xo ac 40 [nH (.store 1 (tt 5) (tt 31))] ⟨f,[],none⟩ o λfr H'=>(match bU.none with|.exit _=>False|_=>True)/\fr.bz=[]/\∃l,ee fr.aa H' []=some l/\K (fG l) H':=by
    intro f p5 s9;refine Xo.op (n:=39) (v:=.agx) (H':=o.set k (.cells (fi c no [.bool (q||!fc v ks)]) n e true [] fz)) ?_ (Xo.nil (n:=38) ?_);·have e1:gv f (tt 5)=.aD k no:=p5;have e2:gv f (tt 31)=.bool (q||!fc v ks):=s9;simp only[aE,e1,e2,AV.cells,aeJ,List.length_nil,QZ O g8 Q];rfl
    refine⟨trivial,rfl,[],rfl,w _ _ (mE v ks) (fi c no [.bool (q||!fc v ks)]) w1 (λj j1 j2=>?_) ?_ (λx=>?_) ?_ (λi hi=>?_) ?_ (λes c he hv=>by rw[ai.aJ,ap t];exact w4 es c he hv)⟩;·rw[ai.aJ,ap j2];exact L j j1
    .rw[ai.aJ,ap t];exact w3
    .rw[Ih];simp[or_comm]
    .rw[ai.aJ,aH rfl]
    .rw[nJ];rw[ap (by simp;omega)]
    rw[nJ];simp
   cases y:fc v ks with|true=>rw[y]at aA;refine Xo.An (n:=50) (v:=.bool q) (H':=o) (by simp[dc,aO,am.aJ,br,y]) (j8 (by simp[gv,aO,am.aJ,br];exact J) P) ?_;refine Xo.op (n:=49) (v:=.bool (q||!true)) (H':=o) (by simp[aE,gv,aO,am.aJ,br,y]) ?_;exact(aA _ (by simp[aO,am.aJ,br];exact J) (by simp[aO,am.aJ,br])).mono ab (λ_ _ h=>h)|false=>rw[y]at aA;refine Xo.Ao (n:=50) (by simp[dc,aO,am.aJ,br,y]) (by simp[iM,aO,am.aJ,br,y,AV.bq]) ?_;refine Xo.op (n:=49) (v:=.bool (q||!false)) (H':=o) (by simp[aE,gv,aO,am.aJ,br,y]) ?_;exact(aA _ (by simp[aO,am.aJ,br];exact J) (by simp[aO,am.aJ,br])).mono ab (λ_ _ h=>h)
 refine Xc.iq (n:=60) (m:=60) (k:=69) ab ab (Xc.region (n:=59) ?_);refine Xo.op (n:=58) (v:=.bool ii) (H':=H) (by simp[aE,gv];exact k9) ?_;refine Xo.op (n:=57) (v:=.bool (!ii)) (H':=H) (by simp[aE,gv,aO,am.aJ,br,ux]) ?_;refine Xo.op (n:=56) (v:=.bool (!ii)) (H':=H) (by simp[aE,gv,aO,am.aJ,br]) ?_;cases ii with|true=>refine Xo.An (n:=55) (v:=.int 3 s) (H':=H) (by simp[dc,aO,am.aJ,br]) (by simp[aE,gv,aO,am.aJ,br];exact k8) ?_;refine Xo.An (n:=54) (v:=.int 3 bt) (H':=H) (by simp[dc,aO,am.aJ,br]) (by simp[aE,gv,aO,am.aJ,br];exact k1) ?_;refine Xo.An (n:=53) (v:=.bool (!jz s bt)) (H':=H) (by simp[dc,aO,am.aJ,br]) (by simp[aE,gv,aO,am.aJ,br,uu,eT]) ?_;refine Xo.op (n:=52) (v:=.bool (!jz s bt)) (H':=H) (by simp[aE,gv,aO,am.aJ,br]) (Xo.nil (n:=51) ?_);exact cond _ (by simp[aO,am.aJ,br]) (by simp[aO,am.aJ,br];exact T) (by simp[aO,am.aJ,br];exact V) (by simp[aO,am.aJ,br];exact W) (by simp[aO,am.aJ,br];exact X)|false=>refine Xo.Ao (n:=55) (by simp[dc,aO,am.aJ,br]) (by simp[iM,aO,am.aJ,br,AV.bq]) ?_;refine Xo.Ao (n:=54) (by simp[dc,aO,am.aJ,br]) (by simp[iM,aO,am.aJ,br,AV.bq]) ?_;refine Xo.Ao (n:=53) (by simp[dc,aO,am.aJ,br]) (by simp[iM,aO,am.aJ,br,AV.bq]) ?_;refine Xo.op (n:=52) (v:=.bool true) (H':=H) (by simp[aE,gv,aO,am.aJ,br]) (Xo.nil (n:=51) ?_);exact cond _ (by simp[aO,am.aJ,br]) (by simp[aO,am.aJ,br];exact T) (by simp[aO,am.aJ,br];exact V) (by simp[aO,am.aJ,br];exact W) (by simp[aO,am.aJ,br];exact X)
end
section
theorem yf(pl:List (Int×Int))(bt x:Int):∀l,x∈dR pl bt l↔x∈l/\dR.mH pl bt x=true
 |[]=>by simp[dR]
 |y::l=>by
  simp only[dR];split
  .rename_i h;rw[aer,yf pl bt x l,aer];constructor
   .rintro(h1|⟨h1,h2⟩);·exact⟨.inl h1,h1▸h⟩
    exact⟨.inr h1,h2⟩
   rintro⟨h1|h1,h2⟩;·exact .inl h1
   exact .inr ⟨h1,h2⟩
  rename_i h;rw[yf pl bt x l,aer];constructor;·rintro⟨h1,h2⟩;exact⟨.inr h1,h2⟩
  rintro⟨h1|h1,h2⟩;·rw[h1]at h2;exact absurd h2 h
  exact⟨h1,h2⟩
theorem DP(t0:List Int):∀l,jR t0 l=true↔∃x∈l,x∉t0
 |[]=>by simp[jR]
 |y::l=>by
  simp only[jR,afm,DP t0 l,afj,aer];have:fc y t0=false↔y∉t0:=by rw[<-pb];simp
  rw[this];constructor
  .rintro(h|⟨x,h1,h2⟩);·exact⟨y,.inl rfl,h⟩
   exact⟨x,.inr h1,h2⟩
  rintro⟨x,h1|h1,h2⟩;·exact .inl (h1▸h2)
  exact .inr ⟨x,h1,h2⟩
section
variable[Ov]
variable{P:Program}
theorem ta{H:ai}{q:af}{a v:AV}(h:jS H q a=some v):∃i o,a=.aD i o/\i≠q/\bx H i o=some v:=by
 unfold jS at h;split at h
 .split at h;·cases h
  rename_i hb;exact⟨_,_,rfl,λe=>hb (by rw[e];exact af.fo.2 rfl),h⟩
 cases h
theorem DQ{H:ai}{q:af}{s v:AV}{x:Int}(h:qk H q s x=some v):∃i o n c e j,s=.slice i o n c e/\x=.ofNat j/\j<n/\i≠q/\bx H i (o+j)=some v:=by
 unfold qk at h;split at h
 .split at h;·cases h
  rename_i hb;obtain⟨i,o,n,c,e,j,h1,h2,h3,a⟩:=Iv h;injection h1 with b d f g k;subst b;subst d;subst f;subst g;subst k;exact⟨_,_,_,_,_,j,rfl,h2,h3,λe=>hb (by rw[e];exact af.fo.2 rfl),a⟩
 cases h
theorem bh.Q0{g:bS}{c:aQ}{H:ai}{w:World}(h:bh P g c H w){i:af}{o':bO}(hi:H.get i≠.none)(j:(H.get i).jE=false)(k:(H.get i).aM=[])(d:o'.aM=[])(l:∀x a,OR P c (H.get i) x a->OR P c o' x a)(m:∀q a,ef P q (H.get i) a->ef P q o' a):bh P g c (H.set i o') w:=by obtain⟨b,x,a,e,hl,hb,f⟩:=h.be hi;have:=(h.nI (w':=w) hi j e d (l x a f) (m _ _ (h.im i b x a hi e hb)) (by rw[C2 hb]) rfl rfl rfl).1;rw[k]at this;exact this
theorem Q1{g k:Type}{f:g->k}{l m:List k}(h:l.Perm m):∀t:List g,m=t.map f->∃d:List g,l=d.map f/\d.Perm t:=by
 induction h with
 |nil=>intro t c;exact⟨[],rfl,by cases t<;>simp_all⟩
 |cons x _ n=>intro t c;cases t with|nil=>simp at c|cons a t=>simp only[aez,ae1]at c;obtain⟨d,e,p⟩:=n t c.2;exact⟨a::d,by rw[aez,<-e,c.1],p.cons a⟩
 |swap x y l=>intro t c;match t,c with|a::b::t,c=>simp only[aez,ae1]at c;exact⟨b::a::t,by rw[aez,aez,c.1,c.2.1,c.2.2],afA ..⟩|[a],c=>simp at c|[],c=>simp at c
 |trans _ _ i j=>intro t c;obtain⟨o,q,p2⟩:=j t c;obtain⟨t1,r,p1⟩:=i o q;exact⟨t1,r,p1.trans p2⟩
theorem IC{da f:Nat}(cf:da≠f)(ht:gC P (l7 da f)){Wr:bS}{ρ:aQ}{H:ai}{w:World}{nt:Nat}{fr:Fr}{b:Frame}{a:Act}{c1 c2:Code}{xh body:bg}{ay a1:Nat}{S X ok et ex kv:af}(h1:dA P nt c1=some xh)(h2:dA P nt c2=some (mD ay a1 S X ok et ex kv body))(cn:ay≠a1)(d1:S≠X)(d2:S≠ok)(d3:X≠ok)(d4:S≠et)(d5:et≠ex)(d6:S≠ex)(d7:S≠kv){bV:List af}(s1:X∈bV)(s2:ok∈bV)(s3:et∈bV)(s4:ex∈bV)(s5:kv∈bV)(hF:fD ρ nt fr b.roundOf a)(hI:bh P Wr ρ H w){bt:Int}{b' ca a3 L:AV}{m pm z N:af}{no n fz kb e:Nat}{pl:List (Int×Int)}{pks ks t0:List Int}{cd:Int}{c:am AV}{G:Bool}(g1:jS H z b'=some (.map pm))(g2:jS H z ca=some L)(g3:jS H z a3=some (.int kb cd))(g4:jl H pm=some pl)(g5:jk H pm=some pks)(g6:qk H z L cd=some (.map N))(g7:H.get z=.cells c n e true [] fz)(g8:fz<=no)(g9:no<n)(a2:c.bN .agx no=.bool G)(hk:jk H m=some ks)(hN:mF H N=some t0)(cp:pm≠N)(cv:m≠pm)(nh fb:Nat)(b3:∀p d,Xc (l7 da f) nh xh fr (H.set m (.map p d)) λj E u=>j=.none/\E.bz=fr.bz/\E.bB=fr.bB/\(∀t,t∉bV->E.aa.get .agx t=fr.aa.get .agx t)/\E.aa.get .agx S=.aD H.next 0/\u=(H.set m (.map p d)).new (.mapIter (some m) d [] d))(ax:∀aa u I(K:bU->Fr->ai->Prop),(∀j,j≠N->j≠m->j≠H.next->j≠z->u.get j=H.get j)->(∀t,t∉bV->aa.get .agx t=fr.aa.get .agx t)->aa.get .agx kv=.int 3 I->Xf (l7 da f) 80 (.func da [] [b',ca,a3,.aD z no]) [.int 3 I,.int 3 bt] u (λ_ H2=>∀D,(∀t,t∉bV->D.get .agx t=aa.get .agx t)->D.get .agx S=aa.get .agx S->K .none ⟨D,fr.bz,fr.bB⟩ H2)->Xc (l7 da f) fb body ⟨aa,fr.bz,fr.bB⟩ u K)(k:List Item)(cs:List Frame):gO P Wr ρ nt w b k cs (lone (b.atR a (.code (.seq c1 c2)::k)) cs w) λj E u=>j=.none/\E={fr with aa:=kY fr.aa bV}/\u=((H.set N (.dt (iZ (iQ (dR pl bt ks) t0)))).set z (.cells (fi c no [.bool (G||jR t0 (dR pl bt ks))]) n e true [] fz)).skip:=by
 obtain⟨es,hm,a6,d0⟩:=x7 hk;have B:=Ir hN;have ag:N≠H.next:=λe=>by have:=(hI.dD H.next (aeq _)).1;obtain⟨_,q,T,_⟩:=B;rw[e,this]at T;simp[dX]at T
 have a8:m≠H.next:=λe=>by have:=(hI.dD H.next (aeq _)).1;rw[<-e]at this;rw[this]at hm;simp[dX]at hm
 have av:z≠H.next:=λe=>by have:=(hI.dD H.next (aeq _)).1;rw[<-e,g7]at this;cases this
 have b4:N≠z:=by rintro rfl;obtain⟨_,_,h,_⟩:=B;rw[g7]at h;simp[dX]at h
 have M:m≠z:=by rintro rfl;rw[g7]at hm;simp[dX]at hm
 obtain⟨d',Y,_⟩:=x7 g5;have cx:pm≠H.next:=λe=>by have:=(hI.dD H.next (aeq _)).1;rw[<-e]at this;rw[this]at Y;simp[dX]at Y
 have b6:pm≠z:=by rintro rfl;rw[g7]at Y;simp[dX]at Y
 have aw:m=N->es.map aV.kv=t0.map sk/\∀x,x∈ks↔x∈t0:=λe=>by
  obtain⟨_,ea,Z,C⟩:=B;rw[<-e,hm]at Z;injection Z with Z;subst Z;obtain⟨b',ca⟩:=vK a6;refine⟨C,λx=>⟨λQ=>?_,λQ=>?_⟩⟩;·obtain⟨e,he,hk⟩:=ca x Q;have:=aeX (f:=aV.kv) he;rw[C]at this;obtain⟨y,hy,a'⟩:=aeK.1 this;simp only[sk,aV.kv,hk,acn,AV.int.injEq]at a';rw[<-a'.1.2];exact hy
  have:=aeX (f:=sk) Q;rw[<-C]at this;obtain⟨e,he,ba⟩:=aeK.1 this;obtain⟨y,hy,cy⟩:=b' e he;simp only[sk,aV.kv,cy,acn,AV.int.injEq]at ba;rw[<-ba.1.2];exact hy
 obtain⟨i1,o1,e1,cR,k1⟩:=ta g1;obtain⟨i2,o2,e2,c9,k2⟩:=ta g2;obtain⟨i3,o3,e3,c',k3⟩:=ta g3;obtain⟨is,os,ns,eb,ec,js,e5,e6,e7,dm,k5⟩:=DQ g6;obtain⟨Ns,dr⟩:=DO hN;have ha:l7 da f da=.code 32 [] (ye f):=by simp[l7]
 have hw:l7 da f f=.code 13 [.tmp (sl 4)] vM:=by
  have:aeF f da=false:=by cases h:aeF f da with|false=>rfl|true=>exact absurd (aey h).symm cf
  simp[l7,this]
 refine QV ht h1 h2 cn d1 d2 d3 d4 d5 d6 d7 s1 s2 s3 s4 s5 hF hI hm a6 nh fb b3 (J:=λp d l u=>u.next=H.next.succ/\(∀j,j≠N->j≠m->j≠H.next->j≠z->u.get j=H.get j)/\u.get m=.map p d/\(∀x∈l,x∈ks)/\∃g R q,jG (u.get N) g/\(∀x,x∈g↔x∈t0\/(x∈l/\dR.mH pl bt x=true))/\u.get z=.cells R n e true [] fz/\(∀i,i≠no->R.bN .agx i=c.bN .agx i)/\R.bN .agx no=.bool q/\(q=true↔G=true\/∃x∈g,x∉t0)) ?_ ?_ ?_ ?_ ?_ k cs
 .intro p d ds;have bb:((H.set m (.map p d)).new (.mapIter (some m) d [] d)).get z=.cells c n e true [] fz:=by rw[ai.cZ,ai.eI,ap av,ai.aJ,ap (Ne.symm M)];exact g7
  have bd:((H.set m (.map p d)).new (.mapIter (some m) d [] d)).get m=.map p d:=by rw[ai.cZ,ai.eI,ap a8,ai.aJ,aH rfl]
  refine⟨rfl,λj j1 j2 j3 _=>?_,bd,λx Q=>(by cases Q),?_⟩;·rw[ai.cZ,ai.eI,ap j3,ai.aJ,ap j2]
  by_cases s:m=N
  .obtain⟨C,_⟩:=aw s;obtain⟨g,x1,x2⟩:=Q1 ds t0 C;refine⟨g,c,G,?_,λx=>by simp[x2.mem_iff],bb,λ_ _=>rfl,a2,?_⟩;·rw[<-s,bd];exact⟨x2.nodup_iff.2 B.1,p,rfl,x1⟩
   constructor;·exact .inl
   rintro(h|⟨x,h,A⟩);·exact h
   exact absurd (x2.mem_iff.1 h) A
  refine⟨t0,c,G,?_,aC,bb,λ_ _=>rfl,a2,aC⟩;rw[ai.cZ,ai.eI,ap ag,ai.aJ,ap (Ne.symm s)];exact B
 .rintro p d l u o⟨T,V,W,q0,g,R,q,q4,q5,q6,q7⟩;refine⟨T,λj j1 j2 j3 j4=>?_,?_,q0,g,R,q,?_,q5,?_,q7⟩;·rw[ai.aJ,ap j3];exact V j j1 j2 j3 j4
  .rw[ai.aJ,ap a8];exact W
  .rw[ai.aJ,ap ag];exact q4
  rw[ai.aJ,ap av];exact q6
 .rintro p d l u⟨T,V,W,_⟩;exact W
 .rintro p d l aa u I bv⟨T,V,W,q0,g,R,q,q4,q5,q6,q7,q8,q9⟩he C;refine ax aa u I _ V he C ?_;have cc:∀{i o v},bx H i o=some v->i≠z->bx u i o=some v:=λh hq=>by rw[vL (V _ (pc h dr) (pc h hm) (DN hI h) hq)];exact h
  have hp:u.get pm=H.get pm:=V pm cp (Ne.symm cv) cx b6;refine IB ha hw (pm:=pm) (s2:=L) (N:=N) (pl:=pl) (pks:=pks) (ks:=g) (c:=R) (q:=q) (e:=e) (n:=n) (fz:=fz) (kb:=kb) (b:=cd) ?_ ?_ ?_ ?_ ?_ ?_ q6 g8 g9 q8 q4 ?_;·rw[e1];exact cc k1 cR
  .rw[e2];exact cc k2 c9
  .rw[e3];exact cc k3 c'
  .unfold jl;rw[hp];exact g4
  .unfold jk;rw[hp];exact g5
  .rw[e5,e6];simp only[pa,agu afs e7,bc];exact cc k5 dm
  intro r H2 dv dx r1 r2 r3 r4 r5 r6 r7 r8 D w1 w2;refine⟨rfl,rfl,rfl,λt ht=>(w1 t ht).trans (he t ht),w2,r2 _ (Ne.symm ag) (Ne.symm av),r1.trans T,λj j1 j2 j3 j4=>(r2 j j1 j4).trans (V j j1 j2 j3 j4),?_,λx Q=>?_,dv,dx,_,r3,λx=>?_,r5,λi hi=>(r6 i hi).trans (q7 i hi),r7,?_⟩
  .by_cases s:m=N;·have:=r8 p d (by rw[<-s];exact W) ((q5 I).2 (.inl (((aw s).2 I).1 bv)));rw[<-s]at this;rw[this];exact W
   exact(r2 m s M).trans W
  .rcases aeu.1 Q with h|h;·exact q0 x h
   rw[aaN]at h;rw[h];exact bv
  .rw[r4,q5];simp only[aeu,aaN];constructor
   .rintro((h|⟨h,A⟩)|⟨h,A⟩);·exact .inl h
    .exact .inr ⟨.inl h,A⟩
    subst h;exact .inr ⟨.inr rfl,A⟩
   rintro(h|⟨h|h,A⟩);·exact .inl (.inl h)
   .exact .inl (.inr ⟨h,A⟩)
   subst h;exact .inr ⟨rfl,A⟩
  rw[afm,aew,q9,afj];have hh:fc I g=false↔I∉g:=by rw[<-pb];simp
  rw[hh];constructor
  .rintro((h|⟨x,h,A⟩)|⟨h,A⟩);·exact .inl h
   .exact .inr ⟨x,(r4 x).2 (.inl h),A⟩
   exact .inr ⟨I,(r4 I).2 (.inr ⟨rfl,h⟩),λht=>A ((q5 I).2 (.inl ht))⟩
  rintro(h|⟨x,h,A⟩);·exact .inl (.inl h)
  rcases(r4 x).1 h with h|⟨h,h2⟩;·exact .inl (.inr ⟨x,h,A⟩)
  subst h;by_cases Q:x∈g;·exact .inl (.inr ⟨x,Q,A⟩)
  exact .inr ⟨h2,Q⟩
 rintro p d l u b0 w' hl⟨T,V,W,_,g,R,q,q4,q5,q6,q7,q8,q9⟩dy dz eP;refine⟨b0,dy,?_⟩;have i1:=eP dz W;have O:∀x,x∈g↔x∈iQ (dR pl bt ks) t0:=λx=>by rw[q5,rq,yf,hl,or_comm]
 have hp:g.Perm (iQ (dR pl bt ks) t0):=(List.perm_ext_iff_of_nodup q4.1 (Aj _ B.1)).2 O;have i2:bh P Wr b0 ((u.set m (H.get m)).set N (.dt (iZ (iQ (dR pl bt ks) t0)))) w':=by
  by_cases s:m=N;·refine i1.It (N:=N) (ks:=t0) (by rw[<-s,ai.aJ,aH rfl,s];exact B) ((List.perm_ext_iff_of_nodup B.1 (Aj _ B.1)).2 λx=>?_);rw[rq,yf];exact⟨.inr,λh=>h.elim (λh=>((aw s).2 x).1 h.1) id⟩
  exact i1.It (N:=N) (ks:=g) (by rw[ai.aJ,ap (Ne.symm s)];exact q4) hp
 have hq:q=(G||jR t0 (dR pl bt ks)):=by
  have:q=true↔(G||jR t0 (dR pl bt ks))=true:=by
   rw[q9,afm,DP];constructor
   .rintro(h|⟨x,h,A⟩);·exact .inl h
    have:=(O x).1 h;rw[rq]at this;exact .inr ⟨x,this.resolve_right A,A⟩
   rintro(h|⟨x,h,A⟩);·exact .inl h
   exact .inr ⟨x,(O x).2 ((rq x _ _).2 (.inl h)),A⟩
  cases q<;>cases h:(G||jR t0 (dR pl bt ks))<;>simp_all
 have J:((u.set m (H.get m)).set N (.dt (iZ (iQ (dR pl bt ks) t0)))).get z=.cells R n e true [] fz:=by rw[ai.aJ,ap (Ne.symm b4),ai.aJ,ap (Ne.symm M)];exact q6
 have i3:=i2.Q0 (i:=z) (o':=.cells (fi c no [.bool (G||jR t0 (dR pl bt ks))]) n e true [] fz) (by rw[J];simp) (by rw[J];rfl) (by rw[J];rfl) rfl (by
  intro x ob F;rw[J]at F;have b7:∀i,(fi c no [.bool (G||jR t0 (dR pl bt ks))]).bN .agx i=R.bN .agx i:=by
   intro i;rw[nJ];by_cases hi:i=no;·subst hi;rw[aH aC];rw[q8,hq];simp
   rw[ap (by simp;omega),q7 i hi]
  cases ob<;>simp only[OR]at F⊢;refine⟨F.1,F.2.1,λi hi=>?_,F.2.2.2⟩;rw[b7];exact F.2.2.1 i hi) (by intro q ob hq;rw[J]at hq;cases ob<;>simp only[ef]at hq⊢;exact hq);refine i3.sub (H2:=((H.set N (.dt (iZ (iQ (dR pl bt ks) t0)))).set z (.cells (fi c no [.bool (G||jR t0 (dR pl bt ks))]) n e true [] fz)).skip) (by show H.next.succ=u.next;exact T.symm) λj=>?_;show((H.set N _).set z _).get j=_\/((H.set N _).set z _).get j=_;simp only[ai.aJ];by_cases e0:j=z;·left;simp[e0]
 by_cases e1:j=N;·left;simp[e0,e1]
 by_cases e2:j=m;·left;simp[e0,e1,e2]
 by_cases e3:j=H.next;·right;simp only[ap e1,ap e0];rw[e3];exact(hI.dD _ (aeq _)).1
 left;simp only[ap e0,ap e1,ap e2];exact(V j e1 e2 e3 e0).symm
end
end
theorem ID:xX=[sl 16,sl 53,sl 54,sl 55,sl 56,sl 57,sl 58,sl 59,sl 60,sl 61,sl 62,sl 63,sl 64,sl 65,sl 66,sl 67]:=bK
theorem IE:xY=[sl 19,sl 76,sl 77,sl 78,sl 79,sl 80,sl 81,sl 82,sl 83,sl 84,sl 85,sl 86,sl 87]:=bK
theorem IF{i j:af}(h:af.beq i j=false):i≠j:=λe=>by rw[af.fo.2 e]at h;cases h
theorem IG{da:Nat}{l:af->Option Int}{to:Nat}{bV:List af}{aa d:am AV}{H y:ai}(h:vJ da l to bV aa H=some (d,y)):∃f o p a3 b no q u t i g a v r bt m N c n e fz k j pl t0 s,f=da/\mG H (aa.get .agx (sl 11))=some (.func f [] [o,p,a3,.aD b no])/\jS H b (aa.get .agx (sl 5))=some q/\aa.get .agx (sl to)=.int u t/\jS H b (aa.get .agx (sl 11))=some i/\jS H b o=some (.map g)/\jS H b p=some a/\jS H b a3=some (.int v r)/\l b=some bt/\qk H b q t=some (.map m)/\qk H b a r=some (.map N)/\H.get b=.cells c n e true [] fz/\g≠N/\m≠g/\fz<=no/\no<n/\jk H m=some k/\jk H g=some j/\jl H g=some pl/\mF H N=some t0/\c.bN .agx no=.bool s/\d=kY aa bV/\y=((H.set N (.dt (iZ (iQ (dR pl bt k) t0)))).set b (.cells (fi c no [.bool (s||jR t0 (dR pl bt k))]) n e true [] fz)).skip:=by
 unfold vJ at h;split at h;case h_2=>cases h
 rename_i f o p a3 b no z;split at h;case isFalse=>cases h
 rename_i A;split at h;case h_2=>cases h
 rename_i q u t i g a v r bt B C D E F G I;split at h;case h_2=>cases h
 rename_i m N c n e fz J w x;split at h;case isTrue=>cases h
 rename_i hb;simp only[afm,afj,Bool.and_eq_false_iff,not_or,Bool.not_eq_true,Bool.not_eq_false]at hb;obtain⟨⟨b2,K⟩,L,b5⟩:=hb;split at h;case h_2=>cases h
 rename_i k j pl t0 s M O P Q R;injection h with h;injection h with h1 h2;exact⟨f,o,p,a3,b,no,q,u,t,i,g,a,v,r,bt,m,N,c,n,e,fz,k,j,pl,t0,s,aey A,z,B,C,D,E,F,G,I,J,w,x,IF b2,IF K,aeG L,Eq.mp afs b5,M,O,P,Q,R,h1.symm,h2.symm⟩
theorem Q2{P:Program}{da r:Nat}(R:da≠r)(z:gC P (l7 da r)):zW P 1004 (xZ da):=by
 intro Wr ρ H H' w nt fr c1 c2 x y a6 b a S T C hg hF hI k cs;have C:bg.seq Ij Ik=bg.seq x y:=C;injection C with F hy;subst F;subst hy;unfold xZ at hg;obtain⟨f,a',ba,a3,Q,no,s5,kt,t,bb,pm,a8,kb,b',bt,m,N,c,n,e,fz,ks,bd,pl,t0,nw,hf,v1,v2,v3,v4,v5,v6,v7,l,v9,V,W,n2,n3,n4,n5,w1,w2,w3,w4,w5,rfl,rfl⟩:=IG hg;subst hf;obtain⟨X,Y,J,Z⟩:=x9 v1;obtain⟨i5,o5,e5,bv,c5⟩:=ta v2;obtain⟨b0,fJ,u,L,_⟩:=ta v4;rw[J]at u;injection u with q1 q2;subst q1;subst q2;obtain⟨is,os,ns,b3,b4,js,e6,e7,e8,b6,c6⟩:=DQ v9;obtain⟨ms,D⟩:=Iw w1;obtain⟨Ns,ag⟩:=DO w4;have av:fr=⟨fr.aa,fr.bz,fr.bB⟩:=rfl;have hat:∃s A,fr.aa.get .agx (sl 7)=.aD s A/\s≠Q/\∃G,bx H s (A+1)=some G/\∀(x:aK)(g:am AV)(I:ai),gv g x=G->aE (.kn x) g I=some (.int 3 bt,I):=by
  split at l;case h_2=>cases l
  rename_i s A aw;split at l;·cases l
  rename_i hb;refine⟨s,A,aw,λe=>hb (by rw[e];exact af.fo.2 rfl),?_⟩;split at l;·rename_i G E;injection l with l;subst l;exact⟨_,E,λx g I F=>by simp[aE,F]⟩
  .rename_i E;injection l with l;subst l;exact⟨_,E,λx g I F=>by simp[aE,F]⟩
  cases l
 obtain⟨s,A,ax,ay,G,c7,M⟩:=hat;refine(IC R z S T (bV:=xX) bK bK bK bK bK bK bK bK bK bK bK bK bK hF hI (bt:=bt) v5 v6 v7 w3 w2 V W n4 n5 w5 w1 w4 n2 n3 20 120 ?_ ?_ k cs).mono ?_
 .intro p d;rw[av];refine Xc.region (n:=19) ?_;refine Xo.op (n:=18) (v:=s5) (H':=H.set m (.map p d)) (j8 e5 (by rw[Am (pc c5 D)];exact c5)) ?_;refine Xo.op (n:=17) (v:=.int kt t) (H':=H.set m (.map p d)) (by simp[aE,gv,aO,am.aJ,br];exact v3) ?_;refine Xo.op (n:=16) (v:=.aD is (os+js)) (H':=H.set m (.map p d)) (DL (by simp[gv,aO,am.aJ,br];exact e6) (by simp[gv,aO,am.aJ,br];exact⟨rfl,e7⟩) e8) ?_;refine Xo.op (n:=15) (v:=.map m) (H':=H.set m (.map p d)) (j8 (by simp[gv,aO,am.aJ,br];exact⟨rfl,rfl⟩) (by rw[Am (pc c6 D)];exact c6)) ?_;refine Xo.op (n:=14) (v:=.aD H.next 0) (H':=(H.set m (.map p d)).new (.mapIter (some m) d [] d)) (by simp[aE,gv,aO,am.aJ,br,ai.aJ];rfl) (Xo.nil (n:=13) ?_);refine⟨rfl,rfl,rfl,?_,?_,rfl⟩;·intro t z;simp only[ID,aer,aeS,or_false,not_or]at z;simp[aO,am.aJ,z]
  simp[aO,am.aJ,br]
 .intro aa B kk K O he a1 q;have cc:∀{i o v},bx H i o=some v->i≠Q->bx B i o=some v:=λh hq=>by rw[vL (O _ (pc h ag) (pc h D) (DN hI h) hq)];exact h
  have a2:aa.get .agx (sl 11)=.aD X Y:=by rw[he _ bK];exact J
  refine Xc.region (n:=119) ?_;have h7:aa.get .agx (sl 7)=.aD s A:=by rw[he _ bK];exact ax
  refine Xo.op (n:=118) (v:=.func f [] [a',ba,a3,.aD Q no]) (H':=B) (j8 (by simp[gv];exact a2) (cc Z L)) ?_;refine Xo.op (n:=117) (v:=.int 3 kk) (H':=B) (by simp[aE,gv,aO,am.aJ,br];exact a1) ?_;refine Xo.op (n:=116) (v:=.aD s (A+1)) (H':=B) (by simp[aE,gv,aO,am.aJ,br];rw[h7]) ?_;refine Xo.op (n:=115) (v:=G) (H':=B) (j8 (by simp[gv,aO,am.aJ,br]) (cc c7 ay)) ?_;refine Xo.op (n:=114) (v:=.int 3 bt) (H':=B) (M _ _ _ (by simp[gv,aO,am.aJ,br])) ?_;refine Xo.call (n:=113) ?_;simp only[gv,aO,am.aJ,br,aez,afC];refine Xf.mono (n:=80) ab ?_ q;intro v I q;refine Xo.mono (n:=101) ab (λ_ _ h=>h) ?_;refine Xo.nil (n:=100) (q _ ?_ ?_);·intro t z;simp only[ID,aer,aeS,or_false,not_or]at z;simp[aO,am.aJ,z]
  simp[aO,am.aJ,br]
 rintro j b7 B⟨rfl,rfl,rfl⟩;exact⟨rfl,rfl,rfl⟩
theorem Q3{P:Program}{da p:Nat}(D:da≠p)(r:gC P (l7 da p)):zW P 1005 (x6 da):=by
 intro Wr ρ H H' w nt fr c1 c2 x y Z b a E F s hg hF T k cs;have s:bg.seq Il Im=bg.seq x y:=s;injection s with hx hy;subst hx;subst hy;unfold x6 at hg;obtain⟨f,a1,a2,a3,V,no,s5,kt,t,av,pm,ag,kb,bb,bt,m,N,c,n,e,fz,ks,aw,pl,t0,nw,hf,v1,v2,v3,v4,v5,v6,v7,W,v9,G,I,n2,n3,n4,n5,X,w2,w3,Y,w5,rfl,rfl⟩:=IG hg;subst hf;obtain⟨J,L,z,M⟩:=x9 v1;obtain⟨i5,o5,e5,ax,c5⟩:=ta v2;obtain⟨ay,fJ,q,A,_⟩:=ta v4;rw[z]at q;injection q with q1 q2;subst q1;subst q2;obtain⟨is,os,ns,a6,a8,js,e6,e7,e8,a',c6⟩:=DQ v9;obtain⟨ms,u⟩:=Iw X;obtain⟨Ns,O⟩:=DO Y;have Q:fr=⟨fr.aa,fr.bz,fr.bB⟩:=rfl;simp only[aas]at W;subst W;refine(IC D r E F (bV:=xY) bK bK bK bK bK bK bK bK bK bK bK bK bK hF T (bt:=.ofNat 0) v5 v6 v7 w3 w2 G I n4 n5 w5 X Y n2 n3 20 120 ?_ ?_ k cs).mono ?_
 .intro g d;rw[Q];refine Xc.region (n:=19) ?_;refine Xo.op (n:=18) (v:=s5) (H':=H.set m (.map g d)) (j8 e5 (by rw[Am (pc c5 u)];exact c5)) ?_;refine Xo.op (n:=17) (v:=.int kt t) (H':=H.set m (.map g d)) (by simp[aE,gv,aO,am.aJ,br];exact v3) ?_;refine Xo.op (n:=16) (v:=.aD is (os+js)) (H':=H.set m (.map g d)) (DL (by simp[gv,aO,am.aJ,br];exact e6) (by simp[gv,aO,am.aJ,br];exact⟨rfl,e7⟩) e8) ?_;refine Xo.op (n:=15) (v:=.map m) (H':=H.set m (.map g d)) (j8 (by simp[gv,aO,am.aJ,br];exact⟨rfl,rfl⟩) (by rw[Am (pc c6 u)];exact c6)) ?_;refine Xo.op (n:=14) (v:=.aD H.next 0) (H':=(H.set m (.map g d)).new (.mapIter (some m) d [] d)) (by simp[aE,gv,aO,am.aJ,br,ai.aJ];rfl) (Xo.nil (n:=13) ?_);refine⟨rfl,rfl,rfl,?_,?_,rfl⟩;·intro t r;simp only[IE,aer,aeS,or_false,not_or]at r;simp[aO,am.aJ,r]
  simp[aO,am.aJ,br]
 .intro aa C kk K B he R l;have cc:∀{i o v},bx H i o=some v->i≠V->bx C i o=some v:=λh hq=>by rw[vL (B _ (pc h O) (pc h u) (DN T h) hq)];exact h
  have S:aa.get .agx (sl 11)=.aD J L:=by rw[he _ bK];exact z
  refine Xc.region (n:=119) ?_;refine Xo.op (n:=118) (v:=.func f [] [a1,a2,a3,.aD V no]) (H':=C) (j8 (by simp[gv];exact S) (cc M A)) ?_;refine Xo.op (n:=117) (v:=.int 3 kk) (H':=C) (by simp[aE,gv,aO,am.aJ,br];exact R) ?_;refine Xo.call (n:=116) ?_;simp only[gv,aO,am.aJ,br,aez,afC];refine Xf.mono (n:=80) ab ?_ l;intro v H2 l;refine Xo.mono (n:=101) ab (λ_ _ h=>h) ?_;refine Xo.nil (n:=100) (l _ ?_ ?_);·intro t r;simp only[IE,aer,aeS,or_false,not_or]at r;simp[aO,am.aJ,r]
  simp[aO,am.aJ,br]
 rintro j ba C⟨rfl,rfl,rfl⟩;exact⟨rfl,rfl,rfl⟩
end Go.ak
end
