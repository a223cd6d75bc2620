/- A part. No conditions. -/
import Derived.Test.YtjapbgcbkolgmaaGreatDoorA03
import Derived.Test.YtjapbgcbkolgmaaGreatDoorA01
set_option linter.all false
open List renaming range->agA
open Nat renaming beq->afw,blt->afR,ble->ago
open Array renaming replicate->aha
open List.Perm renaming swap->agm
open Eq renaming mpr->ahm
open Prod renaming fst->aho
noncomputable section
namespace Go.al
section
variable[Ov]
section
variable{P:Program}{nt:Nat}{az:Array Oper}{l:List bA}{aA:List Nat}{T:Option jf}
theorem lR(aa:ak AV)(d:Option af)(v:AV)(t:af):(aK aa d v).get .ahp t=if d=some t then v else aa.get .ahp t:=by
 cases d with
 |none=>simp[aK]
 |some d=>
  simp only[aK,ak.aC];by_cases a:t=d;·subst a;simp
  rw[ap a,ap (λb=>a (by injection b with b;exact b.symm))]
theorem Ga{aa a:ak AV}{x:bA}(c:∀t∈x.ib,aa.get .ahp t=a.get .ahp t):dc aa x.guard=dc a x.guard:=by cases hg:x.guard with|none=>rfl|some d=>obtain⟨p,b⟩:=d;have:=c p (by simp[bA.ib,hg]);simp only[dc,this]
theorem Kw{aa a:ak AV}{x:bA}(c:∀t∈x.ib,aa.get .ahp t=a.get .ahp t):iT aa x.guard=iT a x.guard:=by cases hg:x.guard with|none=>rfl|some d=>obtain⟨p,b⟩:=d;have:=c p (by simp[bA.ib,hg]);simp only[iT,this]
theorem vG{x:bA}{t:af}(a:t∈x.op.bO):t∈x.ib:=by simp[bA.ib,a]
structure BT(l:List bA)(cB:Array Nat)(aA:List Nat)(T:jf):Prop where
 i0:T.i0∈aA
 qv:∃x,l[T.i0]?=some x/\x.op=.jo/\x.guard=none/\x.dst=some T.t0
 nd:T.us.Nodup
 da:∀u∈T.us,u.u∉aA
 op:∀u∈T.us,∃x,l[u.u]?=some x/\x.dst=none/\x.guard=none/\x.op=.iP u.d (.t T.t0) (.c u.k) u.v/\lH u.d=true
 cB:∀u∈T.us,∀k∈aA,∀t,dJ l k t->t∈T.t0::u.v.bO->ev cB u.u k
 key:∀u∈T.us,∀w∈T.us,w.u=u.u\/cQ 64 u.d u.k w.k=some false
def Gb(T:Option jf)(i:Nat):Prop:=∃t,T=some t/\∃a∈t.us,a.u=i
structure gV(P:Program)(nt:Nat)(az:Array Oper)(l:List bA)(aA:List Nat)(T:Option jf):Prop where
 hl:az.toList.mapM (nT P nt az)=some l
 he:uZ az=true
 eJ:∀i,i<az.size->i∈aA\/Gb T i
 dF:sV l (Region.before az) aA=true
 hT:∀t,T=some t->BT l (Region.before az) aA t
theorem Kx{d c:Type}{o:d->Option c}:∀{as_:List d}{bs:List c},as_.mapM o=some bs->∀(i:Nat)(b:c),bs[i]?=some b->∃a,as_[i]?=some a/\o a=some b|[],bs,m,i,b,hb=>by simp only[List.mapM_nil,aeO,aaM]at m;subst m;simp at hb|a::as_,bs,m,i,b,hb=>by simp only[ag5,acC,aaU,aeO,aaM]at m;obtain⟨k,h0,j,h1,rfl⟩:=m;cases i with|zero=>simp only[agO,aaM]at hb;subst hb;exact⟨a,aF,h0⟩|succ i=>simp only[af9]at hb;simpa using Kx h1 i b hb
theorem gV.op(b:gV P nt az l aA T){i:Nat}{x:bA}(a:l[i]?=some x):∃o,az[i]?=some o/\nT P nt az o=some x:=by obtain⟨o,h1,h2⟩:=Kx b.hl i x a;exact⟨o,by rw[<-aga];exact h1,h2⟩
theorem gV.RD(a:gV P nt az l aA T){i:Nat}(hi:i∈aA):¬Gb T i:=λ⟨t,b,u,hu,c⟩=>(a.hT t b).da u hu (c▸hi)
def Gc(l:List bA)(cB:Array Nat)(c:Option Nat)(seen:List Nat)(e aa:ak AV)(H:ah)(i:Nat):Prop:=
 ∃(x:bA)(b b8:List Nat)(ex:ak AV),l[i]?=some x/\seen=b++i::b8/\
  (∀t,(∃k∈b8,dJ l k t)->ex.get .ahp t=aa.get .ahp t)/\(∀t,(∀k∈b8,¬dJ l k t)->ex.get .ahp t=e.get .ahp t)/\
  ((dc ex x.guard=false/\iT ex x.guard=true/\∀d,x.dst=some d->aa.get .ahp d=.ahp)\/
   (dc ex x.guard=true/\∃v,(∀d,x.dst=some d->aa.get .ahp d=v)/\
    ((x.op.jK=false/\∀a:ah,aD x.op ex a=some (v,a))\/
    (x.op.ia=true/\(∀j,x.op.target ex=some j->H.get j≠.none/\∀k∈seen,Mk l aa k j->ev cB i k/\c≠some k)/\∀a:ah,(∀j,x.op.target ex=some j->a.get j=H.get j)->aD x.op ex a=some (v,a))\/
    (x.op.jK=true/\∃(nv:jM)(cI:bL)(j:af),cI.kp/\v=nv.of j/\H.get j=cI/\∀a:ah,aD x.op ex a=some (nv.of a.next,a.new cI)))))
def jq(aa:ak AV)(dn:List Lt):List aT:=dn.map λu=>⟨u.k,gv aa u.v,0⟩
structure fD(l:List bA)(T:Option jf)(L:Array Bool)(aa:ak AV)(seen:List Nat)(dn:List Lt)(H G:ah):Prop where
 next:G.next=H.next
 nd:dn.Nodup
 none:T=none->dn=[]
 mem:∀t,T=some t->∀u,u∈dn↔u∈t.us/\In L u.u
 rr:(∀t,T=some t->t.i0∉seen)->∀j,G.get j=H.get j
 ru:∀t,T=some t->t.i0∈seen->∃id,aa.get .ahp t.t0=.map id/\H.get id=.map [] 0/\(dn≠ []/\G.get id=.co (jq aa dn)\/dn=[]/\G.get id=.map [] 0)/\∀j,j≠id->G.get j=H.get j
structure Dr(P:Program)(Wr:bS)(nt:Nat)(az:Array Oper)(l:List bA)(aA:List Nat)(T:Option jf)(ac:Nat->aX)(K:Fr->ah->Prop)(br:List af)(bw:Option af)(env0:ak AV)
  (L:Array Bool)(seen rest:List Nat)(n:Nat)(aa:ak AV)(H:ah)(epi:ak AV)(pn:List af)(ρ:aO)(w:World)(tmps:Array Value):Prop where
 dP:seen.reverse++rest=aA
 size:L.size=az.size
 sub:∀i,In L i->i∈seen\/Gb T i
 jr:∀i,In L i->∀j,iU az i j->In L j
 BU:∀i∈seen,Ch l i->In L i
 run:Go.al.az False cA ac n (md l (Region.before az) (kI T) seen rest++oW T) ⟨aa,br,bw⟩ H K
 pf:∀t,(∀i∈seen,¬dJ l i t)->aa.get .ahp t=env0.get .ahp t
 pg:∀t,(∀i∈seen,¬In L i->¬dJ l i t)->epi.get .ahp t=aa.get .ahp t
 vH:∀t i,i∈seen->¬In L i->dJ l i t->epi.get .ahp t=env0.get .ahp t
 lS:∀j,j∈pn↔∃i∈seen,¬In L i/\Mk l aa i j
 ib:∀i i' j,i∈seen->i'∈seen->Mk l aa i j->Mk l aa i' j->i=i'
 mR:∀i j,i∈seen->Mk l aa i j->j.am<H.next.am/\(j∈pn\/ρ j≠none)
 kp:∀i j,i∈seen->Mk l aa i j->(∀c∈seen,Ch l c->¬ev (Region.before az) c i)->(H.get j).kp
 bP:∀i∈seen,¬In L i->Gc l (Region.before az) (kI T) seen env0 aa H i
 di:∀j∈pn,ρ j=none/\¬Wr.un j/\∀k,j∉(H.get k).aM
 E:gj ρ nt epi tmps
 jp:∃dn G,fD l T L aa seen dn H G/\bj P Wr ρ (G.dN pn) w
section
variable{g:bS}{ac:Nat->aX}{K:Fr->ah->Prop}{br:List af}{bw:Option af}{e:ak AV}{L:Array Bool}{seen rest:List Nat}{n:Nat}{aa:ak AV}{H:ah}{f:ak AV}{h:List af}{ρ:aO}{w:World}{tmps:Array Value}
theorem zK(a:gV P nt az l aA T)(b:seen.reverse++rest=aA):seen.Pairwise (λj i=>pW l (Region.before az) i j=true)/\(∀i∈seen,∀j∈rest,pW l (Region.before az) i j=true):=by have:=(zJ a.dF).1;rw[<-b,List.pairwise_append]at this;exact⟨List.pairwise_reverse.1 this.1,λi hi j hj=>this.2.2 i (ag3.2 hi) j hj⟩
theorem ln(a:seen.reverse++rest=aA){i:Nat}(hi:i∈seen):i∈aA:=by rw[<-a];simp[hi]
theorem mg(a:seen.reverse++rest=aA){i:Nat}(hi:i∈rest):i∈aA:=by rw[<-a];simp[hi]
theorem rA(a:gV P nt az l aA T){i:Nat}(hi:i∈aA):∃x,l[i]?=some x/\pX x=true:=(zJ a.dF).2 i hi
theorem vI(a:gV P nt az l aA T)(b:seen.reverse++rest=aA){i:Nat}(hi:i∈rest):i∉seen:=by intro hs;obtain⟨x,c,_⟩:=rA a (mg b hi);exact(og ((zK a b).2 i hs i hi) c c).1 rfl
theorem Ky(c:gV P nt az l aA T)(d:seen.reverse++rest=aA){a b8:List Nat}{i:Nat}(hs:seen=a++i::b8):(∀k∈b8,pW l (Region.before az) k i=true)/\(∀k∈a,pW l (Region.before az) i k=true):=by have:=(zK c d).1;rw[hs,List.pairwise_append,agY]at this;exact⟨λk b=>this.2.1.1 k b,λk b=>this.2.2 k b i (abL ..)⟩
theorem Dr.BJ(J:gV P nt az l aA T)(d:Dr P g nt az l aA T ac K br bw e L seen rest n aa H f h ρ w tmps){i:Nat}(hi:¬In L i)(hd:∀j,iU az i j->In L j){x:bA}{D b8:List Nat}{ex:ak AV}(I:l[i]?=some x)(hs:seen=D++i::b8)(h1:∀t,(∃k∈b8,dJ l k t)->ex.get .ahp t=aa.get .ahp t)(h2:∀t,(∀k∈b8,¬dJ l k t)->ex.get .ahp t=e.get .ahp t):∀t∈x.ib,f.get .ahp t=ex.get .ahp t:=by
 intro t M;have E:=n9 d.jr i hd;obtain⟨q,A⟩:=Ky J d.dP hs;have inj:∀{a b:Nat},a∈seen->b∈seen->dJ l a t->dJ l b t->a=b:=λO hb=>dJ.inj J.dF (ln d.dP O) (ln d.dP hb);have dB:i∈seen:=by rw[hs];simp
 by_cases B:∃k∈seen,dJ l k t
 .obtain⟨k,o,s⟩:=B;have C:=o;rw[hs,ae8,acn]at C;obtain⟨y,p,r⟩:=s;rcases C with F|rfl|F;·have G:=((og (A k F) I p).2.2.2.1 t r M).1;have u:¬In L k:=λv=>hi (n9 d.jr k (d.jr k v) i G);rw[d.vH t k o u ⟨y,p,r⟩];refine(h2 t λN m c=>?_).symm;have:=inj o (by rw[hs];simp[m]) ⟨y,p,r⟩ c;subst this;exact(og (q k m) p I).2.1 G
  .rw[d.vH t k o hi ⟨y,p,r⟩];refine(h2 t λN m c=>?_).symm;have:=inj o (by rw[hs];simp[m]) ⟨y,p,r⟩ c;subst this;exact(og (q k m) p p).1 rfl
  have G:=((og (q k F) p I).2.2.1 t r).2 M;have v:=E k G;rw[h1 t ⟨k,F,y,p,r⟩];refine d.pg t λN m u c=>?_;have:=inj o m ⟨y,p,r⟩ c;subst this;exact u v
 have z:∀k∈seen,¬dJ l k t:=λk o s=>B ⟨k,o,s⟩;rw[d.pg t λk o _=>z k o,d.pf t z];exact(h2 t λk o=>z k (by rw[hs];simp[o])).symm
theorem Dr.RE(c:gV P nt az l aA T)(d:Dr P g nt az l aA T ac K br bw e L seen rest n aa H f h ρ w tmps){i:Nat}(m:i∈rest)(hd:∀j,iU az i j->In L j){x:bA}(o:l[i]?=some x):∀t∈x.ib,f.get .ahp t=aa.get .ahp t:=by intro t p;refine d.pg t λk q a b=>?_;obtain⟨y,r,s⟩:=b;exact a (n9 d.jr i hd k (((og ((zK c d.dP).2 k q i m) r o).2.2.1 t s).2 p))
end
theorem Dr.vJ(a:gV P nt az l aA T){g:bS}{ac:Nat->aX}{K:Fr->ah->Prop}{br:List af}{bw:Option af}{e:ak AV}{L:Array Bool}{seen rest:List Nat}{n:Nat}{aa:ak AV}{H:ah}{f:ak AV}{h:List af}{ρ:aO}{w:World}{tmps:Array Value}(d:Dr P g nt az l aA T ac K br bw e L seen rest n aa H f h ρ w tmps){i:Nat}(hi:i∈aA)(b:In L i):i∈seen:=(d.sub i b).resolve_right (a.RD hi)
section
variable{L:Array Bool}{aa:ak AV}{seen:List Nat}{dn:List Lt}{H G:ah}
theorem fD.Gd(c:fD l T L aa seen dn H G)(hd:dn=[]):∀j,G.get j=H.get j:=by
 by_cases hs:∀t,T=some t->t.i0∉seen;·exact c.rr hs
 simp only[Classical.not_forall,agJ]at hs;obtain⟨t,a,hs⟩:=hs;obtain⟨id,_,h2,h3,b⟩:=c.ru t a hs;intro j;by_cases d:j=id;·subst d;rw[h2];exact(h3.resolve_left λq=>q.1 hd).2
 exact b j d
theorem fD.cases(c:fD l T L aa seen dn H G):(∀j,G.get j=H.get j)\/∃t id,T=some t/\t.i0∈seen/\aa.get .ahp t.t0=.map id/\H.get id=.map [] 0/\G.get id=.co (jq aa dn)/\∀j,j≠id->G.get j=H.get j:=by
 by_cases hd:dn=[];·exact .inl (c.Gd hd)
 by_cases hs:∀t,T=some t->t.i0∉seen;·exact .inl (c.rr hs)
 simp only[Classical.not_forall,agJ]at hs;obtain⟨t,a,hs⟩:=hs;obtain⟨id,h1,h2,h3,b⟩:=c.ru t a hs;exact .inr ⟨t,id,a,hs,h1,h2,(h3.resolve_right λq=>hd q.1).2,b⟩
theorem fD.aM(d:fD l T L aa seen dn H G){i j:af}(hi:i∈(G.get j).aM):i∈(H.get j).aM:=by
 rcases d.cases with c|⟨t,id,_,_,_,_,a,b⟩;·rwa[c]at hi
 by_cases c:j=id;·subst c;rw[a]at hi;cases hi
 rwa[b j c]at hi
theorem fD.ne(i:fD l T L aa seen dn H G)(j:af):G.get j=.none↔H.get j=.none:=by
 rcases i.cases with d|⟨t,id,_,_,_,a,b,c⟩;·rw[d]
 by_cases d:j=id;·subst d;rw[a,b];simp
 rw[c j d]
theorem fD.vD(k:fD l T L aa seen dn H G){j:af}(a:(H.get j).kp):(G.get j).vD:=by
 rcases k.cases with i|⟨t,id,_,_,_,d,b,c⟩;·rw[i];exact tc a
 by_cases i:j=id;·subst i;rw[b];exact⟨rfl,rfl,aF⟩
 rw[c j i];exact tc a
theorem fD.bN(p:fD l T L aa seen dn H G)(a:gV P nt az l aA T){j:af}(hj:∀t,T=some t->t.i0∈seen->¬Mk l aa t.i0 j):G.get j=H.get j:=by
 rcases p.cases with o|⟨t,id,h1,h2,h3,k,m,b⟩;·exact o j
 refine b j λo=>hj t h1 h2 ?_;obtain⟨x,c,d,_,i⟩:=(a.hT t h1).qv;exact⟨x,t.t0,c,by rw[d];rfl,i,by rw[h3,o];rfl⟩
theorem fD.Ge(i:fD l T L aa seen dn H G){j:af}(hj:∀t,T=some t->t.i0∈seen->aa.get .ahp t.t0≠.map j):G.get j=H.get j:=by
 rcases i.cases with d|⟨t,id,h1,h2,h3,b,c,a⟩;·exact d j
 exact a j λd=>hj t h1 h2 (by rw[h3,d])
theorem fD.Gf(d:fD l T L aa seen dn H G){i j:af}(hi:i∈(H.get j).aM):i∈(G.get j).aM:=by
 rcases d.cases with c|⟨t,id,_,_,_,a,_,b⟩;·rwa[c]
 by_cases c:j=id;·subst c;rw[a]at hi;cases hi
 rwa[b j c]
theorem fD.nil(p:fD l T L aa seen dn H G)(c:gV P nt az l aA T)(a:∀i,In L i->∀j,iU az i j->In L j){t:jf}(b:T=some t)(d:¬In L t.i0):dn=[]:=by cases dn with|nil=>rfl|cons o r=>exfalso;obtain⟨h1,h2⟩:=(p.mem t b o).1 (abL ..);have hT:=c.hT t b;obtain⟨x,k,_,_,m⟩:=hT.qv;exact d (n9 a o.u (a o.u h2) t.i0 (hT.cB o h1 t.i0 hT.i0 t.t0 ⟨x,k,m⟩ (abL ..)))
theorem fD.gv(x:fD l T L aa seen dn H G)(q:gV P nt az l aA T)(c:∀i,In L i->∀j,iU az i j->In L j){t:jf}(m:T=some t){env':ak AV}(hs:∀b,(∀k,k∈aA->In L k->dJ l k b->env'.get .ahp b=aa.get .ahp b)/\((∀k∈aA,¬dJ l k b)->env'.get .ahp b=aa.get .ahp b)):jq env' dn=jq aa dn:=by
 have hT:=q.hT t m;refine agG λs hu=>?_;obtain⟨h1,h2⟩:=(x.mem t m s).1 hu;rw[iy (aa:=env') (env':=aa) (x:=s.v) λp r=>?_];by_cases o:∃k∈aA,dJ l k p;·obtain⟨k,d,a⟩:=o;exact(hs p).1 k d (n9 c s.u (c s.u h2) k (hT.cB s h1 k d p a (aco _ r))) a
 exact(hs p).2 λk d a=>o ⟨k,d,a⟩
theorem fD.bq(d:fD l T L aa seen dn H G)(c:gV P nt az l aA T){i:Nat}(hi:i∈aA)(a:i<L.size):fD l T (L.setIfInBounds i true) aa seen dn H G:=⟨d.next,d.nd,d.none,λt b u=>by rw[d.mem t b u];refine and_congr_right λhu=>?_;rw[vE a];exact⟨.inr,λq=>q.resolve_left λj=>(c.hT t b).da u hu (j▸hi)⟩,d.rr,d.ru⟩
theorem fD.step(V:fD l T L aa seen dn H G)(p:gV P nt az l aA T)(y:∀i,In L i->∀j,iU az i j->In L j){i:Nat}(hi:i∈aA)(z:¬In L i){x:bA}(E:l[i]?=some x)(h0:∀t,T=some t->t.i0≠i){v:AV}{q r:ah}(F:r.next=q.next)(hs:∀j,(∀t,T=some t->t.i0∈seen->aa.get .ahp t.t0≠.map j)->r.get j=q.get j)(s:∀t id,T=some t->t.i0∈seen->aa.get .ahp t.t0=.map id->q.get id=H.get id/\r.get id=G.get id):fD l T L (aK aa x.dst v) (i::seen) dn q r:=by
 have c:∀t,x.dst=some t->dJ l i t:=λt S=>⟨x,E,S⟩;have d:∀t,T=some t->t.i0∈i::seen->t.i0∈seen:=λt a m=>(acn.1 m).resolve_left (h0 t a);have A:∀t,T=some t->jq (aK aa x.dst v) dn=jq aa dn:=λt a=>V.gv p y a λu=>by
  refine⟨λk s B C=>?_,λD=>?_⟩;·rw[lR,ap λS=>z (dJ.inj p.dF s hi C (c u S)▸B)]
  rw[lR,ap λS=>D i hi (c u S)]
 refine⟨F,V.nd,V.none,V.mem,λI j=>hs j λt a m=>absurd (aco _ m) (I t a),λt a m=>?_⟩;have o:=d t a m;obtain⟨id,h1,h2,h3,R⟩:=V.ru t a o;obtain⟨J,K⟩:=s t id a o h1;have hT:=p.hT t a;obtain⟨M,N,_,_,O⟩:=hT.qv;refine⟨id,?_,by rw[J,h2],by rw[K,A t a];exact h3,λj hj=>hs j λu b Q=>?_⟩;·rw[lR,ap λS=>h0 t a (dJ.inj p.dF hT.i0 hi ⟨M,N,O⟩ (c _ S)),h1]
 rw[a]at b;injection b with b;subst b;rw[h1];intro S;injection S with S;exact hj S.symm
end
theorem BV{o:Oper}{x:bA}(c:nT P nt az o=some x){aa:ak AV}{H:ah}{r:AV×ah}(a:aD x.op aa H=some r):bG P nt o=some x.op:=by
 obtain⟨_,_,_,b,_⟩:=vB c;rw[b]at a;rw[b];split at a;·simp[aD]at a
 rename_i d;rw[ap d];cases i:bG P nt o with|none=>rw[i]at a;simp[aD]at a|some q=>rfl
theorem zL{o:Oper}{op:bE}{i:Nat}{is:List Nat}{b:Frame}{a:Act}{k:List Item}{cs:List Frame}{w q:World}{c:Value}(j:az[i]?=some o)(s:bG P nt o=some op)(hg:Region.wanted o (yielded az a.tmps)=true)(m:(execOp a.eval o).run P w=.ok (.value c) q\/((execOp a.eval o).run P w=.ok .skip q/\c=undef)):Steps P (lone (b.atR a (.inRegion az (i::is)::k)) cs w) (lone (b.atR (a.put o.dst c) (.inRegion az is::k)) cs q):=by
 have p:(b.atR a (.inRegion az (i::is)::k)).finish c=b.atR (a.put o.dst c) (.inRegion az is::k):=by rw[Frame.finish_atR,j];rfl
 have d:=stepGR_op (P:=P) (b:=b) (a:=a) (k:=k) (cs:=cs) (w:=w) (rest:=is) j hg;rw[Oper.semAt_eq _ _ _ (zG s)]at d;refine .one (step_lone_go ?_);rw[d,<-p];rcases m with r|⟨r,rfl⟩;·exact BM r
 exact FW r
theorem Kz{o:Oper}{i:Nat}{is:List Nat}{b:Frame}{a:Act}{k:List Item}{cs:List Frame}{w:World}(c:az[i]?=some o)(hg:Region.wanted o (yielded az a.tmps)=false):Steps P (lone (b.atR a (.inRegion az (i::is)::k)) cs w) (lone (b.atR (a.put o.dst undef) (.inRegion az is::k)) cs w):=by have cD:=stepR_op_skip (P:=P) (b:=b) (a:=a) (k:=k) (cs:=cs) (w:=w) (ops:=az) (i:=i) (rest:=is) (by simp[c,hg]);rw[c]at cD;exact .one cD
theorem Gg{ρ:aO}{aa:ak AV}{tmps:Array Value}(c:gj ρ nt aa tmps){o:Oper}{x:bA}(b:nT P nt az o=some x)(a:iT aa x.guard=true):Region.wanted o (yielded az tmps)=dc aa x.guard:=Kg (a:=⟨tmps,[]⟩) (fr:=⟨aa,[],none⟩) (ro:=none) ⟨c,trivial,trivial⟩ b a
theorem zM(a:Act)(d:Option Tmp)(c:Value):(a.put d c).defers=a.defers:=by cases d<;>rfl
theorem gj.put{ρ:aO}{aa:ak AV}{a:Act}(i:gj ρ nt aa a.tmps){v:AV}{c:Value}(b:VR ρ v c)(d:Option Tmp):gj ρ nt (aK aa (d.map af.cr) v) (a.put d c).tmps:=by cases d with|none=>exact i|some d=>exact i.set b
end
section
variable{P:Program}{nt:Nat}{az:Array Oper}{l:List bA}{aA:List Nat}{T:Option jf}
variable{e:bS}{ac:Nat->aX}{K:Fr->ah->Prop}{br:List af}{bw:Option af}{f:ak AV}{L:Array Bool}{seen rest:List Nat}{n:Nat}{aa:ak AV}{H:ah}{d:ak AV}{c:List af}{ρ:aO}{w:World}{tmps:Array Value}
theorem Dr.mark(D:gV P nt az l aA T)(V:Dr P e nt az l aA T ac K br bw f L seen rest n aa H d c ρ w tmps){i:Nat}(dB:i∈seen)(z:i<az.size)(B:∀j,iU az i j->In L j){g:ak AV}{r:List af}{m:aO}{E:World}{q:Array Value}(C:bQ ρ m)(o:∀t,(dJ l i t->g.get .ahp t=aa.get .ahp t)/\(¬dJ l i t->g.get .ahp t=d.get .ahp t))(s:∀j,j∈r↔j∈c/\¬Mk l aa i j)(u:∀j,Mk l aa i j->m j≠none)(v:∀j∈r,m j=none)(I:gj m nt g q){dn:List Lt}{G:ah}(J:fD l T L aa seen dn H G)(M:bj P e m (G.dN r) E):Dr P e nt az l aA T ac K br bw f (L.setIfInBounds i true) seen rest n aa H g r m E q:=by
 have b:∀j,In (L.setIfInBounds i true) j↔j=i\/In L j:=vE (by rw[V.size];exact z);have p:∀j,¬In (L.setIfInBounds i true) j->j≠i/\¬In L j:=λj hj=>⟨λW=>hj ((b j).2 (.inl W)),λW=>hj ((b j).2 (.inr W))⟩;refine⟨V.dP,by rw[Array.size_setIfInBounds];exact V.size,?_,?_,λk a N=>(b k).2 (.inr (V.BU k a N)),V.run,V.pf,?_,?_,?_,V.ib,?_,V.kp,λk a y=>V.bP k a (p k y).2,?_,I,dn,G,J.bq D (ln V.dP dB) (by rw[V.size];exact z),M⟩
 .intro j hj;rcases(b j).1 hj with W|W;·rw[W];exact .inl dB
  exact V.sub j W
 .intro j hj k a;rcases(b j).1 hj with W|W;·rw[W]at a;exact(b k).2 (.inr (B k a))
  exact(b k).2 (.inr (V.jr j W k a))
 .intro t O;by_cases hd:dJ l i t;·exact(o t).1 hd
  rw[(o t).2 hd];refine V.pg t λk a y=>?_;by_cases W:k=i;·rw[W];exact hd
  exact O k a λh=>(b k).1 h|>.elim W y
 .intro t k a y A;obtain⟨h1,h2⟩:=p k y;rw[(o t).2 λhd=>h1 (dJ.inj D.dF (ln V.dP a) (ln V.dP dB) A hd)];exact V.vH t k a h2 A
 .intro j;rw[s,V.lS];constructor;·rintro⟨⟨k,a,h1,h2⟩,h3⟩;exact⟨k,a,λh=>(b k).1 h|>.elim (λW=>h3 (W▸h2)) h1,h2⟩
  rintro⟨k,a,h1,h2⟩;obtain⟨Q,R⟩:=p k h1;exact⟨⟨k,a,R,h2⟩,λh3=>Q (V.ib k i j a dB h2 h3)⟩
 .intro k j a S;obtain⟨h1,h2⟩:=V.mR k j a S;refine⟨h1,?_⟩;rcases h2 with h2|h2
  .by_cases hi:Mk l aa i j;·exact .inr (u j hi)
   exact .inl ((s j).2 ⟨h2,hi⟩)
  right;intro W;cases F:ρ j with|none=>exact h2 F|some x=>rw[(C _ _ F).1]at W;cases W
 intro j hj;exact⟨v j hj,(V.di j ((s j).1 hj).1).2⟩
theorem jM.vK{n:jM}{i:af}{m:Value}(h:VR ρ (n.of i) m):ρ i≠none:=by
 cases n with
 |aE=>obtain⟨b,x,k,_⟩:=VR.li h;rw[k];simp
 |slice a b k=>
  simp only[jM.of]at h;cases m with
  |slice ad g j=>cases ad with|none=>simp[VR]at h|some ad=>simp only[VR]at h;obtain⟨_,_,_,_,b,x,k,_⟩:=h;rw[k];simp
  |_=>simp[VR]at h
 |map=>obtain⟨b,k,_⟩:=VR.lO h;rw[k];simp
theorem ju(H:ah)(c:List af)(j:af):(H.dN c).get j=if j∈c then .none else H.get j:=ah.sW c H j
theorem Dr.RF(hR:gV P nt az l aA T)(cv:Dr P e nt az l aA T ac K br bw f L seen rest n aa H d c ρ w tmps){i:Nat}(dB:i∈seen)(hi:¬In L i)(z:∀j,iU az i j->In L j){b:Frame}{a:Act}(ha:a.tmps=tmps)(is:List Nat)(k:List Item)(cs:List Frame):∃(r:aO)(O:World)(a':Act)(W:ak AV)(I:List af),bQ ρ r/\cX e w O/\a'.defers=a.defers/\Steps P (lone (b.atR a (.inRegion az (i::is)::k)) cs w) (lone (b.atR a' (.inRegion az is::k)) cs O)/\Dr P e nt az l aA T ac K br bw f (L.setIfInBounds i true) seen rest n aa H W I r O a'.tmps:=by
 subst ha;obtain⟨x,cn,b8,ex,hx,hs,h1,h2,s⟩:=cv.bP i dB hi;obtain⟨dn,G,hG,A⟩:=cv.jp;obtain⟨o,S,ay⟩:=hR.op hx;obtain⟨xd,_⟩:=vB ay;have ba:i<az.size:=by
  rcases afZ i az.size with q|q;·exact q
  rw[afU q]at S;cases S
 have bb:=cv.BJ hR hi z hx hs h1 h2;have cd:iT ex x.guard=true:=by
  rcases s with⟨_,h,_⟩|⟨h,_⟩;·exact h
  exact F3 h
 have bd:Region.wanted o (yielded az a.tmps)=dc ex x.guard:=by rw[Gg cv.E ay (by rw[Kw bb];exact cd)];exact Ga bb
 have X:∀H',aD x.op d H'=aD x.op ex H':=λH'=>F7 (λp hp=>bb p (vG hp)) H';have Y:∀{v:AV},(∀t,x.dst=some t->aa.get .ahp t=v)->∀t,(dJ l i t->(aK d x.dst v).get .ahp t=aa.get .ahp t)/\(¬dJ l i t->(aK d x.dst v).get .ahp t=d.get .ahp t):=by
  intro v Q t;rw[lR];refine⟨λ⟨y,R,dy⟩=>?_,λhn=>?_⟩;·rw[hx]at R;injection R with R;subst R;rw[aJ dy,Q t dy]
  rw[ap λcx=>hn ⟨x,hx,cx⟩]
 have N:∀j,Mk l aa i j->x.op.jK=true/\∃t,x.dst=some t/\fA (aa.get .ahp t)=some j:=by rintro j⟨y,t,R,g1,g2,g3⟩;rw[hx]at R;injection R with R;subst R;exact⟨g1,t,g2,g3⟩
 have J:∀j∈c,j.am<H.next.am:=λj hj=>by obtain⟨k',bv,_,D⟩:=(cv.lS j).1 hj;exact(cv.mR k' j bv D).1
 have Z:∀j∈c,∀k,j∉((G.dN c).get k).aM:=λj hj k hk=>by
  rw[ju]at hk;split at hk;·cases hk
  exact(cv.di j hj).2.2 k (hG.aM hk)
 have M:(G.dN c).next=H.next:=by rw[ah.ix,hG.next]
 have av:∀{v:AV},x.op.jK=false->aD x.op d (G.dN c)=some (v,G.dN c)->(∀t,x.dst=some t->aa.get .ahp t=v)->dc ex x.guard=true->∃(r:aO)(O:World)(a':Act)(W:ak AV)(I:List af),bQ ρ r/\cX e w O/\a'.defers=a.defers/\Steps P (lone (b.atR a (.inRegion az (i::is)::k)) cs w) (lone (b.atR a' (.inRegion az is::k)) cs O)/\Dr P e nt az l aA T ac K br bw f (L.setIfInBounds i true) seen rest n aa H W I r O a'.tmps:=by intro v D u Q hg;have b0:=A.iz (hl:=λ_=>False) (dd:=λj=>j∈c) (λ_ h=>h.elim) (λj hj=>⟨by rw[ju,aJ hj],(cv.di j hj).1,by rw[M];exact J j hj,Z j hj⟩) rfl (λ_=>.inl rfl) (λ_ h=>h.elim);have B:=BV ay u;obtain⟨cy,O,ag,r,m,a1,V,hK⟩:=vr (cO.mk cv.E b0) B u;obtain⟨u1,u2⟩:=A.BR (hl:=λ_=>False) (λ_ h=>h.elim) m V hK (H2:=G.dN c) rfl (λ_ h=>h.elim) (λ_ _=>rfl);refine⟨r,O,a.put o.dst cy,aK d x.dst v,c,m,u2,zM ..,zL S B (by rw[bd];exact hg) ag,?_⟩;refine cv.mark hR dB ba z m (Y Q) (λj=>⟨λhj=>⟨hj,λh=>by rw[D]at N;have:=(N j h).1;cases this⟩,λhj=>hj.1⟩) (λj h=>by rw[D]at N;have:=(N j h).1;cases this) (λj hj=>(V.di j (.inr hj)).2) ?_ hG u1;rw[xd];exact(cv.E.mono m).put a1 o.dst
 rcases s with⟨hg,_,Q⟩|⟨hg,v,Q,s⟩
 .refine⟨ρ,w,a.put o.dst undef,aK d x.dst .ahp,c,bQ.refl ρ,cX.refl e w,zM ..,Kz S (by rw[bd];exact hg),?_⟩;have b6:∀j,¬Mk l aa i j:=λj h=>by obtain⟨_,t,g1,g2⟩:=N j h;rw[Q t g1]at g2;simp[AV.ahp,fA]at g2
  refine cv.mark hR dB ba z (bQ.refl ρ) (Y Q) (λj=>⟨λhj=>⟨hj,b6 j⟩,λhj=>hj.1⟩) (λj h=>absurd h (b6 j)) (λj hj=>(cv.di j hj).1) ?_ hG A;rw[xd];exact cv.E.put (VR.ahp ρ) o.dst
 rcases s with⟨D,u⟩|⟨hr,b7,u⟩|⟨D,nv,cI,F,R,rfl,b',u⟩;·exact av (v:=v) D (by rw[X];exact u (G.dN c)) Q hg
 .refine av (v:=v) (qq hr).2.1 ?_ Q hg;rw[X];refine u (G.dN c) λj hj=>?_;rw[ju,ap];·exact hG.bN hR λt ht D C=>((b7 j hj).2 t.i0 D C).2 (by rw[ht];rfl)
  intro cf;obtain⟨k',bv,hn,C⟩:=(cv.lS j).1 cf;exact hn (n9 cv.jr i z k' ((b7 j hj).2 k' bv C).1)
 obtain⟨x',a2,ca⟩:=rA hR (ln cv.dP dB);rw[hx]at a2;injection a2 with a2;subst a2;obtain⟨t0,b3⟩:∃t,x.dst=some t:=by cases hd:x.dst with|some t=>exact⟨t,rfl⟩|none=>simp[pX,hd,(vF D).1,(vF D).2.2]at ca
 have aw:fA (aa.get .ahp t0)=some F:=by rw[Q t0 b3];exact jM.name nv F
 have b4:Mk l aa i F:=⟨x,t0,hx,D,b3,aw⟩;have ax:∀j,Mk l aa i j->j=F:=by intro j h;obtain⟨_,t,g1,g2⟩:=N j h;rw[b3]at g1;injection g1 with g1;subst g1;rw[aw]at g2;injection g2 with g2;exact g2.symm
 have a6:F∈c:=(cv.lS F).2 ⟨i,dB,hi,b4⟩;have g:∀j,j∈c.filter (λj=>decide (j≠F))↔j∈c/\j≠F:=λj=>by simp
 generalize cp:c.filter (λj=>decide (j≠F))=I at g;have b0:=A.iz (hl:=λ_=>False) (dd:=λj=>j∈I) (λ_ h=>h.elim) (λj hj=>⟨by rw[ju,aJ ((g j).1 hj).1],(cv.di j ((g j).1 hj).1).1,by rw[M];exact J j ((g j).1 hj).1,Z j ((g j).1 hj).1⟩) rfl (λ_=>.inl rfl) (λ_ h=>h.elim);have a8:∀H':ah,aD x.op d H'=some (nv.of H'.next,H'.new cI):=λH'=>by rw[X];exact u H'
 have B:=BV ay (a8 H);obtain⟨cy,O,ag,r,m,a1,V,hK⟩:=Rr b0 cv.E B R a8 (cv.di F a6).1 (by rw[M];exact J F a6) (by
  rintro(h|h|h);·exact(cv.di F a6).2.1 h
  .exact h
  exact((g F).1 h).2 rfl) (Z F a6);obtain⟨u1,u2⟩:=A.BR (hl:=λ_=>False) (λ_ h=>h.elim) m V hK (H2:=G.dN I) (by rw[ah.ix,ah.d8,ah.ix]) (λ_ h=>h.elim) (λj _=>by
  rw[ju,ah.aC,ju];by_cases cx:j=F
  .subst cx;rw[ap λh=>((g j).1 h).2 rfl,aJ rfl,<-b'];by_cases hl:∃t,T=some t/\t.i0=i;·obtain⟨t,ht,rfl⟩:=hl;exact hG.Gd (hG.nil hR cv.jr ht hi) j
   exact hG.bN hR λt ht D C=>hl ⟨t,ht,cv.ib _ _ _ D dB C b4⟩
  by_cases e':j∈c;·rw[aJ ((g j).2 ⟨e',cx⟩),ap cx,aJ e']
  rw[ap λh=>e' ((g j).1 h).1,ap cx,ap e']);refine⟨r,O,a.put o.dst cy,aK d x.dst (nv.of F),I,m,u2,zM ..,zL S B (by rw[bd];exact hg) ag,?_⟩;refine cv.mark hR dB ba z m (Y Q) (λj=>?_) (λj h=>?_) (λj hj=>(V.di j (.inr hj)).2) ?_ hG u1;·rw[g];exact⟨λh=>⟨h.1,λD=>h.2 (ax j D)⟩,λh=>⟨h.1,λcx=>h.2 (cx▸b4)⟩⟩
 .rw[ax j h];exact jM.vK a1
 rw[xd];exact(cv.E.mono m).put a1 o.dst
end
section
variable{P:Program}{nt:Nat}{az:Array Oper}{l:List bA}{aA:List Nat}{T:Option jf}
variable{e:bS}{ac:Nat->aX}{K:Fr->ah->Prop}{br:List af}{bw:Option af}{f:ak AV}{L:Array Bool}{seen rest:List Nat}{n:Nat}{aa:ak AV}{H:ah}{d:ak AV}{c:List af}{ρ:aO}{w:World}{tmps:Array Value}
theorem Mk.Gh{aa a:ak AV}{i:Nat}{j:af}(h:∀t,dJ l i t->a.get .ahp t=aa.get .ahp t):Mk l a i j↔Mk l aa i j:=by
 constructor;·rintro⟨x,t,b,h1,h2,h3⟩;exact⟨x,t,b,h1,h2,by rw[<-h t ⟨x,b,h2⟩];exact h3⟩
 rintro⟨x,t,b,h1,h2,h3⟩;exact⟨x,t,b,h1,h2,by rw[h t ⟨x,b,h2⟩];exact h3⟩
theorem RG(q:gV P nt az l aA T){B:Nat}{rest:List Nat}(r:seen.reverse++B::rest=aA){a ex:ak AV}{i:Nat}{y:bA}{p b8:List Nat}(s:l[i]?=some y)(o:y.op.ia=true)(hs:seen=p++i::b8)(h1:∀t,(∃k∈b8,dJ l k t)->ex.get .ahp t=a.get .ahp t)(h2:∀t,(∀k∈b8,¬dJ l k t)->ex.get .ahp t=f.get .ahp t)(h0:∀t,(∀k∈B::seen,¬dJ l k t)->a.get .ahp t=f.get .ahp t):∀t∈y.ib,a.get .ahp t=ex.get .ahp t:=by
 intro t u;by_cases v:∃k∈b8,dJ l k t;·exact(h1 t v).symm
 rw[h2 t λk b j=>v ⟨k,b,j⟩];refine h0 t λk b j=>?_;obtain⟨z,m,x⟩:=j;have dB:i∈seen:=by rw[hs];simp
 have after:pW l (Region.before az) i k=true->False:=λdF=>by have:=((og dF s m).2.2.2.1 t x u).2;rw[o]at this;cases this
 rcases acn.1 b with rfl|b;·exact after ((zK q r).2 i dB k (abL ..))
 rw[hs,ae8,acn]at b;rcases b with b|rfl|b;·exact after ((Ky q r hs).2 k b)
 .obtain⟨A,g,h⟩:=rA q (ln r dB);rw[s]at g;injection g with g;subst g;rw[s]at m;injection m with m;subst m;have:y.ib.contains t=true:=by simpa using u
  simp[pX,(qq o).1,(qq o).2.2,(qq o).2.1,x,o,this]at h;exact h u
 exact v ⟨k,b,z,m,x⟩
theorem Dr.KA(hR:gV P nt az l aA T){cy:Nat}(cE:Dr P e nt az l aA T ac K br bw f L seen (cy::rest) n aa H d c ρ w tmps){x:bA}(hx:l[cy]?=some x)(a6:x.op.fW=true)(ag:∀j,iU az cy j->In L j){v:AV}{H2:ah}{n':Nat}{I:aO}{w':World}{R:Array Value}(b3:bQ ρ I)(ha:∀j k,k∈seen->¬ev (Region.before az) cy k->Mk l aa k j->H2.get j=H.get j){dn:List Lt}{G2:ah}(hG:fD l T L (aK aa x.dst v) (cy::seen) dn H2 G2)(hI:bj P e I (G2.dN c) w')(S:∀j∈c,I j=none/\∀k,j∉(H2.get k).aM)(b4:∀j k,k∈seen->Mk l aa k j->j.am<H2.next.am)(ca:∀i∈seen,¬In L i->∀y,l[i]?=some y->y.op.ia=true->dc (aK aa x.dst v) y.guard=true->∀t,y.dst=some t->(∀j,H2.get j=H.get j)\/∃H1,aD y.op (aK aa x.dst v) H2=some ((aK aa x.dst v).get .ahp t,H1))(hE:gj I nt (aK d x.dst v) R)(b6:Go.al.az False cA ac n' (md l (Region.before az) (kI T) (cy::seen) rest++oW T) ⟨aK aa x.dst v,br,bw⟩ H2 K):Dr P e nt az l aA T ac K br bw f (L.setIfInBounds cy true) (cy::seen) rest n' (aK aa x.dst v) H2 (aK d x.dst v) c I w' R:=by
 obtain⟨o,a8,cv⟩:=hR.op hx;have a':cy<az.size:=by
  rcases afZ cy az.size with q|q;·exact q
  rw[afU q]at a8;cases a8
 have b:∀j,In (L.setIfInBounds cy true) j↔j=cy\/In L j:=vE (by rw[cE.size];exact a');have N:∀j,¬In (L.setIfInBounds cy true) j->j≠cy/\¬In L j:=λj hj=>⟨λcx=>hj ((b j).2 (.inl cx)),λcx=>hj ((b j).2 (.inr cx))⟩;have ay:cy∈cy::rest:=abL .. ;have Z:cy∉seen:=vI hR cE.dP ay;have ba:∀t,dJ l cy t↔x.dst=some t:=λt=>⟨λ⟨y,r,dy⟩=>by rw[hx]at r;injection r with r;subst r;exact dy,λh=>⟨x,hx,h⟩⟩;have E:∀i t,i∈seen->dJ l i t->x.dst≠some t:=λi t hi hd cx=>Z (dJ.inj hR.dF (ln cE.dP hi) (mg cE.dP ay) hd ((ba t).2 cx)▸hi);have s:∀t,x.dst≠some t->(aK aa x.dst v).get .ahp t=aa.get .ahp t:=λt h=>by rw[lR,ap h]
 have av:∀t,x.dst≠some t->(aK d x.dst v).get .ahp t=d.get .ahp t:=λt h=>by rw[lR,ap h]
 have A:∀i j,i∈cy::seen->(Mk l (aK aa x.dst v) i j↔i∈seen/\Mk l aa i j):=by
  intro i j hi;rcases acn.1 hi with cx|cx;·subst cx;refine⟨λh=>?_,λh=>absurd h.1 Z⟩;obtain⟨y,t,r,G,_⟩:=h;rw[hx]at r;injection r with r;subst r;rw[(RB a6).1]at G;cases G
  rw[Mk.Gh λt C=>s t (E i t cx C)];exact⟨λh=>⟨cx,h⟩,λh=>h.2⟩
 have h0:∀t,(∀k∈cy::seen,¬dJ l k t)->(aK aa x.dst v).get .ahp t=f.get .ahp t:=by intro t C;rw[s t λcx=>C cy (abL ..) ((ba t).2 cx)];exact cE.pf t λk a=>C k (aco _ a)
 refine⟨by rw[<-cE.dP];simp,by rw[Array.size_setIfInBounds];exact cE.size,?_,?_,?_,b6,h0,?_,?_,?_,?_,?_,?_,?_,?_,hE,dn,G2,hG.bq hR (mg cE.dP ay) (by rw[cE.size];exact a'),hI⟩
 .intro j hj;rcases(b j).1 hj with cx|cx;·rw[cx];exact .inl (abL ..)
  exact(cE.sub j cx).imp (aco _) id
 .intro j hj k a;rcases(b j).1 hj with cx|cx;·rw[cx]at a;exact(b k).2 (.inr (ag k a))
  exact(b k).2 (.inr (cE.jr j cx k a))
 .intro j hj hc;rcases acn.1 hj with cx|cx;·exact(b j).2 (.inl cx)
  exact(b j).2 (.inr (cE.BU j cx hc))
 .intro t C;by_cases cx:x.dst=some t;·rw[lR,lR,aJ cx,aJ cx]
  rw[av t cx,s t cx];refine cE.pg t λk a hn=>C k (aco _ a) λh=>?_;rcases(b k).1 h with e'|e';·exact Z (e'▸a)
  exact hn e'
 .intro t k a hn J;obtain⟨F,D⟩:=N k hn;have bb:k∈seen:=(acn.1 a).resolve_left F;rw[av t (E k t bb J)];exact cE.vH t k bb D J
 .intro j;rw[cE.lS];constructor;·rintro⟨k,a,F,D⟩;exact⟨k,aco _ a,λh=>(b k).1 h|>.elim (λcx=>Z (cx▸a)) F,(A k j (aco _ a)).2 ⟨a,D⟩⟩
  rintro⟨k,a,F,D⟩;obtain⟨g3,g4⟩:=(A k j a).1 D;exact⟨k,g3,(N k F).2,g4⟩
 .intro i i' j hi cd F D;obtain⟨X,Y⟩:=(A i j hi).1 F;obtain⟨b1,b2⟩:=(A i' j cd).1 D;exact cE.ib i i' j X b1 Y b2
 .intro i j hi F;obtain⟨X,Y⟩:=(A i j hi).1 F;refine⟨b4 j i X Y,?_⟩;rcases(cE.mR i j X Y).2 with g|g;·exact .inl g
  right;intro cx;cases W:ρ j with|none=>exact g W|some z=>rw[(b3 _ _ W).1]at cx;cases cx
 .intro i j hi F D;obtain⟨X,Y⟩:=(A i j hi).1 F;rw[ha j i X (D cy (abL ..) ⟨x,hx,a6⟩) Y];exact cE.kp i j X Y λk a=>D k (aco _ a)
 .intro i hi hn;obtain⟨F,D⟩:=N i hn;have dB:i∈seen:=(acn.1 hi).resolve_left F;obtain⟨y,b7,b8,ex,r,hs,h1,h2,B⟩:=cE.bP i dB D;have bd:∀t,(∃k∈b8,dJ l k t)->ex.get .ahp t=(aK aa x.dst v).get .ahp t:=by rintro t⟨k,a,J⟩;rw[s t (E k t (by rw[hs];simp[a]) J)];exact h1 t ⟨k,a,J⟩
  have O:∀t,y.dst=some t->(aK aa x.dst v).get .ahp t=aa.get .ahp t:=λt C=>s t (E i t dB ⟨y,r,C⟩);refine⟨y,cy::b7,b8,ex,r,by rw[hs];rfl,bd,h2,?_⟩;rcases B with⟨hg,cf,hv⟩|⟨hg,u,hv,B⟩;·exact .inl ⟨hg,cf,λt C=>by rw[O t C];exact hv t C⟩
  refine .inr ⟨hg,u,λt C=>by rw[O t C];exact hv t C,?_⟩;rcases B with⟨G,M⟩|⟨W,a1,M⟩|⟨G,nv,cI,j0,cn,bv,b',M⟩;·exact .inl ⟨G,M⟩
  .have b0:=RG hR cE.dP r W hs bd h2 h0;obtain⟨y',m,Q⟩:=rA hR (ln cE.dP dB);rw[r]at m;injection m with m;subst m;obtain⟨t0,a2⟩:∃t,y.dst=some t:=by cases hd:y.dst with|some t=>exact⟨t,rfl⟩|none=>simp[pX,hd,(qq W).1,(qq W).2.2]at Q
   right;left;have aw:∀j,(∀k∈seen,Mk l aa k j->ev (Region.before az) i k/\kI T≠some k)->∀k∈cy::seen,Mk l (aK aa x.dst v) k j->ev (Region.before az) i k/\kI T≠some k:=λj h k a G=>by obtain⟨X,Y⟩:=(A k j a).1 G;exact h k X Y
   rcases ca i dB D y r W (by rw[Ga b0];exact hg) t0 a2 with V|⟨H1,ax⟩;·exact⟨W,λj hj=>⟨by rw[V];exact(a1 j hj).1,aw j (a1 j hj).2⟩,λH' cp=>M H' λj hj=>by rw[cp j hj,V]⟩
   rw[O t0 a2,hv t0 a2,F7 (λp hp=>b0 p (vG hp))]at ax;obtain⟨_,q2,q3⟩:=Ko W ax;exact⟨W,λj hj=>⟨q2 j hj,aw j (a1 j hj).2⟩,q3⟩
  right;right;refine⟨G,nv,cI,j0,cn,bv,?_,M⟩;rw[ha j0 i dB (λhA=>D (n9 cE.jr cy ag i hA)) ?_];·exact b'
  obtain⟨y',m,Q⟩:=rA hR (ln cE.dP dB);rw[r]at m;injection m with m;subst m;cases hd:y.dst with|some t=>exact⟨y,t,r,G,hd,by rw[hv t hd,bv];exact jM.name nv j0⟩|none=>simp[pX,hd,(vF G).1,(vF G).2.2]at Q
 intro j hj;exact⟨(S j hj).1,(cE.di j hj).2.1,(S j hj).2⟩
theorem Dr.RH(hR:gV P nt az l aA T)(b6:∀m,m<n->pc P ac m){eb:Nat}(d':Dr P e nt az l aA T ac K br bw f L seen (eb::rest) n aa H d c ρ w tmps)(dr:Ch l eb)(O:∀j,iU az eb j->In L j){b:Frame}{a:Act}(hat:a.tmps=tmps)(is:List Nat)(k:List Item)(cs:List Frame):∃(C:aO)(w':World)(bb:Act)(n':Nat)(env':ak AV)(H':ah)(ay:ak AV)(bd:List af),n'<=n/\bQ ρ C/\cX e w w'/\bb.defers=a.defers/\Steps P (lone (b.atR a (.inRegion az (eb::is)::k)) cs w) (lone (b.atR bb (.inRegion az is::k)) cs w')/\Dr P e nt az l aA T ac K br bw f (L.setIfInBounds eb true) (eb::seen) rest n' env' H' ay bd C w' bb.tmps:=by
 subst hat;obtain⟨x,hx,aw⟩:=dr;obtain⟨o,ax,bv⟩:=hR.op hx;obtain⟨xd,_,_,xo,_⟩:=vB bv;have a6:eb∈eb::rest:=abL .. ;have av:=d'.RE hR a6 O hx;have J:iT aa x.guard=true->Region.wanted o (yielded az a.tmps)=dc aa x.guard:=λb0=>by rw[Gg d'.E bv (by rw[Kw av];exact b0)];exact Ga av
 have r:=d'.run;simp only[md,hx,agb]at r;obtain⟨dn,G,hG,Q⟩:=d'.jp;have b3:=mg d'.dP a6;have cf:¬In L eb:=λh=>vI hR d'.dP a6 (d'.vJ hR b3 h);have cn:∀t,T=some t->t.i0≠eb:=λt N ea=>by obtain⟨y,g1,g2,_⟩:=(hR.hT t N).qv;rw[ea,hx]at g1;injection g1 with g1;subst g1;rw[g2]at aw;cases aw
 cases n with
 |zero=>simp only[Go.al.az]at r
 |succ n=>
  have a2:(G.dN c).next=H.next:=by rw[ah.ix,hG.next]
  have b7:∀j∈c,j.am<H.next.am:=λj hj=>by obtain⟨X,B,_,F⟩:=(d'.lS j).1 hj;exact(d'.mR X j B F).1
  simp only[Go.al.az,Fq,aw,Bool.true_or,bf]at r;cases hg:dc aa x.guard with
  |false=>
   rw[hg]at r J;simp only[abe,bD]at r;split at r;case isFalse=>exact r.elim
   rename_i b0;have J:=J b0;refine⟨ρ,w,a.put o.dst undef,n,aK aa x.dst .ahp,H,aK d x.dst .ahp,c,Nat.le_succ n,bQ.refl ρ,cX.refl e w,zM ..,Kz ax J,?_⟩;exact d'.KA hR hx aw O (bQ.refl ρ) (λ_ _ _ _ _=>rfl) (hG.step hR d'.jr b3 cf hx cn hG.next (λj hj=>hG.Ge hj) λ_ _ _ _ _=>⟨rfl,rfl⟩) Q (λj hj=>⟨(d'.di j hj).1,(d'.di j hj).2.2⟩) (λj k hk F=>(d'.mR k j hk F).1) (λ_ _ _ _ _ _ _ _ _=>.inl λ_=>rfl) (by rw[xd];exact d'.E.put (VR.ahp ρ) o.dst) r
  |true=>
   have J:=J (F3 hg);rw[hg]at r J;simp only[bf]at r;generalize cE:zq l (Region.before az) (kI T) seen eb=s at r;have R:=BS aa s H;have S:∀j,j∈fV aa s↔∃k∈seen,(¬ev (Region.before az) eb k\/kI T=some k)/\Mk l aa k j:=λj=>by rw[<-cE];exact Ku
   have a':∀j∈c,j∈fV aa s:=λj hj=>by obtain⟨X,B,W,F⟩:=(d'.lS j).1 hj;exact(S j).2 ⟨X,B,.inl λhA=>W (n9 d'.jr eb O X hA),F⟩
   have b':∀t id,T=some t->t.i0∈seen->aa.get .ahp t.t0=.map id->Mk l aa t.i0 id:=λt id N F he=>by obtain⟨y',k1,k2,_,k4⟩:=(hR.hT t N).qv;exact⟨y',t.t0,k1,by rw[k2];rfl,k4,by rw[he];rfl⟩
   have cp:∀t id,T=some t->t.i0∈seen->aa.get .ahp t.t0=.map id->id∈fV aa s:=λt id N F he=>(S id).2 ⟨t.i0,F,.inr (by rw[N];rfl),b' t id N F he⟩;have ca:∀j,j∉fV aa s->G.get j=H.get j:=λj hj=>hG.bN hR λt N F cR=>hj ((S j).2 ⟨t.i0,F,.inr (by rw[N];rfl),cR⟩);have ag:∀i,(i∈fV aa s/\i∉c)->((G.dN c).get i).vD:=by
    rintro i⟨h1,h2⟩;obtain⟨X,B,W,F⟩:=(S i).1 h1;rw[ju,ap h2];refine hG.vD ?_;by_cases hl:∃t,T=some t/\t.i0=X
    .obtain⟨t,N,rfl⟩:=hl;obtain⟨id,q1,q2,_⟩:=hG.ru t N B;have:i=id:=by obtain⟨y,t',g1,g2,g3,g4⟩:=F;obtain⟨y',k1,_,_,k4⟩:=(hR.hT t N).qv;rw[k1]at g1;injection g1 with g1;subst g1;rw[k4]at g3;injection g3 with g3;subst g3;rw[q1]at g4;injection g4 with g4;exact g4.symm
     rw[this,q2];rfl
    have W:=W.resolve_right λea=>by cases hT:T with|none=>rw[hT]at ea;cases ea|some t=>rw[hT]at ea;injection ea with ea;exact hl ⟨t,hT,ea⟩
    refine d'.kp X i B F λdm ds⟨z,hz,dv⟩hA=>?_;exact W (((og ((zK hR d'.dP).2 dm ds eb a6) hz hx).2.2.2.2 dv).2 X hA)
   have b4:=Q.iz (hl:=λi=>i∈fV aa s/\i∉c) (dd:=λj=>j∈c) ag (λj hj=>⟨by rw[ju,aJ hj],(d'.di j hj).1,by rw[a2];exact b7 j hj,λk hk=>by
    rw[ju]at hk;split at hk;·cases hk
    exact(d'.di j hj).2.2 k (hG.aM hk)⟩) (H2:=(cW aa H s).1) (by rw[(R .xH).2.1,a2]) (λj=>by
    rw[(R j).1,ju];by_cases ea:j∈fV aa s;·rw[aJ ea];exact .inr rfl
    rw[ap ea,ap λh=>ea (a' j h)];exact .inl (ca j ea).symm) (λi hi=>by rw[(R i).1,aJ hi.1]);have aB:∀{v:AV}{H1:ah}{cv:Value}{w':World}{C:aO},bQ ρ C->VR C v cv->bj P (e.iz ρ (λi=>i∈fV aa s/\i∉c) λj=>j∈c) C H1 w'->cX (e.iz ρ (λi=>i∈fV aa s/\i∉c) λj=>j∈c) w w'->Steps P (lone (b.atR a (.inRegion az (eb::is)::k)) cs w) (lone (b.atR (a.put o.dst cv) (.inRegion az is::k)) cs w')->(if du (aK aa x.dst v) (cH H1 (cW aa H s).2) (ia l (Region.before az) seen eb)=true then Go.al.az False cA ac n (md l (Region.before az) (kI T) (eb::seen) rest++oW T) ⟨aK aa x.dst v,br,bw⟩ (cH H1 (cW aa H s).2) K else False)->∃(C:aO)(w':World)(bb:Act)(n':Nat)(env':ak AV)(H':ah)(ay:ak AV)(bd:List af),n'<=n+1/\bQ ρ C/\cX e w w'/\bb.defers=a.defers/\Steps P (lone (b.atR a (.inRegion az (eb::is)::k)) cs w) (lone (b.atR bb (.inRegion az is::k)) cs w')/\Dr P e nt az l aA T ac K br bw f (L.setIfInBounds eb true) (eb::seen) rest n' env' H' ay bd C w' bb.tmps:=by
    intro v H1 cv w' C A hv D hK cD a8;split at a8;case isFalse=>exact a8.elim
    rename_i cx;have Y:∀j,(cH H1 (cW aa H s).2).get j=if j∈fV aa s then H.get j else H1.get j:=λj=>((R j).2.2 H1).1;have a1:(cH H1 (cW aa H s).2).next=H1.next:=((R .xH).2.2 H1).2;generalize cH H1 (cW aa H s).2=H2 at a8 cx Y a1;obtain⟨G2,q1,q2,q3⟩:∃G2:ah,G2.next=H2.next/\(∀j,j∈fV aa s->G2.get j=G.get j)/\∀j,(∀t,T=some t->t.i0∈seen->aa.get .ahp t.t0≠.map j)->G2.get j=H2.get j:=by
     rcases hG.cases with ea|⟨t,id,g1,g2,g3,g4,g5,g6⟩;·exact⟨H2,rfl,λj hj=>by rw[Y,aJ hj,ea],λ_ _=>rfl⟩
     refine⟨H2.set id (G.get id),rfl,λj hj=>?_,λj hj=>?_⟩
     .rw[ah.aC];by_cases ea:j=id;·rw[aJ ea,ea]
      rw[ap ea,Y,aJ hj,g6 j ea]
     rw[ah.aC,ap λea=>hj t g1 g2 (by rw[g3,ea])]
    have dx:fD l T L (aK aa x.dst v) (eb::seen) dn H2 G2:=hG.step hR d'.jr b3 cf hx cn q1 q3 λt id N F he=>by have:=cp t id N F he;exact⟨by rw[Y,aJ this],q2 id this⟩
    obtain⟨u1,u2⟩:=Q.BR ag A D hK (H2:=G2.dN c) (by rw[ah.ix,q1];exact a1) (λi hi=>by rw[ju,ju,ap hi.2,ap hi.2,q2 i hi.1]) (λi hi=>by
     rw[ju];by_cases ea:i∈c;·rw[aJ ea];exact(D.un i (.inr (.inr ea))).1.symm
     have cy:i∉fV aa s:=λh=>hi ⟨h,ea⟩;rw[ap ea,q3 i λt N F he=>cy (cp t i N F he),Y,ap cy]);refine⟨C,w',a.put o.dst cv,n,aK aa x.dst v,H2,aK d x.dst v,c,Nat.le_succ n,A,u2,zM ..,cD,?_⟩;refine d'.KA hR hx aw O (v:=v) A (λj X B W F=>by rw[Y,aJ ((S j).2 ⟨X,B,.inl W,F⟩)]) dx u1 ?_ ?_ ?_ (by rw[xd];exact(d'.E.mono A).put hv o.dst) a8
    .intro j hj;refine⟨(D.di j (.inr hj)).2,λX B=>?_⟩;rw[Y]at B;split at B;·exact(d'.di j hj).2.2 X B
     exact(D.un j (.inr (.inr hj))).2.2 X B
    .intro j X B F;rw[a1];by_cases ea:j∈fV aa s
     .by_cases e':j∈c;·exact(D.un j (.inr (.inr e'))).2.1
      exact(D.un j (.inr (.inl ⟨ea,e'⟩))).2.1
     have hl:ρ j≠none:=((d'.mR X j B F).2).resolve_left λh=>ea (a' j h);rcases afZ j.am H1.next.am with q|q;·exact q
     exfalso;cases hr:ρ j with|none=>exact hl hr|some z=>have:=(D.cS j q).2;rw[(A _ _ hr).1]at this;cases this
    intro i hi W y hy hr dy t N;right;have F:=RC (l:=l) (cB:=Region.before az) (i:=eb) hi hy hr (λhA=>W (n9 d'.jr eb O i hA)) N;obtain⟨H3,h3⟩:=Kv cx _ F dy;exact⟨H3,h3⟩
   split at r
   .rename_i ec args u;have M:bG P nt o=some (.call ec args)/\uX o.op=true:=by
     rw[xo]at u;split at u;·cases u
     rename_i W;rw[u]at W;simp only[bE.uY,ahb,af4,Bool.not_eq_false]at W;refine⟨?_,W⟩;cases hc:bG P nt o with|none=>rw[hc]at u;cases u|some q=>rw[hc]at u;simp only[af5]at u;rw[u]
    obtain⟨cc,g,ho,dz,h1,h2⟩:=Kh M.2 M.1;have Z:=stepGR_op (P:=P) (b:=b) (a:=a) (k:=k) (cs:=cs) (w:=w) (rest:=is) ax J;rw[Oper.semAt_eq _ _ _ (zG M.1)]at Z;have c9:execOp a.eval o=lQ (a.eval g) (cc.args.map a.eval):=by simp only[execOp,ho,resolve,dz,lQ]
    rw[c9]at Z;have hf:gv aa ec=gv d ec:=iy λp hp=>(av p (vG (by rw[u];simp[bE.bO,hp]))).symm;have d0:args.map (gv aa)=args.map (gv d):=zI λp hp=>(av p (vG (by rw[u];simp only[bE.bO,ae8];exact .inr hp))).symm;have cd:aQ ρ (args.map (gv d)) (cc.args.map a.eval).toList:=by rw[Array.toList_map];exact vj d'.E Q h2
    obtain⟨v,H1,dm,w',d4,d5,w1,hK,⟨C,A,hv,D,I⟩,hb,hs⟩:=b6 n (Nat.lt_succ_self n) r (by rw[hf];exact vi h1 d'.E Q) (by rw[d0];exact cd) b4 (b.atR a (.inRegion az (eb::is)::k)) cs (by simp[nZ,Frame.atR]);have c':(b.atR a (.inRegion az (eb::is)::k)).finish dm=b.atR (a.put o.dst dm) (.inRegion az is::k):=by rw[Frame.finish_atR,ax];rfl
    refine aB A hv D I ?_ hK;rw[<-c'];exact .head (step_lone_go (by rw[Z];exact hb)) hs
   .rename_i it u;have V:bG P nt o=some (.jG it):=by
     rw[xo]at u;split at u;·cases u
     cases hc:bG P nt o with|none=>rw[hc]at u;cases u|some q=>rw[hc]at u;simp only[af5]at u;rw[u]
    split at r;·rename_i d3 d6 W;rw[iy (env':=d) (x:=it) λp hp=>(av p (vG (by rw[u];simpa[bE.bO]using hp))).symm]at W;obtain⟨j,d7,hj,d1,cv,w',hr,C,A,hv,D,I⟩:=Kc (cO.mk d'.E b4) V W;have r:=r j hj;simp only[d1]at r;exact aB A hv D I (zL ax V J hr) r
    exact r.elim
   split at r
   .rename_i v H1 d2;have ba:aD x.op d (cW aa H s).1=some (v,H1):=by rw[F7 (λp hp=>av p (vG hp))];exact d2
    have V:=BV bv ba;obtain⟨cv,w',hr,C,A,hv,D,I⟩:=vr (cO.mk d'.E b4) V ba;exact aB A hv D I (zL ax V J hr) r
   exact r.elim
end
section
variable{P:Program}{nt:Nat}{az:Array Oper}{l:List bA}{aA:List Nat}{T:Option jf}
variable{g:bS}{ac:Nat->aX}{K:Fr->ah->Prop}{br:List af}{bw:Option af}{h:ak AV}{L:Array Bool}{seen rest:List Nat}{n:Nat}{aa:ak AV}{H:ah}{f:ak AV}{e:List af}{ρ:aO}{w:World}{tmps:Array Value}
theorem Dr.KB(d:Dr P g nt az l aA T ac K br bw h L seen rest n aa H f e ρ w tmps){j:af}(m:H.get j≠.none):j.am<H.next.am:=by
 rcases afZ j.am H.next.am with q|q;·exact q
 exfalso;obtain⟨dn,G,b,a⟩:=d.jp;have h1:=(a.cS j (by rw[ah.ix,b.next];exact q)).1;rw[ju]at h1;split at h1;·rename_i hj;obtain⟨k,c,_,i⟩:=(d.lS j).1 hj;have:=(d.mR k j c i).1;omega
 exact m ((b.ne j).1 h1)
theorem Dr.KC(hR:gV P nt az l aA T){i:Nat}(d:Dr P g nt az l aA T ac K br bw h L seen (i::rest) n aa H f e ρ w tmps){x:bA}(hx:l[i]?=some x)(av:x.op.fW=false){v:AV}{G:ah}{n':Nat}{pn':List af}(B:∀j,H.get j≠.none->G.get j=H.get j)(a8:H.next.am<=G.next.am)(I:∀j,j∈pn'↔j∈e\/Mk l (aK aa x.dst v) i j)(m:∀j,Mk l (aK aa x.dst v) i j->H.next.am<=j.am/\j.am<G.next.am/\(G.get j).kp/\ρ j=none/\¬g.un j/\∀k,j∉(G.get k).aM){dn:List Lt}{G2:ah}(hG:fD l T L (aK aa x.dst v) (i::seen) dn G G2)(hI:bj P g ρ (G2.dN pn') w)(dV:∀j∈e,∀k,j∉(G.get k).aM)(hp:Gc l (Region.before az) (kI T) (i::seen) h (aK aa x.dst v) G i)(Z:Go.al.az False cA ac n' (md l (Region.before az) (kI T) (i::seen) rest++oW T) ⟨aK aa x.dst v,br,bw⟩ G K):Dr P g nt az l aA T ac K br bw h L (i::seen) rest n' (aK aa x.dst v) G f pn' ρ w tmps:=by
 have O:i∈i::rest:=abL .. ;have R:i∉seen:=vI hR d.dP O;have S:¬In L i:=λba=>R (d.vJ hR (mg d.dP O) ba);have J:∀t,dJ l i t↔x.dst=some t:=λt=>⟨λ⟨y,r,dy⟩=>by rw[hx]at r;injection r with r;subst r;exact dy,λba=>⟨x,hx,ba⟩⟩;have C:∀k t,k∈seen->dJ l k t->x.dst≠some t:=λk t a hd a'=>R (dJ.inj hR.dF (ln d.dP a) (mg d.dP O) hd ((J t).2 a')▸a);have p:∀t,x.dst≠some t->(aK aa x.dst v).get .ahp t=aa.get .ahp t:=λt ba=>by rw[lR,ap ba]
 have o:∀k j,k∈seen->(Mk l (aK aa x.dst v) k j↔Mk l aa k j):=λk j a=>Mk.Gh λt s=>p t (C k t a s);have aw:∀j,Mk l (aK aa x.dst v) i j->H.get j=.none:=λj hj=>by apply afO;intro ax;have:=d.KB ax;have:=(m j hj).1;omega
 refine⟨by rw[<-d.dP];simp,d.size,λj hj=>(d.sub j hj).imp (aco _) id,d.jr,?_,Z,?_,?_,?_,?_,?_,?_,?_,?_,?_,d.E,dn,G2,hG,hI⟩
 .intro j hj hc;rcases acn.1 hj with a'|a';·subst a';obtain⟨y,r,V⟩:=hc;rw[hx]at r;injection r with r;subst r;rw[av]at V;cases V
  exact d.BU j a' hc
 .intro t s;rw[p t λa'=>s i (abL ..) ((J t).2 a')];exact d.pf t λk a=>s k (aco _ a)
 .intro t s;rw[p t λa'=>s i (abL ..) S ((J t).2 a')];exact d.pg t λk a=>s k (aco _ a)
 .intro t k a hn F;rcases acn.1 a with a'|a';·subst a';have W:∀q∈seen,¬dJ l q t:=λq b hd=>C q t b hd ((J t).1 F);rw[d.pg t λq b _=>W q b];exact d.pf t W
  exact d.vH t k a' hn F
 .intro j;rw[I,d.lS];constructor
  .rintro(⟨k,a,h1,h2⟩|ba);·exact⟨k,aco _ a,h1,(o k j a).2 h2⟩
   exact⟨i,abL ..,S,ba⟩
  rintro⟨k,a,h1,h2⟩;rcases acn.1 a with a'|a';·subst a';exact .inr h2
  exact .inl ⟨k,a',h1,(o k j a').1 h2⟩
 .intro k q j a b h1 h2;rcases acn.1 a with a'|a'
  .rcases acn.1 b with A|A;·rw[a',A]
   subst a';have:=(d.mR q j A ((o q j A).1 h2)).1;have:=(m j h1).1;omega
  rcases acn.1 b with A|A;·subst A;have:=(d.mR k j a' ((o k j a').1 h1)).1;have:=(m j h2).1;omega
  exact d.ib k q j a' A ((o k j a').1 h1) ((o q j A).1 h2)
 .intro k j a D;rcases acn.1 a with a'|a';·subst a';exact⟨(m j D).2.1,.inl ((I j).2 (.inr D))⟩
  obtain⟨h1,h2⟩:=d.mR k j a' ((o k j a').1 D);exact⟨ab,h2.imp (λba=>(I j).2 (.inl ba)) id⟩
 .intro k j a D hc;rcases acn.1 a with a'|a';·subst a';exact(m j D).2.2.1
  have r:=d.kp k j a' ((o k j a').1 D) λc ay=>hc c (aco _ ay);rw[B j (tc r).2.2];exact r
 .intro k a hn;rcases acn.1 a with a'|a';·subst a';exact hp
  obtain⟨y,ag,b8,ex,r,hs,h1,h2,z⟩:=d.bP k a' hn;have M:∀t,y.dst=some t->(aK aa x.dst v).get .ahp t=aa.get .ahp t:=λt s=>p t (C k t a' ⟨y,r,s⟩);refine⟨y,i::ag,b8,ex,r,by rw[hs];rfl,?_,h2,?_⟩;·rintro t⟨q,b,F⟩;rw[p t (C q t (by rw[hs];simp[b]) F)];exact h1 t ⟨q,b,F⟩
  rcases z with⟨hg,a1,hv⟩|⟨hg,u,hv,z⟩;·exact .inl ⟨hg,a1,λt s=>by rw[M t s];exact hv t s⟩
  refine .inr ⟨hg,u,λt s=>by rw[M t s];exact hv t s,?_⟩;rcases z with ba|⟨hr,X,Q⟩|⟨D,nv,cI,j0,Y,a2,N,Q⟩;·exact .inl ba
  .refine .inr (.inl ⟨hr,λj hj=>?_,λH' a6=>Q H' λj hj=>by rw[a6 j hj,B j (X j hj).1]⟩);obtain⟨g1,g2⟩:=X j hj;refine⟨by rw[B j g1];exact g1,λq b D=>?_⟩;rcases acn.1 b with A|A;·subst A;exact absurd (aw j D) g1
   exact g2 q A ((o q j A).1 D)
  refine .inr (.inr ⟨D,nv,cI,j0,Y,a2,?_,Q⟩);rw[B j0 (by rw[N];exact(tc Y).2.2)];exact N
 intro j hj;rcases(I j).1 hj with ba|ba;·exact⟨(d.di j ba).1,(d.di j ba).2.1,dV j ba⟩
 exact(m j ba).2.2.2
theorem Dr.Gi(Y:gV P nt az l aA T):∀(rest:List Nat){seen:List Nat}{n:Nat}{aa:ak AV}{H:ah}{e:List af},Dr P g nt az l aA T ac K br bw h L seen rest n aa H f e ρ w tmps->∃(C c:List Nat)(n':Nat)(z:ak AV)(H':ah)(pn':List af),n'<=n/\Dr P g nt az l aA T ac K br bw h L C c n' z H' f pn' ρ w tmps/\∀i r,c=i::r->Ch l i
 |[],seen,n,aa,H,e,d=>⟨seen,[],n,aa,H,e,adv n,d,λi r d3=>by cases d3⟩
 |i::rest,seen,n,aa,H,e,d=>by
  have ax:i∈i::rest:=abL .. ;obtain⟨x,Q,av⟩:=rA Y (mg d.dP ax);cases D:x.op.fW with
  |true=>exact⟨seen,i::rest,n,aa,H,e,adv n,d,λi' r d3=>by injection d3 with d3 _;subst d3;exact⟨x,Q,D⟩⟩
  |false=>
   have a:=d.run;simp only[md,Q,agb]at a;obtain⟨dn,G,hG,N⟩:=d.jp;have ba:=mg d.dP ax;cases n with
   |zero=>simp only[Go.al.az]at a
   |succ n=>
    simp only[Go.al.az,Fq,D,Bool.false_or,abe,bD,du,bf]at a;have go:∀{z:ak AV}{H':ah}{pn':List af},Dr P g nt az l aA T ac K br bw h L (i::seen) rest n z H' f pn' ρ w tmps->∃(C c:List Nat)(n':Nat)(z:ak AV)(H':ah)(pn':List af),n'<=n+1/\Dr P g nt az l aA T ac K br bw h L C c n' z H' f pn' ρ w tmps/\∀i r,c=i::r->Ch l i:=by intro z H' pn' d';obtain⟨s,r,m,d4,d3,p,h1,h2,h3⟩:=Dr.Gi Y rest d';exact⟨s,r,m,d4,d3,p,Nat.le_succ_of_le h1,h2,h3⟩
    have b4:i∉seen:=vI Y d.dP ax;have bb:¬In L i:=λd3=>b4 (d.vJ Y ba d3);have E:(x.op.jK=false\/dc aa x.guard=false)->∀t,T=some t->t.i0≠i:=λd3 t o d4=>by
     obtain⟨y,Z,g2,g3,g4⟩:=(Y.hT t o).qv;rw[d4,Q]at Z;injection Z with Z;subst Z;rcases d3 with d3|d3;·rw[g2]at d3;cases d3
     rw[g3]at d3;cases d3
    have a8:∀k t,k∈seen->dJ l k t->x.dst≠some t:=λk t F hd d4=>b4 (dJ.inj Y.dF (ln d.dP F) (mg d.dP ax) hd ⟨x,Q,d4⟩▸F);have V:∀v t,(∃k∈seen,dJ l k t)->aa.get .ahp t=(aK aa x.dst v).get .ahp t:=by rintro v t⟨k,F,cv⟩;rw[lR,ap (a8 k t F cv)]
    have ag:∀v j,Mk l (aK aa x.dst v) i j->x.op.jK=true/\fA v=some j:=by rintro v j⟨y,t,hy,Z,g2,g3⟩;rw[Q]at hy;injection hy with hy;subst hy;rw[lR,aJ g2]at g3;exact⟨Z,g3⟩
    have O:∀v t,x.dst=some t->(aK aa x.dst v).get .ahp t=v:=λv t o=>by rw[lR,aJ o]
    have R:∀{v:AV}{H2:ah},(∀j,H2.get j=H.get j)->H2.next=H.next->(∀j,¬Mk l (aK aa x.dst v) i j)->x.op.jK=false\/dc aa x.guard=false->Gc l (Region.before az) (kI T) (i::seen) h (aK aa x.dst v) H2 i->Go.al.az False cA ac n (md l (Region.before az) (kI T) (i::seen) rest++oW T) ⟨aK aa x.dst v,br,bw⟩ H2 K->∃(C c:List Nat)(n':Nat)(z:ak AV)(H':ah)(pn':List af),n'<=n+1/\Dr P g nt az l aA T ac K br bw h L C c n' z H' f pn' ρ w tmps/\∀i r,c=i::r->Ch l i:=by intro v H2 h1 h2 h3 h6 h4 h5;refine go (d.KC Y Q D (v:=v) (pn':=e) (λj _=>h1 j) (by rw[h2];exact adv _) (λj=>⟨.inl,λd3=>d3.resolve_right (h3 j)⟩) (λj d3=>absurd d3 (h3 j)) (dn:=dn) (G2:=G) ?_ N (λj hj k=>by rw[h1];exact(d.di j hj).2.2 k) h4 h5);exact hG.step Y d.jr ba bb Q (E h6) (by rw[hG.next,h2]) (λj hj=>by rw[h1];exact hG.Ge hj) λt id o hm he=>⟨h1 id,rfl⟩
    cases hg:dc aa x.guard with
    |false=>
     rw[hg]at a;simp only[abe,bD]at a;split at a;case isFalse=>exact a.elim
     rename_i cx;refine R (v:=.ahp) (λ_=>rfl) rfl (λj d3=>?_) (.inr hg) ?_ a;·have:=(ag _ j d3).2;simp[AV.ahp,fA]at this
     exact⟨x,[],seen,aa,Q,rfl,V _,λt o=>d.pf t o,.inl ⟨hg,cx,λt o=>O _ t o⟩⟩
    |true=>
     rw[hg]at a;simp only[bf]at a;split at a;·rename_i bd;rw[bd]at D;simp[bE.fW]at D
     .rename_i bd;rw[bd]at D;simp[bE.fW]at D
     split at a;case h_2=>exact a.elim
     rename_i v H1 I;cases hrd:x.op.ia with
     |true=>
      rw[hrd]at I a;simp only[bf]at I a;generalize ca:zq l (Region.before az) (kI T) seen i=W at I a;have J:=BS aa W H;have cd:∀j,j∈fV aa W↔∃k∈seen,(¬ev (Region.before az) i k\/kI T=some k)/\Mk l aa k j:=λj=>by rw[<-ca];exact Ku
      obtain⟨q1,q2,q3⟩:=Ko hrd I;subst q1;have bv:∀j,(cH (cW aa H W).1 (cW aa H W).2).get j=H.get j:=λj=>by rw[((J j).2.2 _).1,(J j).1];split<;>rfl
      refine R (v:=v) bv (by rw[((J .xH).2.2 _).2,(J .xH).2.1]) (λj d3=>?_) (.inl (qq hrd).2.1) ?_ a;·have:=(ag _ j d3).1;rw[(qq hrd).2.1]at this;cases this
      refine⟨x,[],seen,aa,Q,rfl,V _,λt o=>d.pf t o,.inr ⟨hg,v,λt o=>O _ t o,.inr (.inl ⟨hrd,λj hj=>?_,λH' cy=>q3 H' λj hj=>?_⟩)⟩⟩
      .have E:=q2 j hj;have ay:j∉fV aa W:=λd3=>E (by rw[(J j).1,aJ d3]);rw[(J j).1,ap ay]at E;refine⟨by rw[bv];exact E,λk F hm=>?_⟩;rcases acn.1 F with d4|d4;·subst d4;have:=(ag _ j hm).1;rw[(qq hrd).2.1]at this;cases this
       apply afO;intro hA;exact ay ((cd j).2 ⟨k,d4,by
        by_cases hq:ev (Region.before az) i k;·exact .inr (afO λq=>hA ⟨hq,q⟩)
        exact .inl hq,(Mk.Gh λt o=>by rw[lR,ap (a8 k t d4 o)]).1 hm⟩)
      have E:=q2 j hj;have ay:j∉fV aa W:=λd3=>E (by rw[(J j).1,aJ d3]);rw[cy j hj,bv,(J j).1,ap ay]
     |false=>
      rw[hrd]at I a;simp only[abe,bD,cW,cH]at I a;cases A:x.op.jK with
      |false=>
       have cE:x.op.plain=true:=by
        simp only[pX,D,Bool.false_or,A,hrd,Bool.false_and,Bool.or_self,agd]at av;rcases av with d3|d3;·exact d3
        split at d3<;>cases d3
       obtain⟨q1,q2⟩:=Ro cE I;subst q1;refine R (v:=v) (λ_=>rfl) rfl (λj d3=>?_) (.inl A) ?_ a;·have:=(ag _ j d3).1;rw[A]at this;cases this
       exact⟨x,[],seen,aa,Q,rfl,V _,λt o=>d.pf t o,.inr ⟨hg,v,λt o=>O _ t o,.inl ⟨A,q2⟩⟩⟩
      |true=>
       obtain⟨nv,cI,rfl,rfl,hy,a'⟩:=Rp A I;obtain⟨f1,f2,f3⟩:=tc hy;have M:∀j,(H.new cI).get j=if j=H.next then cI else H.get j:=λj=>ah.cz _ _ _;have dz:(H.new cI).next.am=H.next.am+1:=af.eI _;have b0:H.get H.next=.none:=afO λd3=>by have:=d.KB d3;omega
       have aw:∀j,Mk l (aK aa x.dst (nv.of H.next)) i j->j=H.next:=λj d3=>by have:=(ag _ j d3).2;rw[jM.name]at this;injection this with this;exact this.symm
       have cR:Mk l (aK aa x.dst (nv.of H.next)) i H.next:=by cases hd:x.dst with|some t=>exact⟨x,t,Q,A,hd,by rw[<-hd,O _ t hd];exact jM.name nv _⟩|none=>simp[pX,hd,D,(vF A).2.2]at av
       have cf:∀k,H.next∉((H.new cI).get k).aM:=λk F=>by
        rw[M]at F;by_cases d4:k=H.next;·rw[aJ d4,f2]at F;cases F
        rw[ap d4]at F;by_cases e':k∈e
        .obtain⟨k',c9,hn,hm⟩:=(d.lS k).1 e';have:=d.bP k' c9 hn;obtain⟨y,_,_,ex,c',_,_,_,S⟩:=this;obtain⟨y',t,a1,m1,m2,m3⟩:=hm;rw[c']at a1;injection a1 with a1;subst a1;rcases S with⟨_,_,hv⟩|⟨_,u,hv,S⟩;·rw[hv t m2]at m3;simp[AV.ahp,fA]at m3
         rcases S with⟨hm,_⟩|⟨hr,_⟩|⟨_,d0,dy,j0,dm,dr,cn,_⟩;·rw[m1]at hm;cases hm
         .rw[(vF m1).2.1]at hr;cases hr
         rw[hv t m2,dr,jM.name]at m3;injection m3 with m3;subst m3;rw[cn,(tc dm).2.1]at F;cases F
        have:=(N.aM H.next k (by rw[ju,ap e'];exact hG.Gf F)).1;rw[ah.ix,hG.next]at this;omega
       have a2:∀j,(G.new cI).get j=if j=H.next then cI else G.get j:=λj=>by rw[ah.cz,hG.next]
       have b6:(G.new cI).next=(H.new cI).next:=by show G.next.succ=H.next.succ;rw[hG.next]
       have b7:∀j,G.get j=H.get j->(G.new cI).get j=(H.new cI).get j:=λj d4=>by rw[a2,M,d4]
       have cp:fD l T L (aK aa x.dst (nv.of H.next)) (i::seen) dn (H.new cI) (G.new cI):=by
        by_cases h0:∃t,T=some t/\t.i0=i
        .obtain⟨t,o,b3⟩:=h0;have hd:=hG.nil Y d.jr o (by rw[b3];exact bb);obtain⟨y,Z,g2,g3,g4⟩:=(Y.hT t o).qv;rw[b3,Q]at Z;injection Z with Z;subst Z;have he:=a' H;rw[g2]at he;simp only[aD,aaM,abS]at he;obtain⟨ds,dv⟩:=he;have b':cI=.map [] 0:=by have:=congrArg (λX:ah=>X.get H.next) dv;simp only[ah.cz,bf]at this;exact this.symm
         refine⟨b6,hG.nd,hG.none,hG.mem,λhf=>absurd (b3▸abL ..) (hf t o),λt' a6 _=>?_⟩;rw[o]at a6;injection a6 with a6;subst a6;exact⟨H.next,by rw[lR,aJ g4,ds],by rw[M,aJ rfl,b'],.inr ⟨hd,by rw[a2,aJ rfl,b']⟩,λj _=>b7 j (hG.Gd hd j)⟩
        refine hG.step Y d.jr ba bb Q (λt o d4=>h0 ⟨t,o,d4⟩) b6 (λj hj=>b7 j (hG.Ge hj)) λt id o hm he=>?_;have E:id≠H.next:=λd4=>by obtain⟨d1,q1,q2,_⟩:=hG.ru t o hm;rw[q1]at he;injection he with he;rw[he,d4,b0]at q2;cases q2
        exact⟨by rw[M,ap E],by rw[a2,ap E]⟩
       refine go (d.KC Y Q D (v:=nv.of H.next) (pn':=H.next::e) (hG:=cp) (λj hj=>by rw[M,ap (λd4:j=H.next=>hj (by rw[d4];exact b0))]) ab (λj=>?_) (λj d3=>?_) ?_ (λj hj k F=>?_) ?_ a);·rw[acn];exact⟨λd3=>d3.elim (λd4=>.inr (d4▸cR)) .inl,λd3=>d3.elim .inr λd3=>.inl (aw j d3)⟩
       .rw[aw j d3];refine⟨adv _,ab,by rw[M,aJ rfl];exact hy,(N.cS H.next (by rw[ah.ix,hG.next];exact adv _)).2,λhu=>?_,cf⟩;have:=(N.un H.next hu).2.1;rw[ah.ix,hG.next]at this;omega
       .have h0:=N;have B:∀j,((G.new cI).dN (H.next::e)).get j=(G.dN e).get j:=λj=>by
         rw[ju,ju,a2];by_cases d4:j=H.next
         .subst d4;rw[aJ (abL ..)];split;·rfl
          exact((hG.ne _).2 b0).symm
         by_cases e':j∈e;·rw[aJ (aco _ e'),aJ e']
         rw[ap (by simp[d4,e']),ap d4,ap e']
        have d2:((G.new cI).dN (H.next::e)).next.am=(G.dN e).next.am+1:=by rw[ah.ix,ah.ix];exact af.eI _
        exact⟨λi hi=>by rw[B]at hi⊢;exact h0.cI i hi,λi j b x y dx hi hj=>by rw[B]at hi hj;rw[B,B];exact h0.jh i j b x y dx hi hj,λi j hi=>by rw[B]at hi⊢;exact⟨by have:=(h0.aM i j hi).1;omega,(h0.aM i j hi).2⟩,λi b x hi hf=>by rw[B]at hi hf;exact h0.wr i b x hi hf,λi hi=>by rw[B];exact h0.cS i ab,h0.new,h0.jV,λi b x ob hi=>by rw[B]at hi⊢;exact h0.iw i b x ob hi,h0.dO,λi b x hi=>by rw[B]at hi;exact h0.rd i b x hi,λi hi=>by rw[B];exact⟨(h0.un i hi).1,by have:=(h0.un i hi).2.1;omega,λj=>by rw[B];exact(h0.un i hi).2.2 j⟩,h0.di⟩
       .rw[M]at F;split at F;·rw[f2]at F;cases F
        exact(d.di j hj).2.2 k F
       exact⟨x,[],seen,aa,Q,rfl,V _,λt o=>d.pf t o,.inr ⟨hg,_,λt o=>O _ t o,.inr (.inr ⟨A,nv,cI,H.next,hy,rfl,by rw[M,aJ rfl],a'⟩)⟩⟩
theorem BT.inj{cB:Array Nat}{t:jf}(p:BT l cB aA t){m a:Lt}(hu:m∈t.us)(d:a∈t.us)(o:a.u=m.u):a=m:=by obtain⟨x,h1,_,_,h2,_⟩:=p.op m hu;obtain⟨y,b,_,_,i,_⟩:=p.op a d;rw[o,h1]at b;injection b with b;subst b;rw[h2]at i;injection i with j _ c k;injection c with c;cases m;cases a;simp only at o j c k;rw[o,j,c,k]
theorem Dr.RI(hR:gV P nt az l aA T)(cv:Dr P g nt az l aA T ac K br bw h L seen rest n aa H f e ρ w tmps){cy:jf}(C:T=some cy){cn:Lt}(hu:cn∈cy.us)(hi:¬In L cn.u)(M:∀j,iU az cn.u j->In L j){b:Frame}{a:Act}(ha:a.tmps=tmps)(is:List Nat)(k:List Item)(cs:List Frame):∃(I:aO)(w':World),bQ ρ I/\cX g w w'/\Steps P (lone (b.atR a (.inRegion az (cn.u::is)::k)) cs w) (lone (b.atR a (.inRegion az is::k)) cs w')/\Dr P g nt az l aA T ac K br bw h (L.setIfInBounds cn.u true) seen rest n aa H f e I w' tmps:=by
 subst ha;have hT:=hR.hT cy C;obtain⟨x,hx,ba,xg,bv,av⟩:=hT.op cn hu;obtain⟨o,S,V⟩:=hR.op hx;obtain⟨xd,_⟩:=vB V;obtain⟨dn,G,D,N⟩:=cv.jp;have b0:cn.u<az.size:=by
  rcases afZ cn.u az.size with q|q;·exact q
  rw[afU q]at S;cases S
 have O:=n9 cv.jr cn.u M;obtain⟨x0,g1,g2,g3,g4⟩:=hT.qv;have aw:In L cy.i0:=O _ (hT.cB cn hu cy.i0 hT.i0 cy.t0 ⟨x0,g1,g4⟩ (abL ..));have W:cy.i0∈seen:=cv.vJ hR hT.i0 aw;obtain⟨id,e1,e2,e3,e4⟩:=D.ru cy C W;have ax:∀p∈cy.t0::cn.v.bO,f.get .ahp p=aa.get .ahp p:=λp hp=>cv.pg p λi dB F b3=>F (O i (hT.cB cn hu i (ln cv.dP dB) p b3 hp));have A:id∉e:=λcx=>by obtain⟨k',X,F,hm⟩:=(cv.lS id).1 cx;have:k'=cy.i0:=cv.ib k' cy.i0 id X W hm ⟨x0,cy.t0,g1,by rw[g2];rfl,g4,by rw[e1];rfl⟩;exact F (this▸aw)
 have Q:cn∉dn:=λcx=>hi ((D.mem cy C cn).1 cx).2;have ay:(G.dN e).get id=G.get id:=by rw[ju,ap A]
 have Y:bj P g ρ ((G.dN e).set id (.co (jq aa dn))) w:=by
  rcases e3 with⟨_,e3⟩|⟨hd,e3⟩
  .refine N.congr rfl λj=>?_;rw[ah.aC];by_cases cp:j=id;·rw[aJ cp,cp,ay,e3]
   rw[ap cp]
  rw[hd];exact zF N (esx:=[]) (es':=[]) (by rw[ay,e3]) (ahe _) rfl
 have Z:dL cn.d cn.k (jq aa dn)=some none:=by
  have:∀ds:List Lt,(∀w∈ds,w∈dn)->dL.go cn.d cn.k (jq aa ds)=some none:=by intro ds;induction ds with|nil=>intro _;rfl|cons w ds ih=>intro hw;have a1:=hw w (abL ..);have h1:=(D.mem cy C w).1 a1;have h2:=(hT.key cn hu w h1.1).resolve_left λcp=>Q (hT.inj hu h1.1 cp▸a1);show dL.go cn.d cn.k (⟨w.k,gv aa w.v,0⟩::jq aa ds)=some none;simp only[dL.go,h2,ih λq hq=>hw q (aco _ hq)]
  simp only[dL,av,bf];exact this dn λ_ cx=>cx
 have b4:gG cn.d cn.k=true:=by revert av;cases cn.d<;>simp[lH,gG]
 have b6:gv f cn.v=gv aa cn.v:=iy λp hp=>ax p (aco _ hp);have b7:f.get .ahp cy.t0=.map id:=by rw[ax _ (abL ..),e1]
 generalize a2:(G.dN e).set id (.co (jq aa dn))=H0 at Y;have J:∀j,H0.get j=if j=id then .co (jq aa dn)else if j∈e then .none else G.get j:=λj=>by rw[<-a2,ah.aC,ju]
 have a6:H0.next=H.next:=by rw[<-a2,ah.d8,ah.ix,D.next]
 have bb:jq aa dn++[⟨cn.k,gv aa cn.v,0⟩]=jq aa (dn++[cn]):=by simp[jq]
 have a8:aD x.op f H0=some (.ahp,H0.set id (.co (jq aa (dn++[cn])))):=by have h1:gv f (.t cy.t0)=.map id:=b7;have h2:gv f (.c cn.k)=cn.k:=rfl;rw[bv];simp only[aD,h1,h2,b4,afP,abe,bD,J id,bf,Z,b6,bb]
 have ag:∀j∈e,j.am<H.next.am:=λj hj=>by obtain⟨k',X,_,hm⟩:=(cv.lS j).1 hj;exact(cv.mR k' j X hm).1
 have b':=Y.iz (hl:=λ_=>False) (dd:=λj=>j∈e) (λ_ cx=>cx.elim) (λj hj=>⟨by rw[J,ap λcp:j=id=>A (cp▸hj),aJ hj],(cv.di j hj).1,by rw[a6];exact ag j hj,λk r=>by
  rw[J]at r;split at r;·cases r
  split at r;·cases r
  exact(cv.di j hj).2.2 k (D.aM r)⟩) rfl (λ_=>.inl rfl) (λ_ cx=>cx.elim);have R:=BV V a8;obtain⟨cE,w',bd,I,B,cf,a',hK⟩:=vr (cO.mk cv.E b') R a8;obtain⟨u1,u2⟩:=Y.BR (hl:=λ_=>False) (λ_ cx=>cx.elim) B a' hK (H2:=H0.set id (.co (jq aa (dn++[cn])))) rfl (λ_ cx=>cx.elim) (λ_ _=>rfl);have ca:o.dst=none:=by rw[ba]at xd;cases cx:o.dst with|none=>rfl|some q=>rw[cx]at xd;cases xd
 have cD:=zL (is:=is) (b:=b) (k:=k) (cs:=cs) S R (by rw[Gg cv.E V (by rw[xg];rfl),xg];rfl) bd;rw[ca]at cD;have s:∀j,In (L.setIfInBounds cn.u true) j↔j=cn.u\/In L j:=vE (by rw[cv.size];exact b0);have cd:∀i∈seen,i≠cn.u:=λi dB cp=>hT.da cn hu (cp▸ln cv.dP dB);have y:∀i∈seen,(In (L.setIfInBounds cn.u true) i↔In L i):=λi dB=>⟨λcx=>((s i).1 cx).resolve_left (cd i dB),λcx=>(s i).2 (.inr cx)⟩;refine⟨I,w',B,u2,cD,cv.dP,by rw[Array.size_setIfInBounds];exact cv.size,?_,?_,λk r hc=>(s k).2 (.inr (cv.BU k r hc)),cv.run,cv.pf,λt' cx=>cv.pg t' λi dB F=>cx i dB λq=>F ((y i dB).1 q),λt' i dB F=>cv.vH t' i dB λq=>F ((y i dB).2 q),?_,cv.ib,?_,cv.kp,λi dB F=>cv.bP i dB λq=>F ((y i dB).2 q),λj hj=>⟨(a'.di j (.inr hj)).2,(cv.di j hj).2⟩,cv.E.mono B,dn++[cn],G.set id (.co (jq aa (dn++[cn]))),?_,?_⟩
 .intro j hj;rcases(s j).1 hj with cp|cp;·exact .inr ⟨cy,C,cn,hu,cp.symm⟩
  exact cv.sub j cp
 .intro j hj k r;rcases(s j).1 hj with cp|cp;·rw[cp]at r;exact(s k).2 (.inr (M k r))
  exact(s k).2 (.inr (cv.jr j cp k r))
 .intro j;rw[cv.lS];exact⟨λ⟨k,r,h1,h2⟩=>⟨k,r,λq=>h1 ((y k r).1 q),h2⟩,λ⟨k,r,h1,h2⟩=>⟨k,r,λq=>h1 ((y k r).2 q),h2⟩⟩
 .intro i j dB hm;obtain⟨h1,h2⟩:=cv.mR i j dB hm;refine⟨h1,h2.imp (λq=>q) λcx cp=>?_⟩;cases hr:ρ j with|none=>exact cx hr|some z=>rw[(B _ _ hr).1]at cp;cases cp
 .refine⟨D.next,afY.2 ⟨D.nd,aF,λp hp q hq cp=>Q (by rw[<-abx.1 hq,<-cp];exact hp)⟩,λcp=>(by rw[C]at cp;cases cp),λt' m u'=>?_,λhf=>absurd W (hf cy C),λt' m _=>?_⟩
  .rw[C]at m;injection m with m;subst m;rw[ae8,abx,D.mem cy C u',s];constructor
   .rintro(⟨h1,h2⟩|rfl);·exact⟨h1,.inr h2⟩
    exact⟨hu,.inl rfl⟩
   rintro⟨h1,h2|h2⟩;·exact .inr (hT.inj hu h1 h2)
   exact .inl ⟨h1,h2⟩
  rw[C]at m;injection m with m;subst m;exact⟨id,e1,e2,.inl ⟨aF,by rw[ah.aC,aJ rfl]⟩,λj hj=>by rw[ah.aC,ap hj];exact e4 j hj⟩
 refine u1.congr (by rw[ah.ix,ah.d8,ah.d8,a6,D.next]) λj=>?_;rw[ju,ah.aC,ah.aC,J];by_cases cp:j=id;·rw[aJ cp,aJ cp,cp,ap A]
 rw[ap cp,ap cp,ap cp]
end
section
variable{P:Program}
theorem RK{d:bS}{e:aO}{w:World}{G:ah}(h:bj P d e G w){id:af}{es b:List aT}(c:G.get id=.co es)(f:es.Perm b):bj P d e (G.set id (.co b)) w:=by refine h.FO (by rw[c];simp) (by rw[c];rfl) (by rw[c];rfl) rfl ?_;intro x g a;rw[c]at a;cases g<;>simp only[OR]at a⊢;obtain⟨rfl,dF,l,h1,h2⟩:=a;obtain⟨i,p1,p2⟩:=bV.zE f h2;exact⟨⟨by trivial,dF,i,p1.trans h1,p2⟩,λq=>by simp[dI]⟩
theorem BW{t0:af}{b:Nat}{x:bA}{r:Lt}(h:zp t0 b x=some r):r.u=b/\x.dst=none/\x.guard=none/\x.op=.iP r.d (.t t0) (.c r.k) r.v/\lH r.d=true:=by
 unfold zp at h;split at h
 .split at h;·rename_i a;injection h with h;subst h;rw[a.1];exact⟨rfl,rfl,rfl,rfl,a.2⟩
  cases h
 cases h
theorem RL{l:List bA}{cB:Array Nat}{aA:List Nat}{t:jf}(h:Fp l=some t)(r:t.ok l cB aA=true):BT l cB aA t:=by
 unfold Fp at h;rw[adN]at h;obtain⟨⟨i0,t0⟩,_,rfl⟩:=h;simp only[jf.ok,ae9,agn]at r;obtain⟨⟨y,d⟩,f⟩:=r;have BX:∀C∈l.zipIdx.filterMap (λp=>zp t0 p.2 p.1),∃x,l[C.u]?=some x/\zp t0 C.u x=some C:=λC hu=>by rw[List.mem_filterMap]at hu;obtain⟨⟨x,i⟩,g,h1⟩:=hu;rw[List.mem_zipIdx_iff_getElem?]at g;have:=(BW h1).1;simp only at this g h1;rw[this];exact⟨x,g,by rw[<-this]at h1⊢;exact h1⟩
 refine⟨by simpa using y,?_,?_,λC hu=>?_,λC hu=>?_,λC hu k j s m n=>?_,λC hu w z=>?_⟩
 .split at d
  .rename_i x c;simp only[Option.any_eq_true]at d;obtain⟨⟨i,s⟩,h1,h2⟩:=d;unfold Fm at h1;split at h1;·rename_i B re hd;injection h1 with h1;injection h1 with _ h1;subst h1;exact⟨_,c,rfl,rfl,by simpa using h2⟩
   cases h1
  cases d
 .rw[List.Nodup,List.pairwise_filterMap];refine List.Pairwise.imp_of_mem ?_ (List.pairwise_map.1 (by rw[List.zipIdx_map_snd];exact List.nodup_range'));rintro a b _ _ o C hu D A e;exact o (by rw[<-(BW hu).1,<-(BW A).1,e])
 .have:=f C hu;simpa using this.1.1
 .obtain⟨x,c,h1⟩:=BX C hu;obtain⟨_,h2⟩:=BW h1;exact⟨x,c,h2⟩
 .have:=f C hu;have:=this.1.2 k j;obtain⟨x,c,hd⟩:=m;rw[c]at this;simp only[hd,agd,af4]at this;rcases this with h|h
  .have:(t0::C.v.bO).contains s=true:=by simpa using n
   rw[this]at h;cases h
  exact h
 have:=f C hu;have:=this.2 w z;simp only[agd,beq_iff_eq]at this;refine this.imp (λq=>q) λh=>?_;split at h;·rename_i b hb;rw[hb];simpa using h
 cases h
theorem RM{nt:Nat}{az:Array Oper}{l:List bA}{aA:List Nat}{T:Option jf}(D:gV P nt az l aA T){M:bS}{ac:Nat->aX}{K:Fr->ah->Prop}{br:List af}{bw:Option af}{O:ak AV}{b:Frame}(cn:List Item)(cs:List Frame):∀(f cd:Nat){L:Array Bool}{seen g:List Nat}{n:Nat}{aa:ak AV}{H:ah}{A:ak AV}{Q:List af}{B:aO}{w:World}{a:Act},(∀m,m<n->pc P ac m)->tf L az.size<=f->Dr P M nt az l aA T ac K br bw O L seen g n aa H A Q B w a.tmps->ig B br a.defers->lg B bw b.roundOf->(∀i r,g=i::r->Ch l i)->gk P M B nt w b cn cs (lone (b.atR a (.inRegion az (Region.linearise.go .any az f cd L [])::cn)) cs w) λj fr H=>(match j with|.none=>True|_=>False)/\K fr H:=by
 have aB:∀{L:Array Bool}{seen g:List Nat}{n:Nat}{aa:ak AV}{H:ah}{A:ak AV}{Q:List af}{B:aO}{w:World}{a:Act},(∀i,i<az.size->In L i)->Dr P M nt az l aA T ac K br bw O L seen g n aa H A Q B w a.tmps->ig B br a.defers->lg B bw b.roundOf->gk P M B nt w b cn cs (lone (b.atR a (.inRegion az []::cn)) cs w) λj fr H=>(match j with|.none=>True|_=>False)/\K fr H:=by
  intro L seen g n aa H A Q B w a eJ d F N;obtain⟨dn,G,Z,C⟩:=d.jp;have J:∀i∈aA,i<az.size:=λi hi=>by
   obtain⟨x,hx,_⟩:=rA D hi;obtain⟨o,ho,_⟩:=D.op hx;rcases afZ i az.size with q|q;·exact q
   rw[afU q]at ho;cases ho
  have X:g=[]:=by cases g with|nil=>rfl|cons i r=>have hi:i∈i::r:=abL .. ;exact absurd (d.vJ D (mg d.dP hi) (eJ i (J i (mg d.dP hi)))) (vI D d.dP hi)
  subst X;have ag:∀i∈seen,In L i:=λi hi=>eJ i (J i (ln d.dP hi));have a8:Q=[]:=List.eq_nil_iff_forall_not_mem.2 λj hj=>by obtain⟨i,hi,h1,_⟩:=(d.lS j).1 hj;exact h1 (ag i hi)
  subst a8;have s:=d.run;simp only[md,agq]at s;have hE:gj B nt aa a.tmps:=⟨d.E.1,λcd ht=>by rw[<-d.pg _ λi hi hn=>absurd (ag i hi) hn];exact d.E.2 cd ht⟩;have C:bj P M B G w:=C;have key:∃H',bj P M B H' w/\K ⟨aa,br,bw⟩ H':=by
   cases n with
   |zero=>simp only[Go.al.az]at s
   |succ n=>
    cases hT:T with
    |none=>rw[hT]at s;simp only[oW,Go.al.az]at s;exact⟨H,C.congr Z.next.symm λj=>(Z.rr (λcd e=>by rw[hT]at e;cases e) j).symm,s⟩
    |some cd=>
     rw[hT]at s;have ht:=D.hT cd hT;simp only[oW,Go.al.az,dc,bf,cW]at s;split at s;case h_2=>exact s.elim
     rename_i cp H1 av;simp only[cH,du,bf,aK]at s;have hs:cd.i0∈seen:=by have:=ht.i0;rw[<-d.dP,agk,ag3]at this;exact this
     obtain⟨id,e1,e2,S,e4⟩:=Z.ru cd hT hs;have hm:gv aa (.t cd.t0)=.map id:=e1;simp only[aD,hm,e2,aaM,abS,ag1]at av;obtain⟨_,rfl⟩:=av;have Y:dn.Perm cd.us:=(agD Z.nd ht.nd).2 λcf=>by
      rw[Z.mem cd hT cf];refine⟨λh=>h.1,λh=>⟨h,eJ _ ?_⟩⟩;obtain⟨x,hx,_⟩:=ht.op cf h;obtain⟨o,ho,_⟩:=D.op hx;rcases afZ cf.u az.size with q|q;·exact q
      rw[afU q]at ho;cases ho
     have gI:(jq aa dn).Perm (cd.us.map ((λp=>(⟨p.1,gv aa p.2,0⟩:aT))∘λcf=>(cf.k,cf.v))):=Y.map _;cases n with
     |zero=>simp only[Go.al.az]at s
     |succ n=>
      simp only[Go.al.az]at s;refine⟨_,?_,s⟩;have a':bj P M B (G.set id (.co (cd.us.map ((λp=>(⟨p.1,gv aa p.2,0⟩:aT))∘λcf=>(cf.k,cf.v))))) w:=by
       rcases S with⟨_,S⟩|⟨hd,S⟩;·exact RK C S gI
       rw[hd]at gI;exact zF C (esx:=[]) (es':=[]) S (by simpa[jq]using gI) rfl
      refine a'.congr Z.next.symm λj=>?_;rw[ah.aC,ah.aC];by_cases e:j=id;·rw[aJ e,aJ e]
      rw[ap e,ap e,e4 j e]
  obtain⟨H',ba,hK⟩:=key;exact .fN (.one stepR_region_end) (.BQ (fr:=⟨aa,br,bw⟩) ⟨hE,F,N⟩ ba ⟨trivial,hK⟩ cn cs)
 intro f;induction f with
 |zero=>intro cd L seen g n aa H A Q B w a z hf d F N hh;simp only[Region.linearise.go,List.reverse_nil];refine aB (λi hi=>?_) d F N;apply afO;intro hn;have:=RA hi hn;omega
 |succ f ih=>
  intro cd L seen g n aa H A Q B w a z hf d F N hh;simp only[Region.linearise.go];change gk P M B nt w b cn cs (lone (b.atR a (.inRegion az (match(Region.ready .any az L)[cd %(Region.ready .any az L).length]? with|some i=>Region.linearise.go .any az f (cd/(Region.ready .any az L).length) (L.setIfInBounds i true) [i]|none=>[].reverse)::cn)) cs w) _;cases hi:(Region.ready .any az L)[cd %(Region.ready .any az L).length]? with
  |none=>
   have a2:Region.ready .any az L=[]:=by cases hr:Region.ready .any az L with|nil=>rfl|cons x xs=>rw[hr]at hi;have J:cd %(x::xs).length<(x::xs).length:=Nat.mod_lt _ aF;simp at hi;simp at J;omega
   simp only[List.reverse_nil];exact aB (Ry d.size D.he a2) d F N
  |some i=>
   simp only[];rw[linearise_go_acc,List.reverse_singleton,List.singleton_append];obtain⟨h1,h2,h3⟩:=Rx d.size (List.mem_of_getElem? hi);have V:tf (L.setIfInBounds i true) az.size<=f:=by have:=Rz d.size h1 h2;omega
   by_cases dB:i∈seen;·obtain⟨aw,w',b',a6,bb,I,g2,g3,g4,g5⟩:=d.RF D dB h2 h3 rfl (b:=b) (a:=a) (Region.linearise.go .any az f (cd/(Region.ready .any az L).length) (L.setIfInBounds i true) []) cn cs;refine .qp I g2 (.fN g4 (ih _ z V g5 (by rw[g3];exact F.mono I) ?_ hh));exact(fC.mono (nt:=nt) (fr:=⟨A,br,bw⟩) (ro:=b.roundOf) (a:=a) I ⟨d.E,F,N⟩).R
   rcases D.eJ i h1 with ax|⟨t',bd,cf,hu,rfl⟩;case inr=>obtain⟨aw,w',I,g2,g4,g5⟩:=d.RI D bd hu h2 h3 rfl (b:=b) (a:=a) (Region.linearise.go .any az f (cd/(Region.ready .any az L).length) (L.setIfInBounds cf.u true) []) cn cs;refine .qp I g2 (.fN g4 (ih _ z V g5 (F.mono I) ?_ hh));exact(fC.mono (nt:=nt) (fr:=⟨A,br,bw⟩) (ro:=b.roundOf) (a:=a) I ⟨d.E,F,N⟩).R
   have W:i∈g:=by rw[<-d.dP,ae8,ag3]at ax;exact ax.resolve_left dB
   cases g with
   |nil=>cases W
   |cons c g=>
    have ay:=hh c g rfl;have bv:i=c:=by
     rcases acn.1 W with e|e;·exact e
     exfalso;obtain⟨x,hx,b0⟩:=ay;obtain⟨y,hy,_⟩:=rA D (mg d.dP W);have a1:=(zJ D.dF).1;rw[<-d.dP,List.pairwise_append,agY]at a1;have hA:=((og (a1.2.1.1 i e) hx hy).2.2.2.2 b0).1;have:=n9 d.jr i h3 c hA;exact vI D d.dP (abL ..) (d.vJ D (mg d.dP (abL ..)) this)
    subst bv;obtain⟨aw,w',b',n',b6,H',a6,bb,g0,I,g2,g3,g4,g5⟩:=d.RH D z ay h3 rfl (b:=b) (a:=a) (Region.linearise.go .any az f (cd/(Region.ready .any az L).length) (L.setIfInBounds i true) []) cn cs;obtain⟨b3,b4,n2,b7,H2,ca,e1,e2,S⟩:=g5.Gi D;refine .qp I g2 (.fN g4 (ih _ (λm hm=>z m ab) V e2 (by rw[g3];exact F.mono I) ?_ S));exact(fC.mono (nt:=nt) (fr:=⟨A,br,bw⟩) (ro:=b.roundOf) (a:=a) I ⟨d.E,F,N⟩).R
theorem RN{ac:Nat->aX}{n:Nat}(o:∀m,m<n->pc P ac m):Ki P ac n:=by
 intro v F H w G fr M id az K b a f he x N k cs;simp only[sU,acC,aaU,afP,abe,bD]at f;obtain⟨l,hl,f⟩:=f;obtain⟨aA,T,I,p,rfl⟩:∃aA T,gV P G az l aA T/\(P.follows .mixedOrders||!Region.departs az)=true/\M=md l (Region.before az) (kI T) [] aA++oW T:=by
  split at f;·rename_i g;simp only[aeO,aaM]at f;simp only[ae9,agn,agK]at g;obtain⟨⟨⟨p,y⟩,s⟩,z⟩:=g;exact⟨_,none,⟨hl,y,λi hi=>.inl (by simpa using s i hi),z,λt e=>by cases e⟩,p,by rw[<-f];simp[kI,oW]⟩
  simp only[aaU]at f;obtain⟨t,A,f⟩:=f;split at f;case isFalse=>cases f
  rename_i g;simp only[aeO,aaM]at f;simp only[ae9]at g;obtain⟨⟨⟨⟨p,y⟩,s⟩,z⟩,O⟩:=g;refine⟨_,some t,⟨hl,y,λi hi=>?_,z,λX e=>by injection e with e;subst e;exact RL A O⟩,p,f.symm⟩;rw[agn]at s;have:=s i (agK.2 hi);simp only[agd,List.contains_iff_mem,List.any_eq_true,beq_iff_eq]at this;exact this.imp (λq=>q) λ⟨ag,h1,h2⟩=>⟨t,rfl,ag,h1,h2⟩
 have c:∀i,¬In (aha az.size false) i:=λi h=>by unfold In at h;simp only[af1,Array.getElem?_replicate]at h;split at h<;>cases h
 let J:World:={w with drawn:=w.drawn+1};have d:Dr P v G az l aA T ac K fr.br fr.bw fr.aa (aha az.size false) [] aA n fr.aa H fr.aa [] F J a.tmps:=⟨rfl,aF,λi h=>absurd h (c i),λi h=>absurd h (c i),λ_ h=>absurd h afy,he,λt _=>rfl,λt _=>rfl,λ_ _ h=>absurd h afy,λj=>⟨λh=>absurd h afy,λ⟨i,h,_⟩=>absurd h afy⟩,λ_ _ _ h=>absurd h afy,λ_ _ h=>absurd h afy,λ_ _ h=>absurd h afy,λ_ h=>absurd h afy,λ_ h=>absurd h afy,x.E,[],H,⟨rfl,ag9,λ_=>rfl,λt _ ag=>⟨λh=>absurd h afy,λh=>absurd h.2 (c ag.u)⟩,λ_ _=>rfl,λt _ h=>absurd h afy⟩,N.drew⟩;obtain⟨B,C,Y,L,Z,W,e1,Q,S⟩:=d.Gi I;have r:Region.schedule (P.follows .mixedOrders) az (w.tape w.drawn (.order b.fn id))=Region.linearise.go .any az az.size (w.tape w.drawn (.order b.fn id)) (aha az.size false) []:=by
  have:(P.follows .mixedOrders||!Region.departs az)=true:=by simpa using p
  simp only[Region.schedule,this,bf];rfl
 have cD:=stepR_region_draw (P:=P) (b:=b) (a:=a) (k:=k) (cs:=cs) (w:=w) (ops:=az) (id:=id);rw[r]at cD;have V:cX v w J:=(cX.refl v w).drew;refine .qp (bQ.refl F) V (.fN (.one cD) ?_);refine RM I k cs az.size _ (λm hm=>o m ab) ?_ Q x.D x.R S;unfold tf;exact agE (List.length_filter_le _ _) aF
theorem vL{ac:Nat->aX}(d:fM P ac):∀n,(∀m,m<=n->pc P ac m)/\vA P ac n/\BP P ac n
 |0=>by
  refine⟨λm f=>?_,?_,?_⟩;·have:m=0:=ab;subst this;intro g h H w o args K fv j he;simp only[dT]at he
  .intro g h H w k fr c cc K b a i he;simp only[exec]at he
  intro g h H w k fr l is az K b a p he;simp only[Go.al.az]at he
 |n+1=>by
  obtain⟨h1,h2,h3⟩:=vL d n;have i:pc P ac (n+1):=Rn d h2;refine⟨λm f=>?_,Rm d h2 h3 (RN λm f=>h1 m ab) (h1 n (adv n)),Rh (h1 n (adv n)) h3⟩;by_cases e:m=n+1;·subst e;exact i
  exact h1 m ab
theorem RP{ac:Nat->aX}(a:fM P ac)(n:Nat):pc P ac n:=(vL a n).1 n (adv n)
end
end
end Go.al
namespace Go.al.K
section
variable{b:Type}
theorem iG(n:Nat)(k:Nat->Prop):dE n k=k n:=by cases n<;>rfl
theorem qy(n:Int)(k:Int->Prop):k7 n k=k n:=by cases n<;>simp only[k7,iG]
theorem vM:∀(p:af)(k:af->Prop),nO p k=k p|.xH,_=>rfl|.xO p,k=>vM p λp=>k (.xO p)|.xI p,k=>vM p λp=>k (.xI p)
theorem Gj:∀(p:af)(k:af->Prop),zg p k=k p.succ|.xH,_=>rfl|.xO _,_=>rfl|.xI p,k=>Gj p λp=>k (.xO p)
theorem fE(a:Bool)(x y:Prop):dk a x y=if a=true then x else y:=by cases a<;>simp[dk]
theorem KD(a:Bool)(k:Bool->Prop):uN a k=k a:=by cases a<;>rfl
theorem BY(d:b):∀p:af,(ak.aG:ak b).get d p=d|.xH=>rfl|.xO p=>BY d p|.xI p=>BY d p
theorem vN(d:b):∀(p:af)(t:ak b)(k:b->Prop),sP d p t k=k (t.get d p)|.xH,.aG,_=>rfl|.xH,.node _ _ _,_=>rfl|.xO p,.aG,k=>by show k d=k ((ak.aG:ak b).get d p);rw[BY]|.xO p,.node l _ _,k=>vN d p l k|.xI p,.aG,k=>by show k d=k ((ak.aG:ak b).get d p);rw[BY]|.xI p,.node _ _ r,k=>vN d p r k
theorem rB(d:b):∀(p:af)(v:b)(t:ak b)(k:ak b->Prop),sQ d p v t k=k (t.set d p v)|.xH,_,.aG,_=>rfl|.xH,_,.node _ _ _,_=>rfl|.xO p,v,.aG,k=>rB d p v .aG λl=>k (.node l d .aG)|.xO p,v,.node l w r,k=>rB d p v l λl=>k (.node l w r)|.xI p,v,.aG,k=>rB d p v .aG λr=>k (.node .aG d r)|.xI p,v,.node l w r,k=>rB d p v r λr=>k (.node l w r)
theorem vO(d:b):∀(t:ak b)(n:Nat)(k:b->Prop),nP d t n k=k (t.bp d n)
 |.aG,n,k=>by cases n<;>rfl
 |.node l v r,0,k=>rfl
 |.node l v r,m+1,k=>by
  show dk (afw (Nat.mod m 2) 0) (nP d l (Nat.div m 2) k) (nP d r (Nat.div m 2) k)=_;rw[fE,vO d l,vO d r];simp only[ak.bp];show(if afw (m % 2) 0=true then k (l.bp d (m/2))else k (r.bp d (m/2)))=_;by_cases h:m % 2=0;·rw[aJ (by rw[h];rfl),aJ h]
  rw[ap (by intro e;exact h (afo e)),ap h]
theorem KE(d x:b)(t:ak b)(k:ak b->Prop):EE d x t k=k (.node t.left x t.right):=by cases t<;>rfl
theorem zN(d:b):∀(f n:Nat)(x:b)(t:ak b)(k:ak b->Prop),sR d f n x t k=k (t.kY d f n x)
 |0,0,x,t,k=>KE d x t k
 |0,n+1,x,t,k=>rfl
 |f+1,0,x,t,k=>KE d x t k
 |f+1,m+1,x,t,k=>by
  show dk (afw (Nat.mod m 2) 0) (lK d (sR d f) (Nat.div m 2) x t k) (rK d (sR d f) (Nat.div m 2) x t k)=_;have hl:lK d (sR d f) (Nat.div m 2) x t k=k (.node (t.left.kY d f (m/2) x) (t.val d) t.right):=by cases t with|aG=>exact zN d f (m/2) x .aG λl=>k (.node l d .aG)|node l w r=>exact zN d f (m/2) x l λl=>k (.node l w r)
  have a:rK d (sR d f) (Nat.div m 2) x t k=k (.node t.left (t.val d) (t.right.kY d f (m/2) x)):=by cases t with|aG=>exact zN d f (m/2) x .aG λr=>k (.node .aG d r)|node l w r=>exact zN d f (m/2) x r λr=>k (.node l w r)
  rw[fE,hl,a];simp only[ak.kY];show(if afw (m % 2) 0=true then _ else _)=_;by_cases h:m % 2=0;·rw[aJ (by rw[h];rfl),aJ h]
  rw[ap (by intro e;exact h (afo e)),ap h]
theorem KF:∀(l:List Nat)(k:List Nat->Prop),Bh l k=k l|[],_=>rfl|n::l,k=>by show dE n (λn=>Bh l λl=>k (n::l))=_;rw[iG,KF l]
def BZ(l:List AV):(List AV->Prop)->Prop:=
 AV.rec_1 (motive_1:=λ_=>(AV->Prop)->Prop) (motive_2:=λ_=>(List AV->Prop)->Prop)
   (λ_ c k=>c λl=>k (.tuple l))
   (λ_ c k=>c λl=>k (.agg l))
   (λi k=>uN i λi=>k (.bool i))
   (λj n k=>dE j λj=>k7 n λn=>k (.int j n))
   (λs k=>Bh s λs=>k (.str s))
   (λid off k=>nO id λid=>dE off λoff=>k (.aE id off))
   (λk=>k .kn)
   (λid off len cap ex k=>nO id λid=>dE off λoff=>dE len λlen=>dE cap λcap=>uN ex λex=>k (.slice id off len cap ex))
   (λk=>k .aH)
   (λid k=>nO id λid=>k (.map id))
   (λk=>k .cC)
   (λf _ _ d e k=>dE f λf=>d λa=>e λi=>k (.func f a i))
   (λid k=>nO id λid=>k (.yield id))
   (λk=>k .nilFunc)
   (λt _ c k=>dE t λt=>c λv=>k (.iface t v))
   (λk=>k .nilIface)
   (λk=>k .b9)
   (λk=>k [])
   (λ_ _ g h k=>g λv=>h λl=>k (v::l)) l
mutual
theorem tg:∀(v:AV)(k:AV->Prop),oU v k=k v
 |.tuple l,k=>zO l λl=>k (.tuple l)
 |.agg l,k=>zO l λl=>k (.agg l)
 |.bool d,k=>KD d λd=>k (.bool d)
 |.int j n,k=>by show dE j (λj=>k7 n λn=>k (.int j n))=_;rw[iG,qy]
 |.str s,k=>KF s λs=>k (.str s)
 |.aE i o,k=>by show nO i (λi=>dE o λo=>k (.aE i o))=_;rw[vM,iG]
 |.kn,_=>rfl
 |.slice i o l c e,k=>by show nO i (λi=>dE o λo=>dE l λl=>dE c λc=>uN e λe=>k (.slice i o l c e))=_;rw[vM,iG,iG,iG,KD]
 |.aH,_=>rfl
 |.map i,k=>vM i λi=>k (.map i)
 |.cC,_=>rfl
 |.func f a d,k=>by show dE f (λf=>BZ a λa=>BZ d λd=>k (.func f a d))=_;rw[iG,zO a,zO d]
 |.yield i,k=>vM i λi=>k (.yield i)
 |.nilFunc,_=>rfl
 |.iface t v,k=>by show dE t (λt=>oU v λv=>k (.iface t v))=_;rw[iG,tg v]
 |.nilIface,_=>rfl
 |.b9,_=>rfl
theorem zO:∀(l:List AV)(k:List AV->Prop),BZ l k=k l
 |[],_=>rfl
 |v::l,k=>by show oU v (λv=>BZ l λl=>k (v::l))=_;rw[tg v,zO l]
end
theorem oh:∀(l:List AV)(k:List AV->Prop),lb l k=k l|[],_=>rfl|v::l,k=>by show oU v (λv=>lb l λl=>k (v::l))=_;rw[tg,oh l]
theorem fH(aa:ak AV)(x:aL)(k:AV->Prop):ep aa x k=k (gv aa x):=by cases x with|t p=>exact vN _ _ _ _|c v=>rfl
theorem KG(aa:ak AV):∀(l:List aL)(k:List AV->Prop),Bi aa l k=k (l.map (gv aa))|[],_=>rfl|x::l,k=>by show ep aa x (λv=>Bi aa l λl=>k (v::l))=_;rw[fH,KG aa l];rfl
theorem zP(a:b)(k:b->Prop):iv (some a) k=k a:=rfl
theorem Gk(H:ah)(i:af)(k:bL->Prop):zh H i k=k (H.get i):=vN _ _ _ _
theorem vP(H:ah)(i:af)(o:bL)(k:ah->Prop):nQ H i o k=k (H.set i o):=rB _ _ _ _ _
theorem rC(H:ah)(o:bL)(k:af->ah->Prop):lJ H o k=k H.next (H.new o):=by show sQ .none H.next o H.t (λa=>zg H.next λm=>k H.next ⟨a,m⟩)=_;rw[rB,Gj];rfl
theorem KH:∀(l:List af)(H:ah)(k:ah->Prop),EF l H k=k (H.dN l)|[],_,_=>rfl|i::l,H,k=>by show nQ H i .none (λH=>EF l H k)=_;rw[vP,KH l];rfl
def RQ(o:bL)(k:ak AV->Nat->Nat->Bool->List af->Nat->Prop):Prop:=
 match o with
 |.cells c n e rw aM fz=>k c n e rw aM fz
 |_=>False
theorem B0(H:ah)(i:af)(k:ak AV->Nat->Nat->Bool->List af->Nat->Prop):sS H i k=RQ (H.get i) k:=by unfold sS;rw[Gk];cases H.get i<;>rfl
theorem Gl(c:ak AV)(n:Nat):∀(m off:Nat)(k:List AV->Prop),Bj c n m off k=iv (eX c n off m) k
 |0,_,_=>rfl
 |m+1,off,k=>by
  show dk (afR off n) (dE off λoff=>nP .ahp c off λv=>Bj c n m (Nat.succ off) λl=>k (v::l)) False=_;rw[fE,iG,vO,Gl c n m];simp only[eX];by_cases h:off<n;·rw[aJ (ahm agh h),aJ h];cases eX c n (off+1) m<;>rfl
  rw[ap (λe=>h (Eq.mp agh e)),ap h];rfl
theorem B3:∀(l:List AV)(c:ak AV)(off:Nat)(k:ak AV->Prop),zi l c off k=k (dY c off l)|[],_,_,_=>rfl|v::l,c,off,k=>by show dE off (λoff=>sR .ahp off off v c λc=>zi l c (Nat.succ off) k)=_;rw[iG,zN,B3 l];rfl
theorem RR(H:ah)(i:af)(off m:Nat)(k:List AV->Prop):Bk H i off m k=iv (dK H i off m) k:=by unfold Bk;rw[B0];unfold dK;cases H.get i<;>first|rfl|exact Gl _ _ _ _ _
theorem mh(a c:Bool):kG a c=(a&&c):=by cases a<;>rfl
theorem zQ:∀l:List AV,uO l=cL l|[]=>rfl|v::l=>by show kG v.dg (uO l)=_;rw[mh,zQ l];rfl
theorem qz:∀l:List b,lf l=l.length|[]=>rfl|_::l=>by show Nat.succ (lf l)=_;rw[qz l];rfl
theorem Gm(H:ah)(i:af)(off:Nat)(l:List AV)(k:ah->Prop):uP H i off l k=iv (fS H i off l) k:=by
 unfold uP;rw[B0];unfold fS;cases H.get i<;>(try rfl);rename_i c n e a aM fz;show EG H i off l k c n e a aM fz=_;unfold EG;rw[fE,KH,B3,vP,mh,mh,mh,qz,zQ];cases a with
 |false=>rfl
 |true=>
  simp only[ahb];have h1:ago fz off=decide (fz<=off):=by
   by_cases h:fz<=off;·rw[decide_eq_true h,af8 h]
   rw[decide_eq_false h];cases hb:ago fz off with|false=>rfl|true=>exact absurd (afx hb) h
  have h2:ago (Nat.add off l.length) n=decide (off+l.length<=n):=by
   by_cases h:off+l.length<=n;·rw[decide_eq_true h];exact af8 h
   rw[decide_eq_false h];cases hb:ago (Nat.add off l.length) n with|false=>rfl|true=>exact absurd (afx hb) h
  rw[h1,h2,Bool.and_assoc];cases(decide (fz<=off)&&(decide (off+l.length<=n)&&cL l))<;>rfl
theorem tk(H:ah)(l:List AV)(n a:Nat)(k:af->ah->Prop):pS H l n a k=k H.next (H.new (.cells (bX l) n a true [] 0)):=by unfold pS;rw[B3,iG,rC];rfl
end
section
def gJ(o:Option (AV×ah))(k:KV):Prop:=
 match o with
 |some p=>k p.1 p.2
 |none=>False
theorem RS(o:bE)(a:je)(aa:ak AV)(H:ah)(k:KV):eB o a aa H k=gJ (aD o aa H) k:=by unfold eB;cases aD o aa H with|none=>rfl|some p=>exact tg p.1 λv=>k v p.2
theorem RT(b bytes size:Nat)(H:ah)(n:Nat)(l:List AV)(k:KV):EH b bytes size H n l k=gJ (if afw n 0 then some (.aH,H)else if dH (n*bytes)&&dH n then some (.slice H.next 0 n n false,H.new (.cells (bX l) (n*size) b true [] 0))else none) k:=by unfold EH;rw[fE,fE,tk,mh];cases afw n 0<;>(try rfl);cases(dH (n*bytes)&&dH n)<;>rfl
theorem KI(b bytes size:Nat)(H:ah)(s:AV)(n:Nat)(l:List AV)(k:KV):zj b bytes size H s n l k=gJ (iR b bytes size H s n l) k:=by
 unfold zj iR;rw[fE,zQ];cases cL l with
 |false=>rfl
 |true=>
  simp only[afP,abe,bD,bf];cases s<;>(try rfl)
  .rename_i id off len cap exact;show EJ b bytes size H n l k id off len cap exact=_;unfold EJ;rw[iG,fE];show(if ago (len+n) cap=true then _ else _)=_;cases f:ago (len+n) cap with
   |true=>simp only[f,bf];unfold I5;rw[fE,iG,Gm];cases afw n 0 with|true=>rfl|false=>simp only[abe,bD];show iv (fS H id (off+len*size) l) _=_;cases fS H id (off+len*size) l<;>rfl
   |false=>simp only[f,abe,bD];rw[fE,mh];show(if(dH ((len+n)*bytes)&&dH (len+n))=true then _ else _)=_;cases(dH ((len+n)*bytes)&&dH (len+n))with|false=>rfl|true=>simp only[bf,afP,abe,bD];rw[B0];cases H.get id<;>(try rfl);rename_i c m e d aM fz;show EI b size H l k id off len cap exact (len+n) c m e d aM fz=_;unfold EI;rw[Gl];show iv (eX c m off (len*size)) _=_;simp only;cases eX c m off (len*size)with|none=>rfl|some cG=>rw[zP,oh,fE,fE,tk];cases exact with|true=>rfl|false=>simp only[abe,bD];unfold I6;rw[fE,vP,B3,iG,iG,rC,mh,mh,mh];show(if afw len cap=true then(if(d&&(afw (off+cap*size) m&&(afw e b&&ago fz m)))=true then _ else False)else False)=gJ (if(d&&afw len cap&&afw (off+cap*size) m&&afw e b&&ago fz m)=true then _ else none) k;cases d<;>cases afw len cap<;>cases afw (off+cap*size) m<;>cases afw e b<;>cases ago fz m<;>rfl
  exact RT b bytes size H n l k
theorem RU(c b:Int)(k:Int->Prop):I8 c b k=k (c+b):=by cases c with|negSucc m=>exact qy (.negSucc m+b) k|ofNat m=>cases b with|negSucc n=>exact qy (.ofNat m+ .negSucc n) k|ofNat n=>exact iG (m+n) λs=>k (.ofNat s)
theorem RV(c b:Int)(k:Int->Prop):I9 c b k=k (c - b):=by
 cases c with
 |negSucc m=>exact qy (.negSucc m - b) k
 |ofNat m=>
  cases b with
  |negSucc n=>exact qy (.ofNat m - .negSucc n) k
  |ofNat n=>
   show dk (ago n m) (dE (Nat.sub m n) λs=>k (.ofNat s)) (k7 (.ofNat m - .ofNat n) k)=_;rw[fE,iG,qy];split;·rename_i h;have:=afx h;congr 1;show((m - n:Nat):Int)=(m:Int) - (n:Int);omega
   rfl
theorem RW(n:Int)(k:Int->Prop):I' n k=k (fG 3 n):=by
 cases n with
 |negSucc m=>exact qy (fG 3 (.negSucc m)) k
 |ofNat m=>
  show dk (afR m 9223372036854775808) (k (.ofNat m)) (k7 (fG 3 (.ofNat m)) k)=_;rw[fE,qy];split;·rename_i h;simp only[fG,h,bf]
  rfl
theorem KJ(j:Nat)(n:Int)(k:Int->Prop):Bm j n k=k (fG j n):=by
 unfold Bm;rw[fE,qy,RW];split;·rename_i h;rw[afo h]
 rfl
theorem KK(c b:Int):EK c b=fU c b:=by cases c<;>cases b<;>rfl
theorem KL(c b:Int):zk c b=jH c b:=by cases c<;>cases b<;>rfl
theorem KM(b:Bool):Bn b=!b:=by cases b<;>rfl
theorem B4(b:Bool)(k:AV->Prop):nR b k=k (.bool b):=by cases b<;>rfl
theorem RX(op:BinOp)(j:Nat)(d b:Int)(k:AV->Prop):EN op j d b k=iv (eR op j d b) k:=by
 have eB:∀c,pT c j d b k=iv (eR c j d b) k:=λc=>by unfold pT;cases eR c j d b with|none=>rfl|some v=>exact tg v k
 cases op;·show EL j d b k=_;unfold EL;rw[RU,KJ];rfl
 .show EM j d b k=_;unfold EM;rw[RV,KJ];rfl
 all_goals first|exact eB _|rfl|(show nR _ k=_;rw[B4,KK];rfl)|(show nR _ k=_;rw[B4,KM,KK];rfl)|(show nR _ k=_;rw[B4,KL];rfl)|(show nR _ k=_;rw[B4,KM,KL];rfl)
theorem RY(op:BinOp)(j:Nat)(x y:AV)(k:AV->Prop):EO op j x y k=iv (sN op j x y) k:=by unfold EO I7 sN;cases x<;>(try rfl);cases y<;>(try rfl);rename_i i c l b;show dk (kG (afw i j) (afw l j)) (EN op j c b k) False=_;rw[fE,mh,RX];simp only;cases(afw i j&&afw l j)<;>rfl
theorem B5(o:Option AV)(H:ah)(k:KV):gJ (o.map λv=>(v,H)) k=iv o λv=>k v H:=by cases o<;>rfl
variable(a:je)(aa:ak AV)(H:ah)(k:KV)
theorem RZ(c d b:aL):EP c d b a aa H k=gJ (aD (.pick c d b) aa H) k:=by unfold EP;rw[fH];simp only[aD];cases gv aa c<;>(try rfl);rename_i t;show dk t (ep aa d λv=>k v H) (ep aa b λv=>k v H)=_;rw[fH,fH];cases t<;>rfl
theorem R0(e:Nat)(x:aL):EQ e x a aa H k=gJ (aD (.box e x) aa H) k:=by unfold EQ;rw[fH,oh,fE,tk,zQ,qz];simp only[aD];cases cL (gv aa x).cells<;>rfl
theorem R2(e:Nat)(b:List AV):ER e b a aa H k=gJ (aD (.alloc e b) aa H) k:=by unfold ER;rw[tk,qz];rfl
theorem R3(e n:Nat)(b:List AV)(c:List (Nat×Nat×aL)):ES e n b c a aa H k=gJ (aD (.buildSlice e n b c) aa H) k:=by unfold ES;simp only[aD];cases kE aa (eo b n) c with|none=>rfl|some l=>rw[zP,oh,fE,tk,zQ,qz];simp only;cases cL l<;>rfl
theorem R4(H:ah)(id:af)(off:Nat):dK H id off 1=(match H.get id with|.cells c n _ _ _ _=>if off<n then some [c.bp .ahp off]else none|_=>none):=by unfold dK;cases H.get id<;>rfl
theorem R5(d:aL):ET d a aa H k=gJ (aD (.bi d) aa H) k:=by
 unfold ET;rw[fH];simp only[aD,B5];unfold Jc qZ gF;cases gv aa d<;>(try rfl);rename_i id off;show sS H id (Jb off λv=>k v H)=_;rw[B0];simp only[R4];cases H.get id<;>(try rfl);rename_i c n e b aM fz;show dk (afR off n) (nP .ahp c off λv=>k v H) False=_;rw[fE,vO];by_cases h:off<n;·rw[aJ (ahm agh h)];simp only[h,bf];rfl
 rw[ap (λe=>h (Eq.mp agh e))];simp only[h,bD];rfl
theorem R6(n:Nat)(b:aL):EU n b a aa H k=gJ (aD (.gR n b) aa H) k:=by unfold EU;rw[fH];simp only[aD,B5];unfold qZ gF;cases gv aa b<;>(try rfl);rename_i id off;show Bk H id off n _=_;rw[RR];simp only;cases dK H id off n<;>rfl
theorem R7(n:Nat)(b x:aL):EV n b x a aa H k=gJ (aD (.store n b x) aa H) k:=by
 unfold EV;rw[fH,fH,oh];unfold Jd qZ;simp only[aD];cases gv aa b<;>(try rfl);rename_i id off;show dk (afw (lf (gv aa x).cells) n) (uP H id off (gv aa x).cells λH=>k .ahp H) False=_;rw[fE,Gm,qz];by_cases h:(gv aa x).cells.length=n;·rw[aJ (by rw[h];exact agB n)];simp only[h,bf];cases fS H id off (gv aa x).cells<;>rfl
 rw[ap (λe=>h (afo e))];simp only[h,bD];rfl
theorem R8(op:BinOp)(j:Nat)(x y:aL):EW op j x y a aa H k=gJ (aD (.arith op j x y) aa H) k:=by unfold EW;rw[fH,fH,RY];simp only[aD,B5]
theorem R9(off:Nat)(x:aL):EX off x a aa H k=gJ (aD (.jd off x) aa H) k:=by unfold EX;rw[fH];unfold qZ;simp only[aD];cases gv aa x<;>(try rfl);exact iG _ _
theorem R'(s:Nat)(x i:aL):EY s x i a aa H k=gJ (aD (.ch s x i) aa H) k:=by unfold EY;rw[fH,fH];unfold Je;simp only[aD];cases gv aa x<;>(try rfl);cases gv aa i<;>(try rfl);rename_i z;cases z<;>(try rfl);rename_i id o len c e b j;show dk (afR j len) (dE (Nat.add o (Nat.mul j s)) λo=>k (.aE id o) H) False=_;rw[fE,iG];show _=gJ (if afR j len=true then _ else _) k;cases afR j len<;>rfl
theorem Sa:EZ a aa H k=gJ (aD .jo aa H) k:=by unfold EZ;rw[rC];rfl
theorem Sb(e b s:Nat)(f:List AV)(x y:aL):E0 e b s f x y a aa H k=gJ (aD (.nI e b s f x y) aa H) k:=by
 unfold E0;rw[fH,fH];simp only[aD];generalize gv aa x=g;generalize gv aa y=h;unfold Jf;split;·rename_i l c;rw[fE,oh,tk,mh,mh,<-Bool.and_assoc];simp only;cases(ago l c&&dH (c*b)&&dH c)<;>rfl
 rename_i d;split;·rename_i l c;exact absurd rfl (d l c rfl)
 rfl
theorem Sc(e:Nat)(x:aL):E1 e x a aa H k=gJ (aD (.sH e x) aa H) k:=by unfold E1;rw[fH];unfold Jg;simp only[aD];cases gv aa x<;>(try rfl);rename_i s;show lb _ _=_;rw[oh,tk,iG];rfl
theorem Sd(e b s:Nat)(d:List AV)(m:Bool)(x y:aL):E2 e b s d m x y a aa H k=gJ (aD (.append e b s d m x y) aa H) k:=by
 unfold E2;rw[fH,fH,fE];simp only[aD];cases m with
 |true=>
  simp only[bf];generalize gv aa y=f;unfold Jh;split;·rename_i n;rw[fE,oh,KI,mh];simp only;cases(dH (n*b)&&dH n)<;>rfl
  rename_i c;split;·rename_i n;exact absurd rfl (c n)
  rfl
 |false=>simp only[abe,bD];cases gh H s (gv aa y)with|none=>rfl|some p=>show dE p.1 (λn=>lb p.2 λl=>zj e b s H (gv aa x) n l k)=_;rw[iG,oh,KI]
theorem Se(s:Nat)(x y:aL):E4 s x y a aa H k=gJ (aD (.copy s x y) aa H) k:=by
 unfold E4;rw[fH,fH];simp only[aD];cases gh H s (gv aa y)with
 |none=>cases gv aa x<;>rfl
 |some p=>
  show E3 s H k (gv aa x) p.1 p.2=_;unfold E3;cases gv aa x<;>(try rfl);rename_i id off len c e;show dE (min p.1 len) _=_;rw[iG,fE,oh,Gm];simp only;by_cases h:min p.1 len=0;·rw[aJ (by rw[h];rfl)];simp only[h,bf];rfl
  rw[ap (λe=>h (afo e))];simp only[h,bD];cases fS H id off (p.2.take (min p.1 len*s))<;>rfl
theorem Sf(x:aL):E5 x a aa H k=gJ (aD (.oQ x) aa H) k:=by unfold E5;rw[fH];unfold Ji;simp only[aD];cases gv aa x<;>(try rfl);show lJ _ _ _=_;rw[rC];rfl
theorem Sg(x:aL):E6 x a aa H k=gJ (aD (.lF x) aa H) k:=by
 unfold E6;rw[fH];unfold Jj;simp only[aD];cases gv aa x<;>(try rfl);·rename_i m;show zh H m _=_;rw[Gk];simp only;cases H.get m<;>(try rfl);show lJ _ _ _=_;rw[rC];rfl
 show lJ _ _ _=_;rw[rC];rfl
theorem KN:∀(l:List AV)(n:Nat)(k:AV->Prop),E7 l n k=iv (kZ l n) k|[],_,_=>rfl|_::_,0,_=>rfl|_::l,n+1,k=>KN l n k
theorem Sh(x:aL)(i:Nat):E8 x i a aa H k=gJ (aD (.extract x i) aa H) k:=by unfold E8;rw[fH];unfold Jl;simp only[aD];cases gv aa x<;>(try rfl);rename_i l;show E7 l i _=_;rw[KN,B5]
theorem Si(x:aL):E9 x a aa H k=gJ (aD (.nilCheck x) aa H) k:=by unfold E9;rw[fH];unfold Jn;simp only[aD];cases gv aa x<;>rfl
theorem Sj(x:aL):E' x a aa H k=gJ (aD (.iQ x) aa H) k:=by unfold E';rw[fH];unfold Jo;simp only[aD];cases gv aa x<;>rfl
theorem Sk(o:bE)(h:o.uY=false)(h2:∀b,o≠.jG b):uQ o a aa H k=gJ (aD o aa H) k:=by
 cases o;case call=>simp[bE.uY]at h
 case jG b=>exact absurd rfl (h2 b)
 case aR x=>exact fH _ _ _
 case pick=>exact RZ a aa H k _ _ _
 case box=>exact R0 a aa H k _ _
 case alloc=>exact R2 a aa H k _ _
 case buildSlice=>exact R3 a aa H k _ _ _ _
 case bi=>exact R5 a aa H k _
 case gR=>exact R6 a aa H k _ _
 case store=>exact R7 a aa H k _ _ _
 case arith=>exact R8 a aa H k _ _ _ _
 case jd=>exact R9 a aa H k _ _
 case ch=>exact R' a aa H k _ _ _
 case jo=>exact Sa a aa H k
 case nI=>exact Sb a aa H k _ _ _ _ _ _
 case sH=>exact Sc a aa H k _ _
 case append=>exact Sd a aa H k _ _ _ _ _ _ _
 case copy=>exact Se a aa H k _ _ _
 case oQ=>exact Sf a aa H k _
 case lF=>exact Sg a aa H k _
 case extract=>exact Sh a aa H k _ _
 case nilCheck=>exact Si a aa H k _
 case iQ=>exact Sj a aa H k _
 all_goals exact RS _ a aa H k
theorem Sn(f:aL)(args:List aL):uQ (.call f args) a aa H k=a.call (gv aa f) (args.map (gv aa)) H k:=by show ep aa f (λf=>Bi aa args λargs=>a.call f args H k)=_;rw[fH,KG]
theorem Sp(b:aL):uQ (.jG b) a aa H k=(match pR H (gv aa b)with
 |some (cs,d)=>cA cs.length λi=>match cs[i]? with|some c=>k (d c).1 (d c).2|none=>False
 |none=>False):=by show ep aa b (λb=>Jk H b k)=_;rw[fH];rfl
end
section
theorem zR(j:bU)(x:Prop)(y:Nat->Prop)(z:Prop):uR j x y z=(match j with|.none=>x|.exit i=>y i|.ret=>z):=by cases j<;>rfl
theorem Sq(v:AV)(t f:Prop):Bo v t f=(match v with|.bool true=>t|.bool false=>f|_=>False):=by unfold Bo;cases v<;>(try rfl);rename_i b;show dk b t f=_;cases b<;>rfl
theorem KO(aa:ak AV)(d:Option af)(v:AV)(k:ak AV->Prop):Bp aa d v k=k (aK aa d v):=by cases d with|none=>rfl|some p=>exact rB _ _ _ _ _
theorem Sr(aa:ak AV)(H:ah)(l:List gE)(x:Prop):Fb aa H l x=if du aa H l=true then x else False:=by cases l with|nil=>simp[Fb,du]|cons a l=>exact fE _ _ _
theorem Ss(aa:ak AV)(g:Option (af×Bool))(x y:Prop):Bq aa g x y=if dc aa g=true then x else if iT aa g=true then y else False:=by cases g with|none=>simp[Bq,dc]|some g=>show dk (dc aa (some g)) x (dk (iT aa (some g)) y False)=_;rw[fE,fE]
theorem KP:∀(l:List AV)(p:af)(t:ak AV)(k:ak AV->Prop),Fc l p t k=k (iS l p t)|[],_,_,_=>rfl|v::l,p,t,k=>by show sQ .ahp p v t (λt=>zg p λp=>Fc l p t k)=_;rw[rB,Gj,KP l];rfl
theorem Gn(aa:ak AV)(H:ah):∀(l:List fR)(k:List AV->Prop),zm aa H l k=iv (ef aa H l) k|[],_=>rfl|.tmp p::l,k=>by show sP .ahp p aa (λv=>zm aa H l λl=>k (v::l))=_;rw[vN,Gn aa H l];simp only[ef];cases ef aa H l<;>rfl|.cell p g n::l,k=>by show sP .ahp p aa (λa=>iv (gF H a n g) λv=>oU v λv=>zm aa H l λl=>k (v::l))=_;rw[vN];simp only[ef];cases gF H (aa.get .ahp p) n g with|none=>rfl|some v=>rw[zP,tg,Gn aa H l];cases ef aa H l<;>rfl
theorem St(l:List AV)(k:AV->Prop):Fe l k=k (fL l):=by match l with|[]=>rfl|[v]=>rfl|v::w::l=>rfl
theorem Su(H:ah)(l:List af)(k:ah->Prop):Ff H l k=iv (gZ H l) k:=by cases l<;>rfl
def Gp(o:bL)(k:LK):Prop:=
 match o with
 |.loop st bP fn aa a as_ b d=>k st bP fn aa a as_ b d
 |_=>False
theorem zS(H:ah)(i:af)(k:LK):pV H i k=Gp (H.get i) k:=by unfold pV;rw[Gk];cases H.get i<;>rfl
variable{ac:ak aX}
structure zT(ac:ak aX)(n:Nat):Prop where
 exec:∀c fr H K,(dq ac n).exec c fr H K=Go.al.exec False cA (ac.bp .none) n c fr H K
 az:∀l fr H K,(dq ac n).az l fr H K=Go.al.az False cA (ac.bp .none) n l fr H K
 call:∀f args H K,(dq ac n).call f args H K=dT False cA (ac.bp .none) n f args H K
theorem KQ{n:Nat}(h:zT ac n)(b:bg)(K:pU):uS (dq ac n) b K=λj fr H=>match j with|.none=>Go.al.exec False cA (ac.bp .none) n b fr H K|j=>K j fr H:=by funext j fr H;unfold uS;rw[zR,h.exec];cases j<;>rfl
theorem Sv{n:Nat}(h:zT ac n)(c:bg)(fr:Fr)(H:ah)(K:pU):(dq ac (n+1)).exec c fr H K=Go.al.exec False cA (ac.bp .none) (n+1) c fr H K:=by
 cases c with
 |skip=>simp only[Go.al.exec];rfl
 |region l=>show(dq ac n).az l fr H (K .none)=_;rw[h.az];simp only[Go.al.exec]
 |seq a b=>show(dq ac n).exec a fr H (uS (dq ac n) b K)=_;rw[h.exec,KQ h];simp only[Go.al.exec];rfl
 |cond c a b=>show ep fr.aa c (λv=>Bo v ((dq ac n).exec a fr H K) ((dq ac n).exec b fr H K))=_;rw[fH,Sq,h.exec,h.exec];simp only[Go.al.exec];rfl
 |block id b=>show(dq ac n).exec b fr H (Fg id K)=_;rw[h.exec];simp only[Go.al.exec];congr 1;funext j fr H;unfold Fg;rw[zR];cases j with|none=>rfl|exit i=>exact fE _ _ _|ret=>rfl
 |loop b=>show(dq ac n).exec b fr H (uS (dq ac n) (.loop b) K)=_;rw[h.exec,KQ h];simp only[Go.al.exec];rfl
 |rangeFunc f e as_ k=>
  have go:∀(fr:Fr)(H:ah)(d:af)(aa:ak AV),uT (dq ac n) aa e as_ k (gv fr.aa f) K fr H d=dT False cA (ac.bp .none) n (gv fr.aa f) [.yield H.next] (H.new (.loop .ready .none 0 aa e as_ k d)) λ_ o=>match o.get H.next with
   |.loop st bP fn aa e as_ k d=>match st with|.busy=>False|_=>K bP fr (o.set H.next (.loop .exhausted bP fn aa e as_ k d))
   |_=>False:=by intro fr H d aa;unfold uT;rw[rC,h.call];congr 1;funext v o;rw[zS];cases o.get H.next<;>(try rfl);rename_i st bP fn aa e as_ k d;unfold Gp Fh;simp only[vP];cases st<;>rfl
  show ep fr.aa f (λfv=>Option.rec (motive:=λ_=>Prop) (lJ H (.deferred false) λm H=>uT (dq ac n) fr.aa e as_ k fv K ⟨fr.aa,m::fr.br,fr.bw⟩ H m) (λl=>pV H l λ_ _ _ _ _ _ _ d=>uT (dq ac n) fr.aa e as_ k fv K fr H d) fr.bw)=_;rw[fH];simp only[Go.al.exec];cases p:fr.bw with|none=>show lJ H (.deferred false) _=_;rw[rC];exact go ⟨fr.aa,H.next::fr.br,none⟩ (H.new (.deferred false)) H.next fr.aa|some l=>show pV H l _=_;rw[zS];simp only;cases H.get l<;>(try rfl);exact go fr H _ fr.aa
 |exit id=>simp only[Go.al.exec];rfl
 |ret=>simp only[Go.al.exec];rfl
 |dD t=>show nP .none ac t (λg=>aX.rec (motive:=λ_=>Prop) False (λ_ _ _=>False) (λ_=>False) (Bs fr H K) g)=_;rw[vO];simp only[Go.al.exec];cases ac.bp .none t<;>(try rfl);rename_i g;show Bs fr H K g=_;unfold Bs;show iv (g fr.aa H) _=_;simp only;cases g fr.aa H<;>rfl
theorem Sw{n:Nat}(h:zT ac n)(l:List bA)(fr:Fr)(H:ah)(K:Fr->ah->Prop):(dq ac (n+1)).az l fr H K=Go.al.az False cA (ac.bp .none) (n+1) l fr H K:=by
 cases l with
 |nil=>simp only[Go.al.az];rfl
 |cons o l=>
  show Bq fr.aa o.guard (Fi (dq ac n) o.op fr.aa H o.fQ (after (dq ac n) l K o.dst o.re fr.aa fr.br fr.bw)) (Bp fr.aa o.dst .ahp λaa=>(dq ac n).az l ⟨aa,fr.br,fr.bw⟩ H K)=_;rw[Ss,KO,h.az];simp only[Go.al.az];congr 1;have c:∀(s:List (af×bL))(v:AV)(H:ah),after (dq ac n) l K o.dst o.re fr.aa fr.br fr.bw v (cH H s)=if du (aK fr.aa o.dst v) (cH H s) o.re=true then Go.al.az False cA (ac.bp .none) n l {fr with aa:=aK fr.aa o.dst v} (cH H s) K else False:=by intro s v H;unfold after;rw[KO,Sr,h.az]
  have j:Fi (dq ac n) o.op fr.aa H o.fQ (after (dq ac n) l K o.dst o.re fr.aa fr.br fr.bw)=uQ o.op (dq ac n) fr.aa (cW fr.aa H o.fQ).1 λv b=>after (dq ac n) l K o.dst o.re fr.aa fr.br fr.bw v (cH b (cW fr.aa H o.fQ).2):=by cases o.fQ<;>rfl
  rw[j];have k:(λv b=>after (dq ac n) l K o.dst o.re fr.aa fr.br fr.bw v (cH b (cW fr.aa H o.fQ).2))=λv b=>if du (aK fr.aa o.dst v) (cH b (cW fr.aa H o.fQ).2) o.re=true then Go.al.az False cA (ac.bp .none) n l {fr with aa:=aK fr.aa o.dst v} (cH b (cW fr.aa H o.fQ).2) K else False:=by funext v b;exact c _ v b
  rw[k];split;·rename_i f args a;rw[a,Sn,h.call]
  .rename_i i a;rw[a,Sp];rfl
  rename_i d g;rw[Sk _ _ _ _ _ (by cases a:o.op<;>first|rfl|exact absurd a (d _ _)) (λi e=>g i e)];cases aD o.op fr.aa (cW fr.aa H o.fQ).1<;>rfl
theorem Sx{n:Nat}(h:zT ac n)(f:AV)(args:List AV)(H:ah)(K:KV):(dq ac (n+1)).call f args H K=dT False cA (ac.bp .none) (n+1) f args H K:=by
 cases f<;>(try(simp only[dT];rfl))
 .rename_i f first a;show nP .none ac f (λg=>lb (first++args++a) λall=>aX.rec (motive:=λ_=>Prop) False (Bt (dq ac n) H K all) (Bu H K all) (λ_=>False) g)=_;rw[vO,oh];simp only[dT];cases ac.bp .none f<;>(try rfl)
  .rename_i q m body;show Bt (dq ac n) H K (first++args++a) q m body=_;unfold Bt;rw[fE,qz,KP,h.exec];simp only;congr 2;funext j fr H;have o:Fj m K fr H=(match gZ H fr.br with
    |some H=>match ef fr.aa H m with|some l=>K (fL l) H|none=>False
    |none=>False):=by show Ff H fr.br (λH=>zm fr.aa H m λl=>Fe l λv=>K v H)=_;rw[Su];cases gZ H fr.br with|none=>rfl|some r=>rw[zP,Gn];simp only;cases ef fr.aa r m with|none=>rfl|some l=>rw[zP,St]
   unfold Jp;rw[zR,o];cases j<;>rfl
  rename_i g;show Bu H K (first++args++a) g=_;unfold Bu;simp only;cases g (first++args++a) H with|none=>rfl|some p=>exact tg p.1 λv=>K v p.2
 rename_i l;show Fl (dq ac n) args H K l=_;unfold Fl;rw[zS];simp only[dT];cases H.get l<;>(try rfl);rename_i st bP fn aa b as_ c d;show zn st (dk (afw (lf args) (lf b)) ((dq ac n).exec as_ ⟨kF b args aa,[],some l⟩ H (zo (dq ac n) l c K)) False) False False=_;cases st<;>(try rfl);show dk (afw (lf args) (lf b)) ((dq ac n).exec as_ ⟨kF b args aa,[],some l⟩ H (zo (dq ac n) l c K)) False=_;rw[fE,qz,qz,h.exec];simp only;have s:zo (dq ac n) l c K=λj fr H=>match j,H.get l with
  |.none,.loop .ready bP fn aa b as_ k d=>Go.al.exec False cA (ac.bp .none) n c fr (H.set l (.loop .busy bP fn aa b as_ k d)) λj _ H=>match H.get l with
   |.loop _ _ fn aa b as_ c d=>match j with|.none=>K (.bool true) (H.set l (.loop .ready .none fn aa b as_ c d))|j=>K (.bool false) (H.set l (.loop .done j fn aa b as_ c d))
   |_=>False
  |_,_=>False:=by funext j fr H;unfold zo;rw[zR];cases j with|none=>simp only;unfold Jq;rw[zS];cases H.get l<;>(try rfl);rename_i st bP fn aa b as_ k d;show zn st _ False False=_;cases st<;>(try rfl);show nQ H l (.loop .busy bP fn aa b as_ k d) (λH=>(dq ac n).exec c fr H (Fk l K))=_;rw[vP,h.exec];simp only;congr 1;funext j t H;unfold Fk;rw[zS];cases H.get l<;>(try rfl);unfold Gp;simp only;rw[zR];cases j<;>simp only[vP]|exit i=>cases H.get l<;>rfl|ret=>cases H.get l<;>rfl
 rw[s];by_cases hl:args.length=b.length;·rw[aJ (by rw[hl];exact agB _),aJ hl];rfl
 rw[ap (λe=>hl (afo e)),ap hl]
theorem zU(ac:ak aX):∀n,zT ac n|0=>⟨λc fr H K=>by simp only[Go.al.exec];rfl,λl fr H K=>by simp only[Go.al.az];rfl,λf args H K=>by simp only[dT];rfl⟩|n+1=>⟨Sv (zU ac n),Sw (zU ac n),Sx (zU ac n)⟩
end
end Go.al.K
namespace Go.al
section
variable{ac:Nat->aX}
structure B6(ac:Nat->aX)(n:Nat):Prop where
 exec:∀{c fr H K K' m},n<=m->(∀j fr H,K j fr H->K' j fr H)->exec False cA ac n c fr H K->exec False cA ac m c fr H K'
 az:∀{l fr H K K' m},n<=m->(∀fr H,K fr H->K' fr H)->Go.al.az False cA ac n l fr H K->Go.al.az False cA ac m l fr H K'
 call:∀{f args H K K' m},n<=m->(∀v H,K v H->K' v H)->dT False cA ac n f args H K->dT False cA ac m f args H K'
theorem Sy{n:Nat}(h:B6 ac n){c:bg}{fr:Fr}{H:ah}{K r:bU->Fr->ah->Prop}{m:Nat}(g:n<=m)(e:∀j fr H,K j fr H->r j fr H)(he:exec False cA ac (n+1) c fr H K):exec False cA ac (m+1) c fr H r:=by
 cases c with
 |skip=>simp only[exec]at he⊢;exact e _ _ _ he
 |region l=>simp only[exec]at he⊢;exact h.az g (e _) he
 |seq a b=>simp only[exec]at he⊢;refine h.exec g (λj fr H hj=>?_) he;cases j with|none=>exact h.exec g e hj|exit i=>exact e _ _ _ hj|ret=>exact e _ _ _ hj
 |cond c a b=>
  simp only[exec]at he⊢;split at he;·exact h.exec g e he
  .exact h.exec g e he
  exact he.elim
 |block id b=>simp only[exec]at he⊢;refine h.exec g (λj fr H hj=>?_) he;cases j with|none=>exact e _ _ _ hj|exit i=>simp only at hj⊢;split at hj<;>rename_i hi<;>simp only[hi,bf,bD,abe]<;>exact e _ _ _ hj|ret=>exact e _ _ _ hj
 |loop b=>simp only[exec]at he⊢;refine h.exec g (λj fr H hj=>?_) he;cases j with|none=>exact h.exec g e hj|exit i=>exact e _ _ _ hj|ret=>exact e _ _ _ hj
 |rangeFunc f p as_ q=>
  simp only[exec]at he⊢;have go:∀(fr:Fr)(l:af)(v:AV)(k:ah),(match k.get l with
   |.loop st bP fn aa p as_ q d=>match st with|.busy=>False|_=>K bP fr (k.set l (.loop .exhausted bP fn aa p as_ q d))
   |_=>False)->(match k.get l with
   |.loop st bP fn aa p as_ q d=>match st with|.busy=>False|_=>r bP fr (k.set l (.loop .exhausted bP fn aa p as_ q d))
   |_=>False):=by
   intro fr l v k o;cases s:k.get l with
   |loop st bP fn aa p as_ q d=>rw[s]at o;cases st<;>first|exact o.elim|exact e _ _ _ o
   |_=>rw[s]at o;exact o.elim
  cases u:fr.bw with
  |none=>rw[u]at he;exact h.call g (λv k o=>go _ _ v k o) he
  |some l=>
   rw[u]at he;simp only at he⊢;split at he;·exact h.call g (λv k o=>go _ _ v k o) he
   exact he.elim
 |exit id=>simp only[exec]at he⊢;exact e _ _ _ he
 |ret=>simp only[exec]at he⊢;exact e _ _ _ he
 |dD t=>
  simp only[exec]at he⊢;split at he
  .split at he;·exact e _ _ _ he
   exact he.elim
  exact he.elim
theorem Sz{n:Nat}(h:B6 ac n){l:List bA}{fr:Fr}{H:ah}{K c:Fr->ah->Prop}{m:Nat}(d:n<=m)(e:∀fr H,K fr H->c fr H)(he:Go.al.az False cA ac (n+1) l fr H K):Go.al.az False cA ac (m+1) l fr H c:=by
 cases l with
 |nil=>simp only[Go.al.az]at he⊢;exact e _ _ he
 |cons o l=>
  simp only[Go.al.az]at he⊢;have j:∀(v:AV)(H:ah),(if du (aK fr.aa o.dst v) (cH H (cW fr.aa H o.fQ).2) o.re=true then Go.al.az False cA ac n l {fr with aa:=aK fr.aa o.dst v} (cH H (cW fr.aa H o.fQ).2) K else False)->(if du (aK fr.aa o.dst v) (cH H (cW fr.aa H o.fQ).2) o.re=true then Go.al.az False cA ac m l {fr with aa:=aK fr.aa o.dst v} (cH H (cW fr.aa H o.fQ).2) c else False):=by
   intro v H b;split at b;·rename_i f;rw[aJ f];exact h.az d e b
   exact b.elim
  have a:∀(s:List (af×bL))(v:AV)(H:ah),(if du (aK fr.aa o.dst v) (cH H s) o.re=true then Go.al.az False cA ac n l {fr with aa:=aK fr.aa o.dst v} (cH H s) K else False)->(if du (aK fr.aa o.dst v) (cH H s) o.re=true then Go.al.az False cA ac m l {fr with aa:=aK fr.aa o.dst v} (cH H s) c else False):=by
   intro s v H b;split at b;·rename_i f;rw[aJ f];exact h.az d e b
   exact b.elim
  split at he
  .rename_i hg;rw[aJ hg];split at he;·exact h.call d (λv g b=>a _ v g b) he
   .split at he
    .intro i hi;have:=he i hi;simp only at this⊢;split at this;·exact a _ _ _ this
     exact this.elim
    exact he.elim
   split at he;·exact a _ _ _ he
   exact he.elim
  rename_i hg;rw[ap hg];split at he;·rename_i hd;rw[aJ hd];exact h.az d e he
  exact he.elim
theorem SA{n:Nat}(h:B6 ac n){f:AV}{args:List AV}{H:ah}{K g:KT}{m:Nat}(c:n<=m)(a:∀v H,K v H->g v H)(he:dT False cA ac (n+1) f args H K):dT False cA ac (m+1) f args H g:=by
 cases f<;>(try(simp only[dT]at he;done))
 .rename_i f first b;simp only[dT]at he⊢;split at he;·exact he.elim
  .exact he.elim
  .split at he;·exact a _ _ he
   exact he.elim
  split at he
  .rename_i d;rw[aJ d];refine h.exec c (λj fr H hj=>?_) he;cases j with
   |exit i=>exact hj.elim
   |none=>
    simp only at hj⊢;split at hj
    .split at hj;·exact a _ _ hj
     exact hj.elim
    exact hj.elim
   |ret=>
    simp only at hj⊢;split at hj
    .split at hj;·exact a _ _ hj
     exact hj.elim
    exact hj.elim
  exact he.elim
 rename_i l;simp only[dT]at he⊢;split at he
 .split at he
  .split at he
   .rename_i hl;rw[aJ hl];refine h.exec c (λj fr H hj=>?_) he;split at hj
    .refine h.exec c (λj fr H hj=>?_) hj;split at hj
     .split at hj;·exact a _ _ hj
      cases j<;>first|exact a _ _ hj|skip
      all_goals first|exact a _ _ hj|(rename_i e;exact absurd rfl e)
     exact hj.elim
    exact hj.elim
   exact he.elim
  exact he.elim
 exact he.elim
theorem mono(ac:Nat->aX):∀n,B6 ac n|0=>⟨λ_ _ he=>by simp only[exec]at he,λ_ _ he=>by simp only[Go.al.az]at he,λ_ _ he=>by simp only[dT]at he⟩|n+1=>by have h:=mono ac n;refine⟨λb a he=>?_,λb a he=>?_,λb a he=>?_⟩;all_goals rename_i m;cases m with|zero=>omega|succ m=>first|exact Sy h ab a he|exact Sz h ab a he|exact SA h ab a he
end
section
variable[Ov]
variable{ac:Nat->aX}
abbrev Xc(ac:Nat->aX)(n:Nat)(c:bg)(fr:Fr)(H:ah)(K:bU->Fr->ah->Prop):Prop:=exec False cA ac n c fr H K
abbrev Xo(ac:Nat->aX)(n:Nat)(l:List bA)(fr:Fr)(H:ah)(K:Fr->ah->Prop):Prop:=Go.al.az False cA ac n l fr H K
abbrev Xf(ac:Nat->aX)(n:Nat)(f:AV)(args:List AV)(H:ah)(K:KT):Prop:=dT False cA ac n f args H K
theorem Xo.nil{n:Nat}{fr:Fr}{H:ah}{K:Fr->ah->Prop}(h:K fr H):Xo ac (n+1) [] fr H K:=by simp only[Xo,Go.al.az];exact h
theorem Xo.op{n:Nat}{d:Option af}{op:bE}{l:List bA}{aa:ak AV}{br:List af}{bw:Option af}{H H':ah}{v:AV}{K:Fr->ah->Prop}(he:aD op aa H=some (v,H'))(h:Xo ac n l ⟨aK aa d v,br,bw⟩ H' K):Xo ac (n+1) (⟨d,op,none,[],[]⟩::l) ⟨aa,br,bw⟩ H K:=by
 simp only[Xo,Go.al.az,dc,cW,cH,du,bf];split;·simp[aD]at he
 .simp[aD]at he
 rw[he];exact h
theorem Xo.next{n:Nat}{d:Option af}{a:aL}{l:List bA}{aa:ak AV}{br:List af}{bw:Option af}{H:ah}{cs:List (Option aT)}{aft:Option aT->AV×ah}{K:Fr->ah->Prop}(he:pR H (gv aa a)=some (cs,aft))(h:∀c∈cs,Xo ac n l ⟨aK aa d (aft c).1,br,bw⟩ (aft c).2 K):Xo ac (n+1) (⟨d,.jG a,none,[],[]⟩::l) ⟨aa,br,bw⟩ H K:=by simp only[Xo,Go.al.az,dc,cW,cH,du,bf,he];intro i hi;rw[getElem?_pos cs i hi];exact h _ (adq hi)
theorem Xo.call{n:Nat}{d:Option af}{f:aL}{args:List aL}{l:List bA}{aa:ak AV}{br:List af}{bw:Option af}{H:ah}{K:Fr->ah->Prop}(h:Xf ac n (gv aa f) (args.map (gv aa)) H λv a=>Xo ac n l ⟨aK aa d v,br,bw⟩ a K):Xo ac (n+1) (⟨d,.call f args,none,[],[]⟩::l) ⟨aa,br,bw⟩ H K:=by simp only[Xo,Go.al.az,dc,cW,cH,du,bf];exact h
theorem Xc.region{n:Nat}{l:List bA}{fr:Fr}{H:ah}{K:bU->Fr->ah->Prop}(h:Xo ac n l fr H (K .none)):Xc ac (n+1) (.region l) fr H K:=by simp only[Xc,exec];exact h
theorem Xc.seq{n:Nat}{a b:bg}{fr:Fr}{H:ah}{K:bU->Fr->ah->Prop}(h:Xc ac n a fr H λj fr H=>match j with|.none=>Xc ac n b fr H K|j=>K j fr H):Xc ac (n+1) (.seq a b) fr H K:=by simp only[Xc,exec];exact h
theorem Xc.mono{n m:Nat}(h:n<=m){c:bg}{fr:Fr}{H:ah}{K a:bU->Fr->ah->Prop}(b:∀j fr H,K j fr H->a j fr H)(he:Xc ac n c fr H K):Xc ac m c fr H a:=(Go.al.mono ac n).exec h b he
theorem Xo.mono{n m:Nat}(h:n<=m){l:List bA}{fr:Fr}{H:ah}{K a:Fr->ah->Prop}(b:∀fr H,K fr H->a fr H)(he:Xo ac n l fr H K):Xo ac m l fr H a:=(Go.al.mono ac n).az h b he
theorem Xf.mono{n m:Nat}(h:n<=m){f:AV}{args:List AV}{H:ah}{K a:KT}(b:∀v H,K v H->a v H)(he:Xf ac n f args H K):Xf ac m f args H a:=(Go.al.mono ac n).call h b he
theorem Xc.loop{n:Nat}{b:bg}{fr:Fr}{H:ah}{K:bU->Fr->ah->Prop}(h:Xc ac n b fr H λj fr H=>match j with|.none=>Xc ac n (.loop b) fr H K|j=>K j fr H):Xc ac (n+1) (.loop b) fr H K:=by simp only[Xc,exec];exact h
theorem Xc.ph{n:Nat}{c:aL}{a b:bg}{fr:Fr}{H:ah}{K:bU->Fr->ah->Prop}(d:gv fr.aa c=.bool true)(h:Xc ac n a fr H K):Xc ac (n+1) (.cond c a b) fr H K:=by simp only[Xc,exec,d];exact h
theorem Xc.mi{n:Nat}{c:aL}{a b:bg}{fr:Fr}{H:ah}{K:bU->Fr->ah->Prop}(d:gv fr.aa c=.bool false)(h:Xc ac n b fr H K):Xc ac (n+1) (.cond c a b) fr H K:=by simp only[Xc,exec,d];exact h
theorem Xc.block{n:Nat}{id:Nat}{b:bg}{fr:Fr}{H:ah}{K:bU->Fr->ah->Prop}(h:Xc ac n b fr H λj fr H=>match j with|.exit i=>if afw i id then K .none fr H else K (.exit i) fr H|j=>K j fr H):Xc ac (n+1) (.block id b) fr H K:=by simp only[Xc,exec];exact h
theorem Xc.skip{n:Nat}{fr:Fr}{H:ah}{K:bU->Fr->ah->Prop}(h:K .none fr H):Xc ac (n+1) .skip fr H K:=by simp only[Xc,exec];exact h
theorem Xc.exit{n id:Nat}{fr:Fr}{H:ah}{K:bU->Fr->ah->Prop}(h:K (.exit id) fr H):Xc ac (n+1) (.exit id) fr H K:=by simp only[Xc,exec];exact h
theorem Xc.ret{n:Nat}{fr:Fr}{H:ah}{K:bU->Fr->ah->Prop}(h:K .ret fr H):Xc ac (n+1) .ret fr H K:=by simp only[Xc,exec];exact h
theorem Xc.gK{n m:Nat}{a b:bg}{fr:Fr}{H:ah}{K:bU->Fr->ah->Prop}{k:Nat}(c:n<=k)(d:m<=k)(h:Xc ac n a fr H λj fr H=>match j with|.none=>Xc ac m b fr H K|j=>K j fr H):Xc ac (k+1) (.seq a b) fr H K:=by refine Xc.seq (h.mono c λj fr H hj=>?_);cases j with|none=>exact hj.mono d λ_ _ _ h=>h|exit i=>exact hj|ret=>exact hj
def mj(a c:Nat)(d b ok e ex kv:af)(body:bg):bg:=
 .block a (.loop (.seq (.region [⟨some b,.jG (.t d),none,[],[]⟩,⟨some ok,.extract (.t b) 0,none,[],[]⟩])
   (.seq (.cond (.t ok) .skip (.exit a)) (.block c (.seq (.region [⟨some e,.pQ (.t d),none,[],[]⟩,⟨some ex,.extract (.t e) 0,none,[],[]⟩,⟨some kv,.aR (.t ex),none,[],[]⟩]) body)))))
theorem KR:∀{es:List aT}{e:aT}(i0:Nat),e∈es->(es.map (·.born)).Nodup->∃i,ma e.born es i0=some (i0+i)/\es[i]?=some e
 |[],_,_,h,_=>by cases h
 |a::es,e,i0,h,b=>by
  rw[afp,agf]at b;rcases acn.1 h with h|h;·subst h;exact⟨0,by simp[ma,agB],aF⟩
  have c:¬a.born=e.born:=λhe=>b.1 (by rw[he];exact afI h);obtain⟨i,h1,h2⟩:=KR (i0+1) h b.2;refine⟨i+1,?_,by simpa using h2⟩;have:afw a.born e.born=false:=by cases hb:afw a.born e.born with|false=>rfl|true=>exact absurd (afo hb) c
  simp only[ma,this,abe,bD,h1];congr 1;omega
def iV(es:List aT)(seen:List Nat):List aT:=es.filter λe=>!seen.contains e.born
theorem SB{es:List aT}{seen:List Nat}{e:aT}(he:e∈iV es seen):(iV es (seen++[e.born])).length<(iV es seen).length:=by
 have h1:iV es (seen++[e.born])=(iV es seen).filter λx=>!(x.born==e.born):=by simp only[iV,List.filter_filter];congr 1;funext x;simp only[List.contains_append,Bool.not_or,List.contains_cons,List.contains_nil,Bool.or_false];rw[Bool.and_comm]
 rw[h1];refine List.length_filter_lt_length_iff_exists.2 ⟨e,he,aF⟩
theorem KS{H:ah}{id m:af}{es:List aT}{b:Nat}{seen:List Nat}(hi:H.get id=.mapIter (some m) b seen b)(g:H.get m=.map es b)(d:∀e∈es,e.born<b):∃f,pR H (.aE id 0)=some ((if(iV es seen).isEmpty then[none]else[])++(iV es seen).map some,f)/\f none=(.tuple [.bool false],H)/\∀e,f (some e)=(.tuple [.bool true,e.key,e.val],H.set id (.mapIter (some m) b (seen++[e.born]) b)):=by
 have eJ:¬((!seen.isEmpty&&!es.isEmpty&&es.all λe=>ago b e.born)=true):=by intro h;simp only[ae9,agn]at h;cases es with|nil=>simp at h|cons a es=>have:=afx (h.2 a (abL ..));have:=d a (abL ..);omega
 have h1:(iV es seen).filter (λe=>afR e.born b)=iV es seen:=List.filter_eq_self.2 λe he=>ahm agh (d e (ag0.1 he).1);have h2:(iV es seen).filter (λe=>!afR e.born b)=[]:=List.filter_eq_nil_iff.2 λe he=>by have:afR e.born b=true:=ahm agh (d e (ag0.1 he).1);simp[this]
 refine⟨λc=>match c with|some e=>(.tuple [.bool true,e.key,e.val],H.set id (.mapIter (some m) b (seen++[e.born]) b))|none=>(.tuple [.bool false],H),?_,rfl,λe=>rfl⟩;simp only[pR,hi,g];rw[ap eJ];show some ((if((iV es seen).filter (λe=>afR e.born b)).isEmpty then[none]else[])++((iV es seen).filter (λe=>afR e.born b)++(iV es seen).filter (λe=>!afR e.born b)).map some,_)=_;rw[h1,h2,agk];refine congrArg some (Prod.ext rfl ?_);funext c;cases c<;>rfl
theorem KU{g r:Nat}{p f ok u ex kv:af}{body:bg}(X:g≠r)(R:p≠f)(S:p≠ok)(Y:f≠ok)(Z:u≠ex){es:List aT}{b:Nat}{id m:af}(hb:(es.map (·.born)).Nodup)(w:∀e∈es,e.born<b){br:List af}{bw:Option af}{K:bU->Fr->ah->Prop}(I:List Nat->ak AV->ah->Prop)(y:∀seen aa H,I seen aa H->aa.get .ahp p=.aE id 0/\H.get id=.mapIter (some m) b seen b/\H.get m=.map es b)(d:Nat)(step:∀seen aa H e,I seen aa H->e∈es->e.born∉seen->Xc ac d body ⟨((((aa.set .ahp f (.tuple [.bool true,e.key,e.val])).set .ahp ok (.bool true)).set .ahp u (.tuple [e.key,e.val])).set .ahp ex e.key).set .ahp kv e.key,br,bw⟩ (H.set id (.mapIter (some m) b (seen++[e.born]) b)) λj fr H'=>j=.none/\fr.br=br/\fr.bw=bw/\I (seen++[e.born]) fr.aa H')(aB:∀seen aa H,I seen aa H->(∀e∈es,e.born∈seen)->K .none ⟨(aa.set .ahp f (.tuple [.bool false])).set .ahp ok (.bool false),br,bw⟩ H):∀(k:Nat)seen aa H,I seen aa H->(iV es seen).length<=k->Xc ac (d+15+k) (mj g r p f ok u ex kv body) ⟨aa,br,bw⟩ H K:=by
 have A:∀(k:Nat)seen aa H,I seen aa H->(iV es seen).length<=k->Xc ac (d+14+k) (.loop (.seq (.region [⟨some f,.jG (.t p),none,[],[]⟩,⟨some ok,.extract (.t f) 0,none,[],[]⟩]) (.seq (.cond (.t ok) .skip (.exit g)) (.block r (.seq (.region [⟨some u,.pQ (.t p),none,[],[]⟩,⟨some ex,.extract (.t u) 0,none,[],[]⟩,⟨some kv,.aR (.t ex),none,[],[]⟩]) body))))) ⟨aa,br,bw⟩ H λj fr H=>j=.exit g/\K .none fr H:=by
  intro k;induction k with
  |zero=>intro seen aa H s C;obtain⟨h1,h2,h3⟩:=y seen aa H s;obtain⟨F,B,D,a3⟩:=KS h2 h3 w;have n:iV es seen=[]:=afQ ab;rw[n]at B;refine Xc.loop (n:=d+13) ?_;refine Xc.seq (n:=d+12) (Xc.region (n:=d+11) (Xo.next (n:=d+10) (by rw[show gv aa (.t p)=aa.get .ahp p from rfl,h1];exact B) ?_));intro c o;simp only[List.isEmpty_nil,bf,agu,agk,abx]at o;subst o;rw[D];refine Xo.op (n:=d+9) (v:=.bool false) (H':=H) (by simp[aD,gv,aK,ak.aC,kZ]) (Xo.nil (n:=d+8) ?_);refine Xc.seq (n:=d+11) (Xc.mi (n:=d+10) (by simp[gv,aK,ak.aC]) (Xc.exit (n:=d+9) ?_));refine⟨by trivial,aB seen aa H s λe he=>?_⟩;apply afO;intro v;have:e∈iV es seen:=ag0.2 ⟨he,by simpa using v⟩;rw[n]at this;cases this
  |succ k T=>
   intro seen aa H s C;obtain⟨h1,h2,h3⟩:=y seen aa H s;obtain⟨F,B,D,a3⟩:=KS h2 h3 w;refine Xc.loop (n:=d+14+k) ?_;refine Xc.mono (n:=d+14) (K:=λj fr H=>match j with|.none=>exec False cA ac (d+14+k) (.loop (.seq (.region [⟨some f,.jG (.t p),none,[],[]⟩,⟨some ok,.extract (.t f) 0,none,[],[]⟩]) (.seq (.cond (.t ok) .skip (.exit g)) (.block r (.seq (.region [⟨some u,.pQ (.t p),none,[],[]⟩,⟨some ex,.extract (.t u) 0,none,[],[]⟩,⟨some kv,.aR (.t ex),none,[],[]⟩]) body))))) fr H λj fr H=>j=.exit g/\K .none fr H|j=>j=.exit g/\K .none fr H) ab (λ_ _ _ h=>h) ?_;refine Xc.seq (n:=d+13) (Xc.region (n:=d+12) (Xo.next (n:=d+11) (by rw[show gv aa (.t p)=aa.get .ahp p from rfl,h1];exact B) ?_));intro c o;cases c with
   |none=>
    have n:iV es seen=[]:=by cases hu:iV es seen with|nil=>rfl|cons a l=>rw[hu]at o;simp at o
    rw[D];refine Xo.op (n:=d+10) (v:=.bool false) (H':=H) (by simp[aD,gv,aK,ak.aC,kZ]) (Xo.nil (n:=d+9) ?_);refine Xc.seq (n:=d+12) (Xc.mi (n:=d+11) (by simp[gv,aK,ak.aC]) (Xc.exit (n:=d+10) ?_));refine⟨by trivial,aB seen aa H s λe he=>?_⟩;apply afO;intro v;have:e∈iV es seen:=ag0.2 ⟨he,by simpa using v⟩;rw[n]at this;cases this
   |some e=>
    have q:e∈iV es seen:=by
     rw[ae8]at o;rcases o with o|o;·split at o<;>simp at o
     rw[afE]at o;obtain⟨x,V,E⟩:=o;injection E with E;subst E;exact V
    have gI:e∈es:=(ag0.1 q).1;have G:e.born∉seen:=by have:=(ag0.1 q).2;simpa using this
    rw[a3];refine Xo.op (n:=d+10) (v:=.bool true) (H':=H.set id (.mapIter (some m) b (seen++[e.born]) b)) (by simp[aD,gv,aK,ak.aC,kZ]) (Xo.nil (n:=d+9) ?_);refine Xc.seq (n:=d+12) (Xc.ph (n:=d+11) (by simp[gv,aK,ak.aC]) (Xc.skip (n:=d+10) ?_));refine Xc.block (n:=d+11) ?_;obtain⟨i,z,J⟩:=KR 0 gI hb;rw[afC]at z;have L:id≠m:=λe=>by rw[e,h3]at h2;cases h2
    have M:(H.set id (.mapIter (some m) b (seen++[e.born]) b)).get id=.mapIter (some m) b (seen++[e.born]) b:=by rw[ah.aC,aJ rfl]
    have N:(H.set id (.mapIter (some m) b (seen++[e.born]) b)).get m=.map es b:=by rw[ah.aC,ap (λh=>L h.symm)];exact h3
    refine Xc.seq (n:=d+10) (Xc.region (n:=d+9) ?_);refine Xo.op (n:=d+8) (v:=.tuple [e.key,e.val]) (H':=H.set id (.mapIter (some m) b (seen++[e.born]) b)) ?_ ?_;·simp only[aD,gv,aK,ak.aC,ap S,ap R,h1,M,N,List.getLast?_append,List.getLast?_singleton,Option.some_or,agB,bf,z,J]
    refine Xo.op (n:=d+7) (v:=e.key) (H':=H.set id (.mapIter (some m) b (seen++[e.born]) b)) (by simp[aD,gv,aK,ak.aC,kZ]) ?_;refine Xo.op (n:=d+6) (v:=e.key) (H':=H.set id (.mapIter (some m) b (seen++[e.born]) b)) (by simp[aD,gv,aK,ak.aC]) (Xo.nil (n:=d+5) ?_);refine Xc.mono (n:=d) (m:=d+10) ab ?_ (step seen aa H e s gI G);rintro j fr H'⟨rfl,P,Q,W⟩;have O:fr=⟨fr.aa,br,bw⟩:=by cases fr;simp only at P Q;subst P;subst Q;rfl
    rw[O];refine T (seen++[e.born]) fr.aa H' W ?_;have:=SB q;omega
 intro k seen aa H s C;rw[show d+15+k=d+14+k+1 by omega];unfold mj;refine Xc.block (n:=d+14+k) (Xc.mono (adv _) ?_ (A k seen aa H s C));rintro j fr H⟨rfl,h⟩;simp only[agB,bf];exact h
end
section
def Gq:AV->AV->Bool
 |.bool a,.bool b=>a==b
 |.int j (.ofNat a),.int k (.ofNat b)=>afw j k&&afw a b
 |.cC,.cC=>true
 |.aH,.aH=>true
 |_,_=>false
def iA:aL->aL->Bool
 |.t p,.t q=>af.beq p q
 |.c a,.c b=>Gq a b
 |_,_=>false
def vQ:List aL->List aL->Bool
 |[],[]=>true
 |a::l,b::m=>iA a b&&vQ l m
 |_,_=>false
def Gr:bE->bE->Bool
 |.aR x,.aR y=>iA x y
 |.extract x i,.extract y j=>iA x y&&afw i j
 |.pQ x,.pQ y=>iA x y
 |.jG x,.jG y=>iA x y
 |.lF x,.lF y=>iA x y
 |.bi x,.bi y=>iA x y
 |.ch s x i,.ch t y j=>afw s t&&iA x y&&iA i j
 |.arith .neq k x i,.arith .neq l y j=>afw k l&&iA x y&&iA i j
 |.iP .int x i u,.iP .int y j v=>iA x y&&iA i j&&iA u v
 |.eq a .map x i,.eq b .map y j=>(a==b)&&iA x y&&iA i j
 |.jo,.jo=>true
 |.store n x i,.store m y j=>afw n m&&iA x y&&iA i j
 |.jd n x,.jd m y=>afw n m&&iA x y
 |.iQ x,.iQ y=>iA x y
 |.call f l,.call g m=>iA f g&&vQ l m
 |_,_=>false
def Gs:Option af->Option af->Bool
 |none,none=>true
 |some p,some q=>af.beq p q
 |_,_=>false
def Gt:bA->bA->Bool
 |⟨d,o,none,[],[]⟩,⟨e,p,none,[],[]⟩=>Gs d e&&Gr o p
 |_,_=>false
def vR:List bA->List bA->Bool
 |[],[]=>true
 |a::l,b::m=>Gt a b&&vR l m
 |_,_=>false
def jW:bg->bg->Bool
 |.skip,.skip=>true
 |.region l,.region m=>vR l m
 |.seq a b,.seq c d=>jW a c&&jW b d
 |.cond x a b,.cond y c d=>iA x y&&jW a c&&jW b d
 |.block i a,.block j b=>afw i j&&jW a b
 |.loop a,.loop b=>jW a b
 |.exit i,.exit j=>afw i j
 |.dD i,.dD j=>afw i j
 |_,_=>false
theorem SC{a b:AV}(h:Gq a b=true):a=b:=by
 unfold Gq at h;split at h;·simp only[beq_iff_eq]at h;rw[h]
 .simp only[ae9]at h;rw[afo h.1,afo h.2]
 .rfl
 .rfl
 cases h
theorem ml{a b:aL}(h:iA a b=true):a=b:=by
 unfold iA at h;split at h;·rw[af.eS.1 h]
 .rw[SC h]
 cases h
theorem KW:∀{l m:List aL},vQ l m=true->l=m|[],[],_=>rfl|a::l,b::m,h=>by simp only[vQ,ae9]at h;rw[ml h.1,KW h.2]|[],_::_,h=>by simp[vQ]at h|_::_,[],h=>by simp[vQ]at h
theorem SD{a b:bE}(h:Gr a b=true):a=b:=by unfold Gr at h;split at h<;>(try simp only[ae9,beq_iff_eq]at h)<;>first|(cases h;done)|rfl|(rw[ml h];done)|(rw[ml h.1,afo h.2];done)|(rw[afo h.1.1,ml h.1.2,ml h.2];done)|(rw[ml h.1.1,ml h.1.2,ml h.2];done)|(rw[h.1.1,ml h.1.2,ml h.2];done)|(rw[afo h.1,ml h.2];done)|(rw[ml h.1,KW h.2];done)
theorem SE{a b:Option af}(h:Gs a b=true):a=b:=by
 unfold Gs at h;split at h;·rfl
 .rw[af.eS.1 h]
 cases h
theorem SF{a b:bA}(h:Gt a b=true):a=b:=by
 unfold Gt at h;split at h;·simp only[ae9]at h;rw[SE h.1,SD h.2]
 cases h
theorem KX:∀{l m:List bA},vR l m=true->l=m|[],[],_=>rfl|a::l,b::m,h=>by simp only[vR,ae9]at h;rw[SF h.1,KX h.2]|[],_::_,h=>by simp[vR]at h|_::_,[],h=>by simp[vR]at h
theorem SG:∀{a b:bg},jW a b=true->a=b:=by intro a;induction a with|skip=>intro b h;cases b<;>simp[jW]at h;rfl|region l=>intro b h;cases b<;>simp[jW]at h;rw[KX h]|seq x y d e=>intro b h;cases b<;>simp[jW]at h;rw[d h.1,e h.2]|cond c x y d e=>intro b h;cases b<;>simp[jW]at h;rw[ml h.1.1,d h.1.2,e h.2]|block i x g=>intro b h;cases b<;>simp[jW]at h;rw[h.1,g h.2]|loop x g=>intro b h;cases b<;>simp[jW]at h;rw[g h]|exit i=>intro b h;cases b<;>simp[jW]at h;rw[h]|dD i=>intro b h;cases b<;>simp[jW]at h;rw[h]|rangeFunc f j as_ k _ _=>intro b h;cases b<;>simp[jW]at h|ret=>intro b h;cases b<;>simp[jW]at h
def tm(b:bg):List (Nat×bg)->Option Nat
 |[]=>none
 |(t,c)::l=>if jW b c then some t else tm b l
def zV(t:Nat):List (Nat×bg)->bg
 |[]=>.skip
 |(u,c)::l=>if afw u t then c else zV t l
theorem SH(l:List (Nat×bg))(a:(l.map (·.1)).Nodup)(b:bg)(t:Nat)(h:tm b l=some t):b=zV t l:=by
 induction l with
 |nil=>simp[tm]at h
 |cons p l d=>
  obtain⟨u,c⟩:=p;simp only[tm]at h;rw[afp,agf]at a;split at h;·rename_i he;injection h with h;subst h;simp only[zV,agB,bf];exact SG he
  have f:t∈l.map (·.1):=by
   clear d a;induction l with
   |nil=>simp[tm]at h
   |cons q l d=>
    obtain⟨g,c2⟩:=q;simp only[tm]at h;split at h;·injection h with h;subst h;simp
    exact aco _ (d h)
  have e:afw u t=false:=by cases hb:afw u t with|false=>rfl|true=>exact absurd (afo hb▸f) a.1
  simp only[zV,e,abe,bD];exact d a.2 h
@[reducible]def SJ(l:List (Nat×bg))(a:(l.map (·.1)).Nodup):Ov:=⟨λb=>tm b l,λt=>zV t l,SH l a⟩
def dl:bL->Option (List aT)
 |.map es _=>some es
 |.co es=>some es
 |_=>none
def il:List aT->Option (List Int)
 |[]=>some []
 |e::es=>match e.key,il es with
  |.int 3 k,some l=>some (k::l)
  |_,_=>none
def qA:List aT->Option (List Int)
 |[]=>some []
 |e::es=>match e.key,e.val,qA es with
  |.int 3 k,.bool true,some l=>some (k::l)
  |_,_,_=>none
def eZ(x:Int):List Int->Bool
 |[]=>false
 |y::l=>fU x y||eZ x l
def vS:List Int->Bool
 |[]=>true
 |x::l=>!eZ x l&&vS l
def mq(x:Int)(l:List Int):List Int:=if eZ x l then l else l++[x]
def eV:List Int->List Int->List Int
 |[],l=>l
 |x::a,l=>eV a (mq x l)
def dh(l:List Int):List aT:=l.map λk=>⟨.int 3 k,.bool true,0⟩
def jv(aa:ak AV):List af->ak AV
 |[]=>aa
 |p::l=>jv (aa.set .ahp p .b9) l
def iB(H:ah)(i:af):Option (List Int):=
 match dl (H.get i)with
 |some es=>match qA es with
  |some l=>if vS l then some l else none
  |none=>none
 |none=>none
def im(H:ah)(i:af):Option (List Int):=
 match dl (H.get i)with
 |some es=>match il es with
  |some l=>if vS l then some l else none
  |none=>none
 |none=>none
def bx(H:ah)(i:af)(o:Nat):Option AV:=
 match H.get i with
 |.cells c n _ _ _ _=>if afR o n then some (c.bp .ahp o)else none
 |_=>none
def mr(H:ah):AV->Option AV
 |.aE i o=>bx H i o
 |_=>none
def kM(H:ah)(s:AV)(x:Int):Option AV:=
 match s,x with
 |.slice i o n _ _,.ofNat j=>if afR j n then bx H i (o+j)else none
 |_,_=>none
def tn(H:ah)(s:AV):List Int->Option (List Int)
 |[]=>some []
 |x::l=>match kM H s x,tn H s l with
  |some (.int 3 r),some a=>some (r::a)
  |_,_=>none
def ah.skip(H:ah):ah:=⟨H.t,H.next.succ⟩
variable[Ov]
theorem pi(x:Int):∀l:List Int,eZ x l=true↔x∈l|[]=>by simp[eZ]|y::l=>by simp only[eZ,agd,pi x l,acn];rw[eT];simp
theorem tp:∀l:List Int,vS l=true↔l.Nodup|[]=>by simp[vS]|x::l=>by simp only[vS,ae9,af4,tp l,agf,<-pi];simp
theorem B7(x y:Int)(l:List Int):y∈mq x l↔y=x\/y∈l:=by
 unfold mq;split;·rename_i h;rw[pi]at h;exact⟨.inr,λa=>a.elim (λe=>e▸h) id⟩
 simp[or_comm]
theorem SK{x:Int}{l:List Int}(h:l.Nodup):(mq x l).Nodup:=by
 unfold mq;split;·exact h
 rename_i c;rw[pi]at c;rw[afY];refine⟨h,aF,λa d b hb=>?_⟩;simp only[abx]at hb;subst hb;exact λe=>c (e▸d)
theorem mu(y:Int):∀(a l:List Int),y∈eV a l↔y∈a\/y∈l|[],l=>by simp[eV]|x::a,l=>by simp only[eV,mu y a,B7,acn];grind
theorem pj:∀(a:List Int){l:List Int},l.Nodup->(eV a l).Nodup|[],_,h=>h|_::a,_,h=>pj a (SK h)
end
abbrev sl(t:Nat):af:=af.cr t
abbrev bF(d:Nat)(o:bE):bA:=⟨some (sl d),o,none,[],[]⟩
abbrev nU(o:bE):bA:=⟨none,o,none,[],[]⟩
abbrev tt(a:Nat):aL:=.t (sl a)
def SL:bg:=.region [bF 42 (.aR (tt 6)),bF 43 (.bi (tt 4)),bF 44 (.aR (tt 7)),bF 45 (.ch 1 (tt 43) (tt 44)),bF 46 (.bi (tt 45)),nU (.iP .int (tt 42) (tt 46) (.c (.bool true)))]
def KY:bg:=.region [bF 33 (.bi (tt 3)),bF 34 (.aR (tt 5)),bF 35 (.ch 1 (tt 33) (tt 34)),bF 36 (.bi (tt 35)),bF 37 (.lF (tt 36))]
def KZ:bg:=mj 2 3 (sl 37) (sl 38) (sl 39) (sl 40) (sl 41) (sl 7) SL
def SM:bg:=.seq KY KZ
def B8:List af:=[sl 7,sl 33,sl 34,sl 35,sl 36,sl 37,sl 38,sl 39,sl 40,sl 41,sl 42,sl 43,sl 44,sl 45,sl 46]
def Gu(aa:ak AV)(H:ah):Option (ak AV×ah):=
 match mr H (aa.get .ahp (sl 3)),aa.get .ahp (sl 5),mr H (aa.get .ahp (sl 4)),aa.get .ahp (sl 6)with
 |some a,.int _ v,some b,.map N=>match kM H a v with
  |some (.map m)=>if af.beq m N then none else match im H m,iB H N with
   |some ks,some t0=>match tn H b ks with
    |some c=>some (jv aa B8,(H.set N (.co (dh (eV c t0)))).skip)
    |none=>none
   |_,_=>none
  |_=>none
 |_,_,_,_=>none
def SN:bg:=.seq (.region [bF 37 (.aR (tt 6)),bF 38 (.aR (tt 5)),bF 39 (.arith .neq 3 (tt 37) (tt 38))])
  (.cond (tt 39) (.region [bF 40 (.bi (tt 3)),bF 41 (.aR (tt 5)),bF 42 (.ch 1 (tt 40) (tt 41)),bF 43 (.bi (tt 42)),bF 44 (.aR (tt 6)),nU (.iP .int (tt 43) (tt 44) (.c (.bool true)))]) .skip)
def K2:bg:=.region [bF 31 (.aR (tt 4)),bF 32 (.lF (tt 31))]
def K3:bg:=mj 4 5 (sl 32) (sl 33) (sl 34) (sl 35) (sl 36) (sl 6) SN
def SO:bg:=.seq K2 K3
def qB:List af:=[sl 6,sl 31,sl 32,sl 33,sl 34,sl 35,sl 36,sl 37,sl 38,sl 39,sl 40,sl 41,sl 42,sl 43,sl 44]
def fX(v:Int):List Int->List Int
 |[]=>[]
 |x::l=>if fU x v then fX v l else x::fX v l
def tq(aa:ak AV)(H:ah):Option (ak AV×ah):=
 match aa.get .ahp (sl 4),aa.get .ahp (sl 5),mr H (aa.get .ahp (sl 3))with
 |.map m,.int 3 v,some a=>match kM H a v with
  |some (.map N)=>if af.beq m N then none else match im H m,iB H N with
   |some ks,some t0=>some (jv aa qB,(H.set N (.co (dh (eV (fX v ks) t0)))).skip)
   |_,_=>none
  |_=>none
 |_,_,_=>none
def K4:bg:=.seq (.seq (.region [bF 22 (.bi (tt 3)),bF 23 (.aR (tt 5)),bF 24 (.ch 1 (tt 22) (tt 23)),bF 25 (.bi (tt 24)),bF 26 (.eq false .map (tt 25) (.c .cC))])
   (.cond (tt 26) (.region [bF 27 (.bi (tt 3)),bF 28 (.aR (tt 5)),bF 29 .jo,bF 30 (.ch 1 (tt 27) (tt 28)),nU (.store 1 (tt 30) (tt 29))]) .skip)) (.dD 1001)
def K5:bg:=.region [bF 16 (.aR (tt 4)),bF 17 (.lF (tt 16))]
def K6:bg:=mj 2 3 (sl 17) (sl 18) (sl 19) (sl 20) (sl 21) (sl 5) K4
def SP:bg:=.seq K5 K6
def po:List af:=[sl 5,sl 6]++(agA 29).map λi=>sl (16+i)
def vT(c:ak AV)(o n:Nat)(m:af)(ks:List Int)(d:ah):List Int->ak AV->ah->Option (ak AV×ah)
 |[],b,a=>some (b,a)
 |k::l,b,a=>
  match k with
  |.ofNat j=>if afR j n then match c.bp .ahp (o+j)with
    |.cC=>vT c o n m ks d l (dY b (o+j) [.map a.next]) (a.new (.co (dh (fX k ks))))
    |.map N=>if af.beq N m then none else match iB d N with
     |some t0=>vT c o n m ks d l b (a.set N (.co (dh (eV (fX k ks) t0))))
     |none=>none
    |_=>none
   else none
  |_=>none
def jN(c:ak AV)(o:Nat):List Int->List af
 |[]=>[]
 |k::l=>match c.bp .ahp (o+k.toNat)with
  |.map N=>N::jN c o l
  |_=>jN c o l
def vU(p:af):List af->Bool
 |[]=>false
 |q::l=>af.beq p q||vU p l
def zW:List af->Bool
 |[]=>true
 |p::l=>!vU p l&&zW l
def Gv(aa:ak AV)(H:ah):Option (ak AV×ah):=
 match aa.get .ahp (sl 4),aa.get .ahp (sl 3)with
 |.map m,.aE a o3=>match bx H a o3 with
  |some (.slice i o n _ _)=>match iB H m,H.get i with
   |some ks,.cells c b e true [] fz=>if !af.beq a i&&ago fz o&&ago (o+n) b&&zW (jN c o ks)then
     match vT c o n m ks H ks c H with
     |some (d,f)=>some (jv aa po,((f.set i (.cells d b e true [] fz)).set m (.co (dh ks))).skip)
     |none=>none
    else none
   |_,_=>none
  |_=>none
 |_,_=>none
def SQ:bg:=.region [bF 62 (.bi (tt 11)),bF 63 (.aR (tt 16)),bF 64 (.jd 1 (tt 7)),bF 65 (.bi (tt 64)),bF 66 (.iQ (tt 65)),bF 67 (.call (tt 62) [tt 63,tt 66])]
def K7:bg:=.region [bF 53 (.bi (tt 5)),bF 54 (.aR (tt 15)),bF 55 (.ch 1 (tt 53) (tt 54)),bF 56 (.bi (tt 55)),bF 57 (.lF (tt 56))]
def K8:bg:=mj 6 7 (sl 57) (sl 58) (sl 59) (sl 60) (sl 61) (sl 16) SQ
def SR:bg:=.seq K7 K8
def zX:List af:=sl 16::(agA 15).map λi=>sl (53+i)
def SS:bg:=.region [bF 85 (.bi (tt 11)),bF 86 (.aR (tt 19)),bF 87 (.call (tt 85) [tt 86,.c (.int 3 (.ofNat 0))])]
def K9:bg:=.region [bF 76 (.bi (tt 5)),bF 77 (.aR (tt 17)),bF 78 (.ch 1 (tt 76) (tt 77)),bF 79 (.bi (tt 78)),bF 80 (.lF (tt 79))]
def La:bg:=mj 8 9 (sl 80) (sl 81) (sl 82) (sl 83) (sl 84) (sl 19) SS
def SU:bg:=.seq K9 La
def zY:List af:=sl 19::(agA 12).map λi=>sl (76+i)
def jw(H:ah)(i:af):Option (List (Int×Int)):=
 match dl (H.get i)with
 |some es=>go es
 |none=>none
where go:List aT->Option (List (Int×Int))
 |[]=>some []
 |e::es=>match e.key,e.val,go es with
  |.int 3 k,.int 3 v,some l=>some ((k,v)::l)
  |_,_,_=>none
def dQ(pl:List (Int×Int))(bz:Int):List Int->List Int
 |[]=>[]
 |v::l=>if mS pl bz v then v::dQ pl bz l else dQ pl bz l
where mS(pl:List (Int×Int))(bz v:Int):Bool:=
 match pl with
 |[]=>true
 |(k,g)::pl=>if fU v k then !jH g bz else mS pl bz v
def jX(t0:List Int):List Int->Bool
 |[]=>false
 |v::l=>!eZ v t0||jX t0 l
def jY(H:ah)(q:af):AV->Option AV
 |.aE i o=>if af.beq i q then none else bx H i o
 |_=>none
def qC(H:ah)(q:af)(s:AV)(x:Int):Option AV:=
 match s with
 |.slice i _ _ _ _=>if af.beq i q then none else kM H s x
 |_=>none
def vV(db:Nat)(bz:af->Option Int)(to:Nat)(bO:List af)(aa:ak AV)(H:ah):Option (ak AV×ah):=
 match mr H (aa.get .ahp (sl 11))with
 |some (.func f [] [c1,c2,c3,.aE a no])=>if afw f db then
  match jY H a (aa.get .ahp (sl 5)),aa.get .ahp (sl to),jY H a (aa.get .ahp (sl 11)),jY H a c1,jY H a c2,jY H a c3,bz a with
  |some g,.int _ t,some _,some (.map d),some h,some (.int _ b),some bz=>
   match qC H a g t,qC H a h b,H.get a with
   |some (.map m),some (.map N),.cells c n e true [] fz=>
    if af.beq d N||af.beq m d||!(ago fz no&&afR no n)then none else
    match im H m,im H d,jw H d,iB H N,c.bp .ahp no with
    |some ks,some _,some pl,some t0,.bool i=>
     some (jv aa bO,((H.set N (.co (dh (eV (dQ pl bz ks) t0)))).set a (.cells (dY c no [.bool (i||jX t0 (dQ pl bz ks))]) n e true [] fz)).skip)
    |_,_,_,_,_=>none
   |_,_,_=>none
  |_,_,_,_,_,_,_=>none
  else none
 |_=>none
def zZ(db:Nat)(aa:ak AV)(H:ah):Option (ak AV×ah):=
 vV db (λa=>match aa.get .ahp (sl 7)with
 |.aE i o=>if af.beq i a then none else match bx H i (o+1)with
  |some (.slice _ _ n _ _)=>some (.ofNat n)
  |some .aH=>some (.ofNat 0)
  |_=>none
 |_=>none) 15 zX aa H
def z6(db:Nat)(aa:ak AV)(H:ah):Option (ak AV×ah):=vV db (λ_=>some (.ofNat 0)) 17 zY aa H
def tu(x:Int):List Int->List Int
 |[]=>[x]
 |y::l=>if jH y x then y::tu x l else x::y::l
def gW:List Int->List Int
 |[]=>[]
 |x::l=>tu x (gW l)
def B9(args:List AV)(H:ah):Option (AV×ah):=
 match args with
 |[.cC]=>some (.aH,H)
 |[.map m]=>match im H m with
  |some []=>some (.aH,H)
  |some ks=>if ago ks.length 1000 then some (.slice H.next 0 ks.length ks.length false,H.new (.cells (bX ((gW ks).map λn=>.int 3 n)) ks.length 3 true [] 0))else none
  |none=>none
 |_=>none
def Lb(args:List AV)(H:ah):Option (AV×ah):=
 match args with
 |[.iface t (.map m)]=>match H.get m with
  |.map es c=>some (.iface t (.map H.next),H.new (.map es c))
  |_=>none
 |_=>none
def SV:List (Nat×bg):=[(1001,SO),(1002,SP),(1003,SM),(1004,SR),(1005,SU)]
instance ae4:Ov:=SJ SV bo
section
variable[Ov]
variable{P:Program}{a:bS}{ρ:aO}{H:ah}{w:World}{nt:Nat}
theorem z7:∀(l:List af)(aa:ak AV)(t:af),(jv aa l).get .ahp t=if t∈l then .b9 else aa.get .ahp t
 |[],aa,t=>by simp[jv]
 |p::l,aa,t=>by
  rw[jv,z7 l,ak.aC];by_cases h:t∈l;·simp[h]
  by_cases e:t=p<;>simp[h,e]
theorem Lc:fM P λ_=>.none:=by refine⟨?_,?_,?_⟩<;>(intros;rename_i h;cases h)
theorem SW{ac:Nat->aX}(r:fM P ac){c1 c2:Code}{x y:bg}(h1:dt P nt c1=some x)(h2:dt P nt c2=some y){n:Nat}{fr:Fr}{K:bU->Fr->ah->Prop}{b:Frame}{z:Act}(he:Xc ac n (.seq x y) fr H K)(s:fC ρ nt fr b.roundOf z)(u:bj P a ρ H w)(k:List Item)(cs:List Frame):gk P a ρ nt w b k cs (lone (b.atR z (.code (.seq c1 c2)::k)) cs w) K:=by cases n with|zero=>simp only[Xc,exec]at he|succ n=>simp only[Xc,exec]at he;have c:vA P ac n:=(vL r n).2.1;obtain⟨j,d,o,e,p,q,t,f,g,h,i,l,m,v⟩:=c h1 he s u (.code c2::k) cs;refine .fN (.one stepR_seq) (.fN v ?_);cases j with|none=>rw[show t=.code c2::k from m];exact .qp g l (c h2 f h i k cs)|exit id=>exact⟨.exit id,d,o,e,p,q,t,f,g,h,i,l,m.pd (λ_ _=>rfl) trivial,Steps.refl _ _⟩|ret=>exact⟨.ret,d,o,e,p,q,t,f,g,h,i,l,m.pd (λ_ _=>rfl) trivial,Steps.refl _ _⟩
theorem Ld(h:bj P a ρ H w){m:af}{es:List aT}{d:Nat}(g:H.get m=.map es d):(es.map (·.born)).Nodup/\∀e∈es,e.born<d:=by
 obtain⟨b,x,j,e,hl,hb,f⟩:=h.bm (i:=m) (by rw[g];simp);rw[g]at f;cases j<;>simp only[OR]at f;rename_i bk k;obtain⟨_,rfl,dF,i⟩:=f;have key:∀{es:List aT}{l:List MapEntry},bh ρ es l->es.map (·.born)=l.map (·.born):=by intro es;induction es with|nil=>intro l h;cases l<;>simp[bh]at h;rfl|cons q es n=>intro l h;cases l with|nil=>simp[bh]at h|cons c l=>simp only[bh]at h;simp[h.2.2.1,n h.2.2.2]
 refine⟨by rw[key i];exact dF.1,λq o=>?_⟩;have:q.born∈es.map (·.born):=afI o;rw[key i,afE]at this;obtain⟨c,p,e⟩:=this;rw[<-e];exact dF.2 c p
theorem Lf(l:bj P a ρ H w){m:af}{es:List aT}(f:dl (H.get m)=some es):∃(d:List aT)(b:Nat),bj P a ρ (H.set m (.map d b)) w/\(d.map aT.kv).Perm (es.map aT.kv)/\(d.map (·.born)).Nodup/\(∀e∈d,e.born<b)/\∀{h:bS}{i:aO}{n:ah}{w':World},bj P h i n w'->n.get m=.map d b->bj P h i (n.set m (H.get m)) w':=by
 cases g:H.get m with
 |map k c=>
  rw[g]at f;simp only[dl,aaM]at f;subst f;have hb:=Ld l g;refine⟨k,c,l.congr rfl λj=>?_,ahe _,hb.1,hb.2,λh2 hg=>h2.congr rfl λj=>?_⟩
  .rw[ah.aC];split;·rename_i e;rw[e,g]
   rfl
  rw[ah.aC];split;·rename_i e;rw[e,hg]
  rfl
 |co k=>rw[g]at f;simp only[dl,aaM]at f;subst f;obtain⟨o,d,b,p1,p2,h1⟩:=JX l g;have hb:=Ld h1 (m:=m) (by rw[ah.aC,aJ rfl]);exact⟨d,b,h1,by rw[p2];exact p1.map _,hb.1,hb.2,λh2 hg=>zF h2 hg p1 p2⟩
 |_=>rw[g]at f;simp[dl]at f
theorem vW:∀{es:List aT}{ks:List Int},il es=some ks->(∀e∈es,∃k∈ks,e.key=.int 3 k)/\∀k∈ks,∃e∈es,e.key=.int 3 k
 |[],ks,h=>by simp only[il,aaM]at h;subst h;simp
 |n::es,ks,h=>by
  simp only[il]at h;split at h
  .rename_i k l g hl;injection h with h;subst h;obtain⟨i,j⟩:=vW hl;refine⟨λe he=>?_,λm f=>?_⟩
   .rcases acn.1 he with b|b;·subst b;exact⟨k,abL ..,g⟩
    obtain⟨q,c,d⟩:=i e b;exact⟨q,aco _ c,d⟩
   rcases acn.1 f with b|b;·subst b;exact⟨n,abL ..,g⟩
   obtain⟨q,c,d⟩:=j m b;exact⟨q,aco _ c,d⟩
  cases h
theorem SX{es b:List aT}{g:List Int}(j:il es=some g)(i:(b.map aT.kv).Perm (es.map aT.kv)):(∀e∈b,∃k∈g,e.key=.int 3 k)/\∀k∈g,∃e∈b,e.key=.int 3 k:=by
 obtain⟨l,m⟩:=vW j;constructor;·intro e he;have:e.kv∈es.map aT.kv:=i.mem_iff.1 (afI he);rw[afE]at this;obtain⟨f,c,d⟩:=this;obtain⟨k,h1,h2⟩:=l f c;have:e.key=f.key:=(congrArg aho d).symm;exact⟨k,h1,this.trans h2⟩
 intro k h;obtain⟨e,he,h2⟩:=m k h;have:e.kv∈b.map aT.kv:=i.mem_iff.2 (afI he);rw[afE]at this;obtain⟨f,c,d⟩:=this;have:f.key=e.key:=congrArg aho d;exact⟨f,c,this.trans h2⟩
theorem tw{m:af}{b:List Int}(h:im H m=some b):∃es,dl (H.get m)=some es/\il es=some b/\b.Nodup:=by
 unfold im at h;split at h
 .rename_i es gI;split at h
  .rename_i l hl;split at h;·rename_i c;injection h with h;subst h;exact⟨es,gI,hl,(tp _).1 c⟩
   cases h
  cases h
 cases h
def sk(k:Int):AV×AV:=(.int 3 k,.bool true)
def e9(o:bL)(ks:List Int):Prop:=ks.Nodup/\∃es,dl o=some es/\es.map aT.kv=ks.map sk
theorem Lg:∀{es:List aT}{ks:List Int},qA es=some ks->es.map aT.kv=ks.map sk
 |[],ks,h=>by simp only[qA,aaM]at h;subst h;rfl
 |b::es,ks,h=>by
  simp only[qA]at h;split at h;·rename_i k l h1 h2 hl;injection h with h;subst h;simp only[afp,Lg hl,aT.kv,h1,h2,sk]
  cases h
theorem mT{N:af}{b:List Int}(h:iB H N=some b):e9 (H.get N) b:=by
 unfold iB at h;split at h
 .rename_i es gI;split at h
  .rename_i l hl;split at h;·rename_i c;injection h with h;subst h;exact⟨(tp _).1 c,es,gI,Lg hl⟩
   cases h
  cases h
 cases h
theorem Gw(l:List Int):(dh l).map aT.kv=l.map sk:=by simp[dh,aT.kv,sk]
theorem B'{l:List Int}(h:l.Nodup):e9 (.co (dh l)) l:=⟨h,dh l,rfl,Gw l⟩
theorem bj.tx(h:bj P a ρ H w){N:af}{ks ks2:List Int}(hs:e9 (H.get N) ks)(j:ks.Perm ks2):bj P a ρ (H.set N (.co (dh ks2))) w:=by
 obtain⟨_,es,he,g⟩:=hs;have f:(dh ks).Perm (dh ks2):=j.map _;have d:es.map aT.kv=(dh ks).map aT.kv:=by rw[g,Gw]
 cases b:H.get N with|map i c=>rw[b]at he;simp only[dl,aaM]at he;subst he;exact zF h b f d|co i=>rw[b]at he;simp only[dl,aaM]at he;subst he;refine h.FO (by rw[b];simp) (by rw[b];rfl) (by rw[b];rfl) rfl ?_;intro x k e;rw[b]at e;cases k<;>simp only[OR]at e⊢;obtain⟨h1,h2,l,h3,m⟩:=e;obtain⟨n,p1,p2⟩:=bV.zE f (bV.kv d m);exact⟨⟨h1,h2,n,p1.trans h3,p2⟩,λq=>by simp[dI]⟩|_=>rw[b]at he;simp[dl]at he
theorem Gx{k:Int}:∀{es:List aT}{ks:List Int},es.map aT.kv=ks.map sk->∀i0,(k∉ks->findKey .int (.int 3 k) es i0=some none)/\(k∈ks->∃i,findKey .int (.int 3 k) es i0=some (some (i0+i,.bool true))/\i<es.length/\iu (.bool true) (.int 3 k) es i=es)
 |[],[],_,i0=>by simp[findKey]
 |e::es,x::ks,h,i0=>by
  simp only[afp,afM,aT.kv,sk,abS]at h;obtain⟨⟨h1,h2⟩,h3⟩:=h;obtain⟨f,g⟩:=Gx (k:=k) h3 (i0+1);have b:cQ 64 .int (.int 3 k) (.int 3 x)=some (fU k x):=by simp[cQ]
  by_cases c:k=x
  .subst c;refine⟨λh=>absurd (abL ..) h,λ_=>⟨0,?_,aF,?_⟩⟩;·simp only[findKey,h1,b,eT,beq_self_eq_true,h2,ahc]
   simp only[iu,<-h1,<-h2]
  have d:fU k x=false:=by rw[eT];simpa using c
  refine⟨λh=>?_,λh=>?_⟩;·simp only[findKey,h1,b,d];exact f λj=>h (aco _ j)
  obtain⟨i,l,m,n⟩:=g ((acn.1 h).resolve_left c);refine⟨i+1,?_,by simpa using m,?_⟩;·simp only[findKey,h1,b,d,l];congr 3;omega
  simp only[iu,n]
 |[],_::_,h,_=>by simp at h
 |_::_,[],h,_=>by simp at h
theorem Gy{k:Int}:∀{es:List aT}{ks:List Int},ks.Nodup->es.map aT.kv=ks.map sk->(k∉ks->dL.go .int (.int 3 k) es=some none)/\(k∈ks->dL.go .int (.int 3 k) es=some (some (.bool true))/\(jJ .int (.int 3 k) (.bool true) es).map aT.kv=ks.map sk)
 |[],[],_,_=>by simp[dL.go]
 |e::es,x::ks,d,h=>by
  rw[agf]at d;simp only[afp,afM,aT.kv,sk,abS]at h;obtain⟨⟨h1,h2⟩,h3⟩:=h;obtain⟨g,i⟩:=Gy (k:=k) d.2 h3;have b:cQ 64 .int (.int 3 k) (.int 3 x)=some (fU k x):=by simp[cQ]
  by_cases c:k=x
  .subst c;have hg:=g d.1;refine⟨λh=>absurd (abL ..) h,λ_=>⟨?_,?_⟩⟩;·simp only[dL.go,h1,b,eT,beq_self_eq_true,hg,h2]
   simp only[jJ,jI,h1,b,eT,beq_self_eq_true,bf,(vn (v:=.bool true) hg).1,afp,aT.kv,sk];rw[<-h3]
  have f:fU k x=false:=by rw[eT];simpa using c
  refine⟨λh=>?_,λh=>?_⟩;·simp only[dL.go,h1,b,f,g λj=>h (aco _ j)]
  obtain⟨l,m⟩:=i ((acn.1 h).resolve_left c);refine⟨by simp only[dL.go,h1,b,f,l],?_⟩;simp only[jJ,jI,h1,b,f,abe,bD,afp,m,aT.kv,h2,sk]
 |[],_::_,_,h=>by simp at h
 |_::_,[],_,h=>by simp at h
theorem vX(aa:ak AV)(v:AV):gv aa (.c v)=v:=rfl
theorem Lh{aa:ak AV}{om ok_:aL}{N:af}{x:Int}{ks:List Int}(r:gv aa om=.map N)(s:gv aa ok_=.int 3 x)(hs:e9 (H.get N) ks):∃o,aD (.iP .int om ok_ (.c (.bool true))) aa H=some (.ahp,o)/\o.next=H.next/\(∀j,j≠N->o.get j=H.get j)/\e9 (o.get N) (mq x ks)/\∀es D,H.get N=.map es D->∃A C,o.get N=.map A C/\(x∈ks->o.get N=H.get N):=by
 obtain⟨p,es,he,k⟩:=hs;have d:eZ x ks=true↔x∈ks:=pi x ks;cases l:H.get N with
 |map f D=>
  rw[l]at he;simp only[dl,aaM]at he;subst he;obtain⟨u,v⟩:=Gx (k:=x) k 0;by_cases g:x∈ks
  .obtain⟨i,t,y,B⟩:=v g;rw[afC]at t;refine⟨H.set N (.map (iu (.bool true) (.int 3 x) f i) D),?_,rfl,λj hj=>by rw[ah.aC,ap hj],?_,λm c2 q=>⟨_,_,by rw[ah.aC,aJ rfl],λ_=>by rw[ah.aC,aJ rfl,B]⟩⟩;·have n:qY .int (.int 3 x) f i=true:=FP rfl _ _ _ y;simp only[aD,gG,afP,abe,bD,r,s,l,t,n,bf,vX]
   rw[ah.aC,aJ rfl];unfold mq;rw[aJ (d.2 g)];exact⟨p,_,rfl,by rw[B];exact k⟩
  refine⟨H.set N (.map (f++[⟨.int 3 x,.bool true,D⟩]) (D+1)),?_,rfl,λj hj=>by rw[ah.aC,ap hj],?_,λm c2 q=>⟨_,_,by rw[ah.aC,aJ rfl],λh=>absurd h g⟩⟩;·simp only[aD,gG,afP,abe,bD,r,s,l,u g,vX]
  rw[ah.aC,aJ rfl];unfold mq;rw[ap (λh=>g (d.1 h))];refine⟨?_,_,rfl,by simp[k,aT.kv,sk]⟩;rw[afY];exact⟨p,aF,λE z b hb=>by simp only[abx]at hb;subst hb;exact λe=>g (e▸z)⟩
 |co f=>
  rw[l]at he;simp only[dl,aaM]at he;subst he;obtain⟨u,v⟩:=Gy (k:=x) p k;by_cases g:x∈ks
  .obtain⟨t,y⟩:=v g;refine⟨H.set N (.co (jJ .int (.int 3 x) (.bool true) f)),?_,rfl,λj hj=>by rw[ah.aC,ap hj],?_,λm c2 q=>by cases q⟩;·simp only[aD,gG,afP,abe,bD,r,s,l,dL,lH,bf,t,vX]
   rw[ah.aC,aJ rfl];unfold mq;rw[aJ (d.2 g)];exact⟨p,_,rfl,y⟩
  refine⟨H.set N (.co (f++[⟨.int 3 x,.bool true,0⟩])),?_,rfl,λj hj=>by rw[ah.aC,ap hj],?_,λm c2 q=>by cases q⟩;·simp only[aD,gG,afP,abe,bD,r,s,l,dL,lH,bf,u g,vX]
  rw[ah.aC,aJ rfl];unfold mq;rw[ap (λh=>g (d.1 h))];refine⟨?_,_,rfl,by simp[k,aT.kv,sk]⟩;rw[afY];exact⟨p,aF,λE z b hb=>by simp only[abx]at hb;subst hb;exact λe=>g (e▸z)⟩
 |_=>rw[l]at he;simp[dl]at he
theorem Li{aa:ak AV}{om ok_:aL}{N:af}{x:Int}{ks:List Int}(d:gv aa om=.map N)(e:gv aa ok_=.int 3 x)(hs:e9 (H.get N) ks):∃b,aD (.iP .int om ok_ (.c (.bool true))) aa H=some (.ahp,b)/\b.next=H.next/\(∀j,j≠N->b.get j=H.get j)/\e9 (b.get N) (mq x ks):=by obtain⟨b,h1,h2,h3,f,_⟩:=Lh d e hs;exact⟨b,h1,h2,h3,f⟩
theorem Lj{aa:ak AV}{p g:aL}{N:af}{x:Int}{b:List Int}(k:gv aa p=.map N)(l:gv aa g=.int 3 x)(hs:e9 (H.get N) b):aD (.lookup .int (.bool false) false p g) aa H=some (.bool (eZ x b),H):=by
 obtain⟨r,es,he,j⟩:=hs;have e:eZ x b=true↔x∈b:=pi x b;have hb:∀q:Bool,(x∈b↔q=true)->eZ x b=q:=λq t=>by cases q<;>cases h:eZ x b<;>simp_all
 cases f:H.get N with
 |map o c=>
  rw[f]at he;simp only[dl,aaM]at he;subst he;obtain⟨m,n⟩:=Gx (k:=x) j 0;by_cases d:x∈b;·obtain⟨i,s,_⟩:=n d;simp only[aD,gG,afP,abe,bD,k,l,f,s,e.2 d]
  simp only[aD,gG,afP,abe,bD,k,l,f,m d,hb false (by simp[d])]
 |co o=>
  rw[f]at he;simp only[dl,aaM]at he;subst he;obtain⟨m,n⟩:=Gy (k:=x) r j;by_cases d:x∈b;·simp only[aD,gG,afP,abe,bD,k,l,f,dL,lH,bf,(n d).1,e.2 d]
  simp only[aD,gG,afP,abe,bD,k,l,f,dL,lH,bf,m d,hb false (by simp[d])]
 |_=>rw[f]at he;simp[dl]at he
theorem tz{i:af}{o:Nat}{v:AV}(h:bx H i o=some v):∃c n e b aM fz,H.get i=.cells c n e b aM fz/\o<n/\c.bp .ahp o=v:=by
 unfold bx at h;split at h
 .rename_i c n e b aM fz hi;split at h;·rename_i d;injection h with h;exact⟨c,n,e,b,aM,fz,hi,Eq.mp agh d,h⟩
  cases h
 cases h
theorem mw{b:ah}{i:af}(h:b.get i=H.get i)(o:Nat):bx b i o=bx H i o:=by unfold bx;rw[h]
theorem gX{aa:ak AV}{x:aL}{i:af}{o:Nat}{v:AV}(b:gv aa x=.aE i o)(h:bx H i o=some v):aD (.bi x) aa H=some (v,H):=by obtain⟨c,n,e,d,aM,fz,h1,h2,h3⟩:=tz h;simp[aD,gF,b,dK,h1,eX,h2,h3]
theorem rD{b v:AV}(h:mr H b=some v):∃i o,b=.aE i o/\bx H i o=some v:=by
 unfold mr at h;split at h;·exact⟨_,_,rfl,h⟩
 cases h
theorem z8{s v:AV}{x:Int}(h:kM H s x=some v):∃i o n c e j,s=.slice i o n c e/\x=.ofNat j/\j<n/\bx H i (o+j)=some v:=by
 unfold kM at h;split at h
 .split at h;·rename_i b;exact⟨_,_,_,_,_,_,rfl,rfl,Eq.mp agh b,h⟩
  cases h
 cases h
theorem rE{aa:ak AV}{x y:aL}{i:af}{o n c:Nat}{e:Bool}{j k:Nat}(b:gv aa x=.slice i o n c e)(d:gv aa y=.int k (.ofNat j))(hj:j<n):aD (.ch 1 x y) aa H=some (.aE i (o+j),H):=by have:afR j n=true:=ahm agh hj;simp[aD,b,d,this]
end
section
mutual
theorem VR.eD{r p:aO}(h:bQ r p):∀(v:AV)(c0 c:Value),VR r v c0->VR p v c->VR r v c
 |.tuple l,c0,c,d,k=>by
  cases c0<;>simp only[VR]at d
  cases c<;>simp only[VR]at k⊢
  exact aQ.eD h l _ _ d k
 |.agg l,c0,c,d,k=>by
  cases c0<;>simp only[VR]at d
  cases c<;>simp only[VR]at k⊢
  exact aQ.eD h l _ _ d k
 |.bool _,c0,c,_,k=>by cases c<;>simp only[VR]at k⊢;exact k
 |.int _ _,c0,c,_,k=>by cases c<;>simp only[VR]at k⊢;exact k
 |.str _,c0,c,_,k=>by cases c<;>simp only[VR]at k⊢;exact k
 |.aE i o,c0,c,d,k=>by
  cases c0 with
  |pointer a0=>
   cases a0 with
   |none=>simp[VR]at d
   |some a0=>
    simp only[VR]at d
    obtain⟨q,s,j,_⟩:=d
    cases c with
    |pointer a=>
     cases a with
     |none=>simp[VR]at k
     |some a=>
      simp only[VR]at k⊢
      obtain⟨b,x,e,B⟩:=k
      have:=(h _ _ j).1.symm.trans e
      injection this with this;injection this with u w
      subst u;subst w
      exact⟨_,_,j,B⟩
    |_=>simp[VR]at k
  |_=>simp[VR]at d
 |.kn,c0,c,_,k=>by
  cases c with
  |pointer a=>cases a<;>simp[VR]at k⊢
  |_=>simp[VR]at k
 |.slice i o len cap ex,c0,c,d,k=>by
  cases c0 with
  |slice a0 G H=>
   cases a0 with
   |none=>simp[VR]at d
   |some a0=>
    simp only[VR]at d
    obtain⟨_,_,_,_,q,s,j,_⟩:=d
    cases c with
    |slice a n m=>
     cases a with
     |none=>simp[VR]at k
     |some a=>
      simp only[VR]at k⊢
      obtain⟨h1,h2,h3,C,b,x,e,D,z⟩:=k
      have:=(h _ _ j).1.symm.trans e
      injection this with this;injection this with u w
      subst u;subst w
      have A:=(h _ _ j).2
      simp only at A
      rw[A]at z
      exact⟨h1,h2,h3,C,_,_,j,D,z⟩
    |_=>simp[VR]at k
  |_=>simp[VR]at d
 |.aH,c0,c,_,k=>by
  cases c with
  |slice a n m=>
   unfold VR at k⊢
   split at k<;>first|trivial|(exact absurd k aF)|exact k
  |_=>simp[VR]at k
 |.map i,c0,c,d,k=>by
  cases c0 with
  |map q=>
   cases q with
   |none=>simp[VR]at d
   |some q=>
    simp only[VR]at d
    cases c with
    |map b=>
     cases b with
     |none=>simp[VR]at k
     |some b=>
      simp only[VR]at k⊢
      have:=(h _ _ d).1.symm.trans k
      rw[d];exact this
    |_=>simp[VR]at k
  |_=>simp[VR]at d
 |.cC,c0,c,_,k=>by
  cases c with
  |map b=>cases b<;>simp[VR]at k⊢
  |_=>simp[VR]at k
 |.func f a b,c0,c,d,k=>by
  cases c0 with
  |func t0 s E=>
   cases t0 with
   |func F=>
    simp only[VR]at d
    cases c with
    |func t x y=>
     cases t with
     |func g=>
      simp only[VR]at k⊢
      exact⟨k.1,aQ.eD h a _ _ d.2.1 k.2.1,aQ.eD h b _ _ d.2.2 k.2.2⟩
     |_=>simp[VR]at k
    |_=>simp[VR]at k
   |_=>simp[VR]at d
  |_=>simp[VR]at d
 |.yield i,c0,c,d,k=>by
  cases c0 with
  |func t0 s E=>
   cases t0 with
   |yield F=>
    simp only[VR]at d
    cases c with
    |func t x y=>
     cases t with
     |yield g=>
      simp only[VR]at k⊢
      have:=(h _ _ d.1).1.symm.trans k.1
      exact⟨by rw[d.1];exact this,k.2⟩
     |_=>simp[VR]at k
    |_=>simp[VR]at k
   |_=>simp[VR]at d
  |_=>simp[VR]at d
 |.nilFunc,c0,c,_,k=>by cases c<;>simp only[VR]at k⊢
 |.iface t v,c0,c,d,k=>by
  cases c0<;>simp only[VR]at d
  cases c<;>simp only[VR]at k⊢
  exact⟨k.1,VR.eD h v _ _ d.2 k.2⟩
 |.nilIface,c0,c,_,k=>by cases c<;>simp only[VR]at k⊢
 |.b9,c0,c,_,_=>by simp only[VR]
theorem aQ.eD{e b:aO}(h:bQ e b):∀(l:List AV)(a m:List Value),aQ e l a->aQ b l m->aQ e l m
 |[],a,m,_,k=>by cases m<;>simp only[aQ]at k⊢
 |v::l,a,m,d,k=>by
  cases a with
  |nil=>simp[aQ]at d
  |cons c0 a=>
   cases m with
   |nil=>simp[aQ]at k
   |cons c m=>
    simp only[aQ]at d k⊢
    exact⟨VR.eD h v _ _ d.1 k.1,aQ.eD h l _ _ d.2 k.2⟩
end
theorem ig.eD{e c:aO}(h:bQ e c):∀{l:List af}{a m:List Deferred},ig e l a->ig c l m->ig e l m|[],a,m,_,k=>by cases m<;>simp only[ig]at k⊢|i::l,a,m,b,k=>by cases a with|nil=>simp[ig]at b|cons n a=>cases m with|nil=>simp[ig]at k|cons d m=>simp only[ig]at b k⊢;obtain⟨⟨o,f,_⟩,b⟩:=b;obtain⟨⟨r,g,j⟩,k⟩:=k;have:=(h _ _ f).1.symm.trans g;exact⟨⟨r,by rw[f];exact this,j⟩,ig.eD h b k⟩
section
variable[Ov]
variable{P:Program}
theorem fC.off{d c:aO}{e:Nat}{fr b:Fr}{f:Option Nat}{a g:Act}{bO:List af}(h0:fC d e fr f a)(i:bQ d c)(h:fC c e b f g)(hs:∀t,t∉bO->b.aa.get .ahp t=fr.aa.get .ahp t)(k:b.br=fr.br):fC d e {fr with aa:=Go.al.jv fr.aa bO} f g:=by
 refine⟨⟨h.E.1,λt j=>?_⟩,?_,h0.R⟩
 .rw[z7];split;·simp only[VR]
  rename_i l;have:=h.E.2 t j;rw[hs _ l]at this;exact VR.eD i _ _ _ (h0.E.2 t j) this
 have:=h.D;rw[k]at this;exact ig.eD i h0.D this
theorem Gz:∀{l:List aT},(l.map (·.born)).Nodup->∀{x y:aT},x∈l->y∈l->x.born=y.born->x=y
 |[],_,_,_,e,_,_=>by cases e
 |c::l,d,x,y,e,f,h=>by
  rw[afp,agf]at d;rcases acn.1 e with a|a<;>rcases acn.1 f with b|b;·rw[a,b]
  .subst a;exact absurd (h▸afI b) d.1
  .subst b;exact absurd (h▸afI a) d.1
  exact Gz d.2 a b h
theorem GA{ac:Nat->aX}(ht:fM P ac){S:bS}{I:aO}{H L:ah}{w:World}{T:Nat}{fr:Fr}{b:Frame}{a:Act}{c1 c2:Code}{X body:bg}{y z:Nat}{p i ok C ex kv:af}(h1:dt P T c1=some X)(h2:dt P T c2=some (mj y z p i ok C ex kv body))(ag:y≠z)(d1:p≠i)(d2:p≠ok)(d3:i≠ok)(d4:p≠C)(d5:C≠ex)(d6:p≠ex)(d7:p≠kv){bO:List af}(s1:i∈bO)(s2:ok∈bO)(s3:C∈bO)(s4:ex∈bO)(s5:kv∈bO)(hF:fC I T fr b.roundOf a)(hI:bj P S I H w){m:af}{es:List aT}{ks:List Int}(Y:dl (H.get m)=some es)(hk:il es=some ks)(Z V:Nat)(Q:∀d c,Xc ac Z X fr (H.set m (.map d c)) λj f g=>j=.none/\f.br=fr.br/\f.bw=fr.bw/\(∀t,t∉bO->f.aa.get .ahp t=fr.aa.get .ahp t)/\f.aa.get .ahp p=.aE H.next 0/\g=(H.set m (.map d c)).new (.mapIter (some m) c [] c))(J:List aT->Nat->List Int->ah->Prop)(J0:∀d c,(d.map aT.kv).Perm (es.map aT.kv)->J d c [] ((H.set m (.map d c)).new (.mapIter (some m) c [] c)))(av:∀d c l g o,J d c l g->J d c l (g.set H.next o))(Jm:∀d c l g,J d c l g->g.get m=.map d c)(B:∀d c l aa g k,k∈ks->J d c l g->(∀t,t∉bO->aa.get .ahp t=fr.aa.get .ahp t)->aa.get .ahp kv=.int 3 k->Xc ac V body ⟨aa,fr.br,fr.bw⟩ g λj f u=>j=.none/\f.br=fr.br/\f.bw=fr.bw/\(∀t,t∉bO->f.aa.get .ahp t=fr.aa.get .ahp t)/\f.aa.get .ahp p=aa.get .ahp p/\u.get H.next=g.get H.next/\J d c (l++[k]) u)(aB:∀d c l g n w',(∀k,k∈l↔k∈ks)->J d c l g->bQ I n->bj P S n g w'->(∀{M:bS}{n:aO}{u:ah}{w':World},bj P M n u w'->u.get m=.map d c->bj P M n (u.set m (H.get m)) w')->∃r,bQ I r/\bj P S r L w')(k:List Item)(cs:List Frame):gk P S I T w b k cs (lone (b.atR a (.code (.seq c1 c2)::k)) cs w) λj f g=>j=.none/\f={fr with aa:=jv fr.aa bO}/\g=L:=by
 obtain⟨d,c,aw,hp,hb,ax,eD⟩:=Lf hI Y;obtain⟨ay,a2⟩:=SX hk hp;have a8:m≠H.next:=λe=>by have:=(hI.cS H.next (adv _)).1;rw[<-e]at this;rw[this]at Y;simp[dl]at Y
 have run:Xc ac (Z+(V+15+d.length)+1) (.seq X (mj y z p i ok C ex kv body)) fr (H.set m (.map d c)) λj f g=>j=.none/\f.br=fr.br/\(∀t,t∉bO->f.aa.get .ahp t=fr.aa.get .ahp t)/\∃l,(∀k,k∈l↔k∈ks)/\J d c l g:=by
  refine Xc.gK (n:=Z) (m:=V+15+d.length) ab ab ((Q d c).mono (adv _) ?_);rintro j f g⟨rfl,g1,g2,g3,g4,rfl⟩;have R:f=⟨f.aa,fr.br,fr.bw⟩:=by cases f;simp only at g1 g2;subst g1;subst g2;rfl
  rw[R];refine KU ag d1 d2 d3 d5 hb ax (id:=H.next) (m:=m) (I:=λseen aa g=>(∀t,t∉bO->aa.get .ahp t=fr.aa.get .ahp t)/\aa.get .ahp p=.aE H.next 0/\g.get H.next=.mapIter (some m) c seen c/\∃l,(∀k,k∈l->k∈ks)/\(∀e∈d,e.born∈seen->∃k∈l,e.key=.int 3 k)/\J d c l g) ?_ V ?_ ?_ d.length [] f.aa _ ?_ ?_;·rintro seen aa g⟨W,v,K,l,D,E,x⟩;exact⟨v,K,Jm _ _ _ _ x⟩
  .rintro seen aa g e⟨W,v,K,l,D,E,x⟩he ba;obtain⟨kk,N,s⟩:=ay e he;refine(B d c l _ _ kk N (av _ _ _ _ _ x) ?_ ?_).mono (adv _) ?_;·intro t h;have n1:t≠i:=λe=>h (e▸s1);have n2:t≠ok:=λe=>h (e▸s2);have n3:t≠C:=λe=>h (e▸s3);have n4:t≠ex:=λe=>h (e▸s4);have n5:t≠kv:=λe=>h (e▸s5);simp only[ak.aC,ap n1,ap n2,ap n3,ap n4,ap n5];exact W t h
   .rw[ak.aC,aJ rfl];exact s
   rintro j bb u⟨r1,r2,r3,r4,r5,r6,r7⟩;refine⟨r1,r2,r3,r4,?_,?_,l++[kk],?_,?_,r7⟩;·rw[r5];simp only[ak.aC,ap d1,ap d2,ap d4,ap d6,ap d7];exact v
   .rw[r6,ah.aC,aJ rfl]
   .intro F A;rcases ae8.1 A with q|q;·exact D F q
    rw[abx]at q;rw[q];exact N
   intro e' O a6;rcases ae8.1 a6 with q|q;·obtain⟨F,a1,G⟩:=E e' O q;exact⟨F,afD _ a1,G⟩
   rw[abx]at q;have:e'=e:=by exact Gz hb O he q
   subst this;exact⟨kk,afW _ (abx.2 rfl),s⟩
  .rintro seen aa g⟨W,v,K,l,D,E,x⟩eJ;refine⟨rfl,rfl,?_,l,λF=>⟨D F,λA=>?_⟩,x⟩;·intro t h;have n1:t≠i:=λe=>h (e▸s1);have n2:t≠ok:=λe=>h (e▸s2);simp only[ak.aC,ap n1,ap n2];exact W t h
   obtain⟨e,he,s⟩:=a2 F A;obtain⟨k2,a1,G⟩:=E e he (eJ e he);rw[s]at G;injection G with _ G;rw[G];exact a1
  .exact⟨g3,g4,by rw[ah.cz,ah.d8,aJ rfl],[],aF,aF,J0 d c hp⟩
  exact List.length_filter_le ..
 obtain⟨j,f,g,n,a',w',t,⟨rfl,e1,e2,l,e3,e4⟩,v,K,D,E,x,q7⟩:=SW ht h1 h2 run hF aw k cs;obtain⟨r,x2,I2⟩:=aB d c l g n w' e3 e4 v D eD;exact⟨.none,_,_,r,a',w',t,⟨rfl,rfl,rfl⟩,x2,(fC.off hF v K e2 e1).mono x2,I2,E,x,q7⟩
end
end
section
section
variable[Ov]
variable{P:Program}
theorem Lk{ac:Nat->aX}(ht:fM P ac){Wr:bS}{V:aO}{H:ah}{w:World}{R:Nat}{fr:Fr}{b:Frame}{a:Act}{c1 c2:Code}{xh body:bg}{K L:Nat}{p u ok S ex kv:af}(h1:dt P R c1=some xh)(h2:dt P R c2=some (mj K L p u ok S ex kv body))(Z:K≠L)(d1:p≠u)(d2:p≠ok)(d3:u≠ok)(d4:p≠S)(d5:S≠ex)(d6:p≠ex)(d7:p≠kv){bO:List af}(s1:u∈bO)(s2:ok∈bO)(s3:S∈bO)(s4:ex∈bO)(s5:kv∈bO)(hF:fC V R fr b.roundOf a)(T:bj P Wr V H w){m N:af}{ks t0 v:List Int}(hk:im H m=some ks)(hN:iB H N=some t0)(A:m≠N)(nh fb:Nat)(Q:∀i c,Xc ac nh xh fr (H.set m (.map i c)) λj d g=>j=.none/\d.br=fr.br/\d.bw=fr.bw/\(∀t,t∉bO->d.aa.get .ahp t=fr.aa.get .ahp t)/\d.aa.get .ahp p=.aE H.next 0/\g=(H.set m (.map i c)).new (.mapIter (some m) c [] c))(one:Int->Int->Prop)(C:∀aa g k f,k∈ks->(∀j,j≠N->j≠m->j≠H.next->g.get j=H.get j)->e9 (g.get N) f->(∀t,t∉bO->aa.get .ahp t=fr.aa.get .ahp t)->aa.get .ahp kv=.int 3 k->Xc ac fb body ⟨aa,fr.br,fr.bw⟩ g λj d H2=>j=.none/\d.br=fr.br/\d.bw=fr.bw/\(∀t,t∉bO->d.aa.get .ahp t=fr.aa.get .ahp t)/\d.aa.get .ahp p=aa.get .ahp p/\H2.next=g.next/\(∀j,j≠N->H2.get j=g.get j)/\∃n,e9 (H2.get N) n/\∀x,x∈n↔x∈f\/one k x)(hx:v.Nodup)(ag:∀x,x∈v↔x∈t0\/∃k∈ks,one k x)(k:List Item)(cs:List Frame):gk P Wr V R w b k cs (lone (b.atR a (.code (.seq c1 c2)::k)) cs w) λj d g=>j=.none/\d={fr with aa:=jv fr.aa bO}/\g=(H.set N (.co (dh v))).skip:=by
 obtain⟨es,W,av,a6⟩:=tw hk;have M:=mT hN;have B:N≠H.next:=λe=>by have:=(T.cS H.next (adv _)).1;obtain⟨_,q,r,_⟩:=M;rw[e,this]at r;simp[dl]at r
 have O:m≠H.next:=λe=>by have:=(T.cS H.next (adv _)).1;rw[<-e]at this;rw[this]at W;simp[dl]at W
 refine GA ht h1 h2 Z d1 d2 d3 d4 d5 d6 d7 s1 s2 s3 s4 s5 hF T W av nh fb Q (J:=λi c l g=>g.next=H.next.succ/\(∀j,j≠N->j≠m->j≠H.next->g.get j=H.get j)/\g.get m=.map i c/\∃f,e9 (g.get N) f/\∀x,x∈f↔x∈t0\/∃k∈l,one k x) ?_ ?_ ?_ ?_ ?_ k cs
 .intro i c _;refine⟨rfl,λj F G D=>?_,?_,t0,?_,aF⟩;·rw[ah.cz,ah.d8,ap D,ah.aC,ap G]
  .rw[ah.cz,ah.d8,ap O,ah.aC,aJ rfl]
  rw[ah.cz,ah.d8,ap B,ah.aC,ap (ahf A)];exact M
 .rintro i c l g o⟨r,y,z,f,E,I⟩;refine⟨r,λj F G D=>?_,?_,f,?_,I⟩;·rw[ah.aC,ap D];exact y j F G D
  .rw[ah.aC,ap O];exact z
  rw[ah.aC,ap B];exact E
 .rintro i c l g⟨r,y,z,_⟩;exact z
 .rintro i c l aa g kk aw⟨r,y,z,f,E,I⟩he ax;refine(C aa g kk f aw y E he ax).mono (adv _) ?_;rintro j d H2⟨r1,r2,r3,r4,r5,r6,X,n,r8,r9⟩;refine⟨r1,r2,r3,r4,r5,X _ (ahf B),r6.trans r,λj F G D=>(X j F).trans (y j F G D),(X m A).trans z,n,r8,λx=>?_⟩;rw[r9,I];simp only[ae8,abx];constructor
  .rintro((h|⟨s,h1,h2⟩)|h);·exact .inl h
   .exact .inr ⟨s,.inl h1,h2⟩
   exact .inr ⟨kk,.inr rfl,h⟩
  rintro(h|⟨s,h1|h1,h2⟩);·exact .inl (.inl h)
  .exact .inl (.inr ⟨s,h1,h2⟩)
  exact .inr (h1▸h2)
 rintro i c l g ay w' hl⟨r,y,z,f,E,I⟩a1 a2 eD;refine⟨ay,a1,?_⟩;have i1:=eD a2 z;have hp:f.Perm v:=(agD E.1 hx).2 λx=>by
  rw[I,ag];constructor
  .rintro(h|⟨s,h1,h2⟩);·exact .inl h
   exact .inr ⟨s,(hl s).1 h1,h2⟩
  rintro(h|⟨s,h1,h2⟩);·exact .inl h
  exact .inr ⟨s,(hl s).2 h1,h2⟩
 have i2:=i1.tx (N:=N) (ks:=f) (ks2:=v) (by rw[ah.aC,ap (ahf A)];exact E) hp;refine i2.sub (H2:=(H.set N (.co (dh v))).skip) (by show H.next.succ=g.next;exact r.symm) λj=>?_;show(H.set N (.co (dh v))).get j=_\/(H.set N (.co (dh v))).get j=_;simp only[ah.aC];by_cases J:j=N;·left;simp[J]
 by_cases Y:j=m;·left;simp[J,Y]
 by_cases e3:j=H.next;·right;simp only[ap J];rw[e3];exact(T.cS _ (adv _)).1
 left;simp only[ap J,ap Y];exact(y j J Y e3).symm
theorem jx{H:ah}{i m:af}{o:Nat}{v:AV}(h:bx H i o=some v){es:List aT}(a:dl (H.get m)=some es):i≠m:=by obtain⟨c,n,e,b,aM,fz,h1,_⟩:=tz h;rintro rfl;rw[h1]at a;simp[dl]at a
theorem tA{P:Program}{a:bS}{b:aO}{H:ah}{w:World}(d:bj P a b H w){i:af}{o:Nat}{v:AV}(h:bx H i o=some v):i≠H.next:=by obtain⟨c,n,e,f,aM,fz,h1,_⟩:=tz h;rintro rfl;rw[(d.cS _ (adv _)).1]at h1;cases h1
theorem Aa{H:ah}{N:af}{t:List Int}(h:iB H N=some t):∃es,dl (H.get N)=some es:=by obtain⟨_,es,h,_⟩:=mT h;exact⟨es,h⟩
theorem Ca{H:ah}{N:af}{t:List Int}(h:im H N=some t):∃es,dl (H.get N)=some es:=by obtain⟨es,h,_⟩:=tw h;exact⟨es,h⟩
theorem vY{H:ah}{i m:af}{o:Nat}{x:bL}(h:i≠m):bx (H.set m x) i o=bx H i o:=mw (by rw[ah.aC,ap h]) o
theorem Ll{H:ah}{s:AV}:∀{ks b:List Int},tn H s ks=some b->∀x,x∈b↔∃k∈ks,kM H s k=some (.int 3 x)
 |[],b,h,x=>by simp only[tn,aaM]at h;subst h;simp
 |y::l,b,h,x=>by
  simp only[tn]at h;split at h
  .rename_i r d h1 h2;injection h with h;subst h;rw[acn,Ll h2 x];constructor
   .rintro(rfl|⟨k,c,a⟩);·exact⟨y,abL ..,h1⟩
    exact⟨k,aco _ c,a⟩
   rintro⟨k,c,a⟩;rcases acn.1 c with e|e;·subst e;rw[h1]at a;injection a with a;injection a with _ a;exact .inl a.symm
   exact .inr ⟨k,e,a⟩
  cases h
theorem Lm{H:ah}{s:AV}:∀{ks b:List Int},tn H s ks=some b->∀k∈ks,∃x,kM H s k=some (.int 3 x)
 |[],_,_,k,a=>by cases a
 |y::l,b,h,k,a=>by
  simp only[tn]at h;split at h
  .rename_i r c h1 h2;rcases acn.1 a with e|e;·subst e;exact⟨r,h1⟩
   exact Lm h2 k e
  cases h
end
theorem aY{a b:Nat}:af.cr a=af.cr b↔a=b:=⟨af.aY,λh=>h▸rfl⟩
theorem ae5{P:Program}:tb P 1003 Gu:=by
 intro Wr ρ H H' w nt fr c1 c2 x y V b a G l n hg W B k cs;have n:bg.seq KY KZ=bg.seq x y:=n;injection n with X Y;subst X;subst Y;unfold Gu at hg;split at hg;case h_2=>cases hg
 rename_i Z k5 v u N g1 g2 g3 g4;split at hg;case h_2=>cases hg
 rename_i m g5;split at hg;·cases hg
 rename_i o;have o:m≠N:=λe=>o (by rw[e];exact af.eS.2 rfl);split at hg;case h_2=>cases hg
 rename_i ks t0 R C;split at hg;case h_2=>cases hg
 rename_i rs S;injection hg with hg;injection hg with I J;subst I;subst J;obtain⟨i3,o3,e3,c3⟩:=rD g1;obtain⟨D,o4,e4,c4⟩:=rD g3;obtain⟨is,os,ns,ag,av,js,e5,e6,e7,c5⟩:=z8 g5;obtain⟨ms,g⟩:=Ca R;obtain⟨Ns,q⟩:=Aa C;have K:fr=⟨fr.aa,fr.br,fr.bw⟩:=rfl;refine(Lk Lc G l (bO:=B8) bo bo bo bo bo bo bo bo bo bo bo bo bo W B R C o 20 20 ?_ (λk x=>kM H u k=some (.int 3 x)) ?_ (pj rs (mT C).1) ?_ k cs).mono ?_
 .intro d c;rw[K];refine Xc.region (n:=19) ?_;refine Xo.op (n:=18) (v:=Z) (H':=H.set m (.map d c)) (gX e3 (by rw[vY (jx c3 g)];exact c3)) ?_;refine Xo.op (n:=17) (v:=.int k5 v) (H':=H.set m (.map d c)) (by simp[aD,gv,aK,ak.aC,aY,g2]) ?_;refine Xo.op (n:=16) (v:=.aE is (os+js)) (H':=H.set m (.map d c)) (rE (by simp[gv,aK,ak.aC,aY];exact e5) (by simp[gv,aK,ak.aC,aY];exact⟨rfl,e6⟩) e7) ?_;refine Xo.op (n:=15) (v:=.map m) (H':=H.set m (.map d c)) (gX (by simp[gv,aK,ak.aC,aY];exact⟨rfl,rfl⟩) (by rw[vY (jx c5 g)];exact c5)) ?_;refine Xo.op (n:=14) (v:=.aE H.next 0) (H':=(H.set m (.map d c)).new (.mapIter (some m) c [] c)) (by simp[aD,gv,aK,ak.aC,aY,ah.aC];rfl) (Xo.nil (n:=13) ?_);refine⟨rfl,rfl,rfl,?_,?_,rfl⟩;·intro t p;simp only[B8,acn,afy,or_false,not_or]at p;simp[aK,ak.aC,p]
  simp[aK,ak.aC,aY]
 .intro aa f E L M i s he O;obtain⟨r,T⟩:=Lm S E M;obtain⟨z,o2,n2,aw,ax,F,b1,b2,b3,A⟩:=z8 T;have Q:bx f D o4=some u:=by rw[mw (i D (jx c4 q) (jx c4 g) (tA B c4))];exact c4
  have l:bx f z (o2+F)=some (.int 3 r):=by rw[mw (i z (jx A q) (jx A g) (tA B A))];exact A
  have h6:aa.get .ahp (sl 6)=.map N:=by rw[he _ bo];exact g4
  have h4:aa.get .ahp (sl 4)=.aE D o4:=by rw[he _ bo];exact e4
  obtain⟨H2,u1,u2,u3,u4⟩:=Li (H:=f) (N:=N) (x:=r) (ks:=L) (aa:=((((aa.set .ahp (sl 42) (.map N)).set .ahp (sl 43) u).set .ahp (sl 44) (.int 3 E)).set .ahp (sl 45) (.aE z (o2+F))).set .ahp (sl 46) (.int 3 r)) (om:=tt 42) (ok_:=tt 46) (by simp[gv,ak.aC,aY]) (by simp[gv,ak.aC,aY]) s;refine Xc.region (n:=19) ?_;refine Xo.op (n:=18) (v:=.map N) (H':=f) (by simp[aD,gv,h6]) ?_;refine Xo.op (n:=17) (v:=u) (H':=f) (gX (by simp[gv,aK,ak.aC,aY];exact h4) Q) ?_;refine Xo.op (n:=16) (v:=.int 3 E) (H':=f) (by simp[aD,gv,aK,ak.aC,aY];exact O) ?_;refine Xo.op (n:=15) (v:=.aE z (o2+F)) (H':=f) (rE (by simp[gv,aK,ak.aC,aY];exact b1) (by simp[gv,aK,ak.aC,aY];exact⟨rfl,b2⟩) b3) ?_;refine Xo.op (n:=14) (v:=.int 3 r) (H':=f) (gX (by simp[gv,aK,ak.aC,aY]) l) ?_;refine Xo.op (n:=13) (v:=.ahp) (H':=H2) u1 (Xo.nil (n:=12) ?_);refine⟨rfl,rfl,rfl,?_,?_,u2,u3,_,u4,?_⟩;·intro t p;rw[<-he t p];simp only[B8,acn,afy,or_false,not_or]at p;simp[aK,ak.aC,p]
  .simp[aK,ak.aC,aY]
  intro x;rw[B7,T];constructor
  .rintro(h|h);·exact .inr (h▸rfl)
   exact .inl h
  rintro(h|h);·exact .inr h
  injection h with h;injection h with _ h;exact .inl h.symm
 .intro x;rw[mu,Ll S,or_comm]
 rintro j ay f⟨rfl,rfl,rfl⟩;exact⟨rfl,rfl,rfl⟩
end
theorem rF(v y:Int):∀l:List Int,y∈fX v l↔y∈l/\y≠v
 |[]=>by simp[fX]
 |x::l=>by
  simp only[fX];split
  .rename_i h;rw[eT]at h;have h:x=v:=by simpa using h
   rw[rF v y l,acn];constructor;·rintro⟨h1,h2⟩;exact⟨.inr h1,h2⟩
   rintro⟨h1|h1,h2⟩;·exact absurd (h1.trans h) h2
   exact⟨h1,h2⟩
  rename_i h;rw[eT]at h;have h:x≠v:=by simpa using h
  rw[acn,rF v y l,acn];constructor
  .rintro(h1|⟨h1,h2⟩);·exact⟨.inl h1,h1▸h⟩
   exact⟨.inr h1,h2⟩
  rintro⟨h1|h1,h2⟩;·exact .inl h1
  exact .inr ⟨h1,h2⟩
theorem GB{v:Int}:∀{l:List Int},l.Nodup->(fX v l).Nodup
 |[],_=>by simp[fX]
 |x::l,h=>by
  rw[agf]at h;simp only[fX];split;·exact GB h.2
  rw[agf,rF];exact⟨λq=>h.1 q.1,GB h.2⟩
theorem SY{P:Program}:tb P 1001 tq:=by
 intro Wr ρ H H' w nt fr c1 c2 x y R b a F G o hg S A k cs;have o:bg.seq K2 K3=bg.seq x y:=o;injection o with T V;subst T;subst V;unfold tq at hg;split at hg;case h_2=>cases hg
 rename_i m v B W X Y;split at hg;case h_2=>cases hg
 rename_i N Z;split at hg;·cases hg
 rename_i p;have p:m≠N:=λe=>p (by rw[e];exact af.eS.2 rfl);split at hg;case h_2=>cases hg
 rename_i ks t0 O C;injection hg with hg;injection hg with I J;subst I;subst J;obtain⟨D,o3,e3,c3⟩:=rD Y;obtain⟨is,os,ns,ag,av,E,e5,e6,e7,c5⟩:=z8 Z;obtain⟨ms,q⟩:=Ca O;obtain⟨Ns,r⟩:=Aa C;have K:fr=⟨fr.aa,fr.br,fr.bw⟩:=rfl;refine(Lk Lc F G (bO:=qB) bo bo bo bo bo bo bo bo bo bo bo bo bo S A O C p 20 30 ?_ (λk x=>x=k/\k≠v) ?_ (pj (fX v ks) (mT C).1) ?_ k cs).mono ?_
 .intro s c;rw[K];refine Xc.region (n:=19) ?_;refine Xo.op (n:=18) (v:=.map m) (H':=H.set m (.map s c)) (by simp[aD,gv,W]) ?_;refine Xo.op (n:=17) (v:=.aE H.next 0) (H':=(H.set m (.map s c)).new (.mapIter (some m) c [] c)) (by simp[aD,gv,aK,ak.aC,aY,ah.aC];rfl) (Xo.nil (n:=16) ?_);refine⟨rfl,rfl,rfl,?_,?_,rfl⟩;·intro t g;simp only[qB,acn,afy,or_false,not_or]at g;simp[aK,ak.aC,g]
  simp[aK,ak.aC,aY]
 .intro aa f i u aw l n he z;have L:bx f D o3=some B:=by rw[mw (l D (jx c3 r) (jx c3 q) (tA A c3))];exact c3
  have M:bx f is (os+E)=some (.map N):=by rw[mw (l is (jx c5 r) (jx c5 q) (tA A c5))];exact c5
  have Q:aa.get .ahp (sl 5)=.int 3 v:=by rw[he _ bo];exact X
  have h3:aa.get .ahp (sl 3)=.aE D o3:=by rw[he _ bo];exact e3
  refine Xc.gK (n:=28) (m:=28) (k:=29) ab ab (Xc.region (n:=27) ?_);refine Xo.op (n:=26) (v:=.int 3 i) (H':=f) (by simp[aD,gv];exact z) ?_;refine Xo.op (n:=25) (v:=.int 3 v) (H':=f) (by simp[aD,gv,aK,ak.aC,aY];exact Q) ?_;refine Xo.op (n:=24) (v:=.bool (!fU i v)) (H':=f) (by simp[aD,gv,aK,ak.aC,aY,sN,eR]) (Xo.nil (n:=23) ?_);by_cases d:i=v
  .have hb:fU i v=true:=by rw[eT];simpa using d
   refine Xc.mi (n:=27) (by simp[gv,aK,ak.aC,aY,hb]) (Xc.skip (n:=26) ?_);refine⟨rfl,rfl,rfl,?_,?_,rfl,λ_ _=>rfl,u,n,λx=>⟨.inl,λh=>h.elim id λh=>absurd d h.2⟩⟩;·intro t g;rw[<-he t g];simp only[qB,acn,afy,or_false,not_or]at g;simp[aK,ak.aC,g]
   simp[aK,ak.aC,aY]
  have hb:fU i v=false:=by rw[eT];simpa using d
  obtain⟨H2,u1,u2,u3,u4⟩:=Li (H:=f) (N:=N) (x:=i) (ks:=u) (aa:=((((((((aa.set .ahp (sl 37) (.int 3 i)).set .ahp (sl 38) (.int 3 v)).set .ahp (sl 39) (.bool (!fU i v))).set .ahp (sl 40) B).set .ahp (sl 41) (.int 3 v)).set .ahp (sl 42) (.aE is (os+E))).set .ahp (sl 43) (.map N)).set .ahp (sl 44) (.int 3 i))) (om:=tt 43) (ok_:=tt 44) (by simp[gv,ak.aC,aY]) (by simp[gv,ak.aC,aY]) n;refine Xc.ph (n:=27) (by simp[gv,aK,ak.aC,aY,hb]) (Xc.region (n:=26) ?_);refine Xo.op (n:=25) (v:=B) (H':=f) (gX (by simp[gv,aK,ak.aC,aY];exact h3) L) ?_;refine Xo.op (n:=24) (v:=.int 3 v) (H':=f) (by simp[aD,gv,aK,ak.aC,aY];exact Q) ?_;refine Xo.op (n:=23) (v:=.aE is (os+E)) (H':=f) (rE (by simp[gv,aK,ak.aC,aY];exact e5) (by simp[gv,aK,ak.aC,aY];exact⟨rfl,e6⟩) e7) ?_;refine Xo.op (n:=22) (v:=.map N) (H':=f) (gX (by simp[gv,aK,ak.aC,aY]) M) ?_;refine Xo.op (n:=21) (v:=.int 3 i) (H':=f) (by simp[aD,gv,aK,ak.aC,aY];exact z) ?_;refine Xo.op (n:=20) (v:=.ahp) (H':=H2) u1 (Xo.nil (n:=19) ?_);refine⟨rfl,rfl,rfl,?_,?_,u2,u3,_,u4,λx=>?_⟩;·intro t g;rw[<-he t g];simp only[qB,acn,afy,or_false,not_or]at g;simp[aK,ak.aC,g]
  .simp[aK,ak.aC,aY]
  rw[B7];constructor
  .rintro(h|h);·exact .inr ⟨h,d⟩
   exact .inl h
  rintro(h|h);·exact .inr h
  exact .inl h.1
 .intro x;rw[mu,rF];constructor
  .rintro(⟨h,h'⟩|h);·exact .inr ⟨x,h,rfl,h'⟩
   exact .inl h
  rintro(h|⟨k,h1,h2,h3⟩);·exact .inr h
  exact .inl ⟨h2▸h1,h2▸h3⟩
 rintro j ax f⟨rfl,rfl,rfl⟩;exact⟨rfl,rfl,rfl⟩
section
def Ab(a:Nat):bg:=.seq (.region [bF 11 (.bi (tt 2)),bF 12 (.aR (tt 0)),bF 13 (.lookup .int (.int 3 (.ofNat 0)) true (tt 11) (tt 12)),bF 10 (.aR (tt 13)),bF 14 (.extract (tt 10) 0),bF 15 (.extract (tt 10) 1),bF 8 (.aR (tt 14)),bF 9 (.aR (tt 15))])
  (.seq (.region [bF 16 (.aR (tt 9)),bF 17 (.unary .not (tt 16)),bF 18 (.aR (tt 17)),⟨some (sl 19),.aR (tt 8),some (sl 18,false),[],[]⟩,⟨some (sl 20),.aR (tt 1),some (sl 18,false),[],[]⟩,⟨some (sl 21),.arith .geq 3 (tt 19) (tt 20),some (sl 18,false),[],[]⟩,bF 22 (.pick (tt 18) (.c (.bool true)) (tt 21))])
  (.cond (tt 22) (.region [bF 23 (.bi (tt 3)),bF 24 (.bi (tt 4)),bF 25 (.ch 1 (tt 23) (tt 24)),bF 26 (.bi (tt 25)),bF 27 (.aR (tt 0)),bF 28 (.call (.c (.func a [] [])) [tt 26,tt 27]),bF 29 (.aR (tt 28)),⟨some (sl 30),.bi (tt 5),some (sl 29,false),[],[]⟩,bF 31 (.pick (tt 29) (.c (.bool true)) (tt 30)),nU (.store 1 (tt 5) (tt 31))]) .skip))
def vZ:bg:=.seq (.region [bF 4 (.aR (.c (.bool false)))]) (.seq (.region [bF 6 (.aR (tt 0)),bF 7 (.aR (tt 1)),bF 8 (.lookup .int (.bool false) false (tt 6) (tt 7)),bF 9 (.unary .not (tt 8)),bF 5 (.aR (tt 9))])
  (.seq (.region [bF 10 (.aR (tt 0)),bF 11 (.aR (tt 1)),nU (.iP .int (tt 10) (tt 11) (.c (.bool true)))]) (.seq (.region [bF 12 (.aR (tt 5)),bF 4 (.aR (tt 12))]) .ret)))
def my(db a:Nat):Nat->aX:=λf=>if afw f db then .code 32 [] (Ab a)else if afw f a then .code 13 [.tmp (sl 4)] vZ else .none
section
variable[Ov]
variable{ac:Nat->aX}
theorem Xo.Cb{n:Nat}{d:Option af}{op:bE}{g:Option (af×Bool)}{l:List bA}{aa:ak AV}{br:List af}{bw:Option af}{H H':ah}{v:AV}{K:Fr->ah->Prop}(hg:dc aa g=true)(he:aD op aa H=some (v,H'))(h:Xo ac n l ⟨aK aa d v,br,bw⟩ H' K):Xo ac (n+1) (⟨d,op,g,[],[]⟩::l) ⟨aa,br,bw⟩ H K:=by
 simp only[Xo,Go.al.az,hg,cW,cH,du,bf];split;·simp[aD]at he
 .simp[aD]at he
 rw[he];exact h
theorem Xo.Cc{n:Nat}{d:Option af}{op:bE}{g:Option (af×Bool)}{l:List bA}{aa:ak AV}{br:List af}{bw:Option af}{H:ah}{K:Fr->ah->Prop}(hg:dc aa g=false)(hd:iT aa g=true)(h:Xo ac n l ⟨aK aa d .ahp,br,bw⟩ H K):Xo ac (n+1) (⟨d,op,g,[],[]⟩::l) ⟨aa,br,bw⟩ H K:=by simp only[Xo,Go.al.az,hg,hd,abe,bD,bf];exact h
theorem Xf.code{n c:Nat}{f:Nat}{first args a:List AV}{d:List fR}{body:bg}{H:ah}{K:KT}(i:ac f=.code c d body)(hl:(first++args++a).length<=c)(h:Xc ac n body ⟨iS (first++args++a) .xH .aG,[],none⟩ H λj fr b=>(match j with|.exit _=>False|_=>True)/\fr.br=[]/\∃l,ef fr.aa b d=some l/\K (fL l) b):Xf ac (n+1) (.func f first a) args H K:=by
 simp only[Xf,dT,i];rw[aJ (af8 hl)];refine Xc.mono (adv _) ?_ h;rintro j fr b⟨h1,h2,l,h3,e⟩;have g:gZ b fr.br=some b:=by rw[h2];rfl
 cases j with|exit=>exact h1.elim|none=>simp only[g,h3];exact e|ret=>simp only[g,h3];exact e
def gp(pl:List (Int×Int))(v:Int):Int×Bool:=
 match pl with
 |[]=>(0,false)
 |(k,g)::pl=>if fU v k then(g,true)else gp pl v
theorem Ln(bz v:Int):∀pl,dQ.mS pl bz v=(!(gp pl v).2||!jH (gp pl v).1 bz)
 |[]=>by simp[dQ.mS,gp]
 |(k,g)::pl=>by
  simp only[dQ.mS,gp];split;·simp
  exact Ln bz v pl
theorem SZ{pl:List (Int×Int)}{v:Int}(h:v∉pl.map (·.1)):gp pl v=(0,false):=by
 induction pl with
 |nil=>rfl
 |cons a pl b=>
  obtain⟨k,g⟩:=a;simp only[afp,acn,not_or]at h;have:fU v k=false:=by rw[eT];simpa using h.1
  simp only[gp,this,abe,bD];exact b h.2
theorem Lo:∀{es:List aT}{pl:List (Int×Int)}{ks:List Int},jw.go es=some pl->il es=some ks->ks=pl.map (·.1)
 |[],pl,ks,h,b=>by simp only[jw.go,il,aaM]at h b;subst h;subst b;rfl
 |a::es,pl,ks,h,b=>by
  simp only[jw.go]at h;split at h
  .rename_i k v l h1 h2 h3;injection h with h;subst h;simp only[il,h1]at b;split at b;·rename_i e f c d;injection b with b;subst b;injection c with _ c;rw[afp,<-Lo h3 d,c]
   cases b
  cases h
theorem Lq{v:Int}:∀{es:List aT}{pl:List (Int×Int)},jw.go es=some pl->∀i0,((gp pl v).2=false->findKey .int (.int 3 v) es i0=some none)/\((gp pl v).2=true->∃i,findKey .int (.int 3 v) es i0=some (some (i,.int 3 (gp pl v).1)))
 |[],pl,h,i0=>by simp only[jw.go,aaM]at h;subst h;simp[gp,findKey]
 |a::es,pl,h,i0=>by
  simp only[jw.go]at h;split at h
  .rename_i k g l h1 h2 h3;injection h with h;subst h;have b:cQ 64 .int (.int 3 v) (.int 3 k)=some (fU v k):=by simp[cQ]
   cases hb:fU v k with|true=>simp only[gp,hb,bf,findKey,h1,b,h2];simp|false=>simp only[gp,hb,abe,bD,findKey,h1,b];exact Lq h3 (i0+1)
  cases h
theorem Lr{v:Int}:∀{es:List aT}{pl:List (Int×Int)},jw.go es=some pl->(pl.map (·.1)).Nodup->((gp pl v).2=false->dL.go .int (.int 3 v) es=some none)/\((gp pl v).2=true->dL.go .int (.int 3 v) es=some (some (.int 3 (gp pl v).1)))
 |[],pl,h,_=>by simp only[jw.go,aaM]at h;subst h;simp[gp,dL.go]
 |a::es,pl,h,c=>by
  simp only[jw.go]at h;split at h
  .rename_i k g l h1 h2 h3;injection h with h;subst h;simp only[afp,agf]at c;have b:cQ 64 .int (.int 3 v) (.int 3 k)=some (fU v k):=by simp[cQ]
   obtain⟨f,i⟩:=Lr (v:=v) h3 c.2;cases hb:fU v k with
   |true=>
    have d:v=k:=by have:=eT v k;rw[hb]at this;simpa using this.symm
    have e:=f (by rw[d,SZ c.1]);simp only[gp,hb,bf,dL.go,h1,b,e,h2];simp
   |false=>simp only[gp,hb,abe,bD,dL.go,h1,b];refine⟨λq=>by rw[f q],λq=>by rw[i q]⟩
  cases h
theorem S5{aa:ak AV}{q e:aL}{H:ah}{j:af}{v:Int}{pl:List (Int×Int)}{o:List Int}(l:gv aa q=.map j)(m:gv aa e=.int 3 v)(h1:jw H j=some pl)(h2:im H j=some o):aD (.lookup .int (.int 3 (.ofNat 0)) true q e) aa H=some (.tuple [.int 3 (gp pl v).1,.bool (gp pl v).2],H):=by
 obtain⟨es,b,w,x⟩:=tw h2;unfold jw at h1;rw[b]at h1;have f:(pl.map (·.1)).Nodup:=by rw[<-Lo h1 w];exact x
 obtain⟨r,n⟩:=Lq (v:=v) h1 0;obtain⟨s,t⟩:=Lr (v:=v) h1 f;have u:(gp pl v).2=false->(gp pl v).1=0:=by
  clear r n s t h1 f;induction pl with
  |nil=>intro _;rfl
  |cons a pl y=>
   obtain⟨k,g⟩:=a;simp only[gp];split;·intro h;cases h
   exact y
 cases d:H.get j with
 |map p c=>rw[d]at b;simp only[dl,aaM]at b;subst b;cases hb:(gp pl v).2 with|true=>obtain⟨i,n⟩:=n hb;simp only[aD,gG,afP,abe,bD,l,m,d,n,bf]|false=>rw[u hb];simp only[aD,gG,afP,abe,bD,l,m,d,r hb,bf];rfl
 |co p=>rw[d]at b;simp only[dl,aaM]at b;subst b;cases hb:(gp pl v).2 with|true=>simp only[aD,gG,afP,abe,bD,l,m,d,dL,lH,t hb,bf]|false=>rw[u hb];simp only[aD,gG,afP,abe,bD,l,m,d,dL,lH,s hb,bf];rfl
 |_=>rw[d]at b;simp[dl]at b
end
end
section
variable[Ov]
variable{ac:Nat->aX}
theorem S6{a:Nat}(f:ac a=.code 13 [.tmp (sl 4)] vZ){H:ah}{N:af}{v:Int}{ks:List Int}(hs:e9 (H.get N) ks){K:KT}(g:∀b:ah,b.next=H.next->(∀j,j≠N->b.get j=H.get j)->e9 (b.get N) (mq v ks)->(∀es c,H.get N=.map es c->v∈ks->b.get N=H.get N)->K (.bool (!eZ v ks)) b):Xf ac 30 (.func a [] []) [.map N,.int 3 v] H K:=by
 refine Xf.code (n:=29) f aF ?_;show Xc ac 29 vZ ⟨(ak.aG.set .ahp (sl 0) (.map N)).set .ahp (sl 1) (.int 3 v),[],none⟩ H _;generalize d:(ak.aG.set AV.ahp (sl 0) (.map N)).set .ahp (sl 1) (.int 3 v)=aa;have h0:aa.get .ahp (sl 0)=.map N:=by rw[<-d];simp[ak.aC,aY]
 have h1:aa.get .ahp (sl 1)=.int 3 v:=by rw[<-d];simp[ak.aC,aY]
 clear d;refine Xc.gK (n:=28) (m:=28) (k:=28) ab ab (Xc.region (n:=27) ?_);refine Xo.op (n:=26) (v:=.bool false) (H':=H) (by simp[aD,gv]) (Xo.nil (n:=25) ?_);refine Xc.gK (n:=27) (m:=27) (k:=27) ab ab (Xc.region (n:=26) ?_);refine Xo.op (n:=25) (v:=.map N) (H':=H) (by simp[aD,gv,aK,ak.aC,aY];exact h0) ?_;refine Xo.op (n:=24) (v:=.int 3 v) (H':=H) (by simp[aD,gv,aK,ak.aC,aY];exact h1) ?_;refine Xo.op (n:=23) (v:=.bool (eZ v ks)) (H':=H) (Lj (N:=N) (x:=v) (by simp[gv,aK,ak.aC,aY]) (by simp[gv,aK,ak.aC,aY]) hs) ?_;refine Xo.op (n:=22) (v:=.bool (!eZ v ks)) (H':=H) (by simp[aD,gv,aK,ak.aC,aY,uK]) ?_;refine Xo.op (n:=21) (v:=.bool (!eZ v ks)) (H':=H) (by simp[aD,gv,aK,ak.aC,aY]) (Xo.nil (n:=20) ?_);refine Xc.gK (n:=26) (m:=26) (k:=26) ab ab (Xc.region (n:=25) ?_);obtain⟨b,i,k,l,m,n⟩:=Lh (H:=H) (N:=N) (x:=v) (ks:=ks) (aa:=aK (aK (aK (aK (aK (aK (aK (aK aa (some (sl 4)) (.bool false)) (some (sl 6)) (.map N)) (some (sl 7)) (.int 3 v)) (some (sl 8)) (.bool (eZ v ks))) (some (sl 9)) (.bool (!eZ v ks))) (some (sl 5)) (.bool (!eZ v ks))) (some (sl 10)) (.map N)) (some (sl 11)) (.int 3 v)) (om:=tt 10) (ok_:=tt 11) (by simp[gv,aK,ak.aC,aY]) (by simp[gv,aK,ak.aC,aY]) hs;refine Xo.op (n:=24) (v:=.map N) (H':=H) (by simp[aD,gv,aK,ak.aC,aY];exact h0) ?_;refine Xo.op (n:=23) (v:=.int 3 v) (H':=H) (by simp[aD,gv,aK,ak.aC,aY];exact h1) ?_;refine Xo.op (n:=22) (v:=.ahp) (H':=b) i (Xo.nil (n:=21) ?_);refine Xc.gK (n:=25) (m:=25) (k:=25) ab ab (Xc.region (n:=24) ?_);refine Xo.op (n:=23) (v:=.bool (!eZ v ks)) (H':=b) (by simp[aD,gv,aK,ak.aC,aY]) ?_;refine Xo.op (n:=22) (v:=.bool (!eZ v ks)) (H':=b) (by simp[aD,gv,aK,ak.aC,aY]) (Xo.nil (n:=21) ?_);refine Xc.ret (n:=24) ⟨trivial,rfl,[.bool (!eZ v ks)],?_,g b k l m λes c e h=>(n es c e).elim λ_ h1=>h1.elim λ_ h2=>h2.2 h⟩;simp[ef,aK,ak.aC,aY]
theorem S7{H:ah}{a:af}{no n fz:Nat}{c:ak AV}{e:Nat}(h:H.get a=.cells c n e true [] fz)(h1:fz<=no)(h2:no<n)(b:Bool):fS H a no [.bool b]=some (H.set a (.cells (dY c no [.bool b]) n e true [] fz)):=by
 unfold fS;rw[h];have d:decide (fz<=no)=true:=by simpa using h1
 have f:decide (no+([.bool b]:List AV).length<=n)=true:=by simp;omega
 simp only[d,f,ahb];rfl
theorem Ls{db g:Nat}(X:ac db=.code 32 [] (Ab g))(Y:ac g=.code 13 [.tmp (sl 4)] vZ){H:ah}{c1 c2 c3 s2:AV}{pm k N:af}{no n fz kb e:Nat}{pl:List (Int×Int)}{pks ks:List Int}{v bz b:Int}{c:ak AV}{q:Bool}(E:mr H c1=some (.map pm))(F:mr H c2=some s2)(G:mr H c3=some (.int kb b))(Z:jw H pm=some pl)(g5:im H pm=some pks)(g6:kM H s2 b=some (.map N))(D:H.get k=.cells c n e true [] fz)(g8:fz<=no)(P:no<n)(B:c.bp .ahp no=.bool q)(hs:e9 (H.get N) ks){K:KT}(w:∀(r:AV)(o:ah)C c2,o.next=H.next->(∀j,j≠N->j≠k->o.get j=H.get j)->e9 (o.get N) C->(∀x,x∈C↔x∈ks\/(x=v/\dQ.mS pl bz v=true))->o.get k=.cells c2 n e true [] fz->(∀i,i≠no->c2.bp .ahp i=c.bp .ahp i)->c2.bp .ahp no=.bool (q||(dQ.mS pl bz v&&!eZ v ks))->(∀es c,H.get N=.map es c->v∈ks->o.get N=H.get N)->K r o):Xf ac 80 (.func db [] [c1,c2,c3,.aE k no]) [.int 3 v,.int 3 bz] H K:=by
 obtain⟨i1,o1,rfl,E⟩:=rD E;obtain⟨z,o2,rfl,F⟩:=rD F;obtain⟨A,o3,rfl,G⟩:=rD G;obtain⟨is,os,ns,ag,av,js,e5,e6,e7,c5⟩:=z8 g6;have t:N≠k:=by rintro rfl;obtain⟨_,_,h,_⟩:=hs;rw[D]at h;simp[dl]at h
 have gq:bx H k no=some (.bool q):=by unfold bx;rw[D];simp only[ahm agh P,bf,B]
 refine Xf.code (n:=79) X aF ?_;show Xc ac 79 (Ab g) ⟨(((((ak.aG.set .ahp (sl 0) (.int 3 v)).set .ahp (sl 1) (.int 3 bz)).set .ahp (sl 2) (.aE i1 o1)).set .ahp (sl 3) (.aE z o2)).set .ahp (sl 4) (.aE A o3)).set .ahp (sl 5) (.aE k no),[],none⟩ H _;generalize m:(((((ak.aG.set AV.ahp (sl 0) (.int 3 v)).set .ahp (sl 1) (.int 3 bz)).set .ahp (sl 2) (.aE i1 o1)).set .ahp (sl 3) (.aE z o2)).set .ahp (sl 4) (.aE A o3)).set .ahp (sl 5) (.aE k no)=aa;have h0:aa.get .ahp (sl 0)=.int 3 v:=by rw[<-m];simp[ak.aC,aY]
 have h1:aa.get .ahp (sl 1)=.int 3 bz:=by rw[<-m];simp[ak.aC,aY]
 have h2:aa.get .ahp (sl 2)=.aE i1 o1:=by rw[<-m];simp[ak.aC,aY]
 have h3:aa.get .ahp (sl 3)=.aE z o2:=by rw[<-m];simp[ak.aC,aY]
 have Q:aa.get .ahp (sl 4)=.aE A o3:=by rw[<-m];simp[ak.aC,aY]
 have R:aa.get .ahp (sl 5)=.aE k no:=by rw[<-m];simp[ak.aC,aY]
 clear m;rw[Ln]at w;generalize hg:(gp pl v).1=s at w;generalize hi:(gp pl v).2=ii at w;have p:=λ(aa:ak AV)(om L:aL)(hm:gv aa om=.map pm)(hk:gv aa L=.int 3 v)=>S5 (H:=H) hm hk Z g5;rw[hg,hi]at p;refine Xc.gK (n:=70) (m:=70) (k:=78) ab ab (Xc.region (n:=69) ?_);refine Xo.op (n:=68) (v:=.map pm) (H':=H) (gX (by simp[gv];exact h2) E) ?_;refine Xo.op (n:=67) (v:=.int 3 v) (H':=H) (by simp[aD,gv,aK,ak.aC,aY];exact h0) ?_;refine Xo.op (n:=66) (v:=.tuple [.int 3 s,.bool ii]) (H':=H) (p _ _ _ (by simp[gv,aK,ak.aC,aY]) (by simp[gv,aK,ak.aC,aY])) ?_;refine Xo.op (n:=65) (v:=.tuple [.int 3 s,.bool ii]) (H':=H) (by simp[aD,gv,aK,ak.aC,aY]) ?_;refine Xo.op (n:=64) (v:=.int 3 s) (H':=H) (by simp[aD,gv,aK,ak.aC,aY,kZ]) ?_;refine Xo.op (n:=63) (v:=.bool ii) (H':=H) (by simp[aD,gv,aK,ak.aC,aY,kZ]) ?_;refine Xo.op (n:=62) (v:=.int 3 s) (H':=H) (by simp[aD,gv,aK,ak.aC,aY]) ?_;refine Xo.op (n:=61) (v:=.bool ii) (H':=H) (by simp[aD,gv,aK,ak.aC,aY]) (Xo.nil (n:=60) ?_);generalize m:aK (aK (aK (aK (aK (aK (aK (aK aa (some (sl 11)) (.map pm)) (some (sl 12)) (.int 3 v)) (some (sl 13)) (.tuple [.int 3 s,.bool ii])) (some (sl 10)) (.tuple [.int 3 s,.bool ii])) (some (sl 14)) (.int 3 s)) (some (sl 15)) (.bool ii)) (some (sl 8)) (.int 3 s)) (some (sl 9)) (.bool ii)=a;have S:a.get .ahp (sl 0)=.int 3 v:=by rw[<-m];simp[aK,ak.aC,aY];exact h0
 have k1:a.get .ahp (sl 1)=.int 3 bz:=by rw[<-m];simp[aK,ak.aC,aY];exact h1
 have T:a.get .ahp (sl 3)=.aE z o2:=by rw[<-m];simp[aK,ak.aC,aY];exact h3
 have V:a.get .ahp (sl 4)=.aE A o3:=by rw[<-m];simp[aK,ak.aC,aY];exact Q
 have W:a.get .ahp (sl 5)=.aE k no:=by rw[<-m];simp[aK,ak.aC,aY];exact R
 have k8:a.get .ahp (sl 8)=.int 3 s:=by rw[<-m];simp[aK,ak.aC,aY]
 have k9:a.get .ahp (sl 9)=.bool ii:=by rw[<-m];simp[aK,ak.aC,aY]
 clear m h0 h1 h2 h3 Q R p;have cond:∀d:ak AV,d.get .ahp (sl 22)=.bool (!ii||!jH s bz)->d.get .ahp (sl 0)=.int 3 v->d.get .ahp (sl 3)=.aE z o2->d.get .ahp (sl 4)=.aE A o3->d.get .ahp (sl 5)=.aE k no->Xc ac 60 (.cond (tt 22) (.region [bF 23 (.bi (tt 3)),bF 24 (.bi (tt 4)),bF 25 (.ch 1 (tt 23) (tt 24)),bF 26 (.bi (tt 25)),bF 27 (.aR (tt 0)),bF 28 (.call (.c (.func g [] [])) [tt 26,tt 27]),bF 29 (.aR (tt 28)),⟨some (sl 30),.bi (tt 5),some (sl 29,false),[],[]⟩,bF 31 (.pick (tt 29) (.c (.bool true)) (tt 30)),nU (.store 1 (tt 5) (tt 31))]) .skip) ⟨d,[],none⟩ H λj fr H'=>(match j with|.exit _=>False|_=>True)/\fr.br=[]/\∃l,ef fr.aa H' []=some l/\K (fL l) H':=by
  intro d u m0 m3 m4 I;cases hl:(!ii||!jH s bz)with
  |false=>rw[hl]at u w;refine Xc.mi (n:=59) (by simp[gv];exact u) (Xc.skip (n:=58) ⟨trivial,rfl,[],rfl,w _ H ks c rfl (λ_ _ _=>rfl) hs aF D (λ_ _=>rfl) (by simpa using B) (λ_ _ _ _=>rfl)⟩)
  |true=>
   rw[hl]at u w;refine Xc.ph (n:=59) (by simp[gv];exact u) (Xc.region (n:=58) ?_);refine Xo.op (n:=57) (v:=s2) (H':=H) (gX (by simp[gv];exact m3) F) ?_;refine Xo.op (n:=56) (v:=.int kb b) (H':=H) (gX (by simp[gv,aK,ak.aC,aY];exact m4) G) ?_;refine Xo.op (n:=55) (v:=.aE is (os+js)) (H':=H) (rE (by simp[gv,aK,ak.aC,aY];exact e5) (by simp[gv,aK,ak.aC,aY];exact⟨rfl,e6⟩) e7) ?_;refine Xo.op (n:=54) (v:=.map N) (H':=H) (gX (by simp[gv,aK,ak.aC,aY]) c5) ?_;refine Xo.op (n:=53) (v:=.int 3 v) (H':=H) (by simp[aD,gv,aK,ak.aC,aY];exact m0) ?_;refine Xo.call (n:=52) ?_;simp only[gv,aK,ak.aC,aY,afp,agu];refine Xf.mono (n:=30) ab (λ_ _ h=>h) (S6 Y hs λo w1 J w3 w4=>?_);have M:o.get k=.cells c n e true [] fz:=by rw[J _ (ahf t)];exact D
   have O:bx o k no=some (.bool q):=by rw[mw (J k (ahf t))];exact gq
   refine Xo.op (n:=51) (v:=.bool (!eZ v ks)) (H':=o) (by simp[aD,gv,aK,ak.aC,aY]) ?_;have aB:∀f:ak AV,f.get .ahp (sl 5)=.aE k no->f.get .ahp (sl 31)=.bool (q||!eZ v ks)->Xo ac 40 [nU (.store 1 (tt 5) (tt 31))] ⟨f,[],none⟩ o λfr H'=>(match bU.none with|.exit _=>False|_=>True)/\fr.br=[]/\∃l,ef fr.aa H' []=some l/\K (fL l) H':=by
    intro f p5 tC;refine Xo.op (n:=39) (v:=.ahp) (H':=o.set k (.cells (dY c no [.bool (q||!eZ v ks)]) n e true [] fz)) ?_ (Xo.nil (n:=38) ?_);·have e1:gv f (tt 5)=.aE k no:=p5;have e2:gv f (tt 31)=.bool (q||!eZ v ks):=tC;simp only[aD,e1,e2,AV.cells,afB,List.length_nil,S7 M g8 P];rfl
    refine⟨trivial,rfl,[],rfl,w _ _ (mq v ks) (dY c no [.bool (q||!eZ v ks)]) w1 (λj j1 j2=>?_) ?_ (λx=>?_) ?_ (λi hi=>?_) ?_ (λes c he hv=>by rw[ah.aC,ap t];exact w4 es c he hv)⟩;·rw[ah.aC,ap j2];exact J j j1
    .rw[ah.aC,ap t];exact w3
    .rw[B7];simp[or_comm]
    .rw[ah.aC,aJ rfl]
    .rw[lh];rw[ap (by simp;omega)]
    rw[lh];simp
   cases y:eZ v ks with|true=>rw[y]at aB;refine Xo.Cb (n:=50) (v:=.bool q) (H':=o) (by simp[dc,aK,ak.aC,aY,y]) (gX (by simp[gv,aK,ak.aC,aY];exact I) O) ?_;refine Xo.op (n:=49) (v:=.bool (q||!true)) (H':=o) (by simp[aD,gv,aK,ak.aC,aY,y]) ?_;exact(aB _ (by simp[aK,ak.aC,aY];exact I) (by simp[aK,ak.aC,aY])).mono ab (λ_ _ h=>h)|false=>rw[y]at aB;refine Xo.Cc (n:=50) (by simp[dc,aK,ak.aC,aY,y]) (by simp[iT,aK,ak.aC,aY,y,AV.bC]) ?_;refine Xo.op (n:=49) (v:=.bool (q||!false)) (H':=o) (by simp[aD,gv,aK,ak.aC,aY,y]) ?_;exact(aB _ (by simp[aK,ak.aC,aY];exact I) (by simp[aK,ak.aC,aY])).mono ab (λ_ _ h=>h)
 refine Xc.gK (n:=60) (m:=60) (k:=69) ab ab (Xc.region (n:=59) ?_);refine Xo.op (n:=58) (v:=.bool ii) (H':=H) (by simp[aD,gv];exact k9) ?_;refine Xo.op (n:=57) (v:=.bool (!ii)) (H':=H) (by simp[aD,gv,aK,ak.aC,aY,uK]) ?_;refine Xo.op (n:=56) (v:=.bool (!ii)) (H':=H) (by simp[aD,gv,aK,ak.aC,aY]) ?_;cases ii with|true=>refine Xo.Cb (n:=55) (v:=.int 3 s) (H':=H) (by simp[dc,aK,ak.aC,aY]) (by simp[aD,gv,aK,ak.aC,aY];exact k8) ?_;refine Xo.Cb (n:=54) (v:=.int 3 bz) (H':=H) (by simp[dc,aK,ak.aC,aY]) (by simp[aD,gv,aK,ak.aC,aY];exact k1) ?_;refine Xo.Cb (n:=53) (v:=.bool (!jH s bz)) (H':=H) (by simp[dc,aK,ak.aC,aY]) (by simp[aD,gv,aK,ak.aC,aY,sN,eR]) ?_;refine Xo.op (n:=52) (v:=.bool (!jH s bz)) (H':=H) (by simp[aD,gv,aK,ak.aC,aY]) (Xo.nil (n:=51) ?_);exact cond _ (by simp[aK,ak.aC,aY]) (by simp[aK,ak.aC,aY];exact S) (by simp[aK,ak.aC,aY];exact T) (by simp[aK,ak.aC,aY];exact V) (by simp[aK,ak.aC,aY];exact W)|false=>refine Xo.Cc (n:=55) (by simp[dc,aK,ak.aC,aY]) (by simp[iT,aK,ak.aC,aY,AV.bC]) ?_;refine Xo.Cc (n:=54) (by simp[dc,aK,ak.aC,aY]) (by simp[iT,aK,ak.aC,aY,AV.bC]) ?_;refine Xo.Cc (n:=53) (by simp[dc,aK,ak.aC,aY]) (by simp[iT,aK,ak.aC,aY,AV.bC]) ?_;refine Xo.op (n:=52) (v:=.bool true) (H':=H) (by simp[aD,gv,aK,ak.aC,aY]) (Xo.nil (n:=51) ?_);exact cond _ (by simp[aK,ak.aC,aY]) (by simp[aK,ak.aC,aY];exact S) (by simp[aK,ak.aC,aY];exact T) (by simp[aK,ak.aC,aY];exact V) (by simp[aK,ak.aC,aY];exact W)
end
section
theorem Ac(pl:List (Int×Int))(bz x:Int):∀l,x∈dQ pl bz l↔x∈l/\dQ.mS pl bz x=true
 |[]=>by simp[dQ]
 |y::l=>by
  simp only[dQ];split
  .rename_i h;rw[acn,Ac pl bz x l,acn];constructor
   .rintro(h1|⟨h1,h2⟩);·exact⟨.inl h1,h1▸h⟩
    exact⟨.inr h1,h2⟩
   rintro⟨h1|h1,h2⟩;·exact .inl h1
   exact .inr ⟨h1,h2⟩
  rename_i h;rw[Ac pl bz x l,acn];constructor;·rintro⟨h1,h2⟩;exact⟨.inr h1,h2⟩
  rintro⟨h1|h1,h2⟩;·rw[h1]at h2;exact absurd h2 h
  exact⟨h1,h2⟩
theorem GC(t0:List Int):∀l,jX t0 l=true↔∃x∈l,x∉t0
 |[]=>by simp[jX]
 |y::l=>by
  simp only[jX,agd,GC t0 l,af4,acn];have:eZ y t0=false↔y∉t0:=by rw[<-pi];simp
  rw[this];constructor
  .rintro(h|⟨x,h1,h2⟩);·exact⟨y,.inl rfl,h⟩
   exact⟨x,.inr h1,h2⟩
  rintro⟨x,h1|h1,h2⟩;·exact .inl (h1▸h2)
  exact .inr ⟨x,h1,h2⟩
section
variable[Ov]
variable{P:Program}
theorem tD{H:ah}{q:af}{a v:AV}(h:jY H q a=some v):∃i o,a=.aE i o/\i≠q/\bx H i o=some v:=by
 unfold jY at h;split at h
 .split at h;·cases h
  rename_i hb;exact⟨_,_,rfl,λe=>hb (by rw[e];exact af.eS.2 rfl),h⟩
 cases h
theorem GD{H:ah}{q:af}{s v:AV}{x:Int}(h:qC H q s x=some v):∃i o n c e j,s=.slice i o n c e/\x=.ofNat j/\j<n/\i≠q/\bx H i (o+j)=some v:=by
 unfold qC at h;split at h
 .split at h;·cases h
  rename_i hb;obtain⟨i,o,n,c,e,j,h1,h2,h3,a⟩:=z8 h;injection h1 with b d f g k;subst b;subst d;subst f;subst g;subst k;exact⟨_,_,_,_,_,j,rfl,h2,h3,λe=>hb (by rw[e];exact af.eS.2 rfl),a⟩
 cases h
theorem bj.S8{g:bS}{c:aO}{H:ah}{w:World}(h:bj P g c H w){i:af}{o':bL}(hi:H.get i≠.none)(j:(H.get i).jg=false)(k:(H.get i).aM=[])(d:o'.aM=[])(l:∀x a,OR P c (H.get i) x a->OR P c o' x a)(m:∀q a,dI P q (H.get i) a->dI P q o' a):bj P g c (H.set i o') w:=by obtain⟨b,x,a,e,hl,hb,f⟩:=h.bm hi;have:=(h.nV (w':=w) hi j e d (l x a f) (m _ _ (h.iw i b x a hi e hb)) (by rw[FN hb]) rfl rfl rfl).1;rw[k]at this;exact this
theorem S9{g k:Type}{f:g->k}{l m:List k}(h:l.Perm m):∀t:List g,m=t.map f->∃d:List g,l=d.map f/\d.Perm t:=by
 induction h with
 |nil=>intro t c;exact⟨[],rfl,by cases t<;>simp_all⟩
 |cons x _ n=>intro t c;cases t with|nil=>simp at c|cons a t=>simp only[afp,afM]at c;obtain⟨d,e,p⟩:=n t c.2;exact⟨a::d,by rw[afp,<-e,c.1],p.cons a⟩
 |swap x y l=>intro t c;match t,c with|a::b::t,c=>simp only[afp,afM]at c;exact⟨b::a::t,by rw[afp,afp,c.1,c.2.1,c.2.2],agm ..⟩|[a],c=>simp at c|[],c=>simp at c
 |trans _ _ i j=>intro t c;obtain⟨o,q,p2⟩:=j t c;obtain⟨t1,r,p1⟩:=i o q;exact⟨t1,r,p1.trans p2⟩
theorem Lu{db f:Nat}(cf:db≠f)(ht:fM P (my db f)){Wr:bS}{ρ:aO}{H:ah}{w:World}{nt:Nat}{fr:Fr}{b:Frame}{a:Act}{c1 c2:Code}{xh body:bg}{ay a1:Nat}{S X ok et ex kv:af}(h1:dt P nt c1=some xh)(h2:dt P nt c2=some (mj ay a1 S X ok et ex kv body))(cn:ay≠a1)(d1:S≠X)(d2:S≠ok)(d3:X≠ok)(d4:S≠et)(d5:et≠ex)(d6:S≠ex)(d7:S≠kv){bO:List af}(s1:X∈bO)(s2:ok∈bO)(s3:et∈bO)(s4:ex∈bO)(s5:kv∈bO)(hF:fC ρ nt fr b.roundOf a)(hI:bj P Wr ρ H w){bz:Int}{b' ca a3 L:AV}{m pm z N:af}{no n fz kb e:Nat}{pl:List (Int×Int)}{pks ks t0:List Int}{cd:Int}{c:ak AV}{G:Bool}(g1:jY H z b'=some (.map pm))(g2:jY H z ca=some L)(g3:jY H z a3=some (.int kb cd))(g4:jw H pm=some pl)(g5:im H pm=some pks)(g6:qC H z L cd=some (.map N))(g7:H.get z=.cells c n e true [] fz)(g8:fz<=no)(g9:no<n)(a2:c.bp .ahp no=.bool G)(hk:im H m=some ks)(hN:iB H N=some t0)(cp:pm≠N)(cv:m≠pm)(nh fb:Nat)(b3:∀p d,Xc (my db f) nh xh fr (H.set m (.map p d)) λj E u=>j=.none/\E.br=fr.br/\E.bw=fr.bw/\(∀t,t∉bO->E.aa.get .ahp t=fr.aa.get .ahp t)/\E.aa.get .ahp S=.aE H.next 0/\u=(H.set m (.map p d)).new (.mapIter (some m) d [] d))(ax:∀aa u I(K:bU->Fr->ah->Prop),(∀j,j≠N->j≠m->j≠H.next->j≠z->u.get j=H.get j)->(∀t,t∉bO->aa.get .ahp t=fr.aa.get .ahp t)->aa.get .ahp kv=.int 3 I->Xf (my db f) 80 (.func db [] [b',ca,a3,.aE z no]) [.int 3 I,.int 3 bz] u (λ_ H2=>∀D,(∀t,t∉bO->D.get .ahp t=aa.get .ahp t)->D.get .ahp S=aa.get .ahp S->K .none ⟨D,fr.br,fr.bw⟩ H2)->Xc (my db f) fb body ⟨aa,fr.br,fr.bw⟩ u K)(k:List Item)(cs:List Frame):gk P Wr ρ nt w b k cs (lone (b.atR a (.code (.seq c1 c2)::k)) cs w) λj E u=>j=.none/\E={fr with aa:=jv fr.aa bO}/\u=((H.set N (.co (dh (eV (dQ pl bz ks) t0)))).set z (.cells (dY c no [.bool (G||jX t0 (dQ pl bz ks))]) n e true [] fz)).skip:=by
 obtain⟨es,hm,a6,dz⟩:=tw hk;have B:=mT hN;have ag:N≠H.next:=λe=>by have:=(hI.cS H.next (adv _)).1;obtain⟨_,q,T,_⟩:=B;rw[e,this]at T;simp[dl]at T
 have a8:m≠H.next:=λe=>by have:=(hI.cS H.next (adv _)).1;rw[<-e]at this;rw[this]at hm;simp[dl]at hm
 have av:z≠H.next:=λe=>by have:=(hI.cS H.next (adv _)).1;rw[<-e,g7]at this;cases this
 have b4:N≠z:=by rintro rfl;obtain⟨_,_,h,_⟩:=B;rw[g7]at h;simp[dl]at h
 have M:m≠z:=by rintro rfl;rw[g7]at hm;simp[dl]at hm
 obtain⟨d0,Y,_⟩:=tw g5;have cx:pm≠H.next:=λe=>by have:=(hI.cS H.next (adv _)).1;rw[<-e]at this;rw[this]at Y;simp[dl]at Y
 have b6:pm≠z:=by rintro rfl;rw[g7]at Y;simp[dl]at Y
 have aw:m=N->es.map aT.kv=t0.map sk/\∀x,x∈ks↔x∈t0:=λe=>by
  obtain⟨_,d',Z,C⟩:=B;rw[<-e,hm]at Z;injection Z with Z;subst Z;obtain⟨b',ca⟩:=vW a6;refine⟨C,λx=>⟨λQ=>?_,λQ=>?_⟩⟩;·obtain⟨e,he,hk⟩:=ca x Q;have:=afI (f:=aT.kv) he;rw[C]at this;obtain⟨y,hy,a'⟩:=afE.1 this;simp only[sk,aT.kv,hk,abS,AV.int.injEq]at a';rw[<-a'.1.2];exact hy
  have:=afI (f:=sk) Q;rw[<-C]at this;obtain⟨e,he,ba⟩:=afE.1 this;obtain⟨y,hy,cy⟩:=b' e he;simp only[sk,aT.kv,cy,abS,AV.int.injEq]at ba;rw[<-ba.1.2];exact hy
 obtain⟨i1,o1,e1,cE,k1⟩:=tD g1;obtain⟨i2,o2,e2,cR,k2⟩:=tD g2;obtain⟨i3,o3,e3,c9,k3⟩:=tD g3;obtain⟨is,os,ns,ea,eb,js,e5,e6,e7,c',k5⟩:=GD g6;obtain⟨Ns,dm⟩:=Aa hN;have ha:my db f db=.code 32 [] (Ab f):=by simp[my]
 have hw:my db f f=.code 13 [.tmp (sl 4)] vZ:=by
  have:afw f db=false:=by cases h:afw f db with|false=>rfl|true=>exact absurd (afo h).symm cf
  simp[my,this]
 refine GA ht h1 h2 cn d1 d2 d3 d4 d5 d6 d7 s1 s2 s3 s4 s5 hF hI hm a6 nh fb b3 (J:=λp d l u=>u.next=H.next.succ/\(∀j,j≠N->j≠m->j≠H.next->j≠z->u.get j=H.get j)/\u.get m=.map p d/\(∀x∈l,x∈ks)/\∃g R q,e9 (u.get N) g/\(∀x,x∈g↔x∈t0\/(x∈l/\dQ.mS pl bz x=true))/\u.get z=.cells R n e true [] fz/\(∀i,i≠no->R.bp .ahp i=c.bp .ahp i)/\R.bp .ahp no=.bool q/\(q=true↔G=true\/∃x∈g,x∉t0)) ?_ ?_ ?_ ?_ ?_ k cs
 .intro p d dr;have bb:((H.set m (.map p d)).new (.mapIter (some m) d [] d)).get z=.cells c n e true [] fz:=by rw[ah.cz,ah.d8,ap av,ah.aC,ap (ahf M)];exact g7
  have bd:((H.set m (.map p d)).new (.mapIter (some m) d [] d)).get m=.map p d:=by rw[ah.cz,ah.d8,ap a8,ah.aC,aJ rfl]
  refine⟨rfl,λj j1 j2 j3 _=>?_,bd,λx Q=>(by cases Q),?_⟩;·rw[ah.cz,ah.d8,ap j3,ah.aC,ap j2]
  by_cases s:m=N
  .obtain⟨C,_⟩:=aw s;obtain⟨g,x1,x2⟩:=S9 dr t0 C;refine⟨g,c,G,?_,λx=>by simp[x2.mem_iff],bb,λ_ _=>rfl,a2,?_⟩;·rw[<-s,bd];exact⟨x2.nodup_iff.2 B.1,p,rfl,x1⟩
   constructor;·exact .inl
   rintro(h|⟨x,h,A⟩);·exact h
   exact absurd (x2.mem_iff.1 h) A
  refine⟨t0,c,G,?_,aF,bb,λ_ _=>rfl,a2,aF⟩;rw[ah.cz,ah.d8,ap ag,ah.aC,ap (ahf s)];exact B
 .rintro p d l u o⟨T,V,W,q0,g,R,q,q4,q5,q6,q7⟩;refine⟨T,λj j1 j2 j3 j4=>?_,?_,q0,g,R,q,?_,q5,?_,q7⟩;·rw[ah.aC,ap j3];exact V j j1 j2 j3 j4
  .rw[ah.aC,ap a8];exact W
  .rw[ah.aC,ap ag];exact q4
  rw[ah.aC,ap av];exact q6
 .rintro p d l u⟨T,V,W,_⟩;exact W
 .rintro p d l aa u I bv⟨T,V,W,q0,g,R,q,q4,q5,q6,q7,q8,q9⟩he C;refine ax aa u I _ V he C ?_;have cc:∀{i o v},bx H i o=some v->i≠z->bx u i o=some v:=λh hq=>by rw[mw (V _ (jx h dm) (jx h hm) (tA hI h) hq)];exact h
  have hp:u.get pm=H.get pm:=V pm cp (ahf cv) cx b6;refine Ls ha hw (pm:=pm) (s2:=L) (N:=N) (pl:=pl) (pks:=pks) (ks:=g) (c:=R) (q:=q) (e:=e) (n:=n) (fz:=fz) (kb:=kb) (b:=cd) ?_ ?_ ?_ ?_ ?_ ?_ q6 g8 g9 q8 q4 ?_;·rw[e1];exact cc k1 cE
  .rw[e2];exact cc k2 cR
  .rw[e3];exact cc k3 c9
  .unfold jw;rw[hp];exact g4
  .unfold im;rw[hp];exact g5
  .rw[e5,e6];simp only[kM,ahm agh e7,bf];exact cc k5 c'
  intro r H2 ds dv r1 r2 r3 r4 r5 r6 r7 r8 D w1 w2;refine⟨rfl,rfl,rfl,λt ht=>(w1 t ht).trans (he t ht),w2,r2 _ (ahf ag) (ahf av),r1.trans T,λj j1 j2 j3 j4=>(r2 j j1 j4).trans (V j j1 j2 j3 j4),?_,λx Q=>?_,ds,dv,_,r3,λx=>?_,r5,λi hi=>(r6 i hi).trans (q7 i hi),r7,?_⟩
  .by_cases s:m=N;·have:=r8 p d (by rw[<-s];exact W) ((q5 I).2 (.inl (((aw s).2 I).1 bv)));rw[<-s]at this;rw[this];exact W
   exact(r2 m s M).trans W
  .rcases ae8.1 Q with h|h;·exact q0 x h
   rw[abx]at h;rw[h];exact bv
  .rw[r4,q5];simp only[ae8,abx];constructor
   .rintro((h|⟨h,A⟩)|⟨h,A⟩);·exact .inl h
    .exact .inr ⟨.inl h,A⟩
    subst h;exact .inr ⟨.inr rfl,A⟩
   rintro(h|⟨h|h,A⟩);·exact .inl (.inl h)
   .exact .inl (.inr ⟨h,A⟩)
   subst h;exact .inr ⟨rfl,A⟩
  rw[agd,ae9,q9,af4];have hh:eZ I g=false↔I∉g:=by rw[<-pi];simp
  rw[hh];constructor
  .rintro((h|⟨x,h,A⟩)|⟨h,A⟩);·exact .inl h
   .exact .inr ⟨x,(r4 x).2 (.inl h),A⟩
   exact .inr ⟨I,(r4 I).2 (.inr ⟨rfl,h⟩),λht=>A ((q5 I).2 (.inl ht))⟩
  rintro(h|⟨x,h,A⟩);·exact .inl (.inl h)
  rcases(r4 x).1 h with h|⟨h,h2⟩;·exact .inl (.inr ⟨x,h,A⟩)
  subst h;by_cases Q:x∈g;·exact .inl (.inr ⟨x,Q,A⟩)
  exact .inr ⟨h2,Q⟩
 rintro p d l u b0 w' hl⟨T,V,W,_,g,R,q,q4,q5,q6,q7,q8,q9⟩dx dy eD;refine⟨b0,dx,?_⟩;have i1:=eD dy W;have O:∀x,x∈g↔x∈eV (dQ pl bz ks) t0:=λx=>by rw[q5,mu,Ac,hl,or_comm]
 have hp:g.Perm (eV (dQ pl bz ks) t0):=(agD q4.1 (pj _ B.1)).2 O;have i2:bj P Wr b0 ((u.set m (H.get m)).set N (.co (dh (eV (dQ pl bz ks) t0)))) w':=by
  by_cases s:m=N;·refine i1.tx (N:=N) (ks:=t0) (by rw[<-s,ah.aC,aJ rfl,s];exact B) ((agD B.1 (pj _ B.1)).2 λx=>?_);rw[mu,Ac];exact⟨.inr,λh=>h.elim (λh=>((aw s).2 x).1 h.1) id⟩
  exact i1.tx (N:=N) (ks:=g) (by rw[ah.aC,ap (ahf s)];exact q4) hp
 have hq:q=(G||jX t0 (dQ pl bz ks)):=by
  have:q=true↔(G||jX t0 (dQ pl bz ks))=true:=by
   rw[q9,agd,GC];constructor
   .rintro(h|⟨x,h,A⟩);·exact .inl h
    have:=(O x).1 h;rw[mu]at this;exact .inr ⟨x,this.resolve_right A,A⟩
   rintro(h|⟨x,h,A⟩);·exact .inl h
   exact .inr ⟨x,(O x).2 ((mu x _ _).2 (.inl h)),A⟩
  cases q<;>cases h:(G||jX t0 (dQ pl bz ks))<;>simp_all
 have J:((u.set m (H.get m)).set N (.co (dh (eV (dQ pl bz ks) t0)))).get z=.cells R n e true [] fz:=by rw[ah.aC,ap (ahf b4),ah.aC,ap (ahf M)];exact q6
 have i3:=i2.S8 (i:=z) (o':=.cells (dY c no [.bool (G||jX t0 (dQ pl bz ks))]) n e true [] fz) (by rw[J];simp) (by rw[J];rfl) (by rw[J];rfl) rfl (by
  intro x ob F;rw[J]at F;have b7:∀i,(dY c no [.bool (G||jX t0 (dQ pl bz ks))]).bp .ahp i=R.bp .ahp i:=by
   intro i;rw[lh];by_cases hi:i=no;·subst hi;rw[aJ aF];rw[q8,hq];simp
   rw[ap (by simp;omega),q7 i hi]
  cases ob<;>simp only[OR]at F⊢;refine⟨F.1,F.2.1,λi hi=>?_,F.2.2.2⟩;rw[b7];exact F.2.2.1 i hi) (by intro q ob hq;rw[J]at hq;cases ob<;>simp only[dI]at hq⊢;exact hq);refine i3.sub (H2:=((H.set N (.co (dh (eV (dQ pl bz ks) t0)))).set z (.cells (dY c no [.bool (G||jX t0 (dQ pl bz ks))]) n e true [] fz)).skip) (by show H.next.succ=u.next;exact T.symm) λj=>?_;show((H.set N _).set z _).get j=_\/((H.set N _).set z _).get j=_;simp only[ah.aC];by_cases e0:j=z;·left;simp[e0]
 by_cases e1:j=N;·left;simp[e0,e1]
 by_cases e2:j=m;·left;simp[e0,e1,e2]
 by_cases e3:j=H.next;·right;simp only[ap e1,ap e0];rw[e3];exact(hI.cS _ (adv _)).1
 left;simp only[ap e0,ap e1,ap e2];exact(V j e1 e2 e3 e0).symm
end
end
theorem Lw:zX=[sl 16,sl 53,sl 54,sl 55,sl 56,sl 57,sl 58,sl 59,sl 60,sl 61,sl 62,sl 63,sl 64,sl 65,sl 66,sl 67]:=bo
theorem Lx:zY=[sl 19,sl 76,sl 77,sl 78,sl 79,sl 80,sl 81,sl 82,sl 83,sl 84,sl 85,sl 86,sl 87]:=bo
theorem Cd{i j:af}(h:af.beq i j=false):i≠j:=λe=>by rw[af.eS.2 e]at h;cases h
theorem Ly{db:Nat}{l:af->Option Int}{to:Nat}{bO:List af}{aa d:ak AV}{H y:ah}(h:vV db l to bO aa H=some (d,y)):∃f o p a3 b no q u t i g a v r bz m N c n e fz k j pl t0 s,f=db/\mr H (aa.get .ahp (sl 11))=some (.func f [] [o,p,a3,.aE b no])/\jY H b (aa.get .ahp (sl 5))=some q/\aa.get .ahp (sl to)=.int u t/\jY H b (aa.get .ahp (sl 11))=some i/\jY H b o=some (.map g)/\jY H b p=some a/\jY H b a3=some (.int v r)/\l b=some bz/\qC H b q t=some (.map m)/\qC H b a r=some (.map N)/\H.get b=.cells c n e true [] fz/\g≠N/\m≠g/\fz<=no/\no<n/\im H m=some k/\im H g=some j/\jw H g=some pl/\iB H N=some t0/\c.bp .ahp no=.bool s/\d=jv aa bO/\y=((H.set N (.co (dh (eV (dQ pl bz k) t0)))).set b (.cells (dY c no [.bool (s||jX t0 (dQ pl bz k))]) n e true [] fz)).skip:=by
 unfold vV at h;split at h;case h_2=>cases h
 rename_i f o p a3 b no z;split at h;case isFalse=>cases h
 rename_i A;split at h;case h_2=>cases h
 rename_i q u t i g a v r bz B C D E F G I;split at h;case h_2=>cases h
 rename_i m N c n e fz J w x;split at h;case isTrue=>cases h
 rename_i hb;simp only[agd,af4,Bool.and_eq_false_iff,not_or,Bool.not_eq_true,Bool.not_eq_false]at hb;obtain⟨⟨b2,K⟩,L,b5⟩:=hb;split at h;case h_2=>cases h
 rename_i k j pl t0 s M O P Q R;injection h with h;injection h with h1 h2;exact⟨f,o,p,a3,b,no,q,u,t,i,g,a,v,r,bz,m,N,c,n,e,fz,k,j,pl,t0,s,afo A,z,B,C,D,E,F,G,I,J,w,x,Cd b2,Cd K,afx L,Eq.mp agh b5,M,O,P,Q,R,h1.symm,h2.symm⟩
theorem Ta{P:Program}{db r:Nat}(R:db≠r)(z:fM P (my db r)):tb P 1004 (zZ db):=by
 intro Wr ρ H H' w nt fr c1 c2 x y a6 b a S T C hg hF hI k cs;have C:bg.seq K7 K8=bg.seq x y:=C;injection C with F hy;subst F;subst hy;unfold zZ at hg;obtain⟨f,a',ba,a3,Q,no,s5,kt,t,bb,pm,a8,kb,b',bz,m,N,c,n,e,fz,ks,bd,pl,t0,nw,hf,v1,v2,v3,v4,v5,v6,v7,l,v9,V,W,n2,n3,n4,n5,w1,w2,w3,w4,w5,rfl,rfl⟩:=Ly hg;subst hf;obtain⟨X,Y,J,Z⟩:=rD v1;obtain⟨i5,o5,e5,bv,c5⟩:=tD v2;obtain⟨b0,eK,u,L,_⟩:=tD v4;rw[J]at u;injection u with q1 q2;subst q1;subst q2;obtain⟨is,os,ns,b3,b4,js,e6,e7,e8,b6,c6⟩:=GD v9;obtain⟨ms,D⟩:=Ca w1;obtain⟨Ns,ag⟩:=Aa w4;have av:fr=⟨fr.aa,fr.br,fr.bw⟩:=rfl;have hat:∃s A,fr.aa.get .ahp (sl 7)=.aE s A/\s≠Q/\∃G,bx H s (A+1)=some G/\∀(x:aL)(g:ak AV)(I:ah),gv g x=G->aD (.iQ x) g I=some (.int 3 bz,I):=by
  split at l;case h_2=>cases l
  rename_i s A aw;split at l;·cases l
  rename_i hb;refine⟨s,A,aw,λe=>hb (by rw[e];exact af.eS.2 rfl),?_⟩;split at l;·rename_i G E;injection l with l;subst l;exact⟨_,E,λx g I F=>by simp[aD,F]⟩
  .rename_i E;injection l with l;subst l;exact⟨_,E,λx g I F=>by simp[aD,F]⟩
  cases l
 obtain⟨s,A,ax,ay,G,c7,M⟩:=hat;refine(Lu R z S T (bO:=zX) bo bo bo bo bo bo bo bo bo bo bo bo bo hF hI (bz:=bz) v5 v6 v7 w3 w2 V W n4 n5 w5 w1 w4 n2 n3 20 120 ?_ ?_ k cs).mono ?_
 .intro p d;rw[av];refine Xc.region (n:=19) ?_;refine Xo.op (n:=18) (v:=s5) (H':=H.set m (.map p d)) (gX e5 (by rw[vY (jx c5 D)];exact c5)) ?_;refine Xo.op (n:=17) (v:=.int kt t) (H':=H.set m (.map p d)) (by simp[aD,gv,aK,ak.aC,aY];exact v3) ?_;refine Xo.op (n:=16) (v:=.aE is (os+js)) (H':=H.set m (.map p d)) (rE (by simp[gv,aK,ak.aC,aY];exact e6) (by simp[gv,aK,ak.aC,aY];exact⟨rfl,e7⟩) e8) ?_;refine Xo.op (n:=15) (v:=.map m) (H':=H.set m (.map p d)) (gX (by simp[gv,aK,ak.aC,aY];exact⟨rfl,rfl⟩) (by rw[vY (jx c6 D)];exact c6)) ?_;refine Xo.op (n:=14) (v:=.aE H.next 0) (H':=(H.set m (.map p d)).new (.mapIter (some m) d [] d)) (by simp[aD,gv,aK,ak.aC,aY,ah.aC];rfl) (Xo.nil (n:=13) ?_);refine⟨rfl,rfl,rfl,?_,?_,rfl⟩;·intro t z;simp only[Lw,acn,afy,or_false,not_or]at z;simp[aK,ak.aC,z]
  simp[aK,ak.aC,aY]
 .intro aa B kk K O he a1 q;have cc:∀{i o v},bx H i o=some v->i≠Q->bx B i o=some v:=λh hq=>by rw[mw (O _ (jx h ag) (jx h D) (tA hI h) hq)];exact h
  have a2:aa.get .ahp (sl 11)=.aE X Y:=by rw[he _ bo];exact J
  refine Xc.region (n:=119) ?_;have h7:aa.get .ahp (sl 7)=.aE s A:=by rw[he _ bo];exact ax
  refine Xo.op (n:=118) (v:=.func f [] [a',ba,a3,.aE Q no]) (H':=B) (gX (by simp[gv];exact a2) (cc Z L)) ?_;refine Xo.op (n:=117) (v:=.int 3 kk) (H':=B) (by simp[aD,gv,aK,ak.aC,aY];exact a1) ?_;refine Xo.op (n:=116) (v:=.aE s (A+1)) (H':=B) (by simp[aD,gv,aK,ak.aC,aY];rw[h7]) ?_;refine Xo.op (n:=115) (v:=G) (H':=B) (gX (by simp[gv,aK,ak.aC,aY]) (cc c7 ay)) ?_;refine Xo.op (n:=114) (v:=.int 3 bz) (H':=B) (M _ _ _ (by simp[gv,aK,ak.aC,aY])) ?_;refine Xo.call (n:=113) ?_;simp only[gv,aK,ak.aC,aY,afp,agu];refine Xf.mono (n:=80) ab ?_ q;intro v I q;refine Xo.mono (n:=101) ab (λ_ _ h=>h) ?_;refine Xo.nil (n:=100) (q _ ?_ ?_);·intro t z;simp only[Lw,acn,afy,or_false,not_or]at z;simp[aK,ak.aC,z]
  simp[aK,ak.aC,aY]
 rintro j b7 B⟨rfl,rfl,rfl⟩;exact⟨rfl,rfl,rfl⟩
theorem Tc{P:Program}{db p:Nat}(D:db≠p)(r:fM P (my db p)):tb P 1005 (z6 db):=by
 intro Wr ρ H H' w nt fr c1 c2 x y Z b a E F s hg hF T k cs;have s:bg.seq K9 La=bg.seq x y:=s;injection s with hx hy;subst hx;subst hy;unfold z6 at hg;obtain⟨f,a1,a2,a3,V,no,s5,kt,t,av,pm,ag,kb,bb,bz,m,N,c,n,e,fz,ks,aw,pl,t0,nw,hf,v1,v2,v3,v4,v5,v6,v7,W,v9,G,I,n2,n3,n4,n5,X,w2,w3,Y,w5,rfl,rfl⟩:=Ly hg;subst hf;obtain⟨J,L,z,M⟩:=rD v1;obtain⟨i5,o5,e5,ax,c5⟩:=tD v2;obtain⟨ay,eK,q,A,_⟩:=tD v4;rw[z]at q;injection q with q1 q2;subst q1;subst q2;obtain⟨is,os,ns,a6,a8,js,e6,e7,e8,a',c6⟩:=GD v9;obtain⟨ms,u⟩:=Ca X;obtain⟨Ns,O⟩:=Aa Y;have Q:fr=⟨fr.aa,fr.br,fr.bw⟩:=rfl;simp only[aaM]at W;subst W;refine(Lu D r E F (bO:=zY) bo bo bo bo bo bo bo bo bo bo bo bo bo hF T (bz:=.ofNat 0) v5 v6 v7 w3 w2 G I n4 n5 w5 X Y n2 n3 20 120 ?_ ?_ k cs).mono ?_
 .intro g d;rw[Q];refine Xc.region (n:=19) ?_;refine Xo.op (n:=18) (v:=s5) (H':=H.set m (.map g d)) (gX e5 (by rw[vY (jx c5 u)];exact c5)) ?_;refine Xo.op (n:=17) (v:=.int kt t) (H':=H.set m (.map g d)) (by simp[aD,gv,aK,ak.aC,aY];exact v3) ?_;refine Xo.op (n:=16) (v:=.aE is (os+js)) (H':=H.set m (.map g d)) (rE (by simp[gv,aK,ak.aC,aY];exact e6) (by simp[gv,aK,ak.aC,aY];exact⟨rfl,e7⟩) e8) ?_;refine Xo.op (n:=15) (v:=.map m) (H':=H.set m (.map g d)) (gX (by simp[gv,aK,ak.aC,aY];exact⟨rfl,rfl⟩) (by rw[vY (jx c6 u)];exact c6)) ?_;refine Xo.op (n:=14) (v:=.aE H.next 0) (H':=(H.set m (.map g d)).new (.mapIter (some m) d [] d)) (by simp[aD,gv,aK,ak.aC,aY,ah.aC];rfl) (Xo.nil (n:=13) ?_);refine⟨rfl,rfl,rfl,?_,?_,rfl⟩;·intro t r;simp only[Lx,acn,afy,or_false,not_or]at r;simp[aK,ak.aC,r]
  simp[aK,ak.aC,aY]
 .intro aa C kk K B he R l;have cc:∀{i o v},bx H i o=some v->i≠V->bx C i o=some v:=λh hq=>by rw[mw (B _ (jx h O) (jx h u) (tA T h) hq)];exact h
  have S:aa.get .ahp (sl 11)=.aE J L:=by rw[he _ bo];exact z
  refine Xc.region (n:=119) ?_;refine Xo.op (n:=118) (v:=.func f [] [a1,a2,a3,.aE V no]) (H':=C) (gX (by simp[gv];exact S) (cc M A)) ?_;refine Xo.op (n:=117) (v:=.int 3 kk) (H':=C) (by simp[aD,gv,aK,ak.aC,aY];exact R) ?_;refine Xo.call (n:=116) ?_;simp only[gv,aK,ak.aC,aY,afp,agu];refine Xf.mono (n:=80) ab ?_ l;intro v H2 l;refine Xo.mono (n:=101) ab (λ_ _ h=>h) ?_;refine Xo.nil (n:=100) (l _ ?_ ?_);·intro t r;simp only[Lx,acn,afy,or_false,not_or]at r;simp[aK,ak.aC,r]
  simp[aK,ak.aC,aY]
 rintro j ba C⟨rfl,rfl,rfl⟩;exact⟨rfl,rfl,rfl⟩
end Go.al
end
