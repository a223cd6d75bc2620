/- A part. No conditions. -/
import Derived.Test.YtpplokbfajnjhaaGreatDoorA25
set_option linter.all false
set_option maxHeartbeats 16000000
open List renaming replicate->acJ
open Prod renaming fst->ajR
noncomputable section
namespace Go.al.R
section
variable{ab:Nat->aV}
def Cs(g:G.aP)(a:List Bool)(aB:List (List Int))(M:List (List Bool))(n b:Nat)(pl:List (List Int)):Prop:=
 a.getD b false=true/\pl.length=(aE g b).aA.length+1/\(∀k,k<=(aE g b).aA.length->(pl.getD k []).Pairwise (·<·)/\∀x,x∈pl.getD k []↔∃v:Nat,x=v/\v<n/\ig (aE g b) (qI g aB M b) (qJ g aB M b) ((aE g b).aA.length - k+1) v)\/a.getD b false=false/\pl=[]
theorem fA.cons{c:List (List Int)}{a:List AV}{F:List Th}(h:fA c a F){l:List Int}{v:AV}:fA (l::c) (v::a) (tR 1 (l.map aI) l.length v::F):=by have hl:=h.len;refine⟨by simp[hl],λb hb=>?_⟩;cases b with|zero=>exact acI .. |succ b=>rw[List.getD_cons_succ,List.getD_cons_succ];exact adT _ (h.mem b (by simpa using hb))
section
variable{g:G.aP}{H:ai}{cs:List AV}
theorem Gx{A H:ai}{F:List Th}{b:List Th}{pl:List (List Int)}{a:List AV}{v:AV}(U:ak A H b)(i:Nat)(hi:b[i]?=some (tZ F))(c:fA pl a F)(d:tR 1 a pl.length v∈F):pD H pl v:=by have⟨_,e,_,_⟩:=U.kj i hi d;have hl:=c.len;exact c.sl U i hi (by rw[hl];exact e)
theorem adr{A H:ai}{F G:List Th}{a:List Th}(U:ak A H (tZ F::a))(h:∀t∈G,t∈F):ak A H (tZ G::a):=U.as 0 rfl λ_ b=>⟨λt c=>b.1 t (h t c),b.2⟩
theorem ads(T:Tb ab)(hg:dt H g cs)(hB:G.Sm g)(hR:ev g)(a2:g.aj.length<=30){n:Nat}(hn:g.aQ=n)(cx:n<=6000){b:Nat}(hb:b<g.aj.length){K:KT}(h0:∀H' v a aB m F,lC g (-1) a aB m->(∀b,gM g (-1) a aB m b)->a.getD b false=false->ak H H' [tZ F]->tR 1 [] 0 v∈F->K v H')(h:∀H' v pl d F a aB m M c2 o2 A,lC g (-1) a aB m->(∀b,gM g (-1) a aB m b)->lC g (-1) c2 o2 A->(∀b,gM g (-1) c2 o2 A b)->qN g c2 o2 n M->Cs g a aB M n b pl->fA pl d F->tR 1 d pl.length v∈F->ak H H' [tZ F]->K v H'):YN ab Xg [.agg cs,aN b] H K:=by
 have gn:=hg.one;have e1:=hg;obtain⟨vb,rfl,bG⟩:=hg;have⟨g7,_,_,g8⟩:=bG.all;have gq:eV vb vb=true:=bG.bK;have d2:cC vb vb=true:=by obtain⟨_,hw,_⟩:=bG;exact Sl.cC hw
 have hS:=hR.sh;have L:=acm hb;have cy:=hB.bl _ L;have e2:=hB.st _ L;have cE:=hB.ed _ L;have d3:∀{k:Nat}{x:Int},x∈dg g.aj[b] k->0<=x/\x<n:=λhx=>by have:=vA hR L hx;omega
 have e3:∀{k:Nat}(hk:k<g.aj[b].aA.length), -1<=g.aj[b].aA[k].to/\g.aj[b].aA[k].to<n:=λhk=>by have:=(hR.aA _ L _ (acm hk)).r;have h1:=this.t0;have h2:=this.t1;omega
 have bv:∀{c},aS H c->dt c g [.str g.name,aI g.params,aN n,vb]:=λhg=>by have:=bX.fS hg e1;rw[hn]at this;exact this
 unfold Cs at h;rw[show aE g b=g.aj[b]from bf hb _]at h;refine YF.code T.Zs aC (au ?_);refine RO.ct (ak.bN H) λH1 q2 U=>?_;have U:ak H H1 [tB cJ q2 [.str g.name,aI g.params,aI g.aQ,vb]]:=U;rw[hn]at U;refine af ?_;refine RO.co U 0 ?_;refine RO.cl (z8 T (bv U.gr) hB hS a2 (wo:= -1) λH2 qc qs e4 Fo a aB m E cR c8 hl=>?_);have U:=U.dq hl;have e5:=E.lc;have c9:=E.lo;have e6:=c8.len;refine RO.ji U 1 λH3 N U=>?_;have⟨d4,_,_,_⟩:=(U.sl (e:=cB) (size:=1) (sv:=N) (vs:=[]) (n:=0) (full:=true) 0).all;refine af ?_;refine RO.dS U λH4 q5 U=>?_;refine af ?_;have e7:=nD (l:=a) (k:=b) e5 hb;refine RO.cZ U 4 (hv:=e7) ?_;refine af ?_;refine Ru.eC (λo=>?_) (λo=>?_)
 .have o:a.getD b false=false:=by simpa using o
  refine af ?_;have U:=(((U.eh 1 rfl).as 0 rfl (t':=tR 1 [] 0 N) λgi J=>tS.io J).sub (.cons_cons _ (ajr _))).Gd;exact Ru.aL (h0 _ N a aB m _ E cR o U (abP.2 rfl))
 have o:a.getD b false=true:=by simpa using o
 have⟨e8,e9⟩:=(E.snd b o).ok hS;have gx:=E.iD b o;refine af ?_;refine RO.eD U 5 (af ?_);refine RO.nC U.gr bG (λg9 g' ha gy a6 gA d5=>?_) (j:=b);have gH:=a6.one;refine RO.eF ?_ (hc:=(d5 U.gr).2);generalize g.aj[b]=B at*;obtain⟨vp,O,jc,rfl,hc,b0,va,vk,vg,rfl,e',fa,fb⟩:=a6;have⟨hf,_,_,hh⟩:=b0.all;refine RO.dS U λH5 q7 U=>af ?_;refine RO.co U 6 (RO.co U 1 (RO.co U 6 (af ?_)));refine RO.Gp (adq T (bv U.gr) hB hR a2 hn cx λH6 iv c2 o2 A M ho d6 d7 c' hl=>⟨λac dm=>?_,?_⟩);·have U:=U.bR hl.gr;have⟨_,fd⟩:=U.get 1 rfl;have⟨_,b3⟩:=U.get 6 rfl;refine tF (i:=q5) (o:=0) (vs:=[.slice qc 0 g.aj.length g.aj.length true,.slice qs 0 g.aj.length g.aj.length true,.bool m]) dm (by(conv=>lhs;whnf)<;>rfl) (by(conv=>lhs;whnf)<;>rfl) (by simp[j8,cC,ah.fg]) (tB.kU fd (m:=3) (by show 0+3<=3;omega)) ?_;exact tF (i:=q2) (o:=0) (vs:=[.str g.name,aI g.params,aN n,vb]) dm (by(conv=>lhs;whnf)<;>rfl) (by(conv=>lhs;whnf)<;>rfl) (MT d2) (tB.kU b3 (m:=4) (by show 0+4<=4;omega)) rfl
 have b4:=c'.Gw;have fe:=b4.len;have dr:Gl H6 M iv:=M6 hl 0 (by rw[fe];rfl) λb hb=>b4.row b aa;have⟨gL,_,_,_⟩:=dr.all;have U:=U.bR hl.gr;refine RO.cl (MR T (bv U.gr) hB hS hn cx rfl rfl (c8.sl U 3 rfl (by rw[e6,c9];exact U.sl (e:=uJ) (size:=1) (sv:=.slice qs 0 g.aj.length g.aj.length true) (vs:=e4) (n:=g.aj.length) (full:=true) 4)) c9 dr b4 e8 aa e9 λI qo vh Y hr fk fl d' fo b6 fp=>?_);have U:=U.dq fp;have⟨g0,_,_,_⟩:=b6.all;have cp:=U.sl (e:=cB) (size:=1) (sv:=N) (vs:=[]) (n:=0) (full:=true) 3;have ea:=U.sl (e:=4) (size:=1) (sv:=.slice qo 0 n n true) (vs:=Y.map .bool) (n:=n) (full:=true) 0;have⟨_,ds⟩:=U.get 1 rfl;have⟨_,b3⟩:=U.get 7 rfl;have a8:=(U.px 1).2;have eb:=(U.px 7).2;have C:∀{c},aS I c->aY c q7 1=some O:=λhg=>by rw[hg.aY a8];exact tB.cell ds rfl
 have ec:∀{c},aS I c->dE c q7 2 5=some [aU B.aq.op,va,.str B.aq.name,vk,vg]:=λhg=>by simp only[dE,hg.cM q7 a8];exact tB.kU (m:=5) ds (by show 2+5<=7;omega)
 have ei:∀{c},aS I c->aY c q2 2=some (aN n):=λhg=>by rw[hg.aY eb];exact tB.cell b3 rfl
 have q:=U.gr;have fq:=MX (λs hs=>(e2 s hs).1) cy.2.2.1 cy.2.2.2.2.1 cE;have U:=ak.bN I;refine af ?_;refine RO.ji U 1 λH8 fs U=>?_;have⟨g1,_,_,_⟩:=(U.sl (e:=4) (size:=1) (sv:=fs) (vs:=[]) (n:=0) (full:=true) 0).all;refine af ?_;refine RO.ls U 0 (U.gr.sl ea) (λH9 S U=>?_) (h1:=MM _);have U:ak I H9 [tS 4 1 (Y.map .bool) n true S]:=by rw[aif]at U;exact U
 have⟨hp,_,_,hq⟩:=(U.sl (e:=4) (size:=1) (sv:=S) (vs:=Y.map .bool) (n:=n) (full:=true) 0).all;have U:=U.lU;refine af ?_;refine RO.be (v:=O) (af ?_) (hc:=C U.gr);refine Ru.nm λS1 M1 f0 dv=>?_;refine Ru.bI dv (up (P:=λi=>∀c lv v6(cl:List (List Int))d F,lv.length=n->(∀v,v<n->(cA lv v↔ig B (qI g aB M b) (qJ g aB M b) i v))->v6.br=true->cl.length=i->(∀j,j<i->(cl.getD j []).Pairwise (·<·)/\∀x,x∈cl.getD j []↔∃v:Nat,x=v/\v<n/\ig B (qI g aB M b) (qJ g aB M b) (i - j) v)->fA cl d F->(∀c W,ak I c (tZ F::W)->Sl c 1 d i v6)->(i≠0->tR 1 d i v6∈F)->ak I c [tZ F,tS 4 1 (lv.map .bool) n true S]->Ru ab _ S1 ([(eM,aI ((B.aA.length:Int) - i)),(p6,v6)]++pk M1 [p2,p7,p8,p9]) c) (B.aA.length+1) (λi hi ih c lv v6 cl d F Z b7 hy b' a' p ej ek U=>?_) 0 aa _ Y N [] [] [] fk d' d4 rfl (λj hj=>by omega) ⟨rfl,λb hb=>absurd hb aC⟩ (λc W hl=>hl.gr.sl cp) (λV=>absurd rfl V) U) (by simp;exact⟨rfl,rfl,trivial⟩);subst f0;subst dv;refine Ru.loop (af ?_);refine Ru.cond (λ(f1:(0:Int)<=(B.aA.length:Int) - i)=>?_) (λ(f1:¬(0:Int)<=(B.aA.length:Int) - i)=>?_)
 .have ih:=ih (i+1) aa aa;obtain⟨k,hk⟩:∃k:Nat,(B.aA.length:Int) - i=(k:Int):=⟨B.aA.length - i,aa⟩;have f2:B.aA.length - i=k:=aa;have cv:cU d=true:=zw.2 λv hv=>by obtain⟨j,hj,rfl⟩:=ah0 hv;have hm:=p.mem j (by have:=p.len;omega);rw[bf hj]at hm;have⟨_,J,_,_⟩:=U.kj 0 rfl hm;exact J.cW
  rw[hk];refine af ?_;refine RO.eF (RO.cl (Gn T (bX.uH (q.trans U.gr) ⟨va,vk,vg,rfl,e',fa,fb⟩) ⟨aa,aa⟩ cE λhA P hl=>?_)) (hc:=ec U.gr);have U:=U.dq hl;have⟨el,_,_,et⟩:=(U.sl (e:=3) (size:=1) (sv:=P) (vs:=(fL B.aq).map aI) (n:=(fL B.aq).length) (full:=true) 0).all;refine RO.bg (RO.nil (Ru.seq (Ru.pA (P:=λM' H'=>∃rv l2,M'=[(eS,rv),(p2,.aD q2 0),(p6,v6),(p7,.aD q7 0),(p8,S),(p9,vh),(eM,aN k)]/\rv.br=true/\lenOf rv=some (dg B k).length/\(∀c W,ak I c (tS 3 1 ((fL B.aq).map aI) (fL B.aq).length true P::W)->eE c (dg B k) rv)/\l2.length=n/\(∀v,v<n->(cA l2 v↔ig B (qI g aB M b) (qJ g aB M b) i v/\¬(k<B.aA.length/\(B.aA.getD k default).to=(v:Int))))/\ak I H' [tS 3 1 ((fL B.aq).map aI) (fL B.aq).length true P,tZ F,tS 4 1 (l2.map .bool) n true S]) (λM' HC hP=>?_) (λs' y=>?_))));rotate_left
  .refine af ?_;refine RO.be (v:=O) (af ?_) (hc:=C U.gr);refine Ru.cond (λa1=>?_) (λa1=>?_)
   .have⟨t0,t1⟩:=e3 a1;refine af ?_;refine RO.be (v:=O) (af ?_) (hc:=C U.gr);refine RO.nC (q.trans U.gr) b0 (λq8 o8 g5 f3 ca f4 cd=>?_) (j:=k);obtain⟨ag,rfl,ba⟩:=ca;have⟨bb,_,_,bc⟩:=ba.all;refine af ?_;refine RO.be (v:=ag) (af ?_) (hc:=(cd (q.trans U.gr)).1 2 _ rfl);refine RO.be (v:=O) (af ?_) (hc:=C U.gr);refine RO.nC (q.trans U.gr) b0 (λq8 o8 g5 f3 ca f4 cd=>?_) (j:=k);obtain⟨hC,rfl,g2⟩:=ca;refine af ?_;refine RO.be (v:=aI B.aA[k].to) ?_ (hc:=(cd (q.trans U.gr)).1 1 _ rfl);have hrd:dg B k=B.aA[k].args:=by rw[dg,aG a1,bf a1]
    have D:∀c W,ak I c (tS 3 1 ((fL B.aq).map aI) (fL B.aq).length true P::W)->eE c (dg B k) ag:=λc W U=>by rw[hrd];exact(q.trans U.gr).sl ba
    have dx:B.aA.getD k default=B.aA[k]:=bf a1 _;refine af ?_;refine Ru.cond (λ(g6:0<=B.aA[k].to)=>?_) (λ(g6:¬0<=B.aA[k].to)=>?_)
    .obtain⟨t,ht⟩:∃t:Nat,B.aA[k].to=t:=⟨B.aA[k].to.toNat,aa⟩;have hD:t<n:=aa;obtain⟨dy,cap,ex,rfl⟩:=U.jO (e:=4) (size:=1) (n:=n) (full:=true) (sv:=S) 2 rfl aa;rw[ht];refine af ?_;refine RO.gk (f:=.bool) (zs:=lv) U 2 false Z (λH9 U=>af ?_);refine y _ _ _ ⟨ag,lv.set t false,rfl,bb,by rw[hrd];exact bc,D,by simpa using Z,λv hv=>?_,U⟩ dC;rw[pF aa,dx,ht];by_cases e:v=t;·subst e;simp[a1]
     rw[an e,b7 v hv];have:¬((t:Int)=(v:Int)):=aa;simp[this]
    refine af ?_;refine y _ _ _ ⟨ag,lv,rfl,bb,by rw[hrd];exact bc,D,Z,λv hv=>?_,U⟩ dC;rw[b7 v hv,dx];have:¬(B.aA[k].to=(v:Int)):=aa;simp[this]
   have hrd:dg B k=fL B.aq:=by rw[dg,an a1]
   refine af ?_;refine y _ _ _ ⟨_,lv,rfl,el,by rw[hrd];exact et,λc W U=>by rw[hrd];exact U.sl (e:=3) (size:=1) (vs:=(fL B.aq).map aI) (n:=(fL B.aq).length) (full:=true) 0,Z,λv hv=>?_,U⟩ dC;rw[b7 v hv];simp[a1]
  have⟨rv,l2,hM,hrd,hE,f5,f6,ew,U⟩:=hP;subst hM;have hF:=fq k;refine af ?_;refine Ru.nm λS2 M2 f7 dz=>Ru.bI dz (up (P:=λj=>∀c X,X.length=n->(∀v,v<n->(cA X v↔(v:Int)∈(dg B k).take j\/cA l2 v))->ak I c [tS 3 1 ((fL B.aq).map aI) (fL B.aq).length true P,tZ F,tS 4 1 (X.map .bool) n true S]->Ru ab _ S2 ([(jA,aN j)]++pk M2 [p2,p6,p7,p8,p9,eM,eS]) c) (dg B k).length (λj hj cf c X cn Q U=>?_) 0 aa _ l2 f6 (λv hv=>by simp) U);subst f7;subst dz;refine Ru.loop (af ?_);refine Ru.cond (λR=>?_) (λR=>?_)
  .have cf:=cf (j+1) aa aa;have⟨z0,z1⟩:=d3 (acm R);obtain⟨z,hz⟩:∃z:Nat,(dg B k)[j]=z:=⟨(dg B k)[j].toNat,aa⟩;have hG:z<n:=aa;obtain⟨dy,cap,ex,rfl⟩:=U.jO (e:=4) (size:=1) (n:=n) (full:=true) (sv:=S) 2 rfl aa;refine af ?_;refine RO.jk (aS.refl _) (f5 _ _ U) (λq9 o9 d0 av=>?_) (j:=j);rw[hz]at av;refine RO.be (v:=aN z) (af ?_) (hc:=av);refine RO.gk (f:=.bool) (zs:=X) U 2 true cn (λH9 U=>af ?_);exact Ru.wk (cf _ (X.set z true) (by simpa using cn) (λv hv=>by
    rw[pF aa,(ah9 R).symm,adX,abP,hz];by_cases e:v=z;·subst e;simp
    rw[an e,Q v hv];have:¬((v:Int)=(z:Int)):=aa;simp[this]) U)
  refine Ru.exitTo ?_;rw[aic aa]at Q;have U:=U.tail;refine af ?_;refine Ru.nm λS3 M3 f8 d1=>Ru.bI d1 (up (P:=λx=>∀c l,l.length=n->(∀v,v<n->(cA l v↔cA X v\/v<x/\cA hr v))->ak I c [tZ F,tS 4 1 (l.map .bool) n true S]->Ru ab _ S3 ([(ic,aN x)]++pk M3 [p2,p6,p7,p8,p9,eM]) c) n (λx hx aw c l u f U=>?_) 0 aa _ X cn (λv hv=>by simp) U);subst f8;subst d1;refine Ru.loop (af ?_);refine RO.be (v:=aN n) (af ?_) (hc:=ei U.gr);refine Ru.cond (λe0=>?_) (λe0=>?_)
  .have aw:=aw (x+1) aa aa;obtain⟨dy,cap,ex,rfl⟩:=U.jO (e:=4) (size:=1) (n:=n) (full:=true) (sv:=S) 1 rfl aa;have ax:=nD (l:=l) (k:=x) u aa;have aq:∀z:Bool,(z=true↔cA l x\/cA hr x)->∀v,v<n->(cA (l.set x z) v↔cA X v\/v<x+1/\cA hr v):=λz hz v hv=>by
    rw[pF aa];by_cases e:v=x;·subst e;rw[aG rfl,hz,f v hv];simp
    rw[an e,f v hv];have:v<x+1↔v<x:=aa;rw[this]
   refine af ?_;cases ay:l.getD x false with|true=>rw[ay]at ax;refine RO.cZ U 1 (hv:=ax) (af ?_);refine RO.gk (f:=.bool) (zs:=l) U 1 true u (λH9 U=>af ?_);exact Ru.wk (aw _ _ (by simpa using u) (aq true ⟨λ_=>.inl ay,λ_=>rfl⟩) U)|false=>rw[ay]at ax;refine RO.cZ U 1 (hv:=ax) (af ?_);refine RO.iQ U.gr (by rw[<-fl]at b6;exact b6) (λq9 o9 d0 av=>?_) (j:=x) (hj:=by omega);rw[show hr[x]'d0=hr.getD x false from(bf _ _).symm]at av;refine af ?_;refine RO.gk (f:=.bool) (zs:=l) U 1 (hr.getD x false) u (λH9 U=>af ?_);exact Ru.wk (aw _ _ (by simpa using u) (aq _ ⟨λV=>.inr V,λV=>V.resolve_left (by rw[cA,ay];simp)⟩) U)
  refine Ru.exitTo ?_;have f:∀v,v<n->(cA l v↔ig B (qI g aB M b) (qJ g aB M b) (i+1) v):=λv hv=>by rw[f v hv,ig,f2,Q v hv,ew v hv,fo v hv];have:v<x:=aa;simp[this]
  refine af ?_;refine RO.cl (Gj T (l:=l) (by rw[u];exact U.sl (e:=4) (size:=1) (vs:=l.map .bool) (n:=n) (full:=true) 1) aa λf9 w hl=>?_);have U:=((U.dq hl).as 0 rfl (t':=tR 1 ((fV l).map aI) (fV l).length w) λgi J=>tS.io J).iC;have⟨f',hH,gb,_⟩:=(show Sl f9 1 ((fV l).map aI) (fV l).length w by obtain⟨_,J⟩:=hl.get 0 rfl;exact cP.sl J).all;refine RO.i6 U 1 (ws:=[w]) (n:=1) (λhI g3 U=>?_) (hl:=gT rfl f' gb rfl rfl rfl);have gd:=ej _ _ (adr (G:=F) (U.eh 1 rfl) λt ht=>adT _ ht);refine af ?_;refine RO.ls U 0 gd (λhJ v9 U=>?_) (h1:=cv);have⟨gg,_,_,_⟩:=(U.sl (e:=cB) (size:=1) (n:=1+i) (full:=true) (sv:=v9) (vs:=[w]++d) 0).all;have U:=(U.as 0 rfl (t':=tR 1 ([w]++d) (1+i) v9) λgi J=>tS.io J).iC;refine af ?_;refine RO.sub (a:=(k:Int)) (b:=1) (af ?_);rw[show((k:Int) - 1)=(B.aA.length:Int) - (i+1:Nat)by omega];refine Ru.wk (ih _ l v9 (fV l::cl) (w::d) _ u f gg (by simp[b']) (λj hj=>?_) (p.cons.Cd λt ht=>adT _ ht) (λc W hl=>?_) (λ_=>by rw[show i+1=1+i by omega];exact acI ..) U)
  .cases j with
   |zero=>
    rw[List.getD_cons_zero];refine⟨MO _,λx=>?_⟩;rw[z7];constructor
    .rintro⟨v,e,V⟩;have hv:v<n:=by have:=tC V aC;omega
     exact⟨v,e,hv,(f v hv).1 V⟩
    rintro⟨v,e,hv,V⟩;exact⟨v,e,(f v hv).2 V⟩
   |succ j=>rw[List.getD_cons_succ];have:=a' j aa;rw[show i+1 - (j+1)=i - j by omega];exact this
  have⟨_,J,_⟩:=hl.kj 0 rfl (acI ..);rw[show i+1=1+i by omega];exact J
 refine Ru.exitTo ?_;obtain rfl:i=B.aA.length+1:=aa;refine af ?_;have g4:=p.len;refine Ru.aL (h _ v6 cl d F a aB m M c2 o2 A E cR d6 d7 c' (.inl ⟨o,b',λj hj=>?_⟩) p (by rw[b'];exact ek aa) ((U.sub (.cons_cons _ (ajr _))).EZ q));have:=a' j aa;rw[show B.aA.length+1 - j=B.aA.length - j+1 by omega]at this;exact this
end
end
section
variable{ab:Nat->aV}{b:Type}
def adt(size:Nat)(ld:bJ):bm:=(.seq (.region [O p4 (.be (T p1)),O p5 (.jd (T p4)),O p6 (.arith .sub 3 (T p5) (I 3 1)),O p3 (.bg (T p6))]) (.block 0 (.loop (.seq (.seq (.region [O p7 (.bg (T p3)),O p8 (.arith .geq 3 (T p7) (I 3 0))]) (.cond (T p8) .skip (.exit 0))) (.seq (.block 1 (.seq (.region [O eS (.bg (T p0)),O ib (.bg (T p3)),O jA (.be (T p1)),O ic (.bg (T p3)),O ki (.dI size (T jA) (T ic)),O kV ld,O ml (.call (T eS) [(T ib),(T kV)]),O mq (.unary .not (T ml))]) (.cond (T mq) .ret .skip))) (.region [O p9 (.bg (T p3)),O eM (.arith .sub 3 (T p9) (I 3 1)),O p3 (.bg (T eM))]))))))
def adu(R:b->List AV->Prop)(agg:Bool)(a:List b)(k:Nat)(args:List AV)(c:List Th):Prop:=c=[]/\∃(h:a.length - 1 - k<a.length)(cs:List AV),R a[a.length - 1 - k] cs/\args=[aN (a.length - 1 - k),rS agg cs]
theorem Ct{A:ai}{size nt f e:Nat}{agg:Bool}{R:b->List AV->Prop}{la:List b}{sv:AV}{j:ah}(x:ab f=.code nt [] (adt size (zB size agg (al.T ki))))(F:2<=nt)(hl:la.length<=1000000)(h1:agg=false->size=1)(hd:∀a cs,R a cs->(rS agg cs).br=true):xG ab A (.func f [] [.aD j 0]) la.length (adu R agg la) [tB e j [sv]] (λH=>cQ size (λ_=>R) H la sv) (λH=>cQ size (λ_=>R) H la sv):=by
 intro y J D c us H K G I L n g i U z d;have⟨N,_,_,P⟩:=z.all;refine YF.code x (by grind) (af ?_);refine RO.sub (a:=(la.length:Int)) (b:=1) (af ?_);refine Ru.nm λS M B u=>?_;refine Ru.bI u (up (P:=λk=>∀l c,J k c->ak A l (tB e j [sv]::(c++us))->Ru ab _ S ([(p3,aI ((la.length:Int) - 1 - k))]++pk M [p0,p1]) l) la.length (λk Q C l c i U=>?_) 0 aa _ c i U) (by simp;exact⟨rfl,trivial⟩);subst B;subst u;refine Ru.loop (af ?_);refine Ru.cond (λ(p:(0:Int)<=(la.length:Int) - 1 - k)=>?_) (λ(p:¬(0:Int)<=(la.length:Int) - 1 - k)=>?_)
 .obtain⟨t,E⟩:∃t:Nat,(la.length:Int) - 1 - k=(t:Int):=⟨la.length - 1 - k,aa⟩;have r:t=la.length - 1 - k:=aa;rw[E];have hs:=n k c (tB e j [sv]::us) l i U.BH;refine af ?_;refine RO.bO (aS.refl _) hs (λq o cs hj w m hat hrd=>?_) (j:=t);have O:=hd _ _ w;refine RO.Lk m h1 hat hrd ?_;subst r;refine RO.cl ((g k [aN (la.length - 1 - k),rS agg cs] [] c _ _ aa ⟨rfl,hj,cs,w,rfl⟩ i U.BH).mono ?_);rintro v V⟨s,U,m⟩;rcases m with⟨rfl,h⟩|⟨rfl,h⟩;·refine af ?_;refine RO.sub (a:=((la.length - 1 - k:Nat):Int)) (b:=1) (af ?_);have e1:(((la.length - 1 - k:Nat):Int) - 1:Int)=(la.length:Int) - 1 - (k+1:Nat):=aa;rw[e1];exact Ru.wk (C (k+1) aa aa _ _ h U.sY)
  refine af ?_;exact Ru.kJ (vs:=[]) trivial (d _ s _ U.sY.tail (.inr h))
 refine Ru.exitTo (af ?_);refine Ru.aq (vs:=[]) trivial (d _ c _ U.tail (.inl ?_));rw[show la.length=k by omega];exact i
theorem Cu{f c e cl:Nat}{a:AV}{H:ai}(g:ab f=.code c [.tmp p2] (.seq (.region [O p1 (.box e (al.T p0)),O p2 (.bg (C .nilFunc))]) (.seq (.region [O p3 (.lf cl [] [(al.T p1)]),O p2 (.bg (al.T p3))]) .ret)))(i:1<=c)(hd:a.br=true)(h1:a.cW=true)(d:a.cells=[a]){K:KT}(h:∀H' q,ak H H' [tB e q [a]]->K (.func cl [] [.aD q 0]) H'):YN ab f [a] H K:=by refine YF.code g (by simp;omega) ?_;refine au ?_;refine RO.ct (ak.bN H) (λH1 q U=>?_) (ho:=by rw[d];exact ao h1 rfl);rw[d]at U;refine au ?_;exact Ru.aL (h _ q U)
end
end Go.al.R
namespace Go.al
section
def tM(ex:Bool)(q:ah)(S:Int->Prop):Th where
 P H a:=q∈a/\(∀j∈a,j=q)/\(∃ks,fi (H.get q) ks/\∀x,x∈ks↔S x)/\(ex=true->∃es c,H.get q=.map es c)/\q.am<H.next.am
 fr h b hg:=⟨h.1,h.2.1,by rw[hg _ h.1];exact h.2.2.1,by rw[hg _ h.1];exact h.2.2.2.1,aim h.2.2.2.2 b⟩
 lt h:=by intro j hj;rw[h.2.1 j hj];exact h.2.2.2.2
def ik(p:Int×Int):AV×AV:=(.int 3 p.1,.int 3 p.2)
def tI(q:ah)(pl:List (Int×Int)):Th where
 P H a:=q∈a/\(∀j∈a,j=q)/\(∃es c,H.get q=.map es c/\es.map aW.kv=pl.map ik)/\(pl.map ajR).Nodup/\q.am<H.next.am
 fr h b hg:=⟨h.1,h.2.1,by rw[hg _ h.1];exact h.2.2.1,h.2.2.2.1,aim h.2.2.2.2 b⟩
 lt h:=by intro j hj;rw[h.2.1 j hj];exact h.2.2.2.2
section
variable{A H:ai}{ts:List Th}{q:ah}{S S':Int->Prop}{ex:Bool}{pl:List (Int×Int)}{z y:Int}
variable{ab:Nat->aV}{c:Cx}{s:List SI}{L:Kn}{d:Option ah}{l:List bD}
theorem ak.sc{t t':Th}(U:ak A H ts)(i:Nat)(hi:ts[i]?=some t){H':ai}(b:H'.next=H.next)(hg:∀j,j≠q->H'.get j=H.get j)(h1:∀a,t.P H a->q∈a)(h2:t'.P H' [q]):ak A H' (ts.set i t'):=by have⟨a,c,_,hu⟩:=U.iO i hi;refine hu (fp':=[q]) ⟨Nat.le_of_eq (by grind),λj hj=>?_,λj hj b=>?_⟩ h2;all_goals grind
theorem ak.lE(U:ak A H ts)(i:Nat)(hi:ts[i]?=some (tM ex q S):=by rfl):(∃ks,fi (H.get q) ks/\∀x,x∈ks↔S x)/\(ex=true->∃es c,H.get q=.map es c)/\q.am<H.next.am:=by have⟨b,a⟩:=U.get i hi;exact a.2.2
theorem ak.Cv(U:ak A H ts)(i:Nat)(hi:ts[i]?=some (tI q pl):=by rfl):(∃es c,H.get q=.map es c/\es.map aW.kv=pl.map ik)/\(pl.map ajR).Nodup/\q.am<H.next.am:=by have⟨b,a⟩:=U.get i hi;exact a.2.2
theorem ak.Cw(U:ak A H ts)(i:Nat)(hi:ts[i]?=some (tM ex q S))(h:∀x,S x↔S' x):ak A H (ts.set i (tM ex q S')):=U.as i hi λb a=>⟨a.1,a.2.1,a.2.2.1.imp λks h2=>⟨h2.1,λx=>(h2.2 x).trans (h x)⟩,a.2.2.2⟩
theorem ak.M8(U:ak A H ts){o:bP}{S:Int->Prop}{ks:List Int}(hs:fi o ks)(a:∀x,x∈ks↔S x)(b:ex=true->∃es c,o=.map es c):ak A (H.new o) (tM ex H.next S::ts):=U.push (fp:=[H.next]) (aS.new H o) ⟨abP.2 rfl,λj hj=>abP.1 hj,⟨ks,by rw[ai.cO,aG rfl];exact hs,a⟩,λh=>by rw[ai.cO,aG rfl];exact b h,by rw[ai.lr];omega⟩ (rG H)
theorem RO.M9(U:ak A H ts)(h:∀H' q,ak A H' (tM true q (λ_=>False)::ts)->RO ab c l s (bq L d (.map q)) H'):RO ab c (⟨d,.kw,none,[],[]⟩::l) s L H:=RO.kw (h _ _ (U.M8 (ks:=[]) ⟨ajD,[],rfl,rfl⟩ (λx=>by simp) λ_=>⟨[],0,rfl⟩))
theorem RO.adv(U:ak A H ts)(i:Nat){x y:aJ}(h:∀H',ak A H' (ts.set i (tM ex q λx=>x=z\/S x))->RO ab c l s (bq L d .ajS) H')(hi:ts[i]?=some (tM ex q S):=by rfl)(g:aT L x=.map q:=by exact cw)(k:aT L y=.int 3 z:=by exact cw):RO ab c (⟨d,.jI .int x y (.c (.bool true)),none,[],[]⟩::l) s L H:=λac a=>by
 have⟨⟨ks,hs,m⟩,he,b⟩:=U.lE i hi;have⟨H',o,f,p,r,v⟩:=EE (a.gv g rfl) (a.gv k rfl) hs;have e:=U.sc (q:=q) i hi (t':=tM ex q λx=>x=z\/S x) f p (λw t=>t.1) ⟨abP.2 rfl,λj hj=>abP.1 hj,⟨_,r,λx=>by rw[y8,m]⟩,λh=>?_,by rw[f];exact b⟩;·have⟨n,u⟩:=h H' e _ (a.set d .ajS);exact⟨n+1,Xo.op o u⟩
 grind
theorem RO.fM(U:ak A H ts)(i:Nat){x y:aJ}(h:∀t:Bool,(t=true↔S z)->RO ab c l s (bq L d (.bool t)) H)(hi:ts[i]?=some (tM ex q S):=by rfl)(b:aT L x=.map q:=by exact cw)(e:aT L y=.int 3 z:=by exact cw):RO ab c (⟨d,.lookup .int (.bool false) false x y,none,[],[]⟩::l) s L H:=by have⟨⟨ks,hs,g⟩,he,f⟩:=U.lE i hi;exact RO.op (λac a=>JF (a.gv b rfl) (a.gv e rfl) hs) (h (fH z ks) (by grind[pY]))
theorem Na{k:Int}:∀{es:List aW}{pl:List (Int×Int)},es.map aW.kv=pl.map ik->k∉pl.map ajR->∀i0,findKey .int (.int 3 k) es i0=some none
 |[],_,_,_,_=>rfl
 |e::es,[],h,_,_=>by grind
 |e::es,p::pl,h,a,i0=>by
  simp only[ah2,aik,aW.kv,ik,ahW]at h;simp only[ah2,acT,not_or]at a;have c:gw k p.1=false:=by rw[dV];simpa using a.1
  have b:db 64 .int (.int 3 k) (.int 3 p.1)=some (gw k p.1):=by simp[db]
  simp only[findKey,h.1.1,b,c];exact Na h.2 a.2 _
theorem RO.adw(U:ak A H ts)(h:∀H' q,ak A H' (tI q []::ts)->RO ab c l s (bq L d (.map q)) H'):RO ab c (⟨d,.kw,none,[],[]⟩::l) s L H:=RO.kw (h _ _ (U.push (fp:=[H.next]) (aS.new H _) ⟨abP.2 rfl,λj hj=>abP.1 hj,⟨[],0,by rw[ai.cO,aG rfl],rfl⟩,ajD,by rw[ai.lr];omega⟩ (rG H)))
theorem RO.adx(U:ak A H ts)(i:Nat){x w:aJ}(k:z∉pl.map ajR)(h:∀H',ak A H' (ts.set i (tI q (pl++[(z,y)])))->RO ab c l s (bq L d .ajS) H')(hi:ts[i]?=some (tI q pl):=by rfl)(o:aT L x=.map q:=by exact cw){m:aJ}(p:aT L m=.int 3 z:=by exact cw)(r:aT L w=.int 3 y:=by exact cw):RO ab c (⟨d,.jI .int x m w,none,[],[]⟩::l) s L H:=by
 have⟨⟨es,cc,he,n⟩,t,g⟩:=U.Cv i hi;refine RO.op (λac f=>?_) (h (H.set q (.map (es++[⟨.int 3 z,.int 3 y,cc⟩]) (cc+1))) (U.sc (q:=q) i hi rfl (λj hj=>by rw[ai.aF,an hj]) (λB u=>u.1) ⟨abP.2 rfl,λj hj=>abP.1 hj,⟨_,_,by rw[ai.aF,aG rfl],by simp[n,aW.kv,ik]⟩,?_,by rw[ai.eH];exact g⟩));·simp only[aH,iH,ait,acg,bF,f.gv o rfl,f.gv p rfl,f.gv r rfl,he,Na n k 0]
 simp only[ail,ah2,ajh];rw[aiH];exact⟨t,aC,λa v b hb=>by simp only[abP]at hb;subst hb;exact λe=>k (e▸v)⟩
theorem Nb:∀{es:List aW}{pl:List (Int×Int)},es.map aW.kv=pl.map ik->jM.go es=some pl/\iz es=some (pl.map ajR)|[],[],_=>⟨rfl,rfl⟩|[],_::_,h=>by grind|_::_,[],h=>by grind|e::es,p::pl,h=>by simp only[ah2,aik,aW.kv,ik,ahW]at h;have⟨h1,h2⟩:=Nb h.2;simp[h,h1,h2,jM.go,iz,ah2,and_self]
theorem ak.qF(U:ak A H ts)(i:Nat)(hi:ts[i]?=some (tI q pl):=by rfl):jM H q=some pl/\iB H q=some (pl.map ajR):=by have⟨⟨es,cc,he,a⟩,b,c⟩:=U.Cv i hi;have⟨h1,h2⟩:=Nb a;simp[he,h1,h2,b,jM,iB,dB,ur,bi,and_self]
theorem Nc:∀{es:List aW}{ks:List Int},es.map aW.kv=ks.map sk->rA es=some ks/\iz es=some ks|[],[],_=>⟨rfl,rfl⟩|[],_::_,h=>by grind|_::_,[],h=>by grind|e::es,p::pl,h=>by simp only[ah2,aik,aW.kv,sk,ahW]at h;have⟨h1,h2⟩:=Nc h.2;simp[h,h1,h2,rA,iz,and_self]
theorem Ae{ks:List Int}(h:fi (H.get q) ks):iA H q=some ks/\iB H q=some ks:=by have⟨a,es,he,b⟩:=h;have⟨h1,h2⟩:=Nc b;simp[he,h1,h2,a,iA,iB,ur,bi,and_self]
theorem Nd{k:Int}:∀{es:List aW}{ks:List Int},es.map aW.kv=ks.map sk->ks.Nodup->∀i0,findKey .int (.int 3 k) es i0=some none/\k∉ks\/∃i,findKey .int (.int 3 k) es i0=some (some (i0+i,.bool true))/\∃a:List Int,(mK es i).map aW.kv=a.map sk/\a.Nodup/\∀x,x∈a↔x∈ks/\x≠k
 |[],[],_,_,_=>.inl ⟨rfl,aC⟩
 |[],_::_,h,_,_=>by grind
 |_::_,[],h,_,_=>by grind
 |e::es,x::ks,h,j,i0=>by
  simp only[ah2,aik,aW.kv,sk,ahW]at h;have⟨⟨h1,h2⟩,h3⟩:=h;have⟨m,c⟩:=aiz.1 j;have d:db 64 .int (.int 3 k) (.int 3 x)=some (gw k x):=by simp[db]
  by_cases b:k=x
  .subst b;refine .inr ⟨0,?_,ks,by trivial,c,λy=>?_⟩;·simp[h1,d,h2,findKey,dV,beq_self_eq_true,ajC]
   grind
  have l:gw k x=false:=by rw[dV];simpa using b
  rcases Nd (k:=k) h3 c (i0+1)with⟨f,g⟩|⟨i,f,a,g,n,o⟩;·simp[b,g,h1,d,l,f,findKey]
  refine .inr ⟨i+1,?_,x::a,?_,?_,λy=>?_⟩;all_goals grind[findKey,mK,aW.kv,sk,List.nodup_cons]
theorem RO.ady(U:ak A H ts)(i:Nat){x y:aJ}(h:∀H',ak A H' (ts.set i (tM true q λx=>S x/\x≠z))->RO ab c l s (bq L d .ajS) H')(hi:ts[i]?=some (tM true q S):=by rfl)(p:aT L x=.map q:=by exact cw)(r:aT L y=.int 3 z:=by exact cw):RO ab c (⟨d,.delete .int x y,none,[],[]⟩::l) s L H:=by
 have⟨⟨ks,hs,k⟩,he,f⟩:=U.lE i hi;have⟨es,cc,e⟩:=he rfl;have⟨t,C,b,u⟩:=hs;rw[e]at b;simp only[dB,abv]at b;subst b;rcases Nd (k:=z) u t 0 with⟨g,m⟩|⟨j,g,o,m,v,w⟩
 .refine RO.op (λac a=>?_) (h (H.set q (.map es cc)) (U.sc (q:=q) i hi rfl (λj hj=>by rw[ai.aF,an hj]) (λB n=>n.1) ⟨abP.2 rfl,λj hj=>abP.1 hj,⟨ks,by rw[ai.aF,aG rfl];exact⟨t,es,rfl,u⟩,λx=>?_⟩,λ_=>⟨es,cc,by rw[ai.aF,aG rfl]⟩,by rw[ai.eH];exact f⟩));·simp only[aH,iH,ait,acg,bF,a.gv p rfl,a.gv r rfl,e,g]
  rw[k];exact⟨λh=>⟨h,λe=>m (by rw[<-e,k];exact h)⟩,λh=>h.1⟩
 rw[aif]at g;refine RO.op (λac a=>?_) (h (H.set q (.map (mK es j) cc)) (U.sc (q:=q) i hi rfl (λj hj=>by rw[ai.aF,an hj]) (λB n=>n.1) ⟨abP.2 rfl,λj hj=>abP.1 hj,⟨o,by rw[ai.aF,aG rfl];exact⟨v,_,rfl,m⟩,λx=>?_⟩,λ_=>⟨_,cc,by rw[ai.aF,aG rfl]⟩,by rw[ai.eH];exact f⟩));·simp only[aH,iH,ait,acg,bF,a.gv p rfl,a.gv r rfl,e,g]
 rw[w,k]
def Af(ch:List ah):Kn->Kn->Prop
 |[],_=>True
 |(p,v)::l,m=>wQ p ch=false/\lk m p=v/\Af ch l m
theorem Af.le{ch:List ah}{ac:az AV}(b:Le L ac):∀{M:Kn},Af ch M L->Le M (jw ac ch)|[],_=>λp v h=>.inl h.symm|(q,w)::M,h=>λp v a=>by simp only[lk]at a;cases hb:ah.beq q p with|true=>rw[hb]at a;obtain rfl:=ah.fg.1 hb;rw[zb,an λc=>by have h0:=h.1;grind[EL]];exact b q v (h.2.1.trans a)|false=>rw[hb]at a;exact Af.le b h.2.2 p v a
theorem Ru.dL{t:Nat}{g:az AV->ai->Option (az AV×ai)}{ch:List ah}{M:Kn}{H':ai}(b:ab t=.dL g)(hg:∀ac,Le L ac->g ac H=some (jw ac ch,H'))(h:Ru ab c s M H')(hl:Af ch M L:=by repeat'(first|exact trivial|refine⟨rfl,rfl,?_⟩)):Ru ab c (.code (.dL t)::s) L H:=λac a=>by refine⟨1,?_⟩;simp only[Xc,exec,b,hg ac a];exact h _ (hl.le a)
end
end
end Go.al
namespace Go.al.R
section
theorem Nf{op:Nat}:∀{l:List (Nat×oq)},(pz op l).w≠ []->op∈l.map (·.1)
 |[],h=>absurd rfl h
 |p::l,h=>by
  unfold pz at h;split at h;·grind
  exact adT _ (Nf h)
theorem adz{t:List Nat}(h:ft t≠0):jR t:=by
 unfold ft at h;split at h;·rename_i a;simp only[zF,acT,aie,or_false]at a;rcases a with rfl|rfl|rfl|rfl|rfl<;>exact⟨bx,bx,bx⟩
 split at h;·rename_i a;simp only[zG,acT,aie,or_false]at a;rcases a with rfl|rfl|rfl|rfl|rfl|rfl|rfl|rfl|rfl|rfl|rfl<;>exact⟨bx,bx,bx⟩
 split at h;·rename_i a;simp only[zH,acT,aie,or_false]at a;subst a;exact⟨bx,bx,bx⟩
 exact absurd rfl h
structure Cy(g:G.aP)(x:G.ee)(r:lR):Prop where
 c:zK g x r
 gv:r.uT=decide (0<=x.to)
 lo: -1<=x.to
 hi:x.to<g.aQ
section
variable{g:G.aP}
theorem Cz{x:G.ee}{r:lR}{f:oq}(hg:r.uT=f.to)(e:r.xB=if f.n then f.lo else 0)(i:r.xC=if f.n then f.hi else 0)(b:lX f.nm x.name↔xD r.nm x.name)(d:((x.op=15\/x.op=18->x.args.length<=6)/\(x.op≠15->x.op≠18->oz (zS f x.name) x.args.length))↔(r.zI<=x.args.length/\x.args.length<=r.zJ)):u6 x g.aQ f↔Cy g x r:=by
 have a:(r.xB<=x.n/\x.n<=r.xC)↔((f.n=true->f.lo<=x.n/\x.n<=f.hi)/\(f.n=false->x.n=0)):=by rw[e,i];cases f.n<;>simp<;>omega
 constructor;·intro h;exact⟨⟨d.1 ⟨h.mn,h.mo⟩,b.1 h.name,a.2 ⟨h.num,h.LS⟩,h.l8,h.iS⟩,by rw[hg,h.to],h.t0,h.t1⟩
 intro h;have⟨h1,h2⟩:=a.1 h.c.num;have⟨h3,j⟩:=d.2 h.c.args;exact⟨by rw[<-hg,h.gv],h.lo,h.hi,h.c.iS,h1,h2,h.c.l8,b.2 h.c.name,h3,j⟩
def xU:List Nat:=[1,2,3,4,11,40,15,18,37,38,16,17,23,24,25,26,31,32,33,34,35,39,64,13,14]
theorem Ng{op:Nat}:∀{l:List (Nat×lR)}{i:Nat},op∉l.map (·.1)->tq op l i=none|[],_,_=>rfl|p::l,i,h=>by simp only[ah2,acT,not_or]at h;rw[tq,an h.1];exact Ng h.2
theorem adA{x:G.ee}{r:lR}(h:nj x=some r):x.op∈xU:=by
 apply ain;intro a;have b:x.op≠14:=λe=>a (by rw[e];decide);have c:x.op≠13:=λe=>a (by rw[e];decide);rw[nj,an b,an c,Ng λd=>a ?_]at h;·grind
 have:mr.map (·.1)=xU.take 23:=rfl;grind
theorem adB{x:G.ee}(h:kX g x):x.op∈xU:=by have a:=Nf h.w;have h1:=h.op;simp only[zR,tz,aiR,aiY,ah2,ajh,acT,aie,or_false]at a;simp only[qC,acT,aie,or_false,not_or]at h1;simp only[xU,acT,aie,or_false];omega
theorem CB{x:G.ee}{r:lR}(c:nj x=some r)(h1:x.op∉qC)(h2:(lW x.op).w≠ [])(h:u6 x g.aQ (nq x.op x.m)↔Cy g x r):kX g x↔∃r,nj x=some r/\Cy g x r:=⟨λb=>⟨r,c,h.1 b.r⟩,λ⟨d,a,b⟩=>by rw[c]at a;injection a with a;subst a;exact⟨h1,h2,h.2 b⟩⟩
theorem adC{x:G.ee}(hl:x.args.length<=12):kX g x↔∃r,nj x=some r/\Cy g x r:=by
 by_cases c:x.op∈xU;rotate_left;·grind[absurd,adB,adA]
 have⟨op,to,args,n,m,name⟩:=x;simp only[xU,acT,aie,or_false]at c;simp only at hl;rcases c with rfl|rfl|rfl|rfl|rfl|rfl|rfl|rfl|rfl|rfl|rfl|rfl|rfl|rfl|rfl|rfl|rfl|rfl|rfl|rfl|rfl|rfl|rfl|rfl|rfl;all_goals first|exact CB rfl (by dsimp only;decide) (by dsimp only;decide) (Cz rfl rfl rfl ajH (by simp[oz,zS,nq,lW,zR,tz,pz];try first|omega|(rw[<-List.length_eq_zero_iff];omega)))|skip
 .by_cases a:m=1;·subst a;refine CB (r:=⟨true,0,6,1,0,0⟩) rfl (by dsimp only;decide) (by dsimp only;decide) (Cz rfl rfl rfl ajH ?_);grind[oz,zS,nq,lW,zR,tz,pz]
  have d:nq 13 m=⟨[99,97,108,108],true, -2,false,0,0,0,0⟩:=by rw[nq,an λh=>a h.2];rfl
  refine CB (r:=⟨true,1,7,0,0,0⟩) (by simp[a,nj]) (by dsimp only;decide) (by dsimp only;decide) ?_;rw[d];refine Cz rfl rfl rfl ajH ?_;grind[oz,zS]
 by_cases b:ft name=0
 .constructor;·intro h;exact absurd b h.r.name
  simp[b,nj]
 refine CB (r:=⟨true,ft name,ft name,1,0,0⟩) (by simp_all[nj,bi,aG]) (by dsimp only;decide) (by dsimp only;decide) (Cz rfl rfl rfl ⟨λ_=>adz b,λ_=>b⟩ ?_);show(_/\(_->_->oz (ft name) args.length))↔_;grind[oz]
theorem lz.ok{j:G.fB}{k:Nat}{e:G.Edge}(h:lz g j k e)(a:¬(j.op=67/\k=2)):ly g e (fI j k):=⟨h.lo,by have:=h.hi;omega,h.aK a,h.iS⟩
theorem ly.er{j:G.fB}{k:Nat}{e:G.Edge}(h:ly g e (fI j k))(a:j.op=67->e.args=[]/\k≠2):lz g j k e:=⟨h.lo,by have:=h.hi;omega,h.iS,λb=>⟨(a b).1,λh2=>absurd h2 (a b).2⟩,λ_=>h.aK⟩
theorem Gy{j:G.fB}(c:j.op≠67){a:List Nat}(f:∀k(h:k<a.length),a[k]=fI j k):lS g j.go a↔j.go.length=a.length/\∀k(h:k<j.go.length),lz g j k j.go[k]:=by
 have e:j.go.length=a.length->∀k,k<j.go.length->a.getD k 0=fI j k:=λhl k h=>by rw[bf aa,f]
 constructor;·intro h;refine⟨h.len,λk b=>?_⟩;have:=h.ok k b;rw[e h.len k b]at this;exact this.er λd=>absurd d c
 rintro⟨h1,h2⟩;refine⟨h1,λk b=>?_⟩;rw[e h1 k b];exact(h2 k b).ok λd=>c d.1
theorem Nh{j:G.fB}(b:j.op=67):uV g j.go↔j.go.length=3/\∀k(h:k<j.go.length),lz g j k j.go[k]:=by
 have i0:fI j 0=0:=by simp[fI,b]
 have i:fI j 1=1:=by simp[fI,b]
 constructor;·intro h;have⟨s,e1,e2,he,h0,h1,⟨a0,e,d⟩,⟨b1,b2⟩,m⟩:=h.ex;rw[he];refine⟨rfl,λk n=>?_⟩;match k,n with|0,_=>exact ly.er (by rw[i0];exact h0) λ_=>⟨a0,bx⟩|1,_=>exact ly.er (by rw[i];exact h1) λ_=>⟨e,bx⟩|2,_=>exact⟨b1,by show e2.block<=_;omega,by show∀a∈e2.args,_;rw[d];simp,λ_=>⟨d,λ_=>Nat.ne_of_gt m⟩,λo=>absurd ⟨b,rfl⟩ o⟩
 rintro⟨h3,c⟩;match f:j.go,h3 with|[p,q,r],_=>rw[f]at c;have a0:=c 0 aC;have e:=c 1 aC;have d:=c 2 aC;have l:=a0.ok aa;have b1:=e.ok aa;rw[i0]at l;rw[i]at b1;exact⟨p,q,r,rfl,l,b1,⟨(a0.tr b).1,(e.tr b).1,(d.tr b).1⟩,⟨d.lo,by have:=d.hi;simp at this;omega⟩,Nat.pos_of_ne_zero ((d.tr b).2 rfl)⟩
theorem adD{j:G.fB}:zL g j↔mw g j:=by
 have one:j.op≠67->fI j 0=0->(lS g j.go [0]↔j.go.length=1/\∀k(h:k<j.go.length),lz g j k j.go[k]):=λh2 h3=>Gy h2 λk i=>by
  obtain rfl:k=0:=by simpa using i
  rw[h3];rfl
 have kf:∀x,j.op≠67->fI j 0=x->fI j 1=0->(lS g j.go [x,0]↔j.go.length=2/\∀k(h:k<j.go.length),lz g j k j.go[k]):=λx h2 h3 m=>Gy h2 λk i=>by match k,i with|0,_=>exact h3.symm|1,_=>exact m.symm
 have og:j.op=66->(lS g j.go (j.bw.map pt)↔j.go.length=(j.bw.map pt).length/\∀k(h:k<j.go.length),lz g j k j.go[k]):=λn=>Gy aa λk i=>by rw[aig]at i;rw[aiD,pt,fI,bf i];simp[n]
 have c:j.go.length=0->∀k(h:k<j.go.length),lz g j k j.go[k]:=λh k i=>by omega
 constructor
 .intro h;have o:j.name≠ []->jR j.name:=λp=>by have r:=h.name.2 p;cases h.aq with|is _ _ a _=>exact a|_=>omega
  have f:∀{a e:Nat},AE j a e->a=j.args.length->e=j.go.length->(∀k(h:k<j.go.length),lz g j k j.go[k])->mw g j:=λh1 h2 h3 m=>⟨by rw[<-h2,<-h3];exact h1,h.iS,h.bw,h.name,o,m⟩;cases h.aq with
  |go h1 b he=>have⟨h2,h3⟩:=(one aa (by simp[fI,h1])).1 he;exact f (.go h1) b.symm h2.symm h3
  |tu h1 b he=>have⟨h2,h3⟩:=(kf 0 aa (by simp[fI,h1]) (by simp[fI,h1])).1 he;exact f (.tu h1) b.symm h2.symm h3
  |is h1 b _ he=>have⟨h2,h3⟩:=(kf 0 aa (by simp[fI,h1]) (by simp[fI,h1])).1 he;exact f (.is h1) b.symm h2.symm h3
  |ef h1 b he=>have⟨h2,h3⟩:=(kf 1 aa (by simp[fI,h1]) (by simp[fI,h1])).1 he;exact f (.ef h1) b.symm h2.symm h3
  |og h1 hs=>have⟨h2,h3⟩:=(og h1).1 hs.ed;rw[aig]at h2;exact f (.og h1 hs.kd hs.lo hs.hi) hs.ar.symm h2.symm h3
  |tw h1 b q=>have⟨h2,h3⟩:=(Nh h1).1 q;exact f (.tw h1) b.symm h2.symm h3
  |pu h1 b hg=>exact f (.pu h1) aa hg.symm (c hg)
  |ret h1 b hg=>
   rcases h1 with h1|h1;·exact f (.ret h1) b.symm hg.symm (c hg)
   exact f (.kl h1) b.symm hg.symm (c hg)
  |stuck h1 b hg=>exact f (.stuck h1) b.symm hg.symm (c hg)
 intro h;have l:=h.ae;have d:=h.zT;refine⟨h.iS,h.name,h.bw,?_⟩;generalize b:j.args.length=a at l;generalize hg:j.go.length=e at l;cases l with|go h1=>exact .go h1 b ((one aa (by simp[fI,h1])).2 ⟨hg,d⟩)|tu h1=>exact .tu h1 b ((kf 0 aa (by simp[fI,h1]) (by simp[fI,h1])).2 ⟨hg,d⟩)|is h1=>exact .is h1 b (h.nm (h.name.1 h1)) ((kf 0 aa (by simp[fI,h1]) (by simp[fI,h1])).2 ⟨hg,d⟩)|ef h1=>exact .ef h1 b ((kf 1 aa (by simp[fI,h1]) (by simp[fI,h1])).2 ⟨hg,d⟩)|og h1 i h2 m=>exact .og h1 ⟨i,h2,m,b,(og h1).2 ⟨by rw[hg,aig],d⟩⟩|tw h1=>exact .tw h1 b ((Nh h1).2 ⟨hg,d⟩)|pu h1=>exact .pu h1 aa hg|ret h1=>exact .ret (.inl h1) b hg|kl h1=>exact .ret (.inr h1) b hg|stuck h1=>exact .stuck h1 b hg
end
end
section
structure PI(n:Nat)(s:List Bool)(hist:List Int):Prop where
 len:s.length=n
 bu:∀v:Nat,v<n->(s.getD v false=true↔(v:Int)∈hist)
section
variable{g:G.aP}{n:Nat}
theorem CC{j:Type}{st:List Bool->j->Bool×List Bool}{f:j->List Int}{P:j->Prop}{R:Int->Prop}:∀{la:List j},(∀s c a,a∈la->PI n s c->c.Nodup->((st s a).1=true↔P a/\(c++f a).Nodup/\∀v∈f a,R v)/\((st s a).1=true->PI n (st s a).2 (c++f a)))->∀s c,PI n s c->c.Nodup->((dO st s la).1=true↔(∀a∈la,P a)/\(c++la.flatMap f).Nodup/\∀v∈la.flatMap f,R v)/\((dO st s la).1=true->PI n (dO st s la).2 (c++la.flatMap f))
 |[],_,s,c,k,l=>by simpa[dO]using⟨l,k⟩
 |a::la,h,s,c,k,l=>by
  have⟨h1,h2⟩:=h s c a (acI ..) k l;rw[ai9,<-ahD];by_cases e:(st s a).1=true
  .have⟨o,p,q⟩:=h1.1 e;have⟨r,t⟩:=CC (λs c b hb=>h s c b (adT _ hb)) _ _ (h2 e) p;rw[dO,aG e];refine⟨r.trans ⟨λ⟨g,i,a3⟩=>⟨λb hb=>?_,i,λv d=>?_⟩,λ⟨g,i,a3⟩=>⟨λb hb=>g b (adT _ hb),i,λv d=>a3 v (aid _ d)⟩⟩,t⟩
   .rcases acT.1 hb with rfl|hb;·exact o
    exact g b hb
   rcases adX.1 d with d|d;·exact q v d
   exact a3 v d
  rw[dO,an e];refine⟨⟨λm=>(by cases m),λ⟨g,i,a3⟩=>absurd (h1.2 ⟨g a (acI ..),(aiH.1 i).1,λv d=>a3 v (ah1 _ d)⟩) e⟩,λm=>by cases m⟩
theorem Ni(o:g.aQ=n)(p:0<=g.params){s:List Bool}{c:List Int}(v:Int)(d:PI n s c)(f:c.Nodup):((iR g s v).1=true↔True/\(c++[v]).Nodup/\∀u∈ [v],g.params<=u/\u<n)/\((iR g s v).1=true->PI n (iR g s v).2 (c++[v])):=by
 have hl:=d.len;unfold iR;by_cases j:g.params<=v/\v<=g.aQ - 1
 .rw[aG j];obtain⟨v,rfl⟩:∃k:Nat,v=k:=⟨v.toNat,aa⟩;have i:v<n:=aa;rw[ahX];have hat:=d.bu v i;by_cases hs:s.getD v false=true;·rw[aG hs];exact⟨⟨λh=>(by cases h),λ⟨_,h,_⟩=>absurd rfl ((aiH.1 h).2.2 _ (hat.1 hs) _ (abP.2 rfl))⟩,λh=>by cases h⟩
  rw[an hs];refine⟨⟨λ_=>⟨trivial,?_,λu hu=>by rw[abP]at hu;subst hu;omega⟩,λ_=>rfl⟩,λ_=>⟨by simpa using hl,λx l=>?_⟩⟩;·rw[aiH];refine⟨f,aC,λa m b hb=>?_⟩;rw[abP]at hb;subst hb;exact λe=>hs (hat.2 (e▸m))
  rw[dD aa,adX,abP];by_cases e:x=v;·subst e;simp
  rw[an e,d.bu x l];have:¬(x:Int)=v:=aa;simp[this]
 rw[an j];refine⟨⟨λh=>(by cases h),λ⟨_,_,h⟩=>?_⟩,λh=>by cases h⟩;have:=h v (abP.2 rfl);omega
theorem adE(l:List Int):l.flatMap (λv=>[v])=l:=by simp
theorem tJ:∀l:List G.ee,dw l=l.flatMap λx=>if 0<=x.to then[x.to]else[]|[]=>rfl|x::l=>by rw[ai9,<-tJ l,dw,dw,ah2];by_cases h:0<=x.to<;>simp[h]
theorem adF(k:g.aQ=n)(l:0<=g.params){s:List Bool}{d:List Int}{x:G.ee}(hl:x.args.length<=12)(m:PI n s d)(f:d.Nodup):((stepG g s x).1=true↔kX g x/\(d++(if 0<=x.to then[x.to]else[])).Nodup/\∀u∈(if 0<=x.to then[x.to]else[]),g.params<=u/\u<n)/\((stepG g s x).1=true->PI n (stepG g s x).2 (d++(if 0<=x.to then[x.to]else[]))):=by
 rw[adC hl];unfold stepG;cases p:nj x with
 |none=>simp
 |some r=>
  simp only[abv,exists_eq_left'];by_cases e:zK g x r;rotate_left;·rw[an e];exact⟨⟨λh=>(by grind),λ⟨h,_⟩=>absurd h.c e⟩,λh=>by grind⟩
  rw[aG e];cases hg:r.uT with
  |true=>
   have⟨i,o⟩:=Ni k l x.to m f;by_cases h0:0<=x.to;·rw[aG h0];refine⟨i.trans ⟨λ⟨_,a,b⟩=>⟨⟨e,by grind,aa,?_⟩,a,b⟩,λ⟨_,a,b⟩=>⟨trivial,a,b⟩⟩,o⟩;grind
   have j:¬(iR g s x.to).1=true:=λh=>by have:=(i.1 h).2.2 x.to (abP.2 rfl);omega
   refine⟨⟨λh=>absurd h j,λ⟨h,_⟩=>?_⟩,λh=>absurd h j⟩;have:=h.gv;grind
  |false=>
   rw[an aC];simp only[decide_eq_true_eq];constructor
   .constructor;·intro h;rw[h,an aC];exact⟨⟨e,by grind,aa,aa⟩,by grind,λu hu=>by grind⟩
    rintro⟨h,_⟩;have h1:=h.gv;rw[hg]at h1;have h2:=of_decide_eq_false h1.symm;have:=h.lo;omega
   grind
theorem adG(j:G.Sm g)(f:g.aQ=n)(h:0<=g.params){b:G.dK}(hb:b∈g.aj){s:List Bool}{c:List Int}(e:PI n s c)(d:c.Nodup):((kL g s b).1=true↔((∀x∈b.aA,kX g x)/\mw g b.aq)/\(c++eJ b).Nodup/\∀u∈eJ b,g.params<=u/\u<n)/\((kL g s b).1=true->PI n (kL g s b).2 (c++eJ b)):=by
 unfold eJ kL;have⟨h1,h2⟩:=CC (st:=iR g) (f:=λv=>[v]) (P:=λ_=>True) (R:=λv=>g.params<=v/\v<n) (la:=b.params) (λs c a _ e d=>Ni f h a e d) s c e d;rw[adE]at h1 h2;simp only[ah4,decide_eq_true_eq,adD];rw[tJ,<-ahD];by_cases i:(dO (iR g) s b.params).1=true;·have⟨m,k,a3⟩:=h1.1 i;have⟨h3,o⟩:=CC (st:=stepG g) (f:=λx:G.ee=>if 0<=x.to then[x.to]else[]) (P:=kX g) (R:=λv=>g.params<=v/\v<n) (la:=b.aA) (λs c x l e d=>adF f h (j.st b hb x l).1 e d) _ _ (h2 i) k;grind
 grind
theorem adH(u:G.Sm g):tx g↔ev g:=by
 have key:∀n:Nat,g.aQ=n->0<=g.params->_:=λn e w=>CC (n:=n) (st:=kL g) (f:=eJ) (P:=λb=>(∀x∈b.aA,kX g x)/\mw g b.aq) (R:=λv=>g.params<=v/\v<n) (la:=g.aj) (λs t b hb c o=>adG u e w hb c o) (acJ n false) [] ⟨aC,λv i=>by simp[ah3,aiI,i]⟩ ajD;constructor;·intro h;have a:=h.p0;have d:=h.p1;obtain⟨n,e⟩:∃n:Nat,g.aQ=n:=⟨g.aQ.toNat,aa⟩;have j:g.aQ.toNat=n:=aa;have f:=h.run;have q:=h.all;rw[j]at f q;have⟨l,m⟩:=key n e a;have c:=m f;have⟨r,y,a3⟩:=l.1 f;refine⟨h.name,a,d,h.ne,h.first,λb hb=>(r b hb).1,λb hb=>(r b hb).2,y,λv i=>by grind,λv h1 h2=>?_⟩;obtain⟨v,rfl⟩:∃k:Nat,v=k:=⟨v.toNat,aa⟩;have hl:=c.len;have:=q v aa h1;rw[<-bf aa false]at this;exact(c.bu v aa).1 this
 intro h;have a:=h.p0;have d:=h.p1;obtain⟨n,e⟩:∃n:Nat,g.aQ=n:=⟨g.aQ.toNat,aa⟩;have j:g.aQ.toNat=n:=aa;have⟨l,m⟩:=key n e a;have f:=l.2 ⟨λb hb=>⟨h.aA b hb,h.xQ b hb⟩,by simpa using h.nd,λv i=>by have:=h.rg v i;omega⟩;have c:=m f;have hl:=c.len;refine⟨h.name,a,d,h.ne,h.first,by grind,?_⟩;rw[j];intro k z p;have:=(c.bu k aa).2 (h.all k p aa);grind
theorem Nj:∀(l:List G.ee)(i:Nat),(∀x∈l, -1<=x.to)->(gC l i).map (·.1)=dw l
 |[],_,_=>rfl
 |x::l,i,h=>by
  have h1:=h x (acI ..);have a:=Nj l (i+1) λy b=>h y (adT _ b);rw[tJ,ai9,<-tJ,gC,ail,a];by_cases e:x.to= -1;·rw[aG e,an aa];rfl
  rw[an e,aG aa];rfl
theorem Nk{b:G.dK}(h:∀x∈b.aA, -1<=x.to):(cD b).map (·.1)=eJ b:=by rw[cD,ail,Nj _ _ h,eJ,ajy];congr 1;exact List.map_id _
theorem Nl(h:ev g):nB g:=by
 have f:=h.p0;have n:=h.p1;have hb:∀b∈g.aj,(cD b).map (·.1)=eJ b:=λb hb=>Nk λx l=>(h.aA b hb x l).r.t0;have e:∀b∈g.aj,∀p∈cD b,p.1∈eJ b:=λb a p d=>by rw[<-hb b a];exact aio d
 have c:=h.nd;refine⟨aa,f,λb a p d=>h.rg _ (aiG.2 ⟨b,a,e b a p d⟩),λb a=>?_,λi j hi hj v p q d m=>?_,λv h0 h1=>?_⟩;·rw[hb b a];obtain⟨i,hi,rfl⟩:=ah0 a;rw[<-ai1 i g.aj,ah6 hi,aiy,ai9]at c;exact(aiH.1 (aiH.1 c).2.1).1
 .have h1:v∈eJ g.aj[i]:=by have:=e _ (kY hi) _ d;rwa[aE,bf hi]at this
  have h2:v∈eJ g.aj[j]:=by have:=e _ (kY hj) _ m;rwa[aE,bf hj]at this
  have key:∀i j(hi:i<g.aj.length)(hj:j<g.aj.length),i<j->v∈eJ g.aj[i]->v∈eJ g.aj[j]->False:=λi j hi hj o h1 h2=>by rw[<-ai1 j g.aj,ah6 hj,aiy,ai9]at c;refine(aiH.1 c).2.2 v ?_ v (ah1 _ h2) rfl;exact aiG.2 ⟨g.aj[i],by rw[List.mem_take_iff_getElem];exact⟨i,aa,rfl⟩,h1⟩
  rcases Nat.lt_trichotomy i j with h3|h3|h3;·exact(key i j hi hj h3 h1 h2).elim
  .exact h3
  exact(key j i hj hi h3 h2 h1).elim
 have⟨b,a,k⟩:=aiG.1 (h.all v h0 h1);rw[<-hb b a]at k;obtain⟨p,d,rfl⟩:=aia.1 k;obtain⟨i,hi,rfl⟩:=ah0 a;exact⟨i,p.2,hi,by rw[aE,bf hi];exact d⟩
end
end
section
def da(x:bt):Int:=2*x.1+x.2
def eZ(o:List bt):List Int:=o.map da
def mC(o:List bt):Prop:=∀x∈o,∃t:Nat,x.1=t/\(x.2=0\/x.2=1)
theorem adI{x y:bt}(a:∃t:Nat,x.1=t/\(x.2=0\/x.2=1))(b:∃t:Nat,y.1=t/\(y.2=0\/y.2=1))(h:da x=da y):x=y:=by grind[da]
theorem Nn:∀{o p:List bt},mC o->mC p->eZ o=eZ p->o=p|[],[],_,_,_=>rfl|[],_::_,_,_,h=>by cases h|_::_,[],_,_,h=>by cases h|x::o,y::p,h1,h2,h=>by simp only[eZ,ah2,aik]at h;rw[adI (h1 x (acI ..)) (h2 y (acI ..)) h.1,Nn (λz a=>h1 z (adT _ a)) (λz a=>h2 z (adT _ a)) h.2]
theorem Ag{x:bt}(a:∃t:Nat,x.1=t/\(x.2=0\/x.2=1)):0<=da x/\(da x).toNat/2=x.1.toNat:=by grind[da]
section
variable{g:G.aP}
theorem xV{b:Nat}{o:List bt}(f:mC o):(bU g b o).map (λw=>(w.1,eZ w.2))=fU g b (eZ o):=by
 simp only[bU,fU,aE];split;·simp[eZ,da]
 split
 .cases hl:o.getLast? with
  |none=>
   have:o=[]:=by simpa using hl
   subst this;rfl
  |some x=>
   have h:=List.mem_of_getLast? hl;have d:o≠ []:=λe=>by rw[e]at hl;cases hl
   have c:o.length≠0:=λe=>d (aih e);have a:o[o.length - 1]'aa=x:=by rw[List.getLast?_eq_getElem?,getElem?_pos o _ aa]at hl;exact Option.some.inj hl
   have e1:(eZ o).length=o.length:=by simp[eZ]
   have e2:(eZ o).getD (o.length - 1) 0=da x:=by rw[bf (by rw[e1];omega)];simp only[eZ,aiD,a]
   rw[e1,an c,e2];simp only[ah2,ajh,aik,and_true,ahW];refine⟨?_,by simp[eZ,List.map_take]⟩;rw[mz,gu,aE,(Ag (f x h)).2]
 rw[ajy];rfl
theorem No{b:Nat}{o:List bt}(d:mC o):∀w∈bU g b o,mC w.2:=by
 intro w c;have sZ:∀s,s=0\/s=1->mC (o++[((b:Int),s)]):=λs hs x a=>by
  rcases adX.1 a with a|a;·exact d x a
  rw[abP]at a;subst a;exact⟨b,rfl,hs⟩
 simp only[bU]at c;split at c;·grind
 split at c
 .split at c;·rw[abP]at c;subst c;exact λx a=>d x (ajt a)
  grind
 grind
theorem fJ.sd(a:jC g){b:Nat}{o:List bt}(h:fJ g b o):gU g (-1) b (eZ o)/\mC o:=by
 induction h with
 |zero=>exact⟨.zero aC,λx i=>by grind⟩
 | @step b o w h c e=>
  have⟨h1,h2⟩:=e;have⟨h3,f⟩:=h1.ok a;have d:(w.1,eZ w.2)∈fU g b (eZ o):=by rw[<-xV h2];exact aia.2 ⟨w,c,rfl⟩
  have:=(qH a h3 f _ d).1;exact⟨.step h1 d aa,No h2 w c⟩
theorem gU.cK{b:Nat}{o:List Int}(h:gU g (-1) b o):∃p,fJ g b p/\mC p/\eZ p=o:=by induction h with|zero _=>exact⟨[],.zero,λx d=>(by grind),rfl⟩| @step b o w h a e c=>obtain⟨p,h1,h2,rfl⟩:=c;rw[<-xV h2]at a;obtain⟨w',h3,rfl⟩:=aia.1 a;exact⟨w'.2,.step h1 h3,No h2 _ h3,rfl⟩
variable{come:List Bool}{os:List (List bt)}{c1:List Bool}{o1:List (List Int)}
theorem adJ(a:jC g)(r:g.aj.length<=30)(d:jV g (-1) c1 o1)(e:∀b,gM g (-1) c1 o1 false b):fy g:=by
 refine⟨λh j=>?_,λ{b o}h w k=>?_,λ{b o}h=>?_,λ{b o}h=>?_⟩;·have⟨h1,h2⟩:=h.sd a;have⟨h3,c⟩:=j.sd a;exact Nn h2 c ((h1.comp a d e).2.symm.trans (h3.comp a d e).2)
 .have⟨h1,h2⟩:=h.sd a;have⟨h3,c⟩:=h1.ok a;have l:(w.1,eZ w.2)∈fU g b (eZ o):=by rw[<-xV h2];exact aia.2 ⟨w,k,rfl⟩
  have:=(qH a h3 c _ l).1;omega
 .have⟨h1,_⟩:=h.sd a;exact⟨(h1.ok a).1,a.t3 b (h1.ok a).1⟩
 have⟨h1,h2⟩:=h.sd a;have⟨h3,c⟩:=h1.ok a;have⟨m,n⟩:=h1.comp a d e;have i:=d.iD b m;rw[n]at i;simp only[eZ,aig]at i;refine⟨⟨λx f=>?_⟩,aa⟩;have⟨e1,e2⟩:=Ag (h2 x f);have⟨_,p,q⟩:=c (da x) (aio f);rw[e2]at p q;have⟨t,s,_⟩:=h2 x f;grind
theorem Ah(a:jC g)(e:fy g)(c:jV g (-1) c1 o1)(f:∀b,gM g (-1) c1 o1 false b)(d:b9 g come os){b:Nat}:come.getD b false=true↔c1.getD b false=true:=by
 constructor;·intro h;exact(((d.cK b h).sd a).1.comp a c f).1
 intro h;have⟨p,h1,_,_⟩:=(c.snd b h).cK;exact(d.oF e h1).1
theorem CD(a:jC g)(d:jV g (-1) c1 o1)(e:∀b,gM g (-1) c1 o1 false b)(c:b9 g come os){b:Nat}(h:come.getD b false=true):o1.getD b []=eZ (os.getD b [])/\mC (os.getD b []):=⟨(((c.cK b h).sd a).1.comp a d e).2,((c.cK b h).sd a).2⟩
theorem Np(e:jC g)(i:fy g)(c:b9 g come os){d b:Nat}(h:iT (wW g os) d b):come.getD b false=true/\gU g (d:Int) b (eZ (os.getD b [])):=by
 induction h with
 |zero h=>refine⟨c.c0,?_⟩;have:=(c.oF i .zero).2;rw[this];exact .zero aa
 | @step a x h l p m=>
  have⟨h1,h2⟩:=m;obtain⟨w,j,rfl⟩:=aia.1 l;have hl:=c.cK a h1;have h3:=c.oF i (.step hl j);have f:=(hl.sd e).2;have k:(w.1,eZ w.2)∈fU g a (eZ (os.getD a [])):=by rw[<-xV f];exact aia.2 ⟨w,j,rfl⟩
  have⟨n,o⟩:=h2.ok e;have:=(qH e n o _ k).1;refine⟨h3.1,?_⟩;rw[h3.2];exact .step h2 k aa
theorem adK(a:jC g)(l:fy g)(f:jV g (-1) c1 o1)(i:∀b,gM g (-1) c1 o1 false b)(j:b9 g come os){d b:Nat}{o:List Int}(h:gU g (d:Int) b o):iT (wW g os) d b:=by induction h with|zero h=>exact .zero aa| @step b o w h c q k=>have m:=(Np a l j k).1;have⟨h1,h2⟩:=CD a f i j m;have h3:=((h.mono a).comp a f i).2;have⟨n,p⟩:=h.ok a;have r:=(qH a n p _ c).1;rw[<-h3,h1,<-xV h2]at c;obtain⟨w',e,rfl⟩:=aia.1 c;exact .step k (aia.2 ⟨w',e,rfl⟩) aa
theorem Nq(c:jC g)(k:fy g)(d:jV g (-1) c1 o1)(e:∀b,gM g (-1) c1 o1 false b)(l:b9 g come os){q:List (List Bool)}(m:rZ g q){a b:Nat}(r:a<g.aj.length)(hb:b<g.aj.length):(q.getD a []).getD b false=true↔come.getD a false=true/\come.getD b false=true/\ep (wW g os) a b:=by
 have⟨c2,o2,v,f,n,j⟩:=m.ex;have⟨_,s,w,y,i,o,p⟩:=j a r;have h2:∀{x},come.getD x false=true↔c2.getD x false=true:=λ{x}=>by
  rw[Ah c k d e l];constructor;·intro h;exact(d.snd x h).xS c d e f n
  intro h;exact((f.snd x h).comp c d e).1
 rw[p b hb,qK,h2,h2];simp only[ah4,ai6,decide_eq_true_eq,aiM,and_assoc];refine and_congr_right λ_=>and_congr_right λu=>?_;constructor
 .rintro(rfl|h);·exact ep.Gb
  intro t;have:=(Np c k l t).2.xS c d e i o;grind
 intro hd;cases h:s.getD b false with|false=>simp|true=>exact absurd (adK c k d e l (i.snd b h)) hd
end
end
section
variable{ab:Nat->aV}
structure adL(g:G.aP):Prop where
 iD:nk g
 adM:jT g=false
 qO:ev g
 right:jW g
theorem Ai{g:G.aP}(h:nk g)(hg:jT g=false):g.aj.length<=30/\g.aQ<=200:=by simp only[jT,Bool.or_eq_false_iff,decide_eq_false_iff_not]at hg;have h1:=h.nb;have h2:=h.nv;omega
section
variable{g:G.aP}{H:ai}{cs:List AV}
theorem Nr(T:Tb ab)(hg:dt H g cs)(b:nk g)(i:lT g){K:KT}(h1:∀H',aS H H'->adL g->K (aI 0) H')(j:∀H',aS H H'->jT g=true->K (aI 5) H')(k:∀H',aS H H'->jT g=false->¬ev g->K (aI 4) H')(l:∀H',aS H H'->jT g=false->ev g->Gq g->¬jW g->K (aI 9) H'):YN ab E9 [.agg cs] H K:=by
 have a:=hg;obtain⟨r,rfl,bG⟩:=hg;have⟨n,_,_,o⟩:=bG.all;refine YF.code T.YZ aC (af ?_);refine RO.ct (ak.bN H) λH1 q U=>af ?_;refine RO.co U 0 ?_;refine RO.cl (ab7 T (bX.fS U.gr a) b.sm (λc hg f=>?_) (λc hg d=>?_));rotate_left;·have U:=U.bR hg;refine af ?_;exact Ru.aL (j _ U.gr d)
 have U:=U.bR hg;have⟨e,p⟩:=Ai b f;refine af ?_;refine RO.co U 0 ?_;refine RO.cl (acB T (bX.fS U.gr a) b.sm i b.nm aa (λc hg h=>?_) (λc hg d=>?_));rotate_left;·have U:=U.bR hg;refine af ?_;exact Ru.aL (k _ U.gr f d)
 have U:=U.bR hg;refine af ?_;refine RO.co U 0 ?_;refine RO.cl (adc T (bX.fS U.gr a) b.sm h e aa (λc hg m=>?_) (λc hg gr d=>?_));rotate_left;·have U:=U.bR hg;refine af ?_;exact Ru.aL (l _ U.gr f h gr d)
 have U:=U.bR hg;refine af ?_;exact Ru.aL (h1 _ U.gr ⟨b,f,h,m⟩)
end
end
section
theorem Gz{l:List Int}{n:Nat}{p:Int×Int}(h:p∈lA l n):p.1∈l/\p.2=n:=by obtain⟨x,a,rfl⟩:=aia.1 h;grind
theorem GA:∀{l:List G.ee}{i:Nat}{p:Int×Int},p∈ir l i->∃j,∃h:j<l.length,p.2=((i+j:Nat):Int)/\p.1∈l[j].args
 |s::l,i,p,h=>by
  rcases adX.1 h with h|h;·have⟨h1,h2⟩:=Gz h;exact⟨0,aC,aa,h1⟩
  have⟨j,hj,h1,h2⟩:=GA h;exact⟨j+1,by grind,aa,by grind⟩
theorem Nt:∀{l:List G.Edge}{n:Nat}{p:Int×Int},p∈ja l n->p.2=n/\∃e∈l,p.1∈e.args
 |e::l,n,p,h=>by
  rcases adX.1 h with h|h;·have⟨h1,h2⟩:=Gz h;grind
  have⟨h1,e2,h2,h3⟩:=Nt h;grind
theorem GB{B:G.dK}{p:Int×Int}(h:p∈fD B):∃k,k<=B.aA.length/\p.2=(k:Int)/\p.1∈dg B k:=by
 have a:p.1∈fL B.aq->p.2=(B.aA.length:Int)->∃k,k<=B.aA.length/\p.2=(k:Int)/\p.1∈dg B k:=λh1 h2=>⟨_,afM _,h2,by rw[dg,an aa];exact h1⟩;rcases adX.1 h with h|h;·have⟨j,hj,h1,h2⟩:=GA h;exact⟨j,aa,aa,by simp[hj,h2,dg,aG,bf]⟩
 rcases adX.1 h with h|h;·have⟨h1,h2⟩:=Gz h;exact a (ah1 _ h1) h2
 have⟨h1,e,h2,h3⟩:=Nt h;exact a (aid _ (aiG.2 ⟨e,h2,h3⟩)) h1
theorem Nu{B:G.dK}{k:Nat}{x:Int}(f:k<=B.aA.length)(h:x∈dg B k):(x,(k:Int))∈fD B:=by
 unfold dg at h;split at h;·rename_i a;rw[bf a]at h;have⟨_,c,e⟩:=F6 B a;rw[e];exact aid _ (ah1 _ (aia.2 ⟨x,h,rfl⟩))
 obtain rfl:k=B.aA.length:=aa;refine aid _ ?_;rcases adX.1 h with h|h;·exact ah1 _ (aia.2 ⟨x,h,rfl⟩)
 have⟨e,he,d⟩:=aiG.1 h;obtain⟨i,hi,rfl⟩:=ah0 he;have⟨_,c,e⟩:=F7 B hi;have:(x,(B.aA.length:Int))∈fD B:=by rw[e];exact aid _ (ah1 _ (aia.2 ⟨x,d,rfl⟩))
 rcases adX.1 this with b|b;·have⟨j,hj,h1,_⟩:=GA b;omega
 omega
theorem Aj{B:G.dK}{i:Nat}(h:i<B.aA.length)(a:B.aA[i].to≠ -1):(B.aA[i].to,(i:Int))∈cD B:=by have⟨b,e,_⟩:=Mt B h a;rw[<-e];exact acm b
theorem CE{B:G.dK}{x:Int}(h:x∈B.params):(x, -1)∈cD B:=ah1 _ (aio h)
section
variable{g:G.aP}{come:List Bool}{os:List (List bt)}
theorem Nv(d:ev g)(j:nB g){gl:List Int}(a:lD g.aQ.toNat g.params.toNat gl (kq g g.aj.length)){v:Int}(h0:g.params<=v)(h1:v<g.aQ):∃s:Nat,s<g.aj.length/\gl.getD v.toNat 0=s/\vq g v=s:=by have e:=d.all v h0 h1;rw[<-ajg (l:=g.aj),<-Aa g _ (afM _)]at e;obtain⟨p,f,rfl⟩:=aia.1 e;have h2:=a.bu p f;have⟨i,hi,b⟩:=aiG.1 f;rw[aiO]at hi;obtain⟨x,h,rfl⟩:=aia.1 b;refine⟨i,hi,h2,?_⟩;have hb:=kY hi;rw[<-Nk λy k=>(d.aA _ hb y k).r.t0]at h;have⟨q,l,c⟩:=aia.1 h;have:=j.at (v:=x) (p:=q.2) hi (by rw[<-c];exact l);grind
theorem adN(z:ev g)(hn:g.aj.length<=30)(h:jW g)(S:fy g)(B:nB g)(C:b9 g come os):ny g come os:=by
 have⟨c1,o1,W,gl,A,D,G,H,I⟩:=h.ex;have j:=z.sh;have key:∀b,come.getD b false=true->b<g.aj.length/\vu g o1 W gl b/\o1.getD b []=eZ (os.getD b [])/\mC (os.getD b [])/\pE g (eZ (os.getD b [])):=λb hb=>by have h1:=(Ah j S A D C).1 hb;have h2:=CD j A D C hb;have h3:=(A.snd b h1).ok j;rw[h2.1]at h3;exact⟨h3.1,I b h3.1 h1,h2.1,h2.2,h3.2⟩
 refine⟨λb hb J=>?_,λb hb K=>?_,λb hb p X=>?_⟩
 .have⟨d,l,E,L,d9⟩:=key b hb;have⟨h1,h2⟩:=l.en J;rw[E]at h1 h2;have hl:(eZ (os.getD b [])).length=(os.getD b []).length:=by simp[eZ]
  rw[hl]at h1 h2;generalize os.getD b []=o at*;have f:o.length - 1<o.length:=aa;have T:=acm f;have he:(eZ o).getD (o.length - 1) 0=da o[o.length - 1]:=by rw[bf (by rw[hl];exact f)];simp only[eZ,aiD]
  rw[he]at h2;have m:mz g (da o[o.length - 1])=gu g o[o.length - 1]:=by rw[mz,gu,aE,(Ag (L _ T)).2]
  have⟨_,Y,k3⟩:=d9 (da o[o.length - 1]) (aio T);have M:=j.rg _ Y _ (acm (l:=(aE g ((da o[o.length - 1]).toNat/2)).aq.go) (n:=2) aa);have N:mz g (da o[o.length - 1])=(aE g ((da o[o.length - 1]).toNat/2)).aq.go[2].block:=by rw[mz,bf aa]
  rw[<-N,m]at M;rw[m]at h2;exact⟨o[o.length - 1],by rw[List.getLast?_eq_getElem?,getElem?_pos o _ f],aa,aa,h2.symm⟩
 .have⟨_,l,E,_,_⟩:=key b hb;have:=l.rt K;rw[E]at this;simpa[eZ]using this
 have⟨d,l,_,_,_⟩:=key b hb;have⟨k,Z,O,a⟩:=GB X;have hrd:=l.rd k Z p.1 a;have⟨x,bu⟩:=p;simp only at O a hrd;have P:=B.v0;have ag:=zX P;have v:0<=x/\x<g.aQ:=by
  have n:=kY d;unfold dg at a;split at a;·rename_i V;rw[bf V]at a;have:=(z.aA _ n _ (acm V)).r.iS x a;omega
  have u:=z.xQ _ n;rcases adX.1 a with a|a;·have:=u.iS x a;omega
  have⟨e,he,a⟩:=aiG.1 a;obtain⟨y,F,rfl⟩:=ah0 he;have:=(u.zT y F).iS x a;omega
 obtain⟨t,rfl⟩:∃t:Nat,x=t:=⟨x.toNat,aa⟩;refine⟨t,rfl,aa,?_⟩;by_cases w:(t:Int)<g.params;·exact .inl w
 have⟨s,hs,Q,R⟩:=Nv z B H (v:=(t:Int)) aa v.2;unfold qL at hrd;rw[Q,ahX]at hrd;rcases hrd with h1|⟨h1,h2⟩|h1;·omega
 .have h3:=(Nq j S A D C G hs d).1 h2;exact .inr (.inr ⟨s,R,aa,h3.1,h3.2.2⟩)
 obtain⟨q,hq,av⟩:∃q,((t:Int),q)∈cD (aE g b)/\q<(k:Int):=by
  rcases adX.1 h1 with h1|h1;·exact⟨-1,CE h1,aa⟩
  have h2:=h1;rw[tJ]at h2;have⟨y,F,c⟩:=aiG.1 h2;obtain⟨i,hi,rfl⟩:=ah0 F;rw[aiA]at hi;rw[List.getElem_take]at c;split at c;·rename_i h4;rw[abP]at c;refine⟨i,?_,aa⟩;rw[c];exact Aj aa aa
  cases c
 have:=B.at d hq;rw[ahX]at this;exact .inr (.inl ⟨by rw[this],by rw[this];simp only;omega⟩)
theorem adO(a:nB g){i:Nat}{v:Nat}(h0:g.params<=(v:Int))(h1:(v:Int)<g.aQ)(h:((fK g).getD v (-1, -1)).1=(i:Int)):((v:Int),((fK g).getD v (-1, -1)).2)∈cD (aE g i):=by have⟨j,p,hj,b⟩:=a.all _ h0 h1;have:=a.at hj b;grind
theorem adP{B:G.dK}{x p:Int}{k:Nat}(h:(x,p)∈cD B)(c:p<(k:Int))(h0:0<=x):x∈B.params++dw (B.aA.take k):=by
 rcases adX.1 h with h|h;·grind
 refine aid _ ?_;have key:∀(l:List G.ee)(i k:Nat),(x,p)∈gC l i->p<(k:Int)->x∈dw (l.take (k - i)):=by
  intro l;induction l with
  |nil=>intro i k h _;cases h
  |cons s l a=>
   intro i k h c;rw[gC]at h;have hi:∀(l:List G.ee)(i:Nat),(x,p)∈gC l i->(i:Int)<=p:=by
    intro l;induction l with
    |nil=>intro i h;cases h
    |cons s l a=>
     intro i h;rw[gC]at h;rcases adX.1 h with h|h
     .split at h;·cases h
      rw[abP]at h;injection h with _ h;omega
     have:=a (i+1) h;omega
   rcases adX.1 h with h|h
   .split at h;·cases h
    rw[abP]at h;injection h with h1 h2;obtain⟨m,b⟩:∃m,k - i=m+1:=⟨k - i - 1,aa⟩;rw[b,ajf,tJ,ai9];refine ah1 _ ?_;rw[aG aa,h1];exact abP.2 rfl
   have h3:=hi l (i+1) h;have:=a (i+1) k h c;obtain⟨m,b⟩:∃m,k - i=m+1:=⟨k - i - 1,aa⟩;rw[b,ajf,tJ,ai9,<-tJ];refine aid _ ?_;rw[show m=k - (i+1)by omega];exact this
 grind
theorem adQ(y:ev g)(hn:g.aj.length<=30)(q:Gq g)(z:fy g)(A:nB g)(B:b9 g come os)(C:ny g come os):jW g:=by
 have v:=y.sh;have⟨c1,o1,E,R,gl,m,w,F⟩:=q.ex;cases a:E with
 |true=>have⟨b,o,o',S,T,V⟩:=m.Gg a;have⟨p,W,_,a3⟩:=S.cK;have⟨p',b1,_,X⟩:=T.cK;exact absurd (by rw[<-a3,<-X,z.vc W b1]) V
 |false=>
  subst a;have⟨n,d⟩:=F rfl;have j:=m.toFlI;refine⟨c1,o1,R,gl,j,w,n,d,λi hi O=>?_⟩;have hb:=(Ah v z j w B).2 O;have⟨P,G⟩:=CD v j w B hb;have d9:=((j.snd i O).ok v).2;have hl:(eZ (os.getD i [])).length=(os.getD i []).length:=by simp[eZ]
  refine⟨λH=>?_,λI=>?_,λk Y x Q=>?_⟩
  .have⟨l,h1,h2,h3,D⟩:=C.en i hb H;rw[P,hl];generalize os.getD i []=o at*;have J:o≠ []:=λe=>by rw[e]at h1;cases h1
   have r:o.length≠0:=λe=>J (aih e);have f:o[o.length - 1]'aa=l:=by rw[List.getLast?_eq_getElem?,getElem?_pos o _ aa]at h1;exact Option.some.inj h1
   have Z:l∈o:=List.mem_of_getLast? h1;have he:(eZ o).getD (o.length - 1) 0=da l:=by rw[bf (by rw[hl];omega)];simp only[eZ,aiD,f]
   have K:mz g (da l)=gu g l:=by rw[mz,gu,aE,(Ag (G _ Z)).2]
   rw[he,K];exact⟨r,D.symm⟩
  .have:=C.rt i hb I;rw[P,this];rfl
  have hrd:=C.rd i hb _ (Nu Y Q);have c:=vA y (kY hi) Q;have⟨t,ht,ag,h⟩:=hrd;subst ht;by_cases u:(t:Int)<g.params;·exact .inl (by rw[ahX,d.aK t (by have:=A.p0;omega)];decide)
  rcases h with h1|⟨h1,h2⟩|⟨s,h1,h2,h3,D⟩;·exact absurd h1 u
  .exact .inr (.inr (adP (adO A aa c.2 h1) h2 aa))
  have⟨s',L,M,N⟩:=Nv y A d (v:=(t:Int)) aa c.2;simp only[vq,ahX]at N;obtain rfl:s'=s:=aa;refine .inr (.inl ?_);rw[M,ahX];exact⟨aa,(Nq v z j w B n L hi).2 ⟨h3,hb,D⟩⟩
theorem adR(a:ev g)(b:g.aj.length<=30)(h:jW g):fy g:=by have⟨c1,o1,j,gl,c,d,e,f,i⟩:=h.ex;exact adJ a.sh b c d
end
end
section
variable{ab:Nat->aV}
theorem adS(T:Tb ab){H:ai}{a:ah}(b:a.am<H.next.am)(hc:aY H a 6=some (.bool true)){K:KT}(h:∀H',aS H H'->K (.bool false) H'):YN ab KR [.aD a 0] H K:=by refine YF.code T.Lf aC (au ?_);refine RO.ct (ak.bN H) λH1 c U=>?_;refine RO.dN U λd e U=>?_;refine af ?_;refine RO.be ?_ (v:=.bool true) (hc:=by rw[U.gr.aY b];exact hc);refine af ?_;refine RO.dJ U 0 (λf U=>?_);refine af ?_;exact Ru.jl (M:=[]) (ts:=[_,_]) (by simpa[fC]using U) λH' U=>⟨[.bool false],⟨⟨_,_,rfl,U.one 0⟩,trivial⟩,h H' U.gr⟩
end
end Go.al.R
end
