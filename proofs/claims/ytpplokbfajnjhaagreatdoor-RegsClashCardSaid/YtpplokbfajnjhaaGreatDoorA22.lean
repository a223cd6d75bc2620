/- A part. No conditions. -/
import Derived.Test.YtpplokbfajnjhaaGreatDoorA21
set_option linter.all false
set_option maxHeartbeats 16000000
open List renaming replicate->acJ,range->ah7
noncomputable section
namespace Go.al.R
section
variable{ab:Nat->aV}
section
def ac6:ai->List Bool->List AV->Prop:=λH l cs=>∃v,cs=[v]/\Sl H 1 (l.map .bool) l.length v
abbrev Gl(H:ai)(m:List (List Bool))(v:AV):Prop:=cQ 1 ac6 H m v
abbrev cA(l:List Bool)(v:Nat):Prop:=l.getD v false=true
structure mB(nb n:Nat)(m:List (List Bool)):Prop where
 len:m.length=nb
 row:∀b,b<nb->(m.getD b []).length=n
def qI(g:G.aP)(aB:List (List Int))(m:List (List Bool))(b v:Nat):Prop:=∃w∈fU g b (aB.getD b []),cA (m.getD w.1.toNat []) v
def qJ(g:G.aP)(aB:List (List Int))(m:List (List Bool))(b v:Nat):Prop:=∃t,mA g (aB.getD b [])=some t/\cA (m.getD t.toNat []) v
theorem ac7{g:G.aP}(a:G.Sm g){b:Nat}(hb:b<g.aj.length){o:List Int}:(fU g b o).length<=12:=by
 have:=(a.bl _ (acm hb)).2.2.2.2.1;unfold fU;split;·simp
 split;·split<;>simp
 rw[aig,aE,bf hb];omega
theorem ac8{g:G.aP}(b:jC g){o:List Int}(c:pE g o){t:Int}(h:mA g o=some t):1<=t/\t<=(g.aj.length:Int) - 1:=by unfold mA at h;cases a:o.reverse.find? λx=>x % 2==0 with|none=>rw[a]at h;cases h|some x=>rw[a]at h;simp only[aip,abv]at h;have d:=List.mem_reverse.1 (List.mem_of_find?_eq_some a);have⟨_,h2,h3⟩:=c x d;subst h;rw[bf aa];exact b.rg _ h2 _ (acm _)
theorem pF{l:List Bool}{k v:Nat}{b:Bool}(a:k<l.length):cA (l.set k b) v↔if v=k then b=true else cA l v:=by unfold cA;rw[dD a];split<;>rfl
section
variable{g:G.aP}{H:ai}{cs:List AV}
theorem MR(T:Tb ab)(hg:dt H g cs)(hB:G.Sm g)(hS:jC g){n:Nat}(hn:g.aQ=n)(cy:n<=6000){M N o iv:AV}(bb:M.cW=true)(bc:o.cW=true){aB:List (List Int)}(O:pD H aB N)(cE:aB.length=g.aj.length){m:List (List Bool)}(P:Gl H m iv)(X:mB g.aj.length n m){b:Nat}(hb:b<g.aj.length)(ag:(aB.getD b []).length<=1000)(hO:pE g (aB.getD b [])){K:KT}(h:∀H' q vh a hr,a.length=n->hr.length=n->(∀v,v<n->(cA a v↔qI g aB m b v))->(∀v,v<n->(cA hr v↔qJ g aB m b v))->Sl H' 1 (hr.map .bool) n vh->ak H H' [tS 4 1 (a.map .bool) n true (.slice q 0 n n true)]->K (.tuple [.slice q 0 n n true,vh]) H'):YN ab Xx [.agg cs,.agg [M,N,o],iv,aN b] H K:=by
 have cf:=hg.one;have y:=hg;obtain⟨Y,rfl,bG⟩:=hg;have⟨cR,_,_,cn⟩:=bG.all;have⟨c9,bv,_,c'⟩:=O.all;have⟨dm,_,_,dr⟩:=P.all;have ds:=hB.nb;refine YF.code T.ZJ aC (af ?_);refine RO.ct (ak.bN H) λH1 Z U=>af ?_;refine RO.ct U (v:=.agg [M,N,o]) (λH2 q5 U=>?_) (ho:=ao bb (ao bv (ao bc rfl)));have U:ak H H2 [tB nZ q5 [M,N,o],tB cJ Z [.str g.name,aI g.params,aI g.aQ,Y]]:=U;have y:∀{u},aS H u->dt u g [.str g.name,aI g.params,aN n,Y]:=λhg=>by have:=bX.fS hg y;rw[hn]at this;exact this
 rw[hn]at U;refine af ?_;refine RO.jy U (n:=n) (λH3 r U=>?_) (hz:=by rw[eK];simp);rw[eK]at U;refine af ?_;obtain⟨_,b0⟩:=U.get 2 rfl;have b3:Z∉ [r]:=λh=>U.ne 2 0 rfl rfl aa (λf h=>h.1) (λf h=>(cP.mem h).1) (abP.1 h);refine RO.qB (o:=2) (v:=aN n) (tB.cell b0 rfl) b3 (λHU g1 g2=>?_);have U:=U.bK g2 g1;refine RO.jy U (n:=n) (λH4 Q U=>?_) (hz:=by rw[eK];simp);rw[eK]at U;refine af ?_;refine RO.co U 3 (af ?_);refine RO.bO U.gr O (λq8 o8 c8 av d aw l E=>?_) (j:=b);rw[show aB[b]=aB.getD b []from(bf _ _).symm]at d;obtain⟨v8,rfl,k⟩:=d;have⟨F,_,_,I⟩:=k.all;refine RO.be (v:=v8) (RO.cl (MJ T (y U.gr) hB hb (hS.t3 b hb) (U.gr.sl k) ag hO λH5 wv vs Fw dv hl=>?_)) (hc:=l 0 _ rfl);have U:=U.dq hl;have dx:=ac7 hB hb (o:=aB.getD b []);have a8:=qH hS hb hO;have U:ak H H5 (tS jz 2 (lB (fU g b (aB.getD b [])) vs) (fU g b (aB.getD b [])).length true wv::tS 4 1 ((acJ n false).map .bool) n true (.slice Q 0 n n true)::tS 4 1 ((acJ n false).map .bool) n true (.slice r 0 n n true)::[tB nZ q5 [M,N,o],tB cJ Z [.str g.name,aI g.params,aN n,Y]]):=by rw[ajd];exact U.tail
 have R:=(U.sl (e:=jz) (size:=2) (sv:=wv) (full:=true) (vs:=lB (fU g b (aB.getD b [])) vs) (n:=(fU g b (aB.getD b [])).length) 0).all;have dy:=R.2.2.2;have R:=R.1;refine af ?_;unfold qI at h;generalize dz:fU g b (aB.getD b [])=w at*;refine Ru.nm λS1 M1 b4 ax=>Ru.bI ax (up (P:=λi=>∀u a,a.length=n->(∀v,v<n->(cA a v↔∃j,∃hj:j<w.length,j<i/\cA (m.getD w[j].1.toNat []) v))->ak H u (tS jz 2 (lB w vs) w.length true wv::tS 4 1 ((acJ n false).map .bool) n true (.slice Q 0 n n true)::tS 4 1 (a.map .bool) n true (.slice r 0 n n true)::[tB nZ q5 [M,N,o],tB cJ Z [.str g.name,aI g.params,aN n,Y]])->Ru ab _ S1 ([(jA,aN i)]++pk M1 [p2,p3,p4,p5,eM,eS,ib]) u) w.length (λi hi ih u a S J U=>?_) 0 aa _ (acJ n false) aC (λv hv=>by simp[cA,ah3,aiI,hv]) U);subst b4;subst ax;refine Ru.loop (af ?_);refine Ru.cond (λs=>?_) (λs=>?_)
 .have ih:=ih (i+1) aa aa;obtain⟨⟨d0,d1⟩,_,_⟩:=a8 _ (acm s);obtain⟨V,d2⟩:=MQ (vs:=vs) s;rw[bf s]at V;obtain⟨t,ht⟩:∃t:Nat,w[i].1=t:=⟨w[i].1.toNat,aa⟩;have b6:∀v,(∃j,∃hj:j<w.length,j<i+1/\cA (m.getD w[j].1.toNat []) v)↔(∃j,∃hj:j<w.length,j<i/\cA (m.getD w[j].1.toNat []) v)\/cA (m.getD t []) v:=λv=>by
   constructor
   .rintro⟨j,hj,h1,h2⟩;by_cases e:j=i;·subst e;rw[ht,ahX]at h2;exact .inr h2
    exact .inl ⟨j,hj,aa,h2⟩
   rintro(⟨j,hj,h1,h2⟩|h2);·exact⟨j,hj,aa,h2⟩
   exact⟨i,s,aa,by rw[ht,ahX];exact h2⟩
  rw[ht]at V;have A:t<g.aj.length:=aa;have b7:=X.len;obtain⟨qw,cap,ex,rfl⟩:=U.jO (e:=jz) (size:=2) (n:=w.length) (full:=true) (sv:=wv) 0 rfl aa;refine af ?_;refine Ru.nm λS2 M2 b' ay=>Ru.bI ay (up (P:=λx=>∀u o2,o2.length=n->(∀v,v<n->(cA o2 v↔cA a v\/v<x/\cA (m.getD t []) v))->ak H u (tS jz 2 (lB w vs) w.length true (.slice qw 0 w.length cap ex)::tS 4 1 ((acJ n false).map .bool) n true (.slice Q 0 n n true)::tS 4 1 (o2.map .bool) n true (.slice r 0 n n true)::[tB nZ q5 [M,N,o],tB cJ Z [.str g.name,aI g.params,aN n,Y]])->Ru ab _ S2 ([(ic,aN x)]++pk M2 [p2,p3,p4,p5,eM,eS,ib,jA]) u) n (λx hx B u o2 c p U=>?_) 0 aa _ a S (λv hv=>by simp) U);subst b';subst ay;refine Ru.loop (af ?_);refine Ru.cond (λa'=>?_) (λa'=>?_)
  .have B:=B (x+1) aa aa;have C:=nD (l:=o2) (k:=x) c aa;have aq:∀z:Bool,(z=true↔cA o2 x\/cA (m.getD t []) x)->∀v,v<n->(cA (o2.set x z) v↔cA a v\/v<x+1/\cA (m.getD t []) v):=λz hz v hv=>by
    rw[pF aa];by_cases e:v=x;·subst e;rw[aG rfl,hz,p v hv];simp
    rw[an e,p v hv];have:v<x+1↔v<x:=aa;rw[this]
   refine af ?_;cases D:o2.getD x false with|true=>rw[D]at C;refine RO.cZ U 2 (hv:=C) (af ?_);refine RO.gk (f:=.bool) (zs:=o2) U 2 true c (λH9 U=>af ?_);exact Ru.wk (B _ _ (by simpa using c) (aq true ⟨λ_=>.inl D,λ_=>rfl⟩) U)|false=>rw[D]at C;refine RO.cZ U 2 (hv:=C) (af ?_);refine RO.cZ U 0 (hv:=V) (af ?_);refine RO.bO U.gr P (λq8 o8 c8 av d aw l E=>?_) (j:=t);rw[show m[t]=m.getD t []from(bf _ _).symm]at d;obtain⟨v8,rfl,k⟩:=d;have⟨F,_,_,I⟩:=k.all;refine af ?_;refine RO.be (v:=v8) (af ?_) (hc:=l 0 _ rfl);refine RO.iQ U.gr k (λq9 o9 a1 ca=>?_) (j:=x) (hj:=by rw[X.row t A];omega);rw[show(m.getD t [])[x]'a1=(m.getD t []).getD x false from(bf _ _).symm]at ca;refine af ?_;refine af ?_;refine RO.gk (f:=.bool) (zs:=o2) U 2 ((m.getD t []).getD x false) c (λH9 U=>af ?_);exact Ru.wk (B _ _ (by simpa using c) (aq _ ⟨λh9=>.inr h9,λh9=>h9.resolve_left (by rw[cA,D];simp)⟩) U)
  refine Ru.exitTo ?_;refine af ?_;exact Ru.wk (ih _ o2 c (λv hv=>by rw[b6,<-J v hv,p v hv];have:v<x:=aa;simp[this]) U)
 refine Ru.exitTo ?_;have L:∀v,v<n->(cA a v↔∃w'∈w,cA (m.getD w'.1.toNat []) v):=λv hv=>by
  rw[J v hv];constructor;·rintro⟨j,hj,_,h2⟩;exact⟨_,acm hj,h2⟩
  rintro⟨w',cd,h2⟩;obtain⟨j,hj,rfl⟩:=ah0 cd;exact⟨j,hj,aa,h2⟩
 refine af ?_;refine RO.co U 4 (af ?_);refine RO.bO U.gr O (λq8 o8 c8 av d aw l E=>?_) (j:=b);rw[show aB[b]=aB.getD b []from(bf _ _).symm]at d;obtain⟨v8,rfl,k⟩:=d;have⟨F,_,_,I⟩:=k.all;refine RO.be (v:=v8) (RO.cl (ac2 T (y U.gr) hB (U.gr.sl k) ag hO λH9 hg=>?_)) (hc:=l 0 _ rfl);have U:=U.bR hg;unfold qJ at h;cases W:mA g (aB.getD b [])with|none=>dsimp only;refine af ?_;have U:=U.tail;refine Ru.kg (h _ r _ a (acJ n false) S aC L (λv hv=>?_) (U.sl (e:=4) (size:=1) (n:=n) (full:=true) (vs:=(acJ n false).map .bool) 0) (U.tail.sub (.cons_cons _ (.cons _ (.cons _ .slnil)))));rw[W];simp[cA,ah3,aiI,hv]|some tt=>have⟨k1,k2⟩:=ac8 hS hO W;obtain⟨t,rfl⟩:∃t:Nat,tt=t:=⟨tt.toNat,aa⟩;have A:t<g.aj.length:=aa;have b7:=X.len;dsimp only;refine af ?_;refine RO.bO U.gr P (λq9 o9 d4 a1 a2 d3 ba cp=>?_) (j:=t);rw[show m[t]=m.getD t []from(bf _ _).symm]at a2;obtain⟨v9,rfl,a6⟩:=a2;have⟨cv,_,_,cx⟩:=a6.all;refine RO.be (v:=v9) (af ?_) (hc:=ba 0 _ rfl);refine Ru.kg (h _ r v9 a (m.getD t []) S (X.row t A) L (λv hv=>?_) (by have:=U.gr.sl a6;rw[X.row t A]at this;exact this) (U.tail.tail.sub (.cons_cons _ (.cons _ (.cons _ .slnil)))));rw[W];simp
end
end
section
def fL(j:G.fB):List Int:=j.args++j.go.flatMap (·.args)
theorem Gm(l:List G.ee):(dw l).length<=l.length:=aji (List.length_filter_le _ _) aC
section
variable{g:G.aP}{H:ai}{cs:List AV}
theorem ac9(T:Tb ab){B:G.dK}(hb:iP H B cs)(hl:B.params.length<=12/\B.aA.length<=40){K:KT}(h:∀H' v,ak H H' [tS 3 1 ((eJ B).map aI) (eJ B).length true v]->K v H'):YN ab Xw [.agg cs] H K:=by
 have E:=hb.one;obtain⟨w,i,jc,rfl,o,f,y,z,A,rfl,P,Q,R⟩:=hb;have⟨S,_,_,_⟩:=f.all;refine YF.code T.ZI aC (au ?_);refine RO.ct (ak.bN H) λH1 q U=>af ?_;refine RO.ji U 1 λH2 v5 U=>?_;have⟨V,_,_,_⟩:=(U.sl (e:=3) (size:=1) (sv:=v5) (vs:=[]) (n:=0) (full:=true) 0).all;refine af ?_;refine RO.ls U 0 (U.gr.sl o) (λF C U=>?_) (h1:=m9 _);have U:ak H F [tS 3 1 ((B.params++dw (B.aA.take 0)).map aI) (B.params++dw (B.aA.take 0)).length true C,tB cH q [w,i,aU B.aq.op,y,.str B.aq.name,z,A]]:=by rw[ajm,show dw []=[]from rfl,aiS];rw[aif]at U;exact U
 have⟨W,_,_,_⟩:=(U.sl (e:=3) (size:=1) (sv:=C) (full:=true) (vs:=(B.params++dw (B.aA.take 0)).map aI) (n:=(B.params++dw (B.aA.take 0)).length) 0).all;refine af ?_;refine Ru.nm λI J p k=>Ru.bI k (up (P:=λj=>∀n g,ak H n [tS 3 1 ((B.params++dw (B.aA.take j)).map aI) (B.params++dw (B.aA.take j)).length true g,tB cH q [w,i,aU B.aq.op,y,.str B.aq.name,z,A]]->Ru ab _ I ([(p4,aN j),(p3,g)]++pk J [p1]) n) B.aA.length (λj hj d n g U=>?_) 0 aa _ _ U);subst p;subst k;have⟨X,_,_,r⟩:=(U.sl (e:=3) (size:=1) (sv:=g) (vs:=(B.params++dw (B.aA.take j)).map aI) (n:=(B.params++dw (B.aA.take j)).length) (full:=true) 0).all;refine Ru.loop (af ?_);refine Ru.cond (λc=>?_) (λc=>?_)
 .have d:=d (j+1) aa aa;rw[(ah9 c).symm,FW,<-ahD]at d;have Y:(B.params++dw (B.aA.take j)).length<=100:=by have:=Gm (B.aA.take j);rw[aiA]at this;rw[ahY];omega
  generalize B.params++dw (B.aA.take j)=L at*;refine af ?_;refine RO.bO U.gr f (λM N c7 s b t a l=>?_) (j:=j);generalize O:B.aA[j]=x at*;obtain⟨u,rfl,m⟩:=b;refine af ?_;refine RO.be (v:=aI x.to) (af ?_) (hc:=a 1 _ rfl);refine Ru.cond (λe=>?_) (λe=>?_);·have e:0<=x.to:=e;rw[aG e]at d;refine af ?_;refine RO.bO U.gr f (λM N c7 s b t a l=>?_) (j:=j);rw[O]at b;obtain⟨u,rfl,m⟩:=b;refine af ?_;refine RO.be (v:=aI x.to) (RO.push U 0 (λw0 H9 D U=>?_) (ws:=[aI x.to])) (hc:=a 1 _ rfl);have⟨Z,ag,av,_⟩:=(U.sl (e:=3) (size:=1) (n:=L.length+1) (full:=true) (sv:=D) 0).all;refine af ?_;exact Ru.wk (d _ D (by rw[ail,ahY];exact U))
  have e:¬0<=x.to:=e;rw[an e,aiS]at d;refine af ?_;exact Ru.wk (d _ g U)
 refine Ru.exitTo ?_;rw[aic aa]at U r;refine af ?_;exact Ru.aL (h _ g (U.sub (.cons_cons _ (.cons _ .slnil))))
theorem Gn(T:Tb ab){j:G.fB}(hj:nX H j cs)(hl:j.args.length<=12/\j.go.length<=12)(m:∀e∈j.go,e.args.length<=12){K:KT}(h:∀H' v,ak H H' [tS 3 1 ((fL j).map aI) (fL j).length true v]->K v H'):YN ab Xd [.agg cs] H K:=by
 have y:=hj.one;obtain⟨s,t,u,rfl,n,F,c⟩:=hj;have⟨I,_,_,_⟩:=c.all;refine YF.code T.Zq aC (au ?_);refine RO.ct (ak.bN H) λH1 q U=>af ?_;refine RO.ji U 1 λX v5 U=>?_;have⟨J,_,_,_⟩:=(U.sl (e:=3) (size:=1) (sv:=v5) (vs:=[]) (n:=0) (full:=true) 0).all;refine af ?_;refine RO.ls U 0 (U.gr.sl n) (λA w U=>?_) (h1:=m9 _);have U:ak H A [tS 3 1 ((j.args++(j.go.take 0).flatMap (·.args)).map aI) (j.args++(j.go.take 0).flatMap (·.args)).length true w,tB mi q [aU j.op,s,.str j.name,t,u]]:=by rw[ajm,List.flatMap_nil,aiS];rw[aif]at U;exact U
 have⟨L,_,_,_⟩:=(U.sl (e:=3) (size:=1) (sv:=w) (full:=true) (vs:=(j.args++(j.go.take 0).flatMap (·.args)).map aI) (n:=(j.args++(j.go.take 0).flatMap (·.args)).length) 0).all;refine af ?_;refine Ru.nm λB C o d=>?_;refine Ru.bI d (up (P:=λk=>∀l b,(j.args++(j.go.take k).flatMap (·.args)).length<=12+12*k->ak H l [tS 3 1 ((j.args++(j.go.take k).flatMap (·.args)).map aI) (j.args++(j.go.take k).flatMap (·.args)).length true b,tB mi q [aU j.op,s,.str j.name,t,u]]->Ru ab _ B ([(p4,aN k),(p3,b)]++pk C [p1]) l) j.go.length (λk Y i l b M U=>?_) 0 aa _ _ (by simp;omega) U);subst o;subst d;have⟨N,_,_,p⟩:=(U.sl (e:=3) (size:=1) (sv:=b) (vs:=(j.args++(j.go.take k).flatMap (·.args)).map aI) (n:=(j.args++(j.go.take k).flatMap (·.args)).length) (full:=true) 0).all;refine Ru.loop (af ?_);refine Ru.cond (λa=>?_) (λa=>?_);·have i:=i (k+1) aa aa;have O:=m _ (acm a);rw[(ah9 a).symm,aiy,aiN,<-ahD]at i;generalize j.args++(j.go.take k).flatMap (·.args)=D at*;refine af ?_;refine RO.bO U.gr c (λZ o7 c7 P r Q g z=>?_) (j:=k);generalize j.go[k]=e at*;obtain⟨E,rfl,f⟩:=r;have⟨R,_,_,_⟩:=f.all;refine af ?_;refine RO.be (v:=E) (RO.ls U 0 (U.gr.sl f) (λH9 x U=>?_) (h1:=m9 _)) (hc:=g 1 _ rfl);have⟨S,V,W,_⟩:=(U.sl (e:=3) (size:=1) (n:=D.length+e.args.length) (full:=true) (sv:=x) 0).all;refine af ?_;exact Ru.wk (i _ x (by rw[ahY];omega) (by rw[ail,ahY];exact U))
 refine Ru.exitTo ?_;rw[aic aa]at U p;refine af ?_;exact Ru.aL (h _ b (U.sub (.cons_cons _ (.cons _ .slnil))))
structure lD(n np:Nat)(gl:List Int)(hist:List (Int×Nat)):Prop where
 len:gl.length=n
 aK:∀v:Nat,v<np->gl.getD v 0= -1
 bu:∀p∈hist,gl.getD p.1.toNat 0=(p.2:Int)
theorem lD.add{n c:Nat}{gl:List Int}{a:List (Int×Nat)}(h:lD n c gl a){v k:Nat}(i:v<n)(j:c<=v)(f:(v:Int)∉a.map (·.1))(b:∀x∈a.map (·.1),(0:Int)<=x):lD n c (gl.set v (k:Int)) (a++[((v:Int),k)]):=by
 have hl:=h.len;refine⟨by grind,λx g=>?_,λp d=>?_⟩;·rw[dD aa,an aa];exact h.aK x g
 rw[dD aa];rcases adX.1 d with h2|h2;·have h3:=aio (f:=(·.1)) h2;have l:=b _ h3;rw[an λe=>f (by grind)];exact h.bu p h2
 grind
def kq(g:G.aP)(k:Nat):List (Int×Nat):=(ah7 k).flatMap λi=>(eJ (aE g i)).map λv=>(v,i)
theorem Aa(g:G.aP):∀k,k<=g.aj.length->(kq g k).map (·.1)=(g.aj.take k).flatMap eJ|0,_=>rfl|k+1,h=>by rw[kq,aiW,aiy,aiN,ail,<-kq,Aa g k aa,(ah9 (show k<g.aj.length by omega)).symm,aiy,aiN,ajy,aE,bf aa];congr 1;exact List.map_id _
theorem ada(T:Tb ab)(hg:dt H g cs)(hB:G.Sm g)(O:ev g)(V:g.aQ<=6000){K:KT}(h:∀H' q gl,lD g.aQ.toNat g.params.toNat gl (kq g g.aj.length)->ak H H' [tS 3 1 (gl.map aI) g.aQ.toNat true (.slice q 0 g.aQ.toNat g.aQ.toNat true)]->K (.slice q 0 g.aQ.toNat g.aQ.toNat true) H'):YN ab Xb [.agg cs] H K:=by
 have E:=hg.one;obtain⟨P,rfl,bG⟩:=hg;have⟨aw,_,_,ax⟩:=bG.all;have ay:=hB.nb;have h0:=O.p0;have h1:=O.p1;obtain⟨n,Q⟩:∃n:Nat,g.aQ=n:=⟨g.aQ.toNat,aa⟩;obtain⟨j,u⟩:∃n:Nat,g.params=n:=⟨g.params.toNat,aa⟩;have o:=O.rg;have w:=O.nd;rw[Q,u]at h h1 o E;rw[Q]at V;simp only[ahX]at h;refine YF.code T.Zp aC ?_;rw[Q,u];refine af ?_;refine RO.ct (ak.bN H) λH1 q U=>?_;refine af ?_;refine RO.jy U (n:=n) (λH2 s U=>?_) (hz:=by rw[eK];simp);have U:ak H H2 [tS 3 1 ((acJ n (0:Int)).map aI) n true (.slice s 0 n n true),tB cJ q [.str g.name,aI j,aI n,P]]:=by rw[eK]at U;rw[ajd];exact U
 refine af ?_;refine Ru.nm λS0 M hS hM=>Ru.bI hM (up (P:=λk=>∀c gl,lD n k gl []->ak H c [tS 3 1 (gl.map aI) n true (.slice s 0 n n true),tB cJ q [.str g.name,aI j,aI n,P]]->Ru ab _ S0 ([(p4,aN k)]++pk M [p1,p3]) c) j (λk hk r c gl a U=>?_) 0 aa _ _ ⟨aC,λv hv=>by omega,λp R=>by cases R⟩ U);subst hS;subst hM;have d:=a.len;refine Ru.loop (af ?_);refine Ru.cond (λb=>?_) (λb=>?_)
 .refine af ?_;refine RO.gk (f:=aI) U 0 (-1) d (λH4 U=>af ?_) (k:=k);exact Ru.wk (r (k+1) aa aa H4 _ ⟨by simpa using d,λv hv=>by
   rw[dD aa];by_cases e:v=k;·rw[aG e]
   rw[an e];exact a.aK v aa,λp R=>by cases R⟩ U)
 refine Ru.exitTo ?_;obtain rfl:j=k:=aa;refine af ?_;refine Ru.nm λS1 M1 W y=>Ru.bI y (up (P:=λk=>∀c gl,lD n j gl (kq g k)->ak H c [tS 3 1 (gl.map aI) n true (.slice s 0 n n true),tB cJ q [.str g.name,aI j,aI n,P]]->Ru ab _ S1 ([(p5,aN k)]++pk M1 [p1,p3]) c) g.aj.length (λk hk r c gl a U=>?_) 0 aa _ _ a U);subst W;subst y;have d:=a.len;refine Ru.loop (af ?_);refine Ru.cond (λb=>?_) (λb=>?_)
 .have X:=acm b;have a1:=hB.bl _ X;have F:=Aa g k aa;have I:aE g k=g.aj[k]:=by rw[aE,bf b]
  have eB:(kq g k).map (·.1)++(eJ g.aj[k]++(g.aj.drop (k+1)).flatMap eJ)=g.aj.flatMap eJ:=by rw[F];conv=>rhs;rw[<-ai1 k g.aj,aiy,ah6 b,ai9]
  have r:=r (k+1) aa aa;rw[kq,aiW,aiy,aiN,<-kq,I]at r;refine af ?_;refine RO.bO U.gr bG (λq1 o1 c1 a2 A a6 hat hrd=>?_) (j:=k);have J:=A;generalize g.aj[k]=B at*;have av:=A.one;refine af ?_;refine RO.cl (ac9 T (bX.block U.gr J) ⟨aa,aa⟩ λH5 S hl=>?_);have U:=U.dq hl;have⟨a8,_,_,a'⟩:=(U.sl (e:=3) (size:=1) (sv:=S) (vs:=(eJ B).map aI) (n:=(eJ B).length) (full:=true) 0).all;have ba:(eJ B).length<=100:=by have:=Gm B.aA;rw[eJ,ahY];omega
  generalize eJ B=l at*;refine af ?_;refine Ru.nm λS2 M2 Y C=>?_;refine Ru.bI C (up (P:=λm=>∀c gl,lD n j gl (kq g k++(l.take m).map λv=>(v,k))->ak H c [tS 3 1 (l.map aI) l.length true S,tS 3 1 (gl.map aI) n true (.slice s 0 n n true),tB cJ q [.str g.name,aI j,aI n,P]]->Ru ab _ S2 ([(p7,aN m)]++pk M2 [p1,p3,p5,p6]) c) l.length (λm hm i c gl a U=>?_) 0 aa _ gl (by rw[ajm,ajh,aiS];exact a) U);subst Y;subst C;have d:=a.len;have Z:=U.sl (e:=3) (size:=1) (sv:=S) (vs:=l.map aI) (n:=l.length) (full:=true) 0;refine Ru.loop (af ?_);refine Ru.cond (λf=>?_) (λf=>?_)
  .have i:=i (m+1) aa aa;rw[(ah9 f).symm,ail,List.map_singleton,<-ahD]at i;have D:((l.take m).map λv=>(v,k)).map (λp:Int×Nat=>p.1)=l.take m:=by rw[ajy];exact List.map_id _
   have L:l[m]∉(kq g k++(l.take m).map λv=>(v,k)).map (·.1):=by
    have h9:=eB;rw[show l=l.take m++l[m]::l.drop (m+1)from by rw[<-ah6 f,ai1]]at h9;rw[<-h9]at w;have h8:(((kq g k).map (·.1)++l.take m)++(l[m]::(l.drop (m+1)++(g.aj.drop (k+1)).flatMap eJ))).Nodup:=by simpa only[ahD,aiR]using w
    rw[aiH]at h8;intro t;rw[ail,D]at t;refine h8.2.2 l[m] ?_ l[m] (acI ..) rfl;rcases adX.1 t with h|h;·exact ah1 _ h
    exact aid _ h
   have ag:l[m]∈g.aj.flatMap eJ:=by rw[<-eB];exact aid _ (ah1 _ (acm _))
   have hr:=o _ ag;have N:∀x∈(kq g k++(l.take m).map λv=>(v,k)).map (·.1),(0:Int)<=x:=λx t=>by
    have:x∈g.aj.flatMap eJ:=by
     rw[<-eB];rw[ail,D]at t;rcases adX.1 t with h|h;·exact ah1 _ h
     exact aid _ (ah1 _ (ajt h))
    have:=o x this;omega
   refine af ?_;refine RO.iQ (aS.refl _) Z (λq9 o9 bb bc=>?_) (j:=m);generalize l[m]=z at*;obtain⟨v,rfl⟩:∃v:Nat,z=v:=⟨z.toNat,aa⟩;refine af ?_;refine RO.gk (f:=aI) U 1 (k:Int) d (λH9 U=>af ?_) (k:=v) (ho:=by omega);exact Ru.wk (i _ _ (a.add aa aa L N) U)
  refine Ru.exitTo ?_;rw[aic aa]at a;refine af ?_;exact Ru.wk (r _ gl a U.tail)
 refine Ru.exitTo ?_;obtain rfl:k=g.aj.length:=aa;refine af ?_;exact Ru.aL (h _ s gl a (U.sub (.cons_cons _ (.cons _ .slnil))))
end
end
section
structure Ab(dm:List (List Bool))(vsl:List AV)(F:List Th):Prop where
 len:vsl.length=dm.length
 mem:∀b,b<dm.length->tR 1 ((dm.getD b []).map .bool) (dm.getD b []).length (vsl.getD b .bM)∈F
theorem Ab.tE{c:List (List Bool)}{a:List AV}{F:List Th}(h:Ab c a F){l:List Bool}{v:AV}:Ab (c++[l]) (a++[v]) (tR 1 (l.map .bool) l.length v::F):=by
 have hl:=h.len;refine⟨by simp[hl],λb hb=>?_⟩;simp only[ahY,aiv]at hb;by_cases e:b=c.length
 .subst e;have e1:(c++[l]).getD c.length []=l:=aC;have e2:(a++[v]).getD c.length .bM=v:=by rw[<-hl];simp
  rw[e1,e2];exact acI ..
 have e1:(c++[l]).getD b []=c.getD b []:=by simp[aij (show b<c.length by omega)]
 have e2:(a++[v]).getD b .bM=a.getD b .bM:=by simp[aij (show b<a.length by omega)]
 rw[e1,e2];exact adT _ (h.mem b aa)
def qK(c d:List Bool)(a b:Nat):Bool:=c.getD a false&&c.getD b false&&(decide (a=b)||!d.getD b false)
structure MS(g:G.aP)(come:List Bool)(a:Nat)(row:List Bool):Prop where
 len:row.length=g.aj.length
 ex:∃ca oa ot,jV g (a:Int) ca oa/\(∀b,gM g (a:Int) ca oa ot b)/\∀b,b<g.aj.length->row.getD b false=qK come ca a b
structure rZ(g:G.aP)(dm:List (List Bool)):Prop where
 len:dm.length=g.aj.length
 ex:∃come aB oth,jV g (-1) come aB/\(∀b,gM g (-1) come aB oth b)/\∀a,a<g.aj.length->MS g come a (dm.getD a [])
section
variable{g:G.aP}
theorem gU.mono(a:jC g){e:Int}{b:Nat}{o:List Int}(h:gU g e b o):gU g (-1) b o:=by induction h with|zero _=>exact .zero bx|step h c _ d=>have⟨h3,f⟩:=d.ok a;have:=(qH a h3 f _ c).1;exact .step d c aa
theorem gU.nil(a:jC g){c:Int}{b:Nat}{o:List Int}(h:gU g c b o)(hb:b=0):o=[]:=by cases h with|zero _=>rfl|step h d _=>have⟨h3,e⟩:=h.ok a;have:=(qH a h3 e _ d).1;omega
theorem gU.comp(c:jC g){c1:List Bool}{o1:List (List Int)}(a:jV g (-1) c1 o1)(d:∀b,gM g (-1) c1 o1 false b){b:Nat}{o:List Int}(h:gU g (-1) b o):c1.getD b false=true/\o1.getD b []=o:=by
 induction h with
 |zero h=>have h1:=a.c0 h;exact⟨h1,(a.snd 0 h1).nil c rfl⟩
 | @step b o w h e f i=>
  have⟨h1,h2⟩:=i;rcases d b h1 w (by rw[h2];exact e)with h3|⟨h3,j⟩;·exact absurd h3 f
  exact⟨h3,j rfl⟩
theorem gU.xS(c:jC g){c1:List Bool}{o1:List (List Int)}(i:jV g (-1) c1 o1)(j:∀b,gM g (-1) c1 o1 false b){d:Int}{e:List Bool}{k:List (List Int)}{m:Bool}(a:jV g d e k)(f:∀b,gM g d e k m b){b:Nat}{o:List Int}(h:gU g d b o):e.getD b false=true:=by
 induction h with
 |zero h=>exact a.c0 h
 | @step b o w h n p l=>
  have e1:=((a.snd b l).mono c).comp c i j;have e2:=(h.mono c).comp c i j;rcases f b l w (by rw[<-e1.2,e2.2];exact n)with h3|⟨h3,_⟩;·exact absurd h3 p
  exact h3
theorem rZ.eq(l:jC g){c1:List Bool}{o1:List (List Int)}(m:jV g (-1) c1 o1)(n:∀b,gM g (-1) c1 o1 false b){c d:List (List Bool)}(h:rZ g c)(q:rZ g d){a b:Nat}(r:a<g.aj.length)(hb:b<g.aj.length):(c.getD a []).getD b false=(d.getD a []).getD b false:=by
 have key:∀{c:List (List Bool)},rZ g c->((c.getD a []).getD b false=true↔(∃o,gU g (-1) a o)/\(∃o,gU g (-1) b o)/\(a=b\/¬∃o,gU g (a:Int) b o)):=by intro c h;have⟨f,aB,u,p,k,s⟩:=h.ex;have⟨t,v,w,e,i,j⟩:=(s a r).ex;have e1:∀x,f.getD x false=true↔∃o,gU g (-1) x o:=λx=>⟨λh=>⟨_,p.snd x h⟩,λ⟨o,h⟩=>h.xS l m n p k⟩;have e2:t.getD b false=true↔∃o,gU g (a:Int) b o:=⟨λh=>⟨_,e.snd b h⟩,λ⟨o,h⟩=>h.xS l m n e i⟩;rw[j b hb,qK,<-e1,<-e1,<-e2];simp[and_assoc]
 rw[ajp,key h,key q]
end
section
variable{g:G.aP}{H:ai}{cs:List AV}
theorem adb(T:Tb ab)(hg:dt H g cs)(hB:G.Sm g)(Y:jC g)(s:g.aj.length<=30){K:KT}(h:∀H' v d F m,rZ g m->Ab m d F->ak H H' [tZ F,tS gR 1 d g.aj.length true v]->K v H'):YN ab Xa [.agg cs] H K:=by
 have a6:=hg.one;have C:=hg;obtain⟨vb,rfl,bG⟩:=hg;have⟨a',_,_,ba⟩:=bG.all;have bb:=Y.ne;refine YF.code T.Zo aC (au ?_);refine RO.ct (ak.bN H) λH1 q U=>af ?_;refine RO.co U 0 ?_;refine RO.cl (z8 T (bX.fS U.gr C) hB Y s (wo:= -1) λH2 S qs bc Fo c aB z hI ag bv hl=>?_);have U:=(U.dq hl).sub (.cons _ (.cons _ (.cons_cons _ (aiE _))));have D:=hI.lc;refine RO.ji U 1 λH3 E U=>?_;have⟨b0,_,_,_⟩:=(U.sl (e:=gR) (size:=1) (sv:=E) (vs:=[]) (n:=0) (full:=true) 0).all;refine RO.dS U λH4 q3 U=>af ?_;have U:=U.lU;refine Ru.nm λS0 M av hM=>Ru.bI hM (up (P:=λa=>∀y d F m v,m.length=a->Ab m d F->(∀x,x<a->MS g c x (m.getD x []))->ak H y [tZ F,tB nZ q3 [.slice S 0 g.aj.length g.aj.length true,.slice qs 0 g.aj.length g.aj.length true,.bool z],tS gR 1 d a true v,tS 4 1 (c.map .bool) g.aj.length true (.slice S 0 g.aj.length g.aj.length true),tB cJ q [.str g.name,aI g.params,aI g.aQ,vb]]->Ru ab _ S0 ([(p5,aN a),(p4,v)]++pk M [p1,p3]) y) g.aj.length (λa ha Z y d F m v A I u U=>?_) 0 aa _ [] [] [] E rfl ⟨rfl,λb hb=>absurd hb aC⟩ (λx hx=>by omega) U);subst av;subst hM;have⟨b3,b4,b6,_⟩:=(U.sl (e:=gR) (size:=1) (sv:=v) (vs:=d) (n:=a) (full:=true) 2).all;refine Ru.loop (af ?_);refine Ru.cond (λJ=>?_) (λJ=>?_)
 .have Z:=Z (a+1) aa aa;refine af ?_;refine RO.co U 4 (af ?_);refine RO.cl (z8 T (bX.fS U.gr C) hB Y s (wo:=(a:Int)) λH5 qa qo b7 Fa r oa ot L Q a8 hl=>?_);have U:=(U.dq hl).sub (.cons _ (.cons _ (.cons_cons _ (aiE _))));have aw:=L.lc;refine RO.ji U 1 λH6 N U=>?_;have⟨b',_,_,_⟩:=(U.sl (e:=4) (size:=1) (sv:=N) (vs:=[]) (n:=0) (full:=true) 0).all;refine RO.dS U λH7 q6 U=>af ?_;refine Ru.nm λS1 M1 ax O=>Ru.bI O (up (P:=λb=>∀y(row:List Bool)w,row.length=b->(∀x,x<b->row.getD x false=qK c r a x)->ak H y [tB nZ q6 [.slice qa 0 g.aj.length g.aj.length true,.slice qo 0 g.aj.length g.aj.length true,.bool ot],tS 4 1 (row.map .bool) b true w,tS 4 1 (r.map .bool) g.aj.length true (.slice qa 0 g.aj.length g.aj.length true),tZ F,tB nZ q3 [.slice S 0 g.aj.length g.aj.length true,.slice qs 0 g.aj.length g.aj.length true,.bool z],tS gR 1 d a true v,tS 4 1 (c.map .bool) g.aj.length true (.slice S 0 g.aj.length g.aj.length true),tB cJ q [.str g.name,aI g.params,aI g.aQ,vb]]->Ru ab _ S1 ([(p8,aN b),(p7,w)]++pk M1 [p1,p3,p4,p5,p6]) y) g.aj.length (λb hb n y row w f P U=>?_) 0 aa _ [] N rfl (λx hx=>by omega) U);subst ax;subst O;have R:=U.sl (e:=4) (size:=1) (sv:=w) (vs:=row.map .bool) (n:=b) (full:=true) 1;have⟨ay,ca,a1,_⟩:=R.all;refine Ru.loop (af ?_);refine RO.eD U 7 ?_;refine af ?_;refine Ru.cond (λo=>?_) (λo=>?_)
  .have n:=n (b+1) aa aa;have nD:∀(l:List Bool)(k:Nat),l.length=g.aj.length->k<g.aj.length->(l.map AV.bool)[0+k*1]?=some (.bool (l.getD k false)):=λl k h1 h2=>by rw[show 0+k*1=k by omega,aiw,getElem?_pos l k aa,bf aa];rfl
   have j:∀t,t=qK c r a b->∀x,x<b+1->(row++[t]).getD x false=qK c r a x:=λt ht x hx=>by
    by_cases e:x=b;·subst e;rw[<-ht,<-f];simp
    rw[<-P x aa];simp[aij (show x<row.length by omega)]
   refine af ?_;refine RO.cZ U 6 (hv:=nD c a D J) (RO.bg (RO.pj (λB=>?_) (λB=>?_)))
   .refine af ?_;refine RO.cZ U 6 (hv:=nD c b D o) ?_;refine af ?_;refine RO.pj (λV=>?_) (λV=>?_)
    .refine af ?_;refine RO.bW (λg3=>?_) (λg3=>?_);·refine af ?_;refine RO.push U 1 (λW X i U=>?_) (ws:=[.bool true]);have⟨p,_,_,_⟩:=(U.sl (e:=4) (size:=1) (n:=b+1) (full:=true) (sv:=i) 1).all;refine af ?_;exact Ru.wk (n _ (row++[true]) i (by simp[f]) (j _ (by rw[qK,B,V,decide_eq_true g3];rfl)) (by rw[ail];exact U))
     refine af ?_;refine RO.cZ U 2 (hv:=nD r b aw o) ?_;refine af ?_;refine RO.push U 1 (λW X i U=>?_) (ws:=[.bool (!r.getD b false)]);have⟨p,_,_,_⟩:=(U.sl (e:=4) (size:=1) (n:=b+1) (full:=true) (sv:=i) 1).all;refine af ?_;exact Ru.wk (n _ (row++[(!r.getD b false)]) i (by simp[f]) (j _ (by rw[qK,B,V,decide_eq_false g3];rfl)) (by rw[ail];exact U))
    refine af ?_;refine RO.push U 1 (λW X i U=>?_) (ws:=[.bool false]);have⟨p,_,_,_⟩:=(U.sl (e:=4) (size:=1) (n:=b+1) (full:=true) (sv:=i) 1).all;refine af ?_;exact Ru.wk (n _ (row++[false]) i (by simp[f]) (j _ (by rw[qK,B,V];rfl)) (by rw[ail];exact U))
   refine af ?_;refine RO.push U 1 (λW X i U=>?_) (ws:=[.bool false]);have⟨p,_,_,_⟩:=(U.sl (e:=4) (size:=1) (n:=b+1) (full:=true) (sv:=i) 1).all;refine af ?_;exact Ru.wk (n _ (row++[false]) i (by simp[f]) (j _ (by rw[qK,B];rfl)) (by rw[ail];exact U))
  refine Ru.exitTo ?_;obtain rfl:b=g.aj.length:=aa;refine af ?_;have a2:=(((U.sub (.cons _ (.cons_cons _ (.cons _ (aiE _))))).as (t':=tR 1 (row.map .bool) row.length w) 0 rfl λfp hp=>by have h9:=tS.io hp;rw[<-f]at h9;exact h9)).iC;refine RO.push a2 2 (λW X i U=>?_) (ws:=[w]) (hl:=gT rfl ay a1 rfl rfl rfl);have⟨p,_,_,_⟩:=(U.sl (e:=gR) (size:=1) (n:=a+1) (full:=true) (sv:=i) 2).all;refine af ?_;exact Ru.wk (Z _ (d++[w]) _ (m++[row]) i (by simp[A]) I.tE (λx hx=>by
   by_cases e:x=a
   .subst e;have e1:(m++[row]).getD x []=row:=by rw[<-A];simp
    rw[e1];exact⟨f,r,oa,ot,L.toFlI,Q,P⟩
   have e1:(m++[row]).getD x []=m.getD x []:=by simp[aij (show x<m.length by omega)]
   rw[e1];exact u x aa) U)
 refine Ru.exitTo ?_;obtain rfl:a=g.aj.length:=aa;refine af ?_;exact Ru.aL (h _ v d F m ⟨A,c,aB,z,hI.toFlI,ag,u⟩ I (U.sub (.cons_cons _ (.cons _ (.cons_cons _ (.cons _ (.cons _ .slnil)))))))
end
end
end
end Go.al.R
end
