/- A part. No conditions. -/
import Derived.Test.YtcipmlnpjkngpaaGreatDoorA23
set_option linter.all false
set_option maxHeartbeats 16000000
open List renaming replicate->aeo,range->afD
noncomputable section
namespace Go.ak.R
section
variable{ac:Nat->aX}
section
def aa9:ai->List Bool->List AV->Prop:=λH l cs=>∃v,cs=[v]/\Sl H 1 (l.map .bool) l.length v
abbrev Mh(H:ai)(m:List (List Bool))(v:AV):Prop:=cK 1 aa9 H m v
abbrev cV(l:List Bool)(v:Nat):Prop:=l.getD v false=true
structure qN(nb n:Nat)(m:List (List Bool)):Prop where
 len:m.length=nb
 row:∀b,b<nb->(m.getD b []).length=n
def Mi(g:G.aY)(aq:List (List Int))(m:List (List Bool))(b v:Nat):Prop:=∃w∈gj g b (aq.getD b []),cV (m.getD w.1.toNat []) v
def Mj(g:G.aY)(aq:List (List Int))(m:List (List Bool))(b v:Nat):Prop:=∃t,lR g (aq.getD b [])=some t/\cV (m.getD t.toNat []) v
theorem aba{g:G.aY}(a:G.Sm g){b:Nat}(hb:b<g.aj.length){o:List Int}:(gj g b o).length<=12:=by
 have:=(a.bl _ (acI hb)).2.2.2.2.1;unfold gj;split;·simp
 split;·split<;>simp
 rw[aeR,be,bm hb];omega
theorem abb{g:G.aY}(b:ja g){o:List Int}(c:oE g o){t:Int}(h:lR g o=some t):1<=t/\t<=(g.aj.length:Int) - 1:=by unfold lR at h;cases a:o.reverse.find? λx=>x % 2==0 with|none=>rw[a]at h;cases h|some x=>rw[a]at h;simp only[aeT,aas]at h;have d:=aga.1 (List.mem_of_find?_eq_some a);obtain⟨_,h2,h3⟩:=c x d;subst h;rw[bm ab];exact b.rg _ h2 _ (acI _)
theorem wP{l:List Bool}{k v:Nat}{b:Bool}(a:k<l.length):cV (l.set k b) v↔if v=k then b=true else cV l v:=by unfold cV;rw[dk a];split<;>rfl
section
variable{g:G.aY}{H:ai}{cs:List AV}
theorem abc(T:Tb ac)(hg:dS H g cs)(hB:G.Sm g)(hS:ja g){n:Nat}(hn:g.aW=n)(cy:n<=6000){L M l iv:AV}(bb:L.db=true)(bd:l.db=true){aq:List (List Int)}(N:wI H aq M)(cR:aq.length=g.aj.length){m:List (List Bool)}(O:Mh H m iv)(W:qN g.aj.length n m){b:Nat}(hb:b<g.aj.length)(ag:(aq.getD b []).length<=1000)(hO:oE g (aq.getD b [])){K:KT}(h:∀H' q vh bQ hr,bQ.length=n->hr.length=n->(∀v,v<n->(cV bQ v↔Mi g aq m b v))->(∀v,v<n->(cV hr v↔Mj g aq m b v))->Sl H' 1 (hr.map .bool) n vh->al H H' [tS 4 1 (bQ.map .bool) n true (.slice q 0 n n true)]->K (.tuple [.slice q 0 n n true,vh]) H'):YN ac Us [.agg cs,.agg [L,M,l],iv,aN b] H K:=by
 have cf:=hg.one;have u:=hg;obtain⟨X,rfl,bH⟩:=hg;have⟨c9,_,_,cn⟩:=bH.all;have⟨c',bv,_,dm⟩:=N.all;have⟨dr,_,_,ds⟩:=O.all;have dv:=hB.nb;refine YF.code T.Wa aC ?_;refine ah ?_;refine RO.cG (al.bY H) λH1 Y U=>?_;refine ah ?_;refine RO.cG U (v:=.agg [L,M,l]) (λH2 q5 U=>?_) (ho:=ao bb (ao bv (ao bd rfl)));have U:al H H2 [tB lG q5 [L,M,l],tB cX Y [.str g.i7,aI g.i4,aI g.aW,X]]:=U;have u:∀{s},aZ H s->dS s g [.str g.i7,aI g.i4,aN n,X]:=λhg=>by have:=b8.fY hg u;rw[hn]at this;exact this
 rw[hn]at U;refine ah ?_;refine RO.jn U (n:=n) (λH3 p U=>?_) (hz:=by rw[eS];simp);rw[eS]at U;refine ah ?_;obtain⟨_,b0⟩:=U.get 2 rfl;have b3:Y∉ [p]:=λh=>U.ne 2 0 rfl rfl ab (λf h=>h.1) (λf h=>(cI.mem h).1) (aaN.1 h);refine RO.rZ (o:=2) (v:=aN n) (tB.cell b0 rfl) b3 (λHU g1 g2=>?_);have U:=U.bL g2 g1;refine RO.jn U (n:=n) (λH4 P U=>?_) (hz:=by rw[eS];simp);rw[eS]at U;refine ah ?_;refine RO.cr U 3 ?_;refine ah ?_;refine RO.bW U.gr N (λq8 o8 c8 av c aw k D=>?_) (j:=b);rw[show aq[b]=aq.getD b []from(bm _ _).symm]at c;obtain⟨Z,rfl,d⟩:=c;have⟨E,_,_,F⟩:=d.all;refine RO.bk (v:=Z) ?_ (hc:=k 0 _ rfl);refine RO.cl (Lr T (u U.gr) hB hb (hS.t3 b hb) (U.gr.sl d) ag hO λH5 wv vs Fw dx hl=>?_);have U:=U.eK hl;have dy:=aba hB hb (o:=aq.getD b []);have a8:=pF hS hb hO;have U:al H H5 (tS rL 2 (mq (gj g b (aq.getD b [])) vs) (gj g b (aq.getD b [])).length true wv::tS 4 1 ((aeo n false).map .bool) n true (.slice P 0 n n true)::tS 4 1 ((aeo n false).map .bool) n true (.slice p 0 n n true)::[tB lG q5 [L,M,l],tB cX Y [.str g.i7,aI g.i4,aN n,X]]):=by rw[afS];exact U.tail
 have Q:=(U.sl 0 rfl).all;have dz:=Q.2.2.2;have Q:=Q.1;refine ah ?_;unfold Mi at h;generalize d0:gj g b (aq.getD b [])=w at*;refine Ru.nm λS1 M1 b4 ax=>?_;refine Ru.bM ax (up (P:=λi=>∀s bQ,bQ.length=n->(∀v,v<n->(cV bQ v↔∃j,∃hj:j<w.length,j<i/\cV (m.getD w[j].1.toNat []) v))->al H s (tS rL 2 (mq w vs) w.length true wv::tS 4 1 ((aeo n false).map .bool) n true (.slice P 0 n n true)::tS 4 1 (bQ.map .bool) n true (.slice p 0 n n true)::[tB lG q5 [L,M,l],tB cX Y [.str g.i7,aI g.i4,aN n,X]])->Ru ac _ S1 ([(k6,aN i)]++pk M1 [p2,p3,p4,p5,gf,fJ,iS]) s) w.length (λi hi ih s bQ R I U=>?_) 0 ab _ (aeo n false) aC (λv hv=>by simp[cV,aeD,afb,hv]) U);subst b4;subst ax;refine Ru.loop ?_;refine ah ?_;refine Ru.cond (λr=>?_) (λr=>?_)
 .have ih:=ih (i+1) ab ab;obtain⟨⟨d1,d2⟩,_,_⟩:=a8 _ (acI r);obtain⟨S,d3⟩:=Ls (vs:=vs) r;rw[bm r]at S;obtain⟨t,ht⟩:∃t:Nat,w[i].1=t:=⟨w[i].1.toNat,ab⟩;have b6:∀v,(∃j,∃hj:j<w.length,j<i+1/\cV (m.getD w[j].1.toNat []) v)↔(∃j,∃hj:j<w.length,j<i/\cV (m.getD w[j].1.toNat []) v)\/cV (m.getD t []) v:=λv=>by
   constructor
   .rintro⟨j,hj,h1,h2⟩;by_cases e:j=i;·subst e;rw[ht,aeA]at h2;exact .inr h2
    exact .inl ⟨j,hj,ab,h2⟩
   rintro(⟨j,hj,h1,h2⟩|h2);·exact⟨j,hj,ab,h2⟩
   exact⟨i,r,ab,by rw[ht,aeA];exact h2⟩
  rw[ht]at S;have y:t<g.aj.length:=ab;have b7:=W.len;obtain⟨qw,cap,ex,rfl⟩:=U.md 0 rfl ab;refine ah ?_;refine Ru.nm λS2 M2 b' ay=>?_;refine Ru.bM ay (up (P:=λx=>∀s o2,o2.length=n->(∀v,v<n->(cV o2 v↔cV bQ v\/v<x/\cV (m.getD t []) v))->al H s (tS rL 2 (mq w vs) w.length true (.slice qw 0 w.length cap ex)::tS 4 1 ((aeo n false).map .bool) n true (.slice P 0 n n true)::tS 4 1 (o2.map .bool) n true (.slice p 0 n n true)::[tB lG q5 [L,M,l],tB cX Y [.str g.i7,aI g.i4,aN n,X]])->Ru ac _ S2 ([(k7,aN x)]++pk M2 [p2,p3,p4,p5,gf,fJ,iS,k6]) s) n (λx hx A s o2 a o U=>?_) 0 ab _ bQ R (λv hv=>by simp) U);subst b';subst ay;refine Ru.loop ?_;refine ah ?_;refine Ru.cond (λa'=>?_) (λa'=>?_)
  .have A:=A (x+1) ab ab;have B:=mZ (l:=o2) (k:=x) a ab;have aA:∀z:Bool,(z=true↔cV o2 x\/cV (m.getD t []) x)->∀v,v<n->(cV (o2.set x z) v↔cV bQ v\/v<x+1/\cV (m.getD t []) v):=λz hz v hv=>by
    rw[wP ab];by_cases e:v=x;·subst e;rw[aH rfl,hz,o v hv];simp
    rw[ap e,o v hv];have:v<x+1↔v<x:=ab;rw[this]
   refine ah ?_;cases C:o2.getD x false with|true=>rw[C]at B;refine RO.dh U 2 (hv:=B) ?_;refine ah ?_;refine RO.gF (f:=.bool) (zs:=o2) U 2 true a (λH9 U=>?_);refine ah ?_;exact Ru.wk (A _ _ (by simpa using a) (aA true ⟨λ_=>.inl C,λ_=>rfl⟩) U)|false=>rw[C]at B;refine RO.dh U 2 (hv:=B) ?_;refine ah ?_;refine RO.dh U 0 (hv:=S) ?_;refine ah ?_;refine RO.bW U.gr O (λq8 o8 c8 av c aw k D=>?_) (j:=t);rw[show m[t]=m.getD t []from(bm _ _).symm]at c;obtain⟨Z,rfl,d⟩:=c;have⟨E,_,_,F⟩:=d.all;refine ah ?_;refine RO.bk (v:=Z) ?_ (hc:=k 0 _ rfl);refine ah ?_;refine RO.iE U.gr d (λq9 o9 a1 ca=>?_) (j:=x) (hj:=by rw[W.row t y];omega);rw[show(m.getD t [])[x]'a1=(m.getD t []).getD x false from(bm _ _).symm]at ca;refine ah ?_;refine ah ?_;refine RO.gF (f:=.bool) (zs:=o2) U 2 ((m.getD t []).getD x false) a (λH9 U=>?_);refine ah ?_;exact Ru.wk (A _ _ (by simpa using a) (aA _ ⟨λh9=>.inr h9,λh9=>h9.resolve_left (by rw[cV,C];simp)⟩) U)
  refine Ru.exitTo ?_;refine ah ?_;exact Ru.wk (ih _ o2 a (λv hv=>by rw[b6,<-I v hv,o v hv];have:v<x:=ab;simp[this]) U)
 refine Ru.exitTo ?_;have J:∀v,v<n->(cV bQ v↔∃w'∈w,cV (m.getD w'.1.toNat []) v):=λv hv=>by
  rw[I v hv];constructor;·rintro⟨j,hj,_,h2⟩;exact⟨_,acI hj,h2⟩
  rintro⟨w',cd,h2⟩;obtain⟨j,hj,rfl⟩:=aeB cd;exact⟨j,hj,ab,h2⟩
 refine ah ?_;refine RO.cr U 4 ?_;refine ah ?_;refine RO.bW U.gr N (λq8 o8 c8 av c aw k D=>?_) (j:=b);rw[show aq[b]=aq.getD b []from(bm _ _).symm]at c;obtain⟨Z,rfl,d⟩:=c;have⟨E,_,_,F⟩:=d.all;refine RO.bk (v:=Z) ?_ (hc:=k 0 _ rfl);refine RO.cl (aa7 T (u U.gr) hB (U.gr.sl d) ag hO λH9 hg=>?_);have U:=U.bZ hg;unfold Mj at h;cases V:lR g (aq.getD b [])with|none=>dsimp only;refine ah ?_;have U:=U.tail;refine Ru.i4 (h _ p _ bQ (aeo n false) R aC J (λv hv=>?_) (U.sl 0 rfl) (U.tail.sub (.cons_cons _ (.cons _ (.cons _ .slnil)))));rw[V];simp[cV,aeD,afb,hv]|some tt=>obtain⟨k1,k2⟩:=abb hS hO V;obtain⟨t,rfl⟩:∃t:Nat,tt=t:=⟨tt.toNat,ab⟩;have y:t<g.aj.length:=ab;have b7:=W.len;dsimp only;refine ah ?_;refine RO.bW U.gr O (λq9 o9 d5 a1 a2 d4 ba cp=>?_) (j:=t);rw[show m[t]=m.getD t []from(bm _ _).symm]at a2;obtain⟨v9,rfl,a6⟩:=a2;have⟨cv,_,_,cx⟩:=a6.all;refine RO.bk (v:=v9) ?_ (hc:=ba 0 _ rfl);refine ah ?_;refine Ru.i4 (h _ p v9 bQ (m.getD t []) R (W.row t y) J (λv hv=>?_) (by have:=U.gr.sl a6;rw[W.row t y]at this;exact this) (U.tail.tail.sub (.cons_cons _ (.cons _ (.cons _ .slnil)))));rw[V];simp
end
end
section
def iI(j:G.eV):List Int:=j.args++j.go.flatMap (·.args)
theorem E1(l:List G.dI):(ez l).length<=l.length:=af2 (List.length_filter_le _ _) aC
section
variable{g:G.aY}{H:ai}{cs:List AV}
theorem aaa(T:Tb ac){B:G.dE}(hb:i6 H B cs)(hl:B.i4.length<=12/\B.aL.length<=40){K:KT}(h:∀y v,al H y [tS 3 1 ((eD B).map aI) (eD B).length true v]->K v y):YN ac U5 [.agg cs] H K:=by
 have E:=hb.one;obtain⟨z,k,jc,rfl,l,f,A,C,D,rfl,Q,R,S⟩:=hb;have⟨V,_,_,_⟩:=l.all;have⟨W,_,_,_⟩:=f.all;refine YF.code T.WU aC ?_;refine au ?_;refine RO.cG (al.bY H) λH1 q U=>?_;refine ah ?_;refine RO.lF U 1 λH2 v5 U=>?_;have⟨X,_,_,_⟩:=(U.sl 0 rfl).all;refine ah ?_;refine RO.me U 0 (U.gr.sl l) (λF I U=>?_) (h1:=mJ _);have U:al H F [tS 3 1 ((B.i4++ez (B.aL.take 0)).map aI) (B.i4++ez (B.aL.take 0)).length true I,tB cL q [z,k,aU B.aA.op,A,.str B.aA.i7,C,D]]:=by rw[afE,show ez []=[]from rfl,afu];rw[aeL]at U;exact U
 have⟨Y,_,_,_⟩:=(U.sl 0 rfl).all;refine ah ?_;refine Ru.nm λJ L r m=>?_;refine Ru.bM m (up (P:=λj=>∀p i,al H p [tS 3 1 ((B.i4++ez (B.aL.take j)).map aI) (B.i4++ez (B.aL.take j)).length true i,tB cL q [z,k,aU B.aA.op,A,.str B.aA.i7,C,D]]->Ru ac _ J ([(p4,aN j),(p3,i)]++pk L [p1]) p) B.aL.length (λj hj d p i U=>?_) 0 ab _ _ U);subst r;subst m;have⟨Z,_,_,s⟩:=(U.sl 0 rfl).all;refine Ru.loop ?_;refine ah ?_;refine Ru.cond (λc=>?_) (λc=>?_)
 .have d:=d (j+1) ab ab;rw[(aeO c).symm,EW,<-aeC]at d;have ag:(B.i4++ez (B.aL.take j)).length<=100:=by have:=E1 (B.aL.take j);rw[aeP]at this;rw[aex];omega
  generalize B.i4++ez (B.aL.take j)=l0 at*;refine ah ?_;refine RO.bW U.gr f (λM N c7 t b u a n=>?_) (j:=j);generalize O:B.aL[j]=x at*;obtain⟨w,rfl,o⟩:=b;refine ah ?_;refine RO.bk (v:=aI x.to) ?_ (hc:=a 1 _ rfl);refine ah ?_;refine Ru.cond (λe=>?_) (λe=>?_);·have e:0<=x.to:=e;rw[aH e]at d;refine ah ?_;refine RO.bW U.gr f (λM N c7 t b u a n=>?_) (j:=j);rw[O]at b;obtain⟨w,rfl,o⟩:=b;refine ah ?_;refine RO.bk (v:=aI x.to) ?_ (hc:=a 1 _ rfl);refine RO.push U 0 (λw0 H9 P U=>?_) (ws:=[aI x.to]);have⟨av,aw,ax,_⟩:=(U.sl 0 rfl).all;refine ah ?_;exact Ru.wk (d _ P (by rw[aeZ,aex];exact U))
  have e:¬0<=x.to:=e;rw[ap e,afu]at d;refine ah ?_;exact Ru.wk (d _ i U)
 refine Ru.exitTo ?_;rw[aeI ab]at U s;refine ah ?_;exact Ru.aP (h _ i (U.sub (.cons_cons _ (.cons _ .slnil))))
theorem E2(T:Tb ac){j:G.eV}(hj:mM H j cs)(hl:j.args.length<=12/\j.go.length<=12)(o:∀e∈j.go,e.args.length<=12){K:KT}(h:∀t v,al H t [tS 3 1 ((iI j).map aI) (iI j).length true v]->K v t):YN ac Uv [.agg cs] H K:=by
 have y:=hj.one;obtain⟨u,w,x,rfl,b,I,c⟩:=hj;have⟨J,_,_,_⟩:=b.all;have⟨L,_,_,_⟩:=c.all;refine YF.code T.Wd aC ?_;refine au ?_;refine RO.cG (al.bY H) λZ q U=>?_;refine ah ?_;refine RO.lF U 1 λH2 v5 U=>?_;have⟨M,_,_,_⟩:=(U.sl 0 rfl).all;refine ah ?_;refine RO.me U 0 (U.gr.sl b) (λA B U=>?_) (h1:=mJ _);have U:al H A [tS 3 1 ((j.args++(j.go.take 0).flatMap (·.args)).map aI) (j.args++(j.go.take 0).flatMap (·.args)).length true B,tB mf q [aU j.op,u,.str j.i7,w,x]]:=by rw[afE,List.flatMap_nil,afu];rw[aeL]at U;exact U
 have⟨N,_,_,_⟩:=(U.sl 0 rfl).all;refine ah ?_;refine Ru.nm λC D p d=>?_;refine Ru.bM d (up (P:=λk=>∀n l,(j.args++(j.go.take k).flatMap (·.args)).length<=12+12*k->al H n [tS 3 1 ((j.args++(j.go.take k).flatMap (·.args)).map aI) (j.args++(j.go.take k).flatMap (·.args)).length true l,tB mf q [aU j.op,u,.str j.i7,w,x]]->Ru ac _ C ([(p4,aN k),(p3,l)]++pk D [p1]) n) j.go.length (λk hk m n l O U=>?_) 0 ab _ _ (by simp;omega) U);subst p;subst d;have⟨P,_,_,r⟩:=(U.sl 0 rfl).all;refine Ru.loop ?_;refine ah ?_;refine Ru.cond (λa=>?_) (λa=>?_);·have m:=m (k+1) ab ab;have Q:=o _ (acI a);rw[(aeO a).symm,ae9,afl,<-aeC]at m;generalize j.args++(j.go.take k).flatMap (·.args)=l0 at*;refine ah ?_;refine RO.bW U.gr c (λq7 o7 c7 R s S i z=>?_) (j:=k);generalize j.go[k]=e at*;obtain⟨E,rfl,f⟩:=s;have⟨V,_,_,_⟩:=f.all;refine ah ?_;refine RO.bk (v:=E) ?_ (hc:=i 1 _ rfl);refine RO.me U 0 (U.gr.sl f) (λH9 F U=>?_) (h1:=mJ _);have⟨W,X,Y,_⟩:=(U.sl 0 rfl).all;refine ah ?_;exact Ru.wk (m _ F (by rw[aex];omega) (by rw[aeZ,aex];exact U))
 refine Ru.exitTo ?_;rw[aeI ab]at U r;refine ah ?_;exact Ru.aP (h _ l (U.sub (.cons_cons _ (.cons _ .slnil))))
structure kJ(n np:Nat)(gl:List Int)(hist:List (Int×Nat)):Prop where
 len:gl.length=n
 aM:∀v:Nat,v<np->gl.getD v 0= -1
 bt:∀p∈hist,gl.getD p.1.toNat 0=(p.2:Int)
theorem kJ.add{n c:Nat}{gl:List Int}{a:List (Int×Nat)}(h:kJ n c gl a){v k:Nat}(l:v<n)(m:c<=v)(f:(v:Int)∉a.map (·.1))(b:∀x∈a.map (·.1),(0:Int)<=x):kJ n c (gl.set v (k:Int)) (a++[((v:Int),k)]):=by
 have hl:=h.len;refine⟨by simpa using hl,λx i=>?_,λp d=>?_⟩;·rw[dk ab,ap ab];exact h.aM x i
 rw[dk ab];rcases aeu.1 d with h2|h2;·have h3:=aeX (f:=(·.1)) h2;have j:=b _ h3;rw[ap λe=>f (by rw[<-e,Int.toNat_of_nonneg j];exact h3)];exact h.bt p h2
 rw[aaN]at h2;subst h2;rw[aH (aeA v)]
def jK(g:G.aY)(k:Nat):List (Int×Nat):=(afD k).flatMap λi=>(eD (be g i)).map λv=>(v,i)
theorem yW(g:G.aY):∀k,k<=g.aj.length->(jK g k).map (·.1)=(g.aj.take k).flatMap eD|0,_=>rfl|k+1,h=>by rw[jK,afV,ae9,afl,aeZ,<-jK,yW g k ab,(aeO (show k<g.aj.length by omega)).symm,ae9,afl,af8,be,bm ab];congr 1;exact List.map_id _
theorem aab(T:Tb ac)(hg:dS H g cs)(hB:G.Sm g)(O:eE g)(S:g.aW<=6000){K:KT}(h:∀H' q gl,kJ g.aW.toNat g.i4.toNat gl (jK g g.aj.length)->al H H' [tS 3 1 (gl.map aI) g.aW.toNat true (.slice q 0 g.aW.toNat g.aW.toNat true)]->K (.slice q 0 g.aW.toNat g.aW.toNat true) H'):YN ac UG [.agg cs] H K:=by
 have E:=hg.one;obtain⟨P,rfl,bH⟩:=hg;have⟨av,_,_,aw⟩:=bH.all;have ax:=hB.nb;have h0:=O.p0;have h1:=O.p1;obtain⟨n,Q⟩:∃n:Nat,g.aW=n:=⟨g.aW.toNat,ab⟩;obtain⟨j,u⟩:∃n:Nat,g.i4=n:=⟨g.i4.toNat,ab⟩;have o:=O.rg;have w:=O.nd;rw[Q,u]at h h1 o E;rw[Q]at S;simp only[aeA]at h;refine YF.code T.Ws aC ?_;rw[Q,u];refine ah ?_;refine RO.cG (al.bY H) λH1 q U=>?_;refine ah ?_;refine RO.jn U (n:=n) (λH2 s U=>?_) (hz:=by rw[eS];simp);have U:al H H2 [tS 3 1 ((aeo n (0:Int)).map aI) n true (.slice s 0 n n true),tB cX q [.str g.i7,aI j,aI n,P]]:=by rw[eS]at U;rw[afS];exact U
 refine ah ?_;refine Ru.nm λS0 M hS hM=>?_;refine Ru.bM hM (up (P:=λk=>∀c gl,kJ n k gl []->al H c [tS 3 1 (gl.map aI) n true (.slice s 0 n n true),tB cX q [.str g.i7,aI j,aI n,P]]->Ru ac _ S0 ([(p4,aN k)]++pk M [p1,p3]) c) j (λk hk r c gl a U=>?_) 0 ab _ _ ⟨aC,λv hv=>by omega,λp R=>by cases R⟩ U);subst hS;subst hM;have d:=a.len;refine Ru.loop ?_;refine ah ?_;refine Ru.cond (λb=>?_) (λb=>?_)
 .refine ah ?_;refine RO.gF (f:=aI) U 0 (-1) d (λH4 U=>?_) (k:=k);refine ah ?_;exact Ru.wk (r (k+1) ab ab H4 _ ⟨by simpa using d,λv hv=>by
   rw[dk ab];by_cases e:v=k;·rw[aH e]
   rw[ap e];exact a.aM v ab,λp R=>by cases R⟩ U)
 refine Ru.exitTo ?_;obtain rfl:j=k:=ab;refine ah ?_;refine Ru.nm λS1 M1 V y=>?_;refine Ru.bM y (up (P:=λk=>∀c gl,kJ n j gl (jK g k)->al H c [tS 3 1 (gl.map aI) n true (.slice s 0 n n true),tB cX q [.str g.i7,aI j,aI n,P]]->Ru ac _ S1 ([(p5,aN k)]++pk M1 [p1,p3]) c) g.aj.length (λk hk r c gl a U=>?_) 0 ab _ _ a U);subst V;subst y;have d:=a.len;refine Ru.loop ?_;refine ah ?_;refine Ru.cond (λb=>?_) (λb=>?_)
 .have W:=acI b;have ay:=hB.bl _ W;have F:=yW g k ab;have I:be g k=g.aj[k]:=by rw[be,bm b]
  have eG:(jK g k).map (·.1)++(eD g.aj[k]++(g.aj.drop (k+1)).flatMap eD)=g.aj.flatMap eD:=by rw[F];conv=>rhs;rw[<-afI k g.aj,ae9,aeE b,afp]
  have r:=r (k+1) ab ab;rw[jK,afV,ae9,afl,<-jK,I]at r;refine ah ?_;refine RO.bW U.gr bH (λq1 o1 c1 a1 A a2 hat hrd=>?_) (j:=k);have J:=A;generalize g.aj[k]=B at*;have ag:=A.one;refine ah ?_;refine RO.cl (aaa T (b8.block U.gr J) ⟨ab,ab⟩ λH5 lv hl=>?_);have U:=U.eK hl;have⟨a6,_,_,a8⟩:=(U.sl 0 rfl).all;have a':(eD B).length<=100:=by have:=E1 B.aL;rw[eD,aex];omega
  generalize eD B=l at*;refine ah ?_;refine Ru.nm λS2 M2 X C=>?_;refine Ru.bM C (up (P:=λm=>∀c gl,kJ n j gl (jK g k++(l.take m).map λv=>(v,k))->al H c [tS 3 1 (l.map aI) l.length true lv,tS 3 1 (gl.map aI) n true (.slice s 0 n n true),tB cX q [.str g.i7,aI j,aI n,P]]->Ru ac _ S2 ([(p7,aN m)]++pk M2 [p1,p3,p5,p6]) c) l.length (λm hm i c gl a U=>?_) 0 ab _ gl (by rw[afE,afC,afu];exact a) U);subst X;subst C;have d:=a.len;have Y:=U.sl 0 rfl;refine Ru.loop ?_;refine ah ?_;refine Ru.cond (λf=>?_) (λf=>?_)
  .have i:=i (m+1) ab ab;rw[(aeO f).symm,aeZ,List.map_singleton,<-aeC]at i;have D:((l.take m).map λv=>(v,k)).map (λp:Int×Nat=>p.1)=l.take m:=by rw[af8];exact List.map_id _
   have L:l[m]∉(jK g k++(l.take m).map λv=>(v,k)).map (·.1):=by
    have h9:=eG;rw[show l=l.take m++l[m]::l.drop (m+1)from by rw[<-aeE f,afI]]at h9;rw[<-h9]at w;have h8:(((jK g k).map (·.1)++l.take m)++(l[m]::(l.drop (m+1)++(g.aj.drop (k+1)).flatMap eD))).Nodup:=by simpa only[aeC,afk]using w
    rw[afa]at h8;intro t;rw[aeZ,D]at t;refine h8.2.2 l[m] ?_ l[m] (acm ..) rfl;rcases aeu.1 t with h|h;·exact aeN _ h
    exact aeU _ h
   have Z:l[m]∈g.aj.flatMap eD:=by rw[<-eG];exact aeU _ (aeN _ (acI _))
   have hr:=o _ Z;have N:∀x∈(jK g k++(l.take m).map λv=>(v,k)).map (·.1),(0:Int)<=x:=λx t=>by
    have:x∈g.aj.flatMap eD:=by
     rw[<-eG];rw[aeZ,D]at t;rcases aeu.1 t with h|h;·exact aeN _ h
     refine aeU _ (aeN _ ?_);exact af1 h
    have:=o x this;omega
   refine ah ?_;refine RO.iE (aZ.refl _) Y (λq9 o9 ba bb=>?_) (j:=m);generalize l[m]=z at*;obtain⟨v,rfl⟩:∃v:Nat,z=v:=⟨z.toNat,ab⟩;refine ah ?_;refine RO.gF (f:=aI) U 1 (k:Int) d (λH9 U=>?_) (k:=v) (ho:=by omega);refine ah ?_;exact Ru.wk (i _ _ (a.add ab ab L N) U)
  refine Ru.exitTo ?_;rw[aeI ab]at a;refine ah ?_;exact Ru.wk (r _ gl a U.tail)
 refine Ru.exitTo ?_;obtain rfl:k=g.aj.length:=ab;refine ah ?_;exact Ru.aP (h _ s gl a (U.sub (.cons_cons _ (.cons _ .slnil))))
end
end
section
structure yX(dm:List (List Bool))(vsl:List AV)(F:List Th):Prop where
 len:vsl.length=dm.length
 mem:∀b,b<dm.length->tR 1 ((dm.getD b []).map .bool) (dm.getD b []).length (vsl.getD b .ct)∈F
theorem yX.E3{c:List (List Bool)}{a:List AV}{F:List Th}(h:yX c a F){l:List Bool}{v:AV}:yX (c++[l]) (a++[v]) (tR 1 (l.map .bool) l.length v::F):=by
 have hl:=h.len;refine⟨by simp[hl],λb hb=>?_⟩;simp only[aex,ae8]at hb;by_cases e:b=c.length
 .subst e;have d:(c++[l]).getD c.length []=l:=aC;have f:(a++[v]).getD c.length .ct=v:=by rw[<-hl];simp
  rw[d,f];exact acm ..
 have d:(c++[l]).getD b []=c.getD b []:=by simp[aeM (show b<c.length by omega)]
 have f:(a++[v]).getD b .ct=a.getD b .ct:=by simp[aeM (show b<a.length by omega)]
 rw[d,f];exact aen _ (h.mem b ab)
def pH(c d:List Bool)(a b:Nat):Bool:=c.getD a false&&c.getD b false&&(decide (a=b)||!d.getD b false)
structure Lu(g:G.aY)(come:List Bool)(a:Nat)(row:List Bool):Prop where
 len:row.length=g.aj.length
 ex:∃ca oa ot,jv g (a:Int) ca oa/\(∀b,iH g (a:Int) ca oa ot b)/\∀b,b<g.aj.length->row.getD b false=pH come ca a b
structure qK(g:G.aY)(dm:List (List Bool)):Prop where
 len:dm.length=g.aj.length
 ex:∃come aq oth,jv g (-1) come aq/\(∀b,iH g (-1) come aq oth b)/\∀a,a<g.aj.length->Lu g come a (dm.getD a [])
section
variable{g:G.aY}
theorem gk.mono(a:ja g){e:Int}{b:Nat}{o:List Int}(h:gk g e b o):gk g (-1) b o:=by induction h with|zero _=>exact .zero bK|step h c _ d=>obtain⟨h3,f⟩:=d.ok a;have:=(pF a h3 f _ c).1;exact .step d c ab
theorem gk.nil(a:ja g){c:Int}{b:Nat}{o:List Int}(h:gk g c b o)(hb:b=0):o=[]:=by cases h with|zero _=>rfl|step h d _=>obtain⟨h3,e⟩:=h.ok a;have:=(pF a h3 e _ d).1;omega
theorem gk.comp(c:ja g){c1:List Bool}{o1:List (List Int)}(a:jv g (-1) c1 o1)(d:∀b,iH g (-1) c1 o1 false b){b:Nat}{o:List Int}(h:gk g (-1) b o):c1.getD b false=true/\o1.getD b []=o:=by
 induction h with
 |zero h=>have h1:=a.c0 h;exact⟨h1,(a.snd 0 h1).nil c rfl⟩
 | @step b o w h e f i=>
  obtain⟨h1,h2⟩:=i;rcases d b h1 w (by rw[h2];exact e)with h3|⟨h3,j⟩;·exact absurd h3 f
  exact⟨h3,j rfl⟩
theorem gk.wK(c:ja g){c1:List Bool}{o1:List (List Int)}(i:jv g (-1) c1 o1)(j:∀b,iH g (-1) c1 o1 false b){d:Int}{e:List Bool}{k:List (List Int)}{m:Bool}(a:jv g d e k)(f:∀b,iH g d e k m b){b:Nat}{o:List Int}(h:gk g d b o):e.getD b false=true:=by
 induction h with
 |zero h=>exact a.c0 h
 | @step b o w h n p l=>
  have q:=((a.snd b l).mono c).comp c i j;have r:=(h.mono c).comp c i j;rcases f b l w (by rw[<-q.2,r.2];exact n)with h3|⟨h3,_⟩;·exact absurd h3 p
  exact h3
theorem qK.eq(l:ja g){c1:List Bool}{o1:List (List Int)}(m:jv g (-1) c1 o1)(n:∀b,iH g (-1) c1 o1 false b){c d:List (List Bool)}(h:qK g c)(r:qK g d){a b:Nat}(s:a<g.aj.length)(hb:b<g.aj.length):(c.getD a []).getD b false=(d.getD a []).getD b false:=by
 have key:∀{c:List (List Bool)},qK g c->((c.getD a []).getD b false=true↔(∃o,gk g (-1) a o)/\(∃o,gk g (-1) b o)/\(a=b\/¬∃o,gk g (a:Int) b o)):=by intro c h;obtain⟨f,aq,w,p,k,t⟩:=h.ex;obtain⟨u,y,z,e,i,j⟩:=(t a s).ex;have q:∀x,f.getD x false=true↔∃o,gk g (-1) x o:=λx=>⟨λh=>⟨_,p.snd x h⟩,λ⟨o,h⟩=>h.wK l m n p k⟩;have v:u.getD b false=true↔∃o,gk g (a:Int) b o:=⟨λh=>⟨_,e.snd b h⟩,λ⟨o,h⟩=>h.wK l m n e i⟩;rw[j b hb,pH,<-q,<-q,<-v];simp[and_assoc]
 rw[afy,key h,key r]
end
section
variable{g:G.aY}{H:ai}{cs:List AV}
theorem aac(T:Tb ac)(hg:dS H g cs)(hB:G.Sm g)(W:ja g)(s:g.aj.length<=40){K:KT}(h:∀H' v d F j,qK g j->yX j d F->al H H' [tZ F,tS tu 1 d g.aj.length true v]->K v H'):YN ac UF [.agg cs] H K:=by
 have a':=hg.one;have C:=hg;obtain⟨vb,rfl,bH⟩:=hg;have⟨bb,_,_,bd⟩:=bH.all;have bv:=W.ne;refine YF.code T.Wq aC ?_;refine au ?_;refine RO.cG (al.bY H) λH1 q U=>?_;refine ah ?_;refine RO.cr U 0 ?_;refine RO.cl (yV T (b8.fY U.gr C) hB W s (wo:= -1) λH2 Q qs b0 Fo c aq z hI ag b3 hl=>?_);have U:=(U.eK hl).sub (.cons _ (.cons _ (.cons_cons _ (afG _))));have D:=hI.lc;refine RO.lF U 1 λH3 av U=>?_;have⟨b4,_,_,_⟩:=(U.sl 0 rfl).all;refine RO.eR U λH4 q3 U=>?_;refine ah ?_;have U:=U.px;refine Ru.nm λS0 M aw hM=>?_;refine Ru.bM hM (up (P:=λa=>∀y d F j v,j.length=a->yX j d F->(∀x,x<a->Lu g c x (j.getD x []))->al H y [tZ F,tB lG q3 [.slice Q 0 g.aj.length g.aj.length true,.slice qs 0 g.aj.length g.aj.length true,.bool z],tS tu 1 d a true v,tS 4 1 (c.map .bool) g.aj.length true (.slice Q 0 g.aj.length g.aj.length true),tB cX q [.str g.i7,aI g.i4,aI g.aW,vb]]->Ru ac _ S0 ([(p5,aN a),(p4,v)]++pk M [p1,p3]) y) g.aj.length (λa ha X y d F j v A E u U=>?_) 0 ab _ [] [] [] av rfl ⟨rfl,λb hb=>absurd hb aC⟩ (λx Y=>by omega) U);subst aw;subst hM;have⟨b6,b7,b',_⟩:=(U.sl 2 rfl).all;refine Ru.loop ?_;refine ah ?_;refine Ru.cond (λI=>?_) (λI=>?_)
 .have X:=X (a+1) ab ab;refine ah ?_;refine RO.cr U 4 ?_;refine ah ?_;refine RO.cl (yV T (b8.fY U.gr C) hB W s (wo:=(a:Int)) λH5 qa qo ca Fa r oa ot J O ba hl=>?_);have U:=(U.eK hl).sub (.cons _ (.cons _ (.cons_cons _ (afG _))));have ax:=J.lc;refine RO.lF U 1 λH6 ay U=>?_;have⟨cd,_,_,_⟩:=(U.sl 0 rfl).all;refine RO.eR U λH7 q6 U=>?_;refine ah ?_;refine Ru.nm λS1 M1 a1 L=>?_;refine Ru.bM L (up (P:=λb=>∀y(row:List Bool)w,row.length=b->(∀x,x<b->row.getD x false=pH c r a x)->al H y [tB lG q6 [.slice qa 0 g.aj.length g.aj.length true,.slice qo 0 g.aj.length g.aj.length true,.bool ot],tS 4 1 (row.map .bool) b true w,tS 4 1 (r.map .bool) g.aj.length true (.slice qa 0 g.aj.length g.aj.length true),tZ F,tB lG q3 [.slice Q 0 g.aj.length g.aj.length true,.slice qs 0 g.aj.length g.aj.length true,.bool z],tS tu 1 d a true v,tS 4 1 (c.map .bool) g.aj.length true (.slice Q 0 g.aj.length g.aj.length true),tB cX q [.str g.i7,aI g.i4,aI g.aW,vb]]->Ru ac _ S1 ([(p8,aN b),(p7,w)]++pk M1 [p1,p3,p4,p5,p6]) y) g.aj.length (λb hb m y row w f N U=>?_) 0 ab _ [] ay rfl (λx Y=>by omega) U);subst a1;subst L;have P:=U.sl 1 rfl;have⟨a2,cf,a6,_⟩:=P.all;refine Ru.loop ?_;refine ah ?_;refine RO.gR U 7 ?_;refine ah ?_;refine Ru.cond (λn=>?_) (λn=>?_)
  .have m:=m (b+1) ab ab;have mZ:∀(l:List Bool)(k:Nat),l.length=g.aj.length->k<g.aj.length->(l.map AV.bool)[0+k*1]?=some (.bool (l.getD k false)):=λl k h1 h2=>by rw[show 0+k*1=k by omega,ae5,getElem?_pos l k ab,bm ab];rfl
   have i:∀t,t=pH c r a b->∀x,x<b+1->(row++[t]).getD x false=pH c r a x:=λt ht x Y=>by
    by_cases e:x=b;·subst e;rw[<-ht,<-f];simp
    rw[<-N x ab];simp[aeM (show x<row.length by omega)]
   refine ah ?_;refine RO.dh U 6 (hv:=mZ c a D I) ?_;refine RO.bw ?_;refine RO.nV (λB=>?_) (λB=>?_)
   .refine ah ?_;refine RO.dh U 6 (hv:=mZ c b D n) ?_;refine ah ?_;refine RO.nV (λR=>?_) (λR=>?_)
    .refine ah ?_;refine RO.bT (λZ=>?_) (λZ=>?_);·refine ah ?_;refine RO.push U 1 (λS V o U=>?_) (ws:=[.bool true]);have⟨p,_,_,_⟩:=(U.sl 1 rfl).all;refine ah ?_;exact Ru.wk (m _ (row++[true]) o (by simp[f]) (i _ (by rw[pH,B,R,decide_eq_true Z];rfl)) (by rw[aeZ];exact U))
     refine ah ?_;refine RO.dh U 2 (hv:=mZ r b ax n) ?_;refine ah ?_;refine RO.push U 1 (λS V o U=>?_) (ws:=[.bool (!r.getD b false)]);have⟨p,_,_,_⟩:=(U.sl 1 rfl).all;refine ah ?_;exact Ru.wk (m _ (row++[(!r.getD b false)]) o (by simp[f]) (i _ (by rw[pH,B,R,decide_eq_false Z];rfl)) (by rw[aeZ];exact U))
    refine ah ?_;refine RO.push U 1 (λS V o U=>?_) (ws:=[.bool false]);have⟨p,_,_,_⟩:=(U.sl 1 rfl).all;refine ah ?_;exact Ru.wk (m _ (row++[false]) o (by simp[f]) (i _ (by rw[pH,B,R];rfl)) (by rw[aeZ];exact U))
   refine ah ?_;refine RO.push U 1 (λS V o U=>?_) (ws:=[.bool false]);have⟨p,_,_,_⟩:=(U.sl 1 rfl).all;refine ah ?_;exact Ru.wk (m _ (row++[false]) o (by simp[f]) (i _ (by rw[pH,B];rfl)) (by rw[aeZ];exact U))
  refine Ru.exitTo ?_;obtain rfl:b=g.aj.length:=ab;refine ah ?_;have a8:=(((U.sub (.cons _ (.cons_cons _ (.cons _ (afG _))))).as (t':=tR 1 (row.map .bool) row.length w) 0 rfl λfp hp=>by have h9:=tS.lh hp;rw[<-f]at h9;exact h9)).kF;refine RO.push a8 2 (λS V o U=>?_) (ws:=[w]) (hl:=ju rfl a2 a6 rfl rfl rfl);have⟨p,_,_,_⟩:=(U.sl 2 rfl).all;refine ah ?_;exact Ru.wk (X _ (d++[w]) _ (j++[row]) o (by simp[A]) E.E3 (λx Y=>by
   by_cases e:x=a
   .subst e;have e1:(j++[row]).getD x []=row:=by rw[<-A];simp
    rw[e1];exact⟨f,r,oa,ot,J.toFlI,O,N⟩
   have e1:(j++[row]).getD x []=j.getD x []:=by simp[aeM (show x<j.length by omega)]
   rw[e1];exact u x ab) U)
 refine Ru.exitTo ?_;obtain rfl:a=g.aj.length:=ab;refine ah ?_;exact Ru.aP (h _ v d F j ⟨A,c,aq,z,hI.toFlI,ag,u⟩ E (U.sub (.cons_cons _ (.cons _ (.cons_cons _ (.cons _ (.cons _ .slnil)))))))
end
end
end
end Go.ak.R
end
