/- A part. No conditions. -/
import Derived.Test.YtodnahjlheaolaaGreatDoorA21
set_option linter.all false
set_option maxHeartbeats 16000000
open List renaming replicate->ab7,range->ahq
noncomputable section
namespace Go.al.R
section
variable{ac:Nat->aX}
end
variable{B:G.aM}{o:List Int}{A J:List (List Int)}{C:List AV}{D P Q n:Nat}{E L:List Bool}{F:ai}{I:KT}{H:Int}{M N:List (List Bool)}{O:Bool}
section
variable{ac:Nat->aX}
def aed:ai->List Bool->List AV->Prop:=λH l cs=>∃v,cs=[v]/\Sl H 1 (l.map .bool) l.length v
abbrev GY(H:ai)(m:List (List Bool))(v:AV):Prop:=cQ 1 aed H m v
abbrev cz(l:List Bool)(v:Nat):Prop:=l.getD v false=true
structure mE(nb n:Nat)(m:List (List Bool)):Prop where
 len:m.length=nb
 row:∀b,b<nb->(m.getD b []).length=n
def qY(g:G.aM)(aA:List (List Int))(m:List (List Bool))(b v:Nat):Prop:=∃w∈fU g b (aA.getD b []),cz (m.getD w.1.toNat []) v
def qZ(g:G.aM)(aA:List (List Int))(m:List (List Bool))(b v:Nat):Prop:=∃t,mD g (aA.getD b [])=some t/\cz (m.getD t.toNat []) v
theorem aee(a:G.Sm B)(hb:D<B.aj.length):(fU B D o).length<=12:=by
 have:=(a.bl _ (abO hb)).2.2.2.2.1;unfold fU;split;·simp
 split;·split<;>simp
 rw[ahs,aE,aZ hb];omega
theorem aef(b:jh B)(c:pS B o)(h:mD B o=some H):1<=H/\H<=(B.aj.length:Int) - 1:=by unfold mD at h;cases a:o.reverse.find? λx=>x % 2==0 with|none=>rw[a]at h;cases h|some x=>rw[a]at h;simp only[ahQ,aa9]at h;have d:=List.mem_reverse.1 (List.mem_of_find?_eq_some a);have⟨_,h2,h3⟩:=c x d;subst h;rw[aZ aa];exact b.rg _ h2 _ (abO _)
theorem pU(a:D<E.length):cz (E.set D O) n↔if n=D then O=true else cz E n:=by unfold cz;rw[dA a];split<;>rfl
theorem NU(T:Tb ac)(hg:dc F B C)(hB:G.Sm B)(hS:jh B)(hn:B.aO=n)(cR:n<=6000){R S l iv:AV}(bv:R.cY=true)(b0:l.cY=true)(V:vI F A S)(c9:A.length=B.aj.length)(W:GY F M iv)(hm:mE B.aj.length n M)(hb:D<B.aj.length)(aw:(A.getD D []).length<=1000)(hO:pS B (A.getD D []))(h:∀H' q vh a hr,a.length=n->hr.length=n->(∀v,v<n->(cz a v↔qY B A M D v))->(∀v,v<n->(cz hr v↔qZ B A M D v))->Sl H' 1 (hr.map .bool) n vh->ak F H' [tS 4 1 (a.map .bool) n true (.slice q 0 n n true)]->I (.tuple [.slice q 0 n n true,vh]) H'):YN ac W8 [.agg C,.agg [R,S,l],iv,aN D] F I:=by
 have cp:=hg.one;have s:=hg;obtain⟨vb,rfl,bz⟩:=hg;have⟨c',_,_,cv⟩:=bz.all;have⟨dm,b3,_,dr⟩:=V.all;have⟨ds,_,_,dv⟩:=W.all;have dx:=hB.nb;refine YF.code T.ZD aC (ab ?_);refine RO.bZ (ak.bM F) λH1 q4 U=>ab ?_;refine RO.bZ U (v:=.agg [R,S,l]) (λH2 q5 U=>?_) (ho:=ao bv (ao b3 (ao b0 rfl)));have U:ak F H2 [tB mh q5 [R,S,l],tB cA q4 [.str B.i7,aI B.i4,aI B.aO,vb]]:=U;have s:∀{r},aR F r->dc r B [.str B.i7,aI B.i4,aN n,vb]:=λhg=>by have:=bV.eY hg s;rw[hn]at this;exact this
 rw[hn]at U;refine ab ?_;refine RO.jq U (n:=n) (λH3 o U=>?_) (hz:=by rw[eE];simp);rw[eE]at U;refine ab ?_;obtain⟨_,b4⟩:=U.get 2 rfl;have b6:q4∉ [o]:=λh=>U.ne 2 0 rfl rfl aa (λf h=>h.1) (λf h=>(cO.mem h).1) (abt.1 h);refine RO.qP (o:=2) (v:=aN n) (tB.cell b4 rfl) b6 (λHU g1 g2=>?_);have U:=U.bI g2 g1;refine RO.jq U (n:=n) (λH4 X U=>?_) (hz:=by rw[eE];simp);rw[eE]at U;refine ab ?_;refine RO.bT U 3 (ab ?_);refine RO.bL U.gr V (λq8 o8 c8 ax c ay k L=>?_) (j:=D);rw[show A[D]=A.getD D []from(aZ _ _).symm]at c;obtain⟨v8,rfl,d⟩:=c;have⟨N,_,_,O⟩:=d.all;refine RO.aW (v:=v8) (RO.cl (Gl T (s U.gr) hB hb (hS.t3 D hb) (U.gr.sl d) aw hO λH5 wv vs Fw dy hl=>?_)) (hc:=k 0 _ rfl);have U:=U.cH hl;have dz:=aee hB hb (o:=A.getD D []);have ba:=oK hS hb hO;have U:ak F H5 (tS pG 2 (lz (fU B D (A.getD D [])) vs) (fU B D (A.getD D [])).length true wv::tS 4 1 ((ab7 n false).map .bool) n true (.slice X 0 n n true)::tS 4 1 ((ab7 n false).map .bool) n true (.slice o 0 n n true)::[tB mh q5 [R,S,l],tB cA q4 [.str B.i7,aI B.i4,aN n,vb]]):=by rw[aio];exact U.tail
 have Y:=(U.sl 0 rfl).all;have d0:=Y.2.2.2;have Y:=Y.1;refine ab ?_;unfold qY at h;generalize d1:fU B D (A.getD D [])=w at*;refine Ru.nm λS1 M1 b7 a1=>Ru.bH a1 (up (P:=λi=>∀r a,a.length=n->(∀v,v<n->(cz a v↔∃j,∃hj:j<w.length,j<i/\cz (M.getD w[j].1.toNat []) v))->ak F r (tS pG 2 (lz w vs) w.length true wv::tS 4 1 ((ab7 n false).map .bool) n true (.slice X 0 n n true)::tS 4 1 (a.map .bool) n true (.slice o 0 n n true)::[tB mh q5 [R,S,l],tB cA q4 [.str B.i7,aI B.i4,aN n,vb]])->Ru ac _ S1 ([(iS,aN i)]++pk M1 [p2,p3,p4,p5,dS,eD,gQ]) r) w.length (λi hi ih r a Z P U=>?_) 0 aa _ (ab7 n false) aC (λv hv=>by simp[cz,ahi,ahX,hv]) U);subst b7;subst a1;refine Ru.loop (ab ?_);refine Ru.cond (λp=>?_) (λp=>?_)
 .have ih:=ih (i+1) aa aa;obtain⟨⟨d2,d3⟩,_,_⟩:=ba _ (abO p);obtain⟨ag,d4⟩:=Gq (vs:=vs) p;rw[aZ p]at ag;obtain⟨t,ht⟩:∃t:Nat,w[i].1=t:=⟨w[i].1.toNat,aa⟩;have b':∀v,(∃j,∃hj:j<w.length,j<i+1/\cz (M.getD w[j].1.toNat []) v)↔(∃j,∃hj:j<w.length,j<i/\cz (M.getD w[j].1.toNat []) v)\/cz (M.getD t []) v:=λv=>by
   constructor
   .rintro⟨j,hj,h1,h2⟩;by_cases e:j=i;·subst e;rw[ht,aeY]at h2;exact .inr h2
    exact .inl ⟨j,hj,aa,h2⟩
   rintro(⟨j,hj,h1,h2⟩|h2);·exact⟨j,hj,aa,h2⟩
   exact⟨i,p,aa,by rw[ht,aeY];exact h2⟩
  rw[ht]at ag;have u:t<B.aj.length:=aa;have ca:=hm.len;obtain⟨qw,cap,ex,rfl⟩:=U.jp 0 rfl aa;refine ab ?_;refine Ru.nm λS2 M2 cd a2=>Ru.bH a2 (up (P:=λx=>∀r o2,o2.length=n->(∀v,v<n->(cz o2 v↔cz a v\/v<x/\cz (M.getD t []) v))->ak F r (tS pG 2 (lz w vs) w.length true (.slice qw 0 w.length cap ex)::tS 4 1 ((ab7 n false).map .bool) n true (.slice X 0 n n true)::tS 4 1 (o2.map .bool) n true (.slice o 0 n n true)::[tB mh q5 [R,S,l],tB cA q4 [.str B.i7,aI B.i4,aN n,vb]])->Ru ac _ S2 ([(iF,aN x)]++pk M2 [p2,p3,p4,p5,dS,eD,gQ,iS]) r) n (λx hx y r o2 b m U=>?_) 0 aa _ a Z (λv hv=>by simp) U);subst cd;subst a2;refine Ru.loop (ab ?_);refine Ru.cond (λbb=>?_) (λbb=>?_)
  .have y:=y (x+1) aa aa;have E:=nC (l:=o2) (k:=x) b aa;have aq:∀z:Bool,(z=true↔cz o2 x\/cz (M.getD t []) x)->∀v,v<n->(cz (o2.set x z) v↔cz a v\/v<x+1/\cz (M.getD t []) v):=λz hz v hv=>by
    rw[pU aa];by_cases e:v=x;·subst e;rw[aF rfl,hz,m v hv];simp
    rw[an e,m v hv];have:v<x+1↔v<x:=aa;rw[this]
   refine ab ?_;cases J:o2.getD x false with|true=>rw[J]at E;refine RO.cJ U 2 (hv:=E) (ab ?_);refine RO.fD (f:=.bool) (zs:=o2) U 2 true b (λH9 U=>ab ?_);exact Ru.wk (y _ _ (by simpa using b) (aq true ⟨λ_=>.inl J,λ_=>rfl⟩) U)|false=>rw[J]at E;refine RO.cJ U 2 (hv:=E) (ab ?_);refine RO.cJ U 0 (hv:=ag) (ab ?_);refine RO.bL U.gr W (λq8 o8 c8 ax c ay k L=>?_) (j:=t);rw[show M[t]=M.getD t []from(aZ _ _).symm]at c;obtain⟨v8,rfl,d⟩:=c;have⟨N,_,_,O⟩:=d.all;refine ab ?_;refine RO.aW (v:=v8) (ab ?_) (hc:=k 0 _ rfl);refine RO.ic U.gr d (λq9 o9 a6 cf=>?_) (j:=x) (hj:=by rw[hm.row t u];omega);rw[show(M.getD t [])[x]'a6=(M.getD t []).getD x false from(aZ _ _).symm]at cf;refine ab ?_;refine ab ?_;refine RO.fD (f:=.bool) (zs:=o2) U 2 ((M.getD t []).getD x false) b (λH9 U=>ab ?_);exact Ru.wk (y _ _ (by simpa using b) (aq _ ⟨λh9=>.inr h9,λh9=>h9.resolve_left (by rw[cz,J];simp)⟩) U)
  refine Ru.exitTo ?_;refine ab ?_;exact Ru.wk (ih _ o2 b (λv hv=>by rw[b',<-P v hv,m v hv];have:v<x:=aa;simp[this]) U)
 refine Ru.exitTo ?_;have Q:∀v,v<n->(cz a v↔∃w'∈w,cz (M.getD w'.1.toNat []) v):=λv hv=>by
  rw[P v hv];constructor;·rintro⟨j,hj,_,h2⟩;exact⟨_,abO hj,h2⟩
  rintro⟨w',cn,h2⟩;obtain⟨j,hj,rfl⟩:=ahd cn;exact⟨j,hj,aa,h2⟩
 refine ab ?_;refine RO.bT U 4 (ab ?_);refine RO.bL U.gr V (λq8 o8 c8 ax c ay k L=>?_) (j:=D);rw[show A[D]=A.getD D []from(aZ _ _).symm]at c;obtain⟨v8,rfl,d⟩:=c;have⟨N,_,_,O⟩:=d.all;refine RO.aW (v:=v8) (RO.cl (aec T (s U.gr) hB (U.gr.sl d) aw hO λH9 hg=>?_)) (hc:=k 0 _ rfl);have U:=U.bN hg;unfold qZ at h;cases av:mD B (A.getD D [])with|none=>dsimp only;refine ab ?_;have U:=U.tail;refine Ru.ki (h _ o _ a (ab7 n false) Z aC Q (λv hv=>?_) (U.sl 0 rfl) (U.tail.sub (.cons_cons _ (.cons _ (.cons _ .slnil)))));rw[av];simp[cz,ahi,ahX,hv]|some tt=>have⟨k1,k2⟩:=aef hS hO av;obtain⟨t,rfl⟩:∃t:Nat,tt=t:=⟨tt.toNat,aa⟩;have u:t<B.aj.length:=aa;have ca:=hm.len;dsimp only;refine ab ?_;refine RO.bL U.gr W (λq9 o9 d6 a6 a8 d5 bc cx=>?_) (j:=t);rw[show M[t]=M.getD t []from(aZ _ _).symm]at a8;obtain⟨v9,rfl,a'⟩:=a8;have⟨cy,_,_,cE⟩:=a'.all;refine RO.aW (v:=v9) (ab ?_) (hc:=bc 0 _ rfl);refine Ru.ki (h _ o v9 a (M.getD t []) Z (hm.row t u) Q (λv hv=>?_) (by have:=U.gr.sl a';rw[hm.row t u]at this;exact this) (U.tail.tail.sub (.cons_cons _ (.cons _ (.cons _ .slnil)))));rw[av];simp
end
section
variable{ac:Nat->aX}
def jF(j:G.fJ):List Int:=j.args++j.go.flatMap (·.args)
theorem Cs(l:List G.dY):(eM l).length<=l.length:=aiw (List.length_filter_le _ _) aC
theorem MC(T:Tb ac){B:G.dI}(hb:iR F B C)(hl:B.i4.length<=12/\B.aB.length<=40)(h:∀y v,ak F y [tS 3 1 ((dN B).map aI) (dN B).length true v]->I v y):YN ac Wj [.agg C] F I:=by
 have J:=hb.one;obtain⟨z,k,jc,rfl,p,f,A,D,E,rfl,V,W,X⟩:=hb;have⟨Y,_,_,_⟩:=f.all;refine YF.code T.YH aC (au ?_);refine RO.bZ (ak.bM F) λH1 q U=>ab ?_;refine RO.ir U 1 λH2 v5 U=>?_;have⟨Z,_,_,_⟩:=(U.sl 0 rfl).all;refine ab ?_;refine RO.kI U 0 (U.gr.sl p) (λL M U=>?_) (h1:=md _);have U:ak F L [tS 3 1 ((B.i4++eM (B.aB.take 0)).map aI) (B.i4++eM (B.aB.take 0)).length true M,tB cS q [z,k,aU B.aq.op,A,.str B.aq.i7,D,E]]:=by rw[aiB,show eM []=[]from rfl,ah8];rw[ahw]at U;exact U
 have⟨ag,_,_,_⟩:=(U.sl 0 rfl).all;refine ab ?_;refine Ru.nm λN O r l=>Ru.bH l (up (P:=λj=>∀o i,ak F o [tS 3 1 ((B.i4++eM (B.aB.take j)).map aI) (B.i4++eM (B.aB.take j)).length true i,tB cS q [z,k,aU B.aq.op,A,.str B.aq.i7,D,E]]->Ru ac _ N ([(p4,aN j),(p3,i)]++pk O [p1]) o) B.aB.length (λj hj d o i U=>?_) 0 aa _ _ U);subst r;subst l;have⟨av,_,_,s⟩:=(U.sl 0 rfl).all;refine Ru.loop (ab ?_);refine Ru.cond (λc=>?_) (λc=>?_)
 .have d:=d (j+1) aa aa;rw[(ahb c).symm,Gh,<-ae0]at d;have aw:(B.i4++eM (B.aB.take j)).length<=100:=by have:=Cs (B.aB.take j);rw[ahU]at this;rw[ae8];omega
  generalize B.i4++eM (B.aB.take j)=l0 at*;refine ab ?_;refine RO.bL U.gr f (λP Q c7 t b u a m=>?_) (j:=j);generalize R:B.aB[j]=x at*;obtain⟨w,rfl,n⟩:=b;refine ab ?_;refine RO.aW (v:=aI x.to) (ab ?_) (hc:=a 1 _ rfl);refine Ru.cond (λe=>?_) (λe=>?_);·have e:0<=x.to:=e;rw[aF e]at d;refine ab ?_;refine RO.bL U.gr f (λP Q c7 t b u a m=>?_) (j:=j);rw[R]at b;obtain⟨w,rfl,n⟩:=b;refine ab ?_;refine RO.aW (v:=aI x.to) (RO.push U 0 (λw0 H9 S U=>?_) (ws:=[aI x.to])) (hc:=a 1 _ rfl);have⟨ax,ay,a1,_⟩:=(U.sl 0 rfl).all;refine ab ?_;exact Ru.wk (d _ S (by rw[ahx,ae8];exact U))
  have e:¬0<=x.to:=e;rw[an e,ah8]at d;refine ab ?_;exact Ru.wk (d _ i U)
 refine Ru.exitTo ?_;rw[aho aa]at U s;refine ab ?_;exact Ru.aL (h _ i (U.sub (.cons_cons _ (.cons _ .slnil))))
theorem Gr(T:Tb ac){j:G.fJ}(hj:nZ F j C)(hl:j.args.length<=12/\j.go.length<=12)(n:∀e∈j.go,e.args.length<=12)(h:∀t v,ak F t [tS 3 1 ((jF j).map aI) (jF j).length true v]->I v t):YN ac WC [.agg C] F I:=by
 have y:=hj.one;obtain⟨u,w,x,rfl,o,M,b⟩:=hj;have⟨N,_,_,_⟩:=b.all;refine YF.code T.Y0 aC (au ?_);refine RO.bZ (ak.bM F) λH1 q U=>ab ?_;refine RO.ir U 1 λH2 v5 U=>?_;have⟨O,_,_,_⟩:=(U.sl 0 rfl).all;refine ab ?_;refine RO.kI U 0 (U.gr.sl o) (λA B U=>?_) (h1:=md _);have U:ak F A [tS 3 1 ((j.args++(j.go.take 0).flatMap (·.args)).map aI) (j.args++(j.go.take 0).flatMap (·.args)).length true B,tB mg q [aU j.op,u,.str j.i7,w,x]]:=by rw[aiB,List.flatMap_nil,ah8];rw[ahw]at U;exact U
 have⟨P,_,_,_⟩:=(U.sl 0 rfl).all;refine ab ?_;refine Ru.nm λD E p c=>?_;refine Ru.bH c (up (P:=λk=>∀m i,(j.args++(j.go.take k).flatMap (·.args)).length<=12+12*k->ak F m [tS 3 1 ((j.args++(j.go.take k).flatMap (·.args)).map aI) (j.args++(j.go.take k).flatMap (·.args)).length true i,tB mg q [aU j.op,u,.str j.i7,w,x]]->Ru ac _ D ([(p4,aN k),(p3,i)]++pk E [p1]) m) j.go.length (λk hk l m i Q U=>?_) 0 aa _ _ (by simp;omega) U);subst p;subst c;have⟨R,_,_,r⟩:=(U.sl 0 rfl).all;refine Ru.loop (ab ?_);refine Ru.cond (λa=>?_) (λa=>?_);·have l:=l (k+1) aa aa;have S:=n _ (abO a);rw[(ahb a).symm,ahH,ahW,<-ae0]at l;generalize j.args++(j.go.take k).flatMap (·.args)=l0 at*;refine ab ?_;refine RO.bL U.gr b (λq7 o7 c7 V s W f z=>?_) (j:=k);generalize j.go[k]=e at*;obtain⟨J,rfl,d⟩:=s;have⟨X,_,_,_⟩:=d.all;refine ab ?_;refine RO.aW (v:=J) (RO.kI U 0 (U.gr.sl d) (λH9 L U=>?_) (h1:=md _)) (hc:=f 1 _ rfl);have⟨Y,Z,ag,_⟩:=(U.sl 0 rfl).all;refine ab ?_;exact Ru.wk (l _ L (by rw[ae8];omega) (by rw[ahx,ae8];exact U))
 refine Ru.exitTo ?_;rw[aho aa]at U r;refine ab ?_;exact Ru.aL (h _ i (U.sub (.cons_cons _ (.cons _ .slnil))))
structure ku(n np:Nat)(gl:List Int)(hist:List (Int×Nat)):Prop where
 len:gl.length=n
 aK:∀v:Nat,v<np->gl.getD v 0= -1
 bq:∀p∈hist,gl.getD p.1.toNat 0=(p.2:Int)
theorem ku.add{a:List (Int×Nat)}(h:ku n P o a)(i:D<n)(j:P<=D)(d:(D:Int)∉a.map (·.1))(b:∀x∈a.map (·.1),(0:Int)<=x):ku n P (o.set D (Q:Int)) (a++[((D:Int),Q)]):=by
 have hl:=h.len;refine⟨by grind,λx f=>?_,λp c=>?_⟩;·rw[dA aa,an aa];exact h.aK x f
 rw[dA aa];rcases ac6.1 c with h2|h2;·have h3:=ahG (f:=(·.1)) h2;have k:=b _ h3;rw[an λe=>d (by grind)];exact h.bq p h2
 grind
def jy(B:G.aM)(k:Nat):List (Int×Nat):=(ahq k).flatMap λi=>(dN (aE B i)).map λv=>(v,i)
theorem vL(g:G.aM):∀k,k<=g.aj.length->(jy g k).map (·.1)=(g.aj.take k).flatMap dN|0,_=>rfl|k+1,h=>by rw[jy,ah9,ahH,ahW,ahx,<-jy,vL g k aa,(ahb (show k<g.aj.length by omega)).symm,ahH,ahW,aiF,aE,aZ aa];congr 1;exact List.map_id _
theorem MD(T:Tb ac)(hg:dc F B C)(hB:G.Sm B)(R:dT B)(X:B.aO<=6000)(h:∀H' q gl,ku B.aO.toNat B.i4.toNat gl (jy B B.aj.length)->ak F H' [tS 3 1 (gl.map aI) B.aO.toNat true (.slice q 0 B.aO.toNat B.aO.toNat true)]->I (.slice q 0 B.aO.toNat B.aO.toNat true) H'):YN ac Wm [.agg C] F I:=by
 have J:=hg.one;obtain⟨S,rfl,bz⟩:=hg;have⟨ay,_,_,a1⟩:=bz.all;have a2:=hB.nb;have h0:=R.p0;have h1:=R.p1;obtain⟨n,V⟩:∃n:Nat,B.aO=n:=⟨B.aO.toNat,aa⟩;obtain⟨j,u⟩:∃n:Nat,B.i4=n:=⟨B.i4.toNat,aa⟩;have o:=R.rg;have w:=R.nd;rw[V,u]at h h1 o J;rw[V]at X;simp only[aeY]at h;refine YF.code T.YK aC ?_;rw[V,u];refine ab ?_;refine RO.bZ (ak.bM F) λH1 q U=>?_;refine ab ?_;refine RO.jq U (n:=n) (λH2 s U=>?_) (hz:=by rw[eE];simp);have U:ak F H2 [tS 3 1 ((ab7 n (0:Int)).map aI) n true (.slice s 0 n n true),tB cA q [.str B.i7,aI j,aI n,S]]:=by rw[eE]at U;rw[aio];exact U
 refine ab ?_;refine Ru.nm λS0 M hS hM=>Ru.bH hM (up (P:=λk=>∀c gl,ku n k gl []->ak F c [tS 3 1 (gl.map aI) n true (.slice s 0 n n true),tB cA q [.str B.i7,aI j,aI n,S]]->Ru ac _ S0 ([(p4,aN k)]++pk M [p1,p3]) c) j (λk hk r c gl a U=>?_) 0 aa _ _ ⟨aC,λv hv=>by omega,λp W=>by cases W⟩ U);subst hS;subst hM;have d:=a.len;refine Ru.loop (ab ?_);refine Ru.cond (λb=>?_) (λb=>?_)
 .refine ab ?_;refine RO.fD (f:=aI) U 0 (-1) d (λH4 U=>ab ?_) (k:=k);exact Ru.wk (r (k+1) aa aa H4 _ ⟨by simpa using d,λv hv=>by
   rw[dA aa];by_cases e:v=k;·rw[aF e]
   rw[an e];exact a.aK v aa,λp W=>by cases W⟩ U)
 refine Ru.exitTo ?_;obtain rfl:j=k:=aa;refine ab ?_;refine Ru.nm λS1 M1 Y y=>Ru.bH y (up (P:=λk=>∀c gl,ku n j gl (jy B k)->ak F c [tS 3 1 (gl.map aI) n true (.slice s 0 n n true),tB cA q [.str B.i7,aI j,aI n,S]]->Ru ac _ S1 ([(p5,aN k)]++pk M1 [p1,p3]) c) B.aj.length (λk hk r c gl a U=>?_) 0 aa _ _ a U);subst Y;subst y;have d:=a.len;refine Ru.loop (ab ?_);refine Ru.cond (λb=>?_) (λb=>?_)
 .have Z:=abO b;have a6:=hB.bl _ Z;have L:=vL B k aa;have N:aE B k=B.aj[k]:=by rw[aE,aZ b]
  have eC:(jy B k).map (·.1)++(dN B.aj[k]++(B.aj.drop (k+1)).flatMap dN)=B.aj.flatMap dN:=by rw[L];conv=>rhs;rw[<-aig k B.aj,ahH,ahp b,aim]
  have r:=r (k+1) aa aa;rw[jy,ah9,ahH,ahW,<-jy,N]at r;refine ab ?_;refine RO.bL U.gr bz (λq1 o1 c1 a8 A a' hat hrd=>?_) (j:=k);have O:=A;generalize B.aj[k]=b3 at*;have ax:=A.one;refine ab ?_;refine RO.cl (MC T (bV.block U.gr O) ⟨aa,aa⟩ λH5 lv hl=>?_);have U:=U.cH hl;have⟨ba,_,_,bb⟩:=(U.sl 0 rfl).all;have bc:(dN b3).length<=100:=by have:=Cs b3.aB;rw[dN,ae8];omega
  generalize dN b3=l at*;refine ab ?_;refine Ru.nm λS2 M2 ag D=>?_;refine Ru.bH D (up (P:=λm=>∀c gl,ku n j gl (jy B k++(l.take m).map λv=>(v,k))->ak F c [tS 3 1 (l.map aI) l.length true lv,tS 3 1 (gl.map aI) n true (.slice s 0 n n true),tB cA q [.str B.i7,aI j,aI n,S]]->Ru ac _ S2 ([(p7,aN m)]++pk M2 [p1,p3,p5,p6]) c) l.length (λm hm i c gl a U=>?_) 0 aa _ gl (by rw[aiB,aiz,ah8];exact a) U);subst ag;subst D;have d:=a.len;have av:=U.sl 0 rfl;refine Ru.loop (ab ?_);refine Ru.cond (λf=>?_) (λf=>?_)
  .have i:=i (m+1) aa aa;rw[(ahb f).symm,ahx,List.map_singleton,<-ae0]at i;have E:((l.take m).map λv=>(v,k)).map (λp:Int×Nat=>p.1)=l.take m:=by rw[aiF];exact List.map_id _
   have P:l[m]∉(jy B k++(l.take m).map λv=>(v,k)).map (·.1):=by
    have h9:=eC;rw[show l=l.take m++l[m]::l.drop (m+1)from by rw[<-ahp f,aig]]at h9;rw[<-h9]at w;have h8:(((jy B k).map (·.1)++l.take m)++(l[m]::(l.drop (m+1)++(B.aj.drop (k+1)).flatMap dN))).Nodup:=by simpa only[ae0,ah4]using w
    rw[ahZ]at h8;intro t;rw[ahx,E]at t;refine h8.2.2 l[m] ?_ l[m] (acj ..) rfl;rcases ac6.1 t with h|h;·exact ahj _ h
    exact ahu _ h
   have aw:l[m]∈B.aj.flatMap dN:=by rw[<-eC];exact ahu _ (ahj _ (abO _))
   have hr:=o _ aw;have Q:∀x∈(jy B k++(l.take m).map λv=>(v,k)).map (·.1),(0:Int)<=x:=λx t=>by
    have:x∈B.aj.flatMap dN:=by
     rw[<-eC];rw[ahx,E]at t;rcases ac6.1 t with h|h;·exact ahj _ h
     exact ahu _ (ahj _ (aiK h))
    have:=o x this;omega
   refine ab ?_;refine RO.ic (aR.refl _) av (λq9 o9 bv b0=>?_) (j:=m);generalize l[m]=z at*;obtain⟨v,rfl⟩:∃v:Nat,z=v:=⟨z.toNat,aa⟩;refine ab ?_;refine RO.fD (f:=aI) U 1 (k:Int) d (λH9 U=>ab ?_) (k:=v) (ho:=by omega);exact Ru.wk (i _ _ (a.add aa aa P Q) U)
  refine Ru.exitTo ?_;rw[aho aa]at a;refine ab ?_;exact Ru.wk (r _ gl a U.tail)
 refine Ru.exitTo ?_;obtain rfl:k=B.aj.length:=aa;refine ab ?_;exact Ru.aL (h _ s gl a (U.sub (.cons_cons _ (.cons _ .slnil))))
structure As(dm:List (List Bool))(vsl:List AV)(F:List Th):Prop where
 len:vsl.length=dm.length
 mem:∀b,b<dm.length->tR 1 ((dm.getD b []).map .bool) (dm.getD b []).length (vsl.getD b .bQ)∈F
theorem As.mz{c:List (List Bool)}{a:List AV}{F:List Th}(h:As c a F){l:List Bool}{v:AV}:As (c++[l]) (a++[v]) (tR 1 (l.map .bool) l.length v::F):=by
 have hl:=h.len;refine⟨by simp[hl],λb hb=>?_⟩;simp only[ae8,ahJ]at hb;by_cases e:b=c.length
 .subst e;have d:(c++[l]).getD c.length []=l:=aC;have f:(a++[v]).getD c.length .bQ=v:=by rw[<-hl];simp
  rw[d,f];exact acj ..
 have d:(c++[l]).getD b []=c.getD b []:=by simp[ahE (show b<c.length by omega)]
 have f:(a++[v]).getD b .bQ=a.getD b .bQ:=by simp[ahE (show b<a.length by omega)]
 rw[d,f];exact ab8 _ (h.mem b aa)
def qV(c d:List Bool)(a b:Nat):Bool:=c.getD a false&&c.getD b false&&(decide (a=b)||!d.getD b false)
structure ME(g:G.aM)(come:List Bool)(a:Nat)(row:List Bool):Prop where
 len:row.length=g.aj.length
 ex:∃ca oa ot,jw g (a:Int) ca oa/\(∀b,fc g (a:Int) ca oa ot b)/\∀b,b<g.aj.length->row.getD b false=qV come ca a b
structure sq(g:G.aM)(dm:List (List Bool)):Prop where
 len:dm.length=g.aj.length
 ex:∃come aA oth,jw g (-1) come aA/\(∀b,fc g (-1) come aA oth b)/\∀a,a<g.aj.length->ME g come a (dm.getD a [])
theorem gT.mono(a:jh B)(h:gT B H D o):gT B (-1) D o:=by induction h with|zero _=>exact .zero bt|step h b _ c=>have⟨h3,d⟩:=c.ok a;have:=(oK a h3 d _ b).1;exact .step c b aa
theorem gT.nil(a:jh B)(h:gT B H D o)(hb:D=0):o=[]:=by cases h with|zero _=>rfl|step h b _=>have⟨h3,c⟩:=h.ok a;have:=(oK a h3 c _ b).1;omega
theorem gT.comp(b:jh B)(a:jw B (-1) E A)(c:∀D,fc B (-1) E A false D)(h:gT B (-1) D o):E.getD D false=true/\A.getD D []=o:=by
 induction h with
 |zero h=>have h1:=a.c0 h;exact⟨h1,(a.snd 0 h1).nil b rfl⟩
 | @step D o w h d e f=>
  have⟨h1,h2⟩:=f;rcases c D h1 w (by rw[h2];exact d)with h3|⟨h3,i⟩;·exact absurd h3 e
  exact⟨h3,i rfl⟩
theorem gT.yt(b:jh B)(d:jw B (-1) L A)(e:∀D,fc B (-1) L A false D)(a:jw B H E J)(c:∀D,fc B H E J O D)(h:gT B H D o):E.getD D false=true:=by
 induction h with
 |zero h=>exact a.c0 h
 | @step D o w h i j f=>
  have k:=((a.snd D f).mono b).comp b d e;have l:=(h.mono b).comp b d e;rcases c D f w (by rw[<-k.2,l.2];exact i)with h3|⟨h3,_⟩;·exact absurd h3 j
  exact h3
theorem sq.eq(f:jh B)(i:jw B (-1) E A)(j:∀D,fc B (-1) E A false D)(h:sq B M)(m:sq B N)(p:n<B.aj.length)(hb:D<B.aj.length):(M.getD n []).getD D false=(N.getD n []).getD D false:=by
 have key:∀{M:List (List Bool)},sq B M->((M.getD n []).getD D false=true↔(∃o,gT B (-1) n o)/\(∃o,gT B (-1) D o)/\(n=D\/¬∃o,gT B (n:Int) D o)):=by intro M h;have⟨b,aA,t,k,e,q⟩:=h.ex;have⟨r,u,v,a,c,d⟩:=(q n p).ex;have l:∀x,b.getD x false=true↔∃o,gT B (-1) x o:=λx=>⟨λh=>⟨_,k.snd x h⟩,λ⟨o,h⟩=>h.yt f i j k e⟩;have s:r.getD D false=true↔∃o,gT B (n:Int) D o:=⟨λh=>⟨_,a.snd D h⟩,λ⟨o,h⟩=>h.yt f i j a c⟩;rw[d D hb,qV,<-l,<-l,<-s];simp[and_assoc]
 rw[aiI,key h,key m]
theorem acP(T:Tb ac)(hg:dc F B C)(hB:G.Sm B)(Z:jh B)(s:B.aj.length<=30)(h:∀H' v d cn j,sq B j->As j d cn->ak F H' [tZ cn,tS n9 1 d B.aj.length true v]->I v H'):YN ac WB [.agg C] F I:=by
 have a':=hg.one;have E:=hg;obtain⟨vb,rfl,bz⟩:=hg;have⟨bb,_,_,bc⟩:=bz.all;have bv:=Z.ne;refine YF.code T.YZ aC (au ?_);refine RO.bZ (ak.bM F) λH1 q U=>ab ?_;refine RO.bT U 0 ?_;refine RO.cl (vK T (bV.eY U.gr E) hB Z s (wo:= -1) λH2 V qs b0 Fo c aA z hI ag b3 hl=>?_);have U:=(U.cH hl).sub (.cons _ (.cons _ (.cons_cons _ (ahM _))));have J:=hI.lc;refine RO.ir U 1 λH3 av U=>?_;have⟨b4,_,_,_⟩:=(U.sl 0 rfl).all;refine RO.dD U λH4 q3 U=>ab ?_;have U:=U.lQ;refine Ru.nm λS0 M aw hM=>Ru.bH hM (up (P:=λa=>∀y d cn j v,j.length=a->As j d cn->(∀x,x<a->ME B c x (j.getD x []))->ak F y [tZ cn,tB mh q3 [.slice V 0 B.aj.length B.aj.length true,.slice qs 0 B.aj.length B.aj.length true,.bool z],tS n9 1 d a true v,tS 4 1 (c.map .bool) B.aj.length true (.slice V 0 B.aj.length B.aj.length true),tB cA q [.str B.i7,aI B.i4,aI B.aO,vb]]->Ru ac _ S0 ([(p5,aN a),(p4,v)]++pk M [p1,p3]) y) B.aj.length (λa ha ih y d cn j v A L u U=>?_) 0 aa _ [] [] [] av rfl ⟨rfl,λb hb=>absurd hb aC⟩ (λx hx=>by omega) U);subst aw;subst hM;have⟨b6,b7,b',_⟩:=(U.sl 2 rfl).all;refine Ru.loop (ab ?_);refine Ru.cond (λN=>?_) (λN=>?_)
 .have ih:=ih (a+1) aa aa;refine ab ?_;refine RO.bT U 4 (ab ?_);refine RO.cl (vK T (bV.eY U.gr E) hB Z s (wo:=(a:Int)) λH5 qa qo ca Fa r oa ot O R ba hl=>?_);have U:=(U.cH hl).sub (.cons _ (.cons _ (.cons_cons _ (ahM _))));have ax:=O.lc;refine RO.ir U 1 λH6 ay U=>?_;have⟨cd,_,_,_⟩:=(U.sl 0 rfl).all;refine RO.dD U λH7 q6 U=>ab ?_;refine Ru.nm λS1 M1 a1 P=>Ru.bH P (up (P:=λb=>∀y(row:List Bool)w,row.length=b->(∀x,x<b->row.getD x false=qV c r a x)->ak F y [tB mh q6 [.slice qa 0 B.aj.length B.aj.length true,.slice qo 0 B.aj.length B.aj.length true,.bool ot],tS 4 1 (row.map .bool) b true w,tS 4 1 (r.map .bool) B.aj.length true (.slice qa 0 B.aj.length B.aj.length true),tZ cn,tB mh q3 [.slice V 0 B.aj.length B.aj.length true,.slice qs 0 B.aj.length B.aj.length true,.bool z],tS n9 1 d a true v,tS 4 1 (c.map .bool) B.aj.length true (.slice V 0 B.aj.length B.aj.length true),tB cA q [.str B.i7,aI B.i4,aI B.aO,vb]]->Ru ac _ S1 ([(p8,aN b),(p7,w)]++pk M1 [p1,p3,p4,p5,p6]) y) B.aj.length (λb hb m y row w f Q U=>?_) 0 aa _ [] ay rfl (λx hx=>by omega) U);subst a1;subst P;have S:=U.sl 1 rfl;have⟨a2,cf,a6,_⟩:=S.all;refine Ru.loop (ab ?_);refine RO.eo U 7 ?_;refine ab ?_;refine Ru.cond (λn=>?_) (λn=>?_)
  .have m:=m (b+1) aa aa;have nC:∀(l:List Bool)(k:Nat),l.length=B.aj.length->k<B.aj.length->(l.map AV.bool)[0+k*1]?=some (.bool (l.getD k false)):=λl k h1 h2=>by rw[show 0+k*1=k by omega,ahB,getElem?_pos l k aa,aZ aa];rfl
   have i:∀t,t=qV c r a b->∀x,x<b+1->(row++[t]).getD x false=qV c r a x:=λt ht x hx=>by
    by_cases e:x=b;·subst e;rw[<-ht,<-f];simp
    rw[<-Q x aa];simp[ahE (show x<row.length by omega)]
   refine ab ?_;refine RO.cJ U 6 (hv:=nC c a J N) (RO.bf (RO.pD (λD=>?_) (λD=>?_)))
   .refine ab ?_;refine RO.cJ U 6 (hv:=nC c b J n) ?_;refine ab ?_;refine RO.pD (λW=>?_) (λW=>?_)
    .refine ab ?_;refine RO.bP (λg3=>?_) (λg3=>?_);·refine ab ?_;refine RO.push U 1 (λX Y o U=>?_) (ws:=[.bool true]);have⟨p,_,_,_⟩:=(U.sl 1 rfl).all;refine ab ?_;exact Ru.wk (m _ (row++[true]) o (by simp[f]) (i _ (by rw[qV,D,W,decide_eq_true g3];rfl)) (by rw[ahx];exact U))
     refine ab ?_;refine RO.cJ U 2 (hv:=nC r b ax n) ?_;refine ab ?_;refine RO.push U 1 (λX Y o U=>?_) (ws:=[.bool (!r.getD b false)]);have⟨p,_,_,_⟩:=(U.sl 1 rfl).all;refine ab ?_;exact Ru.wk (m _ (row++[(!r.getD b false)]) o (by simp[f]) (i _ (by rw[qV,D,W,decide_eq_false g3];rfl)) (by rw[ahx];exact U))
    refine ab ?_;refine RO.push U 1 (λX Y o U=>?_) (ws:=[.bool false]);have⟨p,_,_,_⟩:=(U.sl 1 rfl).all;refine ab ?_;exact Ru.wk (m _ (row++[false]) o (by simp[f]) (i _ (by rw[qV,D,W];rfl)) (by rw[ahx];exact U))
   refine ab ?_;refine RO.push U 1 (λX Y o U=>?_) (ws:=[.bool false]);have⟨p,_,_,_⟩:=(U.sl 1 rfl).all;refine ab ?_;exact Ru.wk (m _ (row++[false]) o (by simp[f]) (i _ (by rw[qV,D];rfl)) (by rw[ahx];exact U))
  refine Ru.exitTo ?_;obtain rfl:b=B.aj.length:=aa;refine ab ?_;have a8:=(((U.sub (.cons _ (.cons_cons _ (.cons _ (ahM _))))).as (t':=tR 1 (row.map .bool) row.length w) 0 rfl λfp hp=>by have h9:=tS.iu hp;rw[<-f]at h9;exact h9)).ie;refine RO.push a8 2 (λX Y o U=>?_) (ws:=[w]) (hl:=im rfl a2 a6 rfl rfl rfl);have⟨p,_,_,_⟩:=(U.sl 2 rfl).all;refine ab ?_;exact Ru.wk (ih _ (d++[w]) _ (j++[row]) o (by simp[A]) L.mz (λx hx=>by
   by_cases e:x=a
   .subst e;have e1:(j++[row]).getD x []=row:=by rw[<-A];simp
    rw[e1];exact⟨f,r,oa,ot,O.toFlI,R,Q⟩
   have e1:(j++[row]).getD x []=j.getD x []:=by simp[ahE (show x<j.length by omega)]
   rw[e1];exact u x aa) U)
 refine Ru.exitTo ?_;obtain rfl:a=B.aj.length:=aa;refine ab ?_;exact Ru.aL (h _ v d cn j ⟨A,c,aA,z,hI.toFlI,ag,u⟩ L (U.sub (.cons_cons _ (.cons _ (.cons_cons _ (.cons _ (.cons _ .slnil)))))))
end
end Go.al.R
end
