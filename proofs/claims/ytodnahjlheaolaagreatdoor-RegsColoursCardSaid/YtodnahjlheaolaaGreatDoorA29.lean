/- A part. No conditions. -/
import Derived.Test.YtodnahjlheaolaaGreatDoorA28
set_option linter.all false
set_option maxHeartbeats 16000000
open List renaming replicate->ab7,range->ahq
noncomputable section
namespace Go.al.R
section
variable{ac:Nat->aX}
end
variable{B:G.aM}{C D:List (List Int)}{E M W:List Bool}{F a n v:Nat}{I J:List (Int->Prop)}{L P:List Nat}{O:Nat->List (List Int)}{Q:Int}{S:KT}{V:Bool}{Y:List AV}{c:ai}{A N X:List Int}{Z:AV}{H:List (List bp)}
section
variable{ac:Nat->aX}
def lC(a:List (List Int)):List (Int->Prop):=a.map λN x=>x∈N
def nG(m n:Nat):List Int:=(ahq n).map λv=>if v<m then(v:Int)else -1
theorem Ob:∀m:Nat,(m:Int)<=Q->m<=F->jY Q I F ((ahq m).map λ(v:Nat)=>(v:Int)) (nG m F)
 |0,_,_=>by
  have:nG 0 F=ab7 F (-1):=by simp[nG,List.map_const']
  rw[this];exact .nil
 |m+1,h1,h2=>by
  rw[ah9,ahx,List.map_singleton];have:nG (m+1) F=(nG m F).set (m:Int).toNat m:=by
   apply ain (by simp[nG]);intro i hi hj;simp only[nG,ahP,aiH,List.getElem_set,aeY];by_cases e:m=i;·subst e;rw[aF rfl,aF aa]
   rw[an e];by_cases h:i<m;·rw[aF h,aF aa]
   rw[an h,an aa]
  rw[this];exact .mz (Ob m aa aa) (λ_=>rfl) (λh=>absurd aa h)
theorem fR.all{W:Nat->List Nat}{C:Nat->Prop}(d:∀x,C x->∀y∈W x,C y)(h:fR W L M E P):(∀x∈L,C x)->∀x∈P,C x:=by
 induction h with
 |nil=>intro _ x a;cases a
 |skip _ _ e=>exact λhl=>e λx a=>hl x (ab8 _ a)
 | @go E _ _ _ _ _ _ _ _ _ b c=>
  intro hl x a;rcases ac6.1 a with a|a;·exact b (d E (hl E (acj ..))) x a
  rcases ac2.1 a with rfl|a;·exact hl _ (acj ..)
  exact c (λx a=>hl x (ab8 _ a)) x a
theorem aeB(d:jh B)(h:jw B (-1) E D)(i:∀b,fc B (-1) E D V b)(e:E.getD F false=true):∀y∈rW B D F,E.getD y false=true:=by intro y j;obtain⟨w,f,rfl⟩:=ahm.1 j;have⟨a,c⟩:=(h.snd F e).ok d;have⟨⟨h1,h2⟩,_⟩:=oK d a c _ f;exact((i F e _ f).resolve_left aa).1
def yC(B:G.aM)(n:Nat)(c cl:List (List Int)):Prop:=(∃a:Nat->List (List Int),(∀b,b<B.aj.length->mG B n b (a b))/\jZ B a (λb j=>b<B.aj.length/\j<(a b).length) c)/\cl.length=n/\∀v:Nat,v<n->(∀x,x∈cl.getD v []↔mC (lC c) v x)/\(cl.getD v []).length<=n/\∀x∈cl.getD v [],0<=x/\x<n
theorem yC.Oc(i:dT B)(k:B.aO=F)(d:∀b,b<B.aj.length->mG B F b (O b))(e:jZ B O (λb j=>b<B.aj.length/\j<(O b).length) C)(hl:D.length=F)(h:∀v,v<F->(D.getD v []).Pairwise (·<·)/\∀x,x∈D.getD v []↔∃N∈C,(v:Int)∈N/\x∈N/\x≠v):yC B F C D:=by
 have f:∀v:Nat,v<F->∀x∈D.getD v [],0<=x/\x<F:=λv a x l=>by have⟨N,c,_,h2,_⟩:=((h v a).2 x).1 l;exact N9 i k d e N c x h2
 refine⟨⟨O,d,e⟩,hl,λv a=>⟨λx=>?_,N7 F _ (G7 (h v a).1) (f v a),f v a⟩⟩;rw[(h v a).2];constructor;·rintro⟨N,c,h1,h2,h3⟩;exact⟨_,ahm.2 ⟨N,c,rfl⟩,h1,h2,h3⟩
 rintro⟨n,m,h1,h2,h3⟩;obtain⟨N,c,rfl⟩:=ahm.1 m;exact⟨N,c,h1,h2,h3⟩
def vW(b:ah)(B:G.aM)(c d e v5:AV)(n f:Nat)(am:List Nat)(F:List Th)(a:List AV)(k:Nat)(R:List Int):List Th:=[tS 3 1 (am.map aN) am.length true d,tZ F,tS cW 1 a n true e,tS 3 1 (R.map aI) k true v5,tB cA b [.str B.i7,aN f,aN n,c]]
theorem aeC(T:Tb ac)(hg:dc c B Y)(hB:G.Sm B)(Q:dT B)(O:B.aj.length<=30)(hn:B.aO=n)(cR:n<=200)(h:∀M v R A cl(am:List Nat)a aA s p,yC B n A cl->jx B (-1) a aA s->(∀b,fc B (-1) a aA s b)->fR (rW B aA) [0] (ab7 B.aj.length false) p am.reverse->jY B.i4 (lC A) n (pL B++am.flatMap λb=>dN (aE B b)) R->aR c M->dh M R v->S v M):YN ac V9 [.agg Y] c S:=by
 have eb:=hg.one;have aw:=hg;have hS:=Q.sh;have el:=hB.nb;have c8:=Q.rg;obtain⟨vb,rfl,bz⟩:=hg;have cv:=bz;have et:=Q.p0;have ew:=Q.p1;obtain⟨t,ax⟩:∃m:Nat,B.i4=(m:Int):=⟨B.i4.toNat,aa⟩;have c9:pL B=(ahq t).map λ(v:Nat)=>(v:Int):=by rw[pL,ax,aeY]
 refine YF.code T.Yv aC (ab ?_);refine RO.bZ (ak.bM c) λH1 q1 U=>ab ?_;refine RO.bT U 0 (RO.bT U 0 (RO.iE U 1 (ws:=[]) (n:=0) (λH2 q7 U=>?_)));have h7:=U.vA 0 rfl;have E:∀HY H0:ai,aR c HY->H0.next=HY.next->(∀j,j∉ [q7]->H0.get j=HY.get j)->aR c H0:=λHY H0 ay h1 h2=>⟨by rw[h1];exact ay.nx,λj hj=>by rw[h2 j ?_,ay.cI j hj];rw[abt];intro e;rw[e]at hj;omega⟩;refine RO.sn (is:=[q7]) (Q:=λv ns=>∃A cl o F,yC B n A cl/\fG cl o F/\ns=[tZ F,tS cW 1 o n true v]) U (λj hj=>by rw[abt]at hj;rw[hj];exact h7.2) (λH0 W hs=>Oa T (bV.eY (E _ _ U.gr W hs) aw) hB Q O hn cR λM v A e0 cl o F h1 h2 h3 h4 h5 hl=>⟨_,hl,A,cl,o,F,.Oc Q hn h1 h2 h3 h4,h5,rfl⟩) (λvc ns HU hQ a1 U=>?_);obtain⟨A,cl,o,F,a2,a6,rfl⟩:=hQ;refine⟨λaf a8=>?_,?_⟩;·obtain⟨_,hp⟩:=U.get 3 rfl;obtain⟨_,C,_⟩:=cv;exact qW (i:=q1) (o:=0) (vs:=[.str B.i7,aI B.i4,aI B.aO,vb]) a8 (by(conv=>lhs;whnf)<;>rfl) (by(conv=>lhs;whnf)<;>rfl) (Ct (Sl.cD C)) (tB.kl hp (m:=4) (by show 0+4<=4;omega)) rfl
 refine RO.sn (is:=[q7]) (Q:=λv ns=>∃(am:List Nat)(a:List Bool)(aA:List (List Int))(s:Bool)(p:List Bool),jx B (-1) a aA s/\(∀b,fc B (-1) a aA s b)/\fR (rW B aA) [0] (ab7 B.aj.length false) p am.reverse/\am.length<=30/\ns=[tS 3 1 (am.map aN) am.length true v]) U (λj hj=>by rw[abt]at hj;rw[hj];exact ahC h7.2 a1.nx) (λH0 W hs=>aeA T (bV.eY (E _ _ U.gr W hs) aw) hB Q O λM v am a aA s p h1 h2 h3 h4 hl=>⟨_,hl,am,a,aA,s,p,h1,h2,h3,h4,rfl⟩) (λvo ns c' hQ cx U=>?_);obtain⟨am,a,aA,s,p,hI,hD,X,e2,rfl⟩:=hQ;refine⟨λaf a8=>rfl,?_⟩;have dm:=a6.len;have y:∀b∈am,a.getD b false=true:=λb hb=>fR.all (C:=λb=>a.getD b false=true) (λx hx=>aeB hS hI.toFlI hD hx) X (λx hx=>by rw[abt]at hx;rw[hx];exact hI.c0 bt) b (List.mem_reverse.2 hb);replace h:∀{M v R},jY B.i4 (lC A) n (pL B++am.flatMap λb=>dN (aE B b)) R->aR c M->dh M R v->S v M:=λh1 h2 h3=>h _ _ _ _ _ _ _ _ _ _ a2 hI hD X h1 h2 h3;have dr:∀b∈am,b<B.aj.length:=λb hb=>((hI.snd b (y b hb)).ok hS).1;clear X y hD a1 cx h7 E;obtain⟨_,ds,cy⟩:=a2;rw[hn,ax]at U;have U:ak c c' (vW q1 B vb vo vc (.slice q7 0 0 0 true) n t am F o 0 (nG t 0)):=U;have⟨e3,_,_,e4⟩:=(U.sl 0 rfl).all;have e5:=(U.sl 2 rfl).all.1;refine ab ?_;refine Ru.nm λS1 M1 dv a'=>Ru.bH a' (up (P:=λk=>∀q v5,ak c q (vW q1 B vb vo vc v5 n t am F o k (nG t k))->Ru ac _ S1 ([(p6,aN k),(p5,v5)]++pk M1 [p1,p3,p4]) q) n (λk hk u q v5 U=>?_) 0 aa _ _ U);subst dv;subst a';have e6:=(U.sl 3 rfl).all.1;refine Ru.loop (ab ?_);refine Ru.cond (λdx=>?_) (λdx=>?_)
 .have u:=u (k+1) aa aa;have e1:nG t (k+1)=nG t k++[if k<t then(k:Int)else -1]:=by simp[nG,ah9]
  rw[e1]at u;refine ab ?_;refine Ru.cond (λg1=>?_) (λg1=>?_);·rw[aF g1]at u;refine ab ?_;refine RO.push U 3 (λw0 H7 v2 U=>?_) (ws:=[aN k]);have ba:=(U.sl 3 rfl).all.1;refine ab ?_;exact Ru.wk (u _ v2 (by rw[vW,ahx];exact U))
  rw[an g1]at u;refine ab ?_;refine RO.push U 3 (λw0 H7 v2 U=>?_) (ws:=[aI (-1)]);have ba:=(U.sl 3 rfl).all.1;refine ab ?_;exact Ru.wk (u _ v2 (by rw[vW,ahx];exact U))
 refine Ru.exitTo ?_;obtain rfl:k=n:=aa;have f:jY B.i4 (lC A) k (pL B) (nG t k):=by rw[c9];exact Ob t aa aa
 refine ab ?_;refine Ru.nm λS2 M2 dy bb=>Ru.bH bb (up (P:=λi=>∀q R,jY B.i4 (lC A) k (pL B++(am.take i).flatMap λb=>dN (aE B b)) R->ak c q (vW q1 B vb vo vc v5 k t am F o k R)->Ru ac _ S2 ([(p8,aN i)]++pk M2 [p1,p3,p4,p5]) q) am.length (λi hi u q R f U=>?_) 0 aa _ _ (by simpa using f) U);subst dy;subst bb;refine Ru.loop (ab ?_);refine Ru.cond (λI=>?_) (λI=>?_)
 .have u:=u (i+1) aa aa;have bc:=dr _ (abO I);rw[(ahb I).symm,ahH,ahW,<-ae0]at u;refine ab ?_;refine RO.ic (aR.refl _) (U.sl 0 rfl) (λq9 o9 bv d=>?_) (j:=i);generalize pL B++(am.take i).flatMap (λb=>dN (aE B b))=bY at*;generalize am[i]=b at*;refine RO.aW (ab ?_) (hc:=d);refine RO.bL U.gr bz (λq2 o2 c2 e7 b0 e8 hat hrd=>?_) (j:=b);have dz:aE B b=B.aj[b]:=by rw[aE,aZ bc]
  rw[dz]at u;have b3:=abO bc;have e9:=hB.bl _ b3;have b4:∀x∈dN B.aj[b],t<=x/\x<k:=λx hx=>by have:=c8 x (ahI.2 ⟨_,b3,hx⟩);omega
  have cE:=b0;generalize B.aj[b]=fl at*;have ec:=b0.one;refine ab ?_;refine RO.cl (MC T (bV.block U.gr cE) ⟨aa,aa⟩ λH5 lv hl=>?_);have U:=U.cH hl;have e':(dN fl).length<=100:=by have:=Cs fl.aB;rw[dN,ae8];omega
  generalize dN fl=l at*;have⟨fa,_,_,fb⟩:=(U.sl 0 rfl).all;refine ab ?_;refine Ru.nm λS3 M3 d0 b6=>Ru.bH b6 (up (P:=λm=>∀q R,jY B.i4 (lC A) k (bY++l.take m) R->ak c q (tS 3 1 (l.map aI) l.length true lv::vW q1 B vb vo vc v5 k t am F o k R)->Ru ac _ S3 ([(dS,aN m)]++pk M3 [p1,p3,p4,p5,p8,p9]) q) l.length (λm hm N q R f U=>?_) 0 aa _ R (by simpa using f) U);subst d0;subst b6;have d1:=f.len;refine Ru.loop (ab ?_);refine Ru.cond (λJ=>?_) (λJ=>?_)
  .have N:=N (m+1) aa aa;rw[(ahb J).symm,<-ae0]at N;have b4:=b4 _ (abO J);obtain⟨z,V⟩:∃z:Nat,l[m]=z:=⟨l[m].toNat,aa⟩;have d2:z<k:=aa;obtain⟨y,b7,b'⟩:=cy z d2;have d3:cl.getD z []=cl[z]'aa:=aZ aa _;rw[d3]at y b7 b';obtain⟨q5,cap,ex,rfl⟩:=U.jp 4 rfl aa;refine ab ?_;refine RO.ir U 1 λH6 v6 U=>?_;have d4:=(U.sl 0 rfl).all.1;refine ab ?_;refine Ru.nm λS4 M4 d5 ca=>Ru.bH ca (up (P:=λj=>∀q v6,ak c q (tS 3 1 (((cl[z]'aa).take j).map λw=>aI (R.getD w.toNat 0)) j true v6::tS 3 1 (l.map aI) l.length true lv::vW q1 B vb vo vc (.slice q5 0 k cap ex) k t am F o k R)->Ru ac _ S4 ([(gQ,aN j),(eD,v6)]++pk M4 [p1,p3,p4,p5,p8,p9,dS]) q) (cl[z]'aa).length (λj hj D q v6 U=>?_) 0 aa _ _ U);subst d5;subst ca;have d4:=(U.sl 0 rfl).all.1;have C:=U.sl 1 rfl;have fd:=U.sl 5 rfl;have P:=a6.sl U 3 rfl (by rw[dm,ds];exact U.sl 4 rfl);refine Ru.loop (ab ?_);refine RO.fA (aR.refl _) C (λq8 o8 Z d=>?_) (j:=m);rw[V]at d;refine RO.aW (v:=aN z) (ab ?_) (hc:=d);refine RO.bL (aR.refl _) P (λq9 o9 ek bv ag d6 hat hrd=>?_) (j:=z);obtain⟨v9,rfl,av⟩:=ag;have⟨ei,_,_,ej⟩:=av.all;refine RO.aW (v:=v9) (ab ?_) (hc:=hat 0 _ rfl);refine Ru.cond (λL=>?_) (λL=>?_);·have D:=D (j+1) aa aa;rw[(ahb L).symm,ahx,List.map_singleton]at D;have fe:=b' _ (abO L);obtain⟨w,hw⟩:∃w:Nat,cl[z][j]=w:=⟨cl[z][j].toNat,aa⟩;have cd:w<R.length:=aa;rw[hw,aeY,aZ cd]at D;refine ab ?_;refine RO.fA (aR.refl _) C (λq8 o8 Z d=>?_) (j:=m);rw[V]at d;refine RO.aW (v:=aN z) (ab ?_) (hc:=d);refine RO.bL (aR.refl _) P (λq9 o9 ek bv ag d6 hat hrd=>?_) (j:=z);obtain⟨v9,rfl,av⟩:=ag;refine RO.aW (v:=v9) (ab ?_) (hc:=hat 0 _ rfl);refine RO.fA (aR.refl _) av (λq8 o8 Z d=>?_) (j:=j);rw[hw]at d;refine RO.aW (v:=aN w) (ab ?_) (hc:=d);refine RO.cJ U 5 (v:=aI R[w]) (hv:=by rw[show 0+w*1=w by omega,ahB,getElem?_pos R w cd];rfl) ?_;refine ab ?_;refine RO.push U 0 (λw0 H7 v2 U=>?_) (ws:=[aI R[w]]);have ba:=(U.sl 0 rfl).all.1;refine ab ?_;exact Ru.wk (D _ v2 U)
   refine Ru.exitTo ?_;have d7:j=(cl[z]'aa).length:=aa;rw[aho aa]at U;have dg:dh q ((cl[z]'aa).map λw=>R.getD w.toNat 0) v6:=by unfold dh;rw[ahs,<-d7,aiF];exact U.sl 0 rfl
   have cf:∀x,x∈(cl[z]'aa).map (λw=>R.getD w.toNat 0)↔∃w,mC (lC A) z w/\R.getD w.toNat 0=x:=λx=>by rw[ahm];exact⟨λ⟨w,h1,h2⟩=>⟨w,(y w).1 h1,h2⟩,λ⟨w,h1,h2⟩=>⟨w,(y w).2 h1,h2⟩⟩
   have fk:((cl[z]'aa).map λw=>R.getD w.toNat 0).length<=k:=by rw[ahs];exact b7
   generalize(cl[z]'aa).map (λw=>R.getD w.toNat 0)=tk at*;refine ab ?_;refine Ru.nm λS5 M5 d' cn=>Ru.bH cn (up (P:=λr=>(∀j:Nat,j<r->(j:Int)∈tk)->Ru ac _ S5 ([(iS,aN r)]++pk M5 [p1,p3,p4,p5,p8,p9,dS,eD]) q) k (λr hr ea hT=>?_) 0 aa (λj hj=>by omega));subst d';subst cn;refine Ru.loop (ab ?_);refine RO.cl (Cn T dg aa (n:=r) (λh9=>?_) (λh9=>?_))
   .have cp:∀j:Nat,j<r+1->(j:Int)∈tk:=λj hj=>by
     by_cases e:j=r;·rw[e];exact h9
     exact hT j aa
    have hp:=NF cp;refine ab ?_;exact Ru.wk (ea (r+1) aa aa cp)
   refine ab ?_;refine Ru.exitTo ?_;refine ab ?_;refine RO.fA (aR.refl _) C (λq8 o8 Z d=>?_) (j:=m);rw[V]at d;refine RO.aW (v:=aN z) (ab ?_) (hc:=d);refine RO.fD (f:=aI) U 5 (r:Int) d1 (λH7 U=>ab ?_) (k:=z);refine Ru.wk (N _ (R.set z r) ?_ U.tail);have:=f.mz (v:=l[m]) (r:=r) (λh=>absurd h aa) λ_=>⟨aa,λw h1 h2=>h9 ((cf _).2 ⟨w,by rw[<-V];exact h1,h2⟩),λj hj=>by rw[V];exact(cf _).1 (hT j aa)⟩;rw[V,aeY]at this;rw[V];exact this
  refine Ru.exitTo ?_;rw[aho aa]at f;refine ab ?_;exact Ru.wk (u _ R f U.tail)
 refine Ru.exitTo ?_;rw[aho aa]at f;refine ab ?_;refine Ru.aL (h f U.gr ?_);have:=U.sl 3 rfl;unfold dh;rw[f.len];exact this
end
section
variable{ac:Nat->aX}
def yD(gl:List Int)(a:List Bool)(v:Nat):Bool:=decide (gl.getD v 0<0)||a.getD (gl.getD v 0).toNat false
def oV(n:Nat)(gl:List Int)(a:List Bool):List Int:=((ahq n).filter (yD gl a)).map λ(v:Nat)=>(v:Int)
theorem Od:(F:Int)∈oV v A E↔F<v/\yD A E F=true:=by simp only[oV,ahm,aiR,ahR];exact⟨λ⟨a,h,e⟩=>by obtain rfl:=Int.ofNat.inj e;exact h,λh=>⟨F,h,rfl⟩⟩
theorem aeD(a:dT B)(f:B.aO=F)(b:ku B.aO.toNat B.i4.toNat A (jy B B.aj.length))(h:v<F): -1<=A.getD v 0/\A.getD v 0<B.aj.length:=by
 have d:=a.p0;by_cases k:(v:Int)<B.i4;·rw[b.aK v aa];omega
 have h1:=a.all v aa aa;rw[<-aid (l:=B.aj),<-vL B _ (aeE _)]at h1;obtain⟨⟨_,i⟩,h2,rfl⟩:=ahm.1 h1;have h3:=b.bq _ h2;have⟨j,hj,c⟩:=ahI.1 h2;have⟨_,l,e⟩:=ahm.1 c;obtain⟨rfl,rfl⟩:=Prod.mk.inj e;simp only[aeY]at h3;rw[ahR]at hj;rw[h3];omega
def veX(d e f h:ah)(B:G.aM)(i j:AV)(n:Nat)(k l:List Th)(b c:List AV)(gl:List Int)(a:List Bool):List Th:=[tZ k,tS cW 1 b n true j,tS 3 1 (gl.map aI) n true (.slice h 0 n n true),tZ l,tS xE 1 c B.aj.length true (.slice f 0 B.aj.length B.aj.length true),tS 4 1 (a.map .bool) B.aj.length true (.slice e 0 B.aj.length B.aj.length true),tB cA d [.str B.i7,aI B.i4,aN n,i]]
theorem aeF(T:Tb ac)(hg:dc c B Y)(hB:G.Sm B)(J:dT B)(E:B.aj.length<=30)(M:B.aO=n)(ca:n<=200)(o:dh c A Z)(d4:A.length<=1000)(h2:∀u,A.length≠n->aR c u->S (aN 2) u)(h:∀u e z cl gl a aA N,yC B n z cl->jx B (-1) a aA N->(∀b,fc B (-1) a aA N b)->ku B.aO.toNat B.i4.toNat gl (jy B B.aj.length)->oQ B.i4 (lC z) (oV n gl a) n A e->aR c u->S (aN e) u):YN ac V' [.agg Y,Z] c S:=by
 have d0:=hg.one;have O:=hg;have hS:=J.sh;have d5:=hB.nb;obtain⟨vb,rfl,bz⟩:=hg;have b7:=bz;have d6:=J.p0;have d7:=J.p1;have⟨hrd,d',ea,eb⟩:=o.all;refine YF.code T.Yw aC (ab ?_);refine RO.bZ (ak.bM c) λH1 q2 U=>?_;refine ab ?_;refine Ru.cond (λg1=>?_) (λg1=>?_);·refine ab ?_;exact Ru.aL (h2 _ (by rw[M]at g1;exact λe=>g1 (by rw[e];rfl)) U.gr)
 have P:A.length=n:=by rw[M]at g1;exact Int.ofNat.inj (aix.1 g1)
 refine ab ?_;refine RO.bT U 0 (RO.bT U 0 (RO.bT U 0 ?_));have rc:∀{HX:ai}{ts:List Th}{p:ah}{L:Kn}{af:az AV}{x:aJ}{re:List gN}(i:Nat),ak c HX ts->ts[i]?=some (tB cA q2 [.str B.i7,aI B.i4,aI B.aO,vb])->Le L af->aT L x=.aD q2 0->lk L p=.agg [.str B.i7,aI B.i4,aI B.aO,vb]->dQ af HX re=true->dQ af HX (⟨p,.ee 4 x,none⟩::re)=true:=λi U hi q r hp hr=>by obtain⟨_,cd⟩:=U.get i hi;obtain⟨_,cf,_⟩:=b7;exact qW (i:=q2) (o:=0) (vs:=[.str B.i7,aI B.i4,aI B.aO,vb]) q r hp (Ct (Sl.cD cf)) (tB.kl cd (m:=4) (by show 0+4<=4;omega)) hr
 refine RO.At (vK T (bV.eY U.gr O) hB hS E λH2 qc qs cn F1 a aA N hI hD _ hl=>⟨λaf q=>?_,?_⟩);·exact rc 3 (U.cH hl) rfl q (by(conv=>lhs;whnf)<;>rfl) (by(conv=>lhs;whnf)<;>rfl) (rc 3 (U.cH hl) rfl q (by(conv=>lhs;whnf)<;>rfl) (by(conv=>lhs;whnf)<;>rfl) rfl)
 have U:=U.cH hl;refine ab ?_;refine RO.At (MD T (bV.eY U.gr O) hB J aa λH3 qg gl hG hl=>⟨λaf q=>?_,?_⟩);·exact rc 4 (U.cH hl) rfl q (by(conv=>lhs;whnf)<;>rfl) (by(conv=>lhs;whnf)<;>rfl) rfl
 have U:=U.cH hl;refine RO.cl (Oa T (bV.eY U.gr O) hB J E M ca λH4 vc z ec cl cp F2 h5 h6 h7 h8 ay hl=>?_);have U:=U.cH hl;have a1:=yC.Oc J M h5 h6 h7 h8;have cv:=λ{v}=>aeD (v:=v) J M hG;have cx:=hG.len;have ei:=hI.lc;replace h:∀{u e},oQ B.i4 (lC z) (oV n gl a) n A e->aR c u->S (aN e) u:=λh1 h3=>h _ _ _ _ _ _ _ _ a1 hI hD hG h1 h3;obtain⟨_,cy,b'⟩:=a1;have cE:=ay.len;rw[M,aeY]at cx;rw[M,aeY]at U⊢;have U:ak c H4 (veX q2 qc qs qg B vb vc n F2 F1 cp cn gl a):=U;have ej:=(U.sl 1 rfl).all.1;refine ab ?_;refine Ru.nm λS1 M1 cR a2=>Ru.bH a2 (up (P:=λk=>(∀v,v<k->¬lV (oV n gl a) A v)->Ru ac _ S1 ([(p8,aN k)]++pk M1 [p1,p2,p5,p6,p7]) H4) A.length (λk hk C Q=>?_) 0 aa (λv hv=>by omega));subst cR;subst a2;refine Ru.loop (ab ?_);refine Ru.cond (λa6=>?_) (λa6=>?_)
 .have C:=C (k+1) aa aa;have V:k<n:=aa;have W:A.getD k 0=A[k]:=aZ a6 0;obtain⟨x0,x1⟩:=cv V;have lw:lV (oV n gl a) A k->oQ B.i4 (lC z) (oV n gl a) n A 3:=λhb=>.inr ⟨P,.inl ⟨⟨k,V,hb⟩,rfl⟩⟩;have d:¬lV (oV n gl a) A k->∀v,v<k+1->¬lV (oV n gl a) A v:=λhb v hv=>by
   by_cases e:v=k;·rw[e];exact hb
   exact Q v aa
  have c8:(k:Int)∈oV n gl a↔yD gl a k=true:=Od.trans ⟨λh=>h.2,λh=>⟨V,h⟩⟩;unfold lV at lw d;rw[W,c8]at lw d;have a8:(gl.map aI)[0+k*1]?=some (aI (gl.getD k 0)):=by rw[show 0+k*1=k by omega,ahB,getElem?_pos gl k aa,aZ aa];rfl
  have a':yD gl a k=(decide (gl.getD k 0<0)||a.getD (gl.getD k 0).toNat false):=rfl;generalize yD gl a k=ib at*;generalize gl.getD k 0=x at*;refine gE ?_;refine Ru.seq (Ru.block (Ru.seq (Ru.oJ (P:=λK' u=>K'=[(p9,.bool ib),(p8,aN k),(p1,Z),(p2,.aD q2 0),(p5,.slice qc 0 B.aj.length B.aj.length true),(p6,.slice qg 0 n n true),(p7,vc)]/\u=H4) (λK' HB⟨c9,hl⟩=>?_) (λs' t=>?_))));rotate_left
  .refine ab ?_;refine RO.cJ U 2 (hv:=a8) (ab ?_);refine RO.bP (λr=>?_) (λr=>?_);·have r:x<0:=r;refine ab ?_;refine t _ _ _ ⟨rfl,rfl⟩ ?_;rw[a',decide_eq_true r];exact dw
   have r:¬x<0:=r;obtain⟨y,rfl⟩:∃y:Nat,x=y:=⟨x.toNat,aa⟩;have c':(a.map AV.bool)[0+y*1]?=some (.bool (a.getD y false)):=by rw[show 0+y*1=y by omega,ahB,getElem?_pos a y aa,aZ aa];rfl
   refine ab ?_;refine RO.cJ U 2 (hv:=a8) (ab ?_);refine RO.cJ U 5 (hv:=c') (ab ?_);refine t _ _ _ ⟨rfl,rfl⟩ ?_;rw[a',decide_eq_false r,Bool.false_or,aeY];exact dw
  subst c9;subst hl;cases ib with
  |true=>
   refine ab ?_;refine RO.fA U.gr o (λq9 o9 hj f=>ab ?_) (j:=k);refine RO.cl (oF T (a:=0) (b:=249) (n:=A[k]) (λh3 h4=>?_) (λD=>?_));·refine ab ?_;exact Ru.wk (C (d λhb=>hb.elim (λh=>h.2 ⟨h3,h4⟩) λh=>h.1 rfl))
   refine ab ?_;exact Ru.aL (h (lw (.inl ⟨rfl,D⟩)) U.gr)
  |false=>
   refine ab ?_;refine RO.fA U.gr o (λq9 o9 hj f=>ab ?_) (j:=k);refine Ru.cond (λD=>?_) (λD=>?_);·refine ab ?_;exact Ru.aL (h (lw (.inr ⟨aC,D⟩)) U.gr)
   refine ab ?_;exact Ru.wk (C (d λhb=>hb.elim (λh=>by cases h.1) λh=>D h.2))
 refine Ru.exitTo ?_;refine ab ?_;refine Ru.nm λS2 M2 dm ba=>?_;refine Ru.bH ba (up (P:=λj=>(∀v,v<j->¬lW B.i4 (lC z) A v)->Ru ac _ S2 ([(dS,aN j)]++pk M2 [p1,p2,p7]) H4) A.length (λj hj C bb=>?_) 0 aa (λv hv=>by omega));subst dm;subst ba;refine Ru.loop ?_;refine ab ?_;refine Ru.cond (λF=>?_) (λF=>?_)
 .have C:=C (j+1) aa aa;have bc:j<n:=aa;have W:A.getD j 0=A[j]:=aZ F 0;have l:lW B.i4 (lC z) A j->oQ B.i4 (lC z) (oV n gl a) n A 12:=λhb=>.inr ⟨P,.inr ⟨λv hv=>Q v aa,.inl ⟨⟨j,bc,hb⟩,rfl⟩⟩⟩;have d:¬lW B.i4 (lC z) A j->∀v,v<j+1->¬lW B.i4 (lC z) A v:=λhb v hv=>by
   by_cases e:v=j;·rw[e];exact hb
   exact bb v aa
  unfold lW at l d;rw[W]at l d;obtain⟨X,dr,bv⟩:=b' j bc;have ds:cl.getD j []=cl[j]'aa:=aZ aa _;rw[ds]at X dr bv;have I:=ay.sl U 0 rfl (by rw[cE,cy];exact U.sl 1 rfl);refine ab ?_;refine RO.eo U 6 (v:=aI B.i4) (ab ?_);refine RO.bP (λhp=>?_) (λhp=>?_);rotate_left;have b0:¬((j:Int)<B.i4/\A[j]≠j):=λh=>hp h.1;rotate_left;refine ab ?_;refine RO.fA U.gr o (λq7 o7 b3 f=>ab ?_) (j:=j);refine Ru.cond (λag=>?_) (λag=>?_);·refine ab ?_;exact Ru.aL (h (l (.inl ⟨hp,ag⟩)) U.gr)
  have b0:¬((j:Int)<B.i4/\A[j]≠j):=λh=>ag h.2;all_goals
   refine ab ?_;refine Ru.nm λS3 M3 dv b4=>Ru.bH b4 (up (P:=λk=>(∀m(h:m<(cl[j]'aa).length),m<k->A[j]≠A.getD ((cl[j]'aa)[m]).toNat 0)->Ru ac _ S3 ([(eD,aN k)]++pk M3 [p1,p2,p7,dS]) H4) (cl[j]'aa).length (λk hk av hN=>?_) 0 aa (λm _ hm=>by omega));subst dv;subst b4;refine Ru.loop (ab ?_);refine RO.bL (aR.refl _) I (λq9 o9 d3 dx aw dy hat hrd=>?_) (j:=j);obtain⟨v9,rfl,ax⟩:=aw;have⟨d1,_,_,d2⟩:=ax.all;refine RO.aW (v:=v9) (ab ?_) (hc:=hat 0 _ rfl);refine Ru.cond (λs=>?_) (λs=>?_)
   .have av:=av (k+1) aa aa;have ek:=bv _ (abO s);obtain⟨w,D⟩:∃w:Nat,cl[j][k]=w:=⟨cl[j][k].toNat,aa⟩;have dz:w<A.length:=aa;have b6:A.getD (cl[j][k]).toNat 0=A[w]:=by rw[D,aeY,aZ dz]
    refine ab ?_;refine RO.bL (aR.refl _) I (λq9 o9 d3 dx aw dy hat hrd=>?_) (j:=j);obtain⟨v9,rfl,ax⟩:=aw;refine RO.aW (v:=v9) (ab ?_) (hc:=hat 0 _ rfl);refine RO.fA (aR.refl _) ax (λq8 o8 el f=>?_) (j:=k);rw[D]at f;refine RO.aW (v:=aN w) (ab ?_) (hc:=f);refine RO.fA U.gr o (λq7 o7 b3 f=>RO.aW (ab ?_) (hc:=f)) (j:=w);refine RO.fA U.gr o (λq7 o7 b3 f=>RO.aW (ab ?_) (hc:=f)) (j:=j);refine Ru.cond (λhe=>?_) (λhe=>?_);·have he:A[w]=A[j]:=he;refine ab ?_;exact Ru.aL (h (l (.inr ⟨_,(X _).1 (abO s),by rw[b6];exact he.symm⟩)) U.gr)
    have he:¬A[w]=A[j]:=he;refine ab ?_;refine Ru.wk (av λm hm h1=>?_);by_cases e:m=k;·subst e;rw[b6];exact λh=>he h.symm
    exact hN m hm aa
   refine Ru.exitTo ?_;refine ab ?_;refine Ru.wk (C (d λhb=>hb.elim b0 λ⟨x,r,he⟩=>?_));obtain⟨m,hm,rfl⟩:=ahd ((X x).2 r);exact hN m hm aa he
 refine Ru.exitTo ?_;refine ab ?_;exact Ru.aL (h (.inr ⟨P,.inr ⟨λv hv=>Q v aa,.inr ⟨λv hv=>bb v aa,rfl⟩⟩⟩) U.gr)
end
theorem jY.fI(h:jY Q I F A N):A=[]/\N=ab7 F (-1)\/∃h c v r,A=h++[v]/\N=c.set v.toNat r/\jY Q I F h c/\(v<Q->r=v)/\(¬v<Q->0<=r/\(∀w,mC I v w->c.getD w.toNat 0≠r)/\∀k:Nat,(k:Int)<r->∃w,mC I v w/\c.getD w.toNat 0=k):=by cases h with|nil=>exact .inl ⟨rfl,rfl⟩|mz h h1 h2=>exact .inr ⟨_,_,_,_,rfl,rfl,h,h1,h2⟩
theorem jY.pO(i:∀v w,mC I v w↔mC J v w)(h:jY Q I F N A):∀{c},jY Q J F N c->A=c:=by
 induction h with
 |nil=>
  intro c h;obtain⟨_,rfl⟩|⟨h,_,v,_,e,_⟩:=h.fI;·rfl
  cases h<;>cases e
 | @mz h A v r _ h1 h2 k=>
  intro c l;obtain⟨e,_⟩|⟨h,u,x,j,e,rfl,m,o,p⟩:=l.fI;·cases h<;>cases e
  obtain⟨rfl,q⟩:=List.append_inj' e rfl;obtain rfl:=(List.cons.inj q).1;obtain rfl:=k m;congr 1;by_cases d:v<Q;·rw[h1 d,o d]
  have⟨y,s,a3⟩:=h2 d;have⟨b1,b2,t⟩:=p d;rcases Int.lt_trichotomy r j with f|f|f;·have⟨w,c1,c2⟩:=t r.toNat aa;exact absurd aa (s w ((i _ _).2 c1))
  .exact f
  have⟨w,c1,c2⟩:=a3 j.toNat aa;exact absurd aa (b2 w ((i _ _).1 c1))
theorem oQ.bI(j:∀l w,mC I l w↔mC J l w)(hg:∀l:Nat,l<F->((l:Int)∈N↔(l:Int)∈X))(h:oQ Q I N F A v)(k:oQ Q J X F A a):v=a:=by
 have hb:∀l,l<F->(lV N A l↔lV X A l):=λl c=>by unfold lV;rw[hg l c]
 have i:∀l,lW Q I A l↔lW Q J A l:=λl=>by unfold lW;simp only[j]
 rcases h with⟨h1,rfl⟩|⟨h1,⟨⟨l,c,h2⟩,rfl⟩|⟨h2,⟨⟨l,c,h3⟩,rfl⟩|⟨h3,rfl⟩⟩⟩<;>rcases k with⟨d,rfl⟩|⟨d,⟨⟨u,hu,e⟩,rfl⟩|⟨e,⟨⟨u,hu,f⟩,rfl⟩|⟨f,rfl⟩⟩⟩<;>first|rfl|exact absurd h1 d|exact absurd d h1|exact absurd ((hb _ c).1 h2) (e _ c)|exact absurd ((hb _ hu).2 e) (h2 _ hu)|exact absurd ((i _).1 h3) (f _ c)|exact absurd ((i _).2 f) (h3 _ hu)
theorem Om(V:Vd B)(k:jG B)(l:b8 B E H)(m:eF B E H L)(e:gu B E H D)(o:B.aO=F)(f:∀p,p<B.aj.length->mG B F p (O p))(h:jZ B O (λp j=>p<B.aj.length/\j<(O p).length) C)(v w:Int):mC (iW B H D L) v w↔mC (lC C) v w:=by
 constructor;·rintro⟨q,c,h1,h2,h3⟩;have⟨N,i,d⟩:=aeN V k l m e o f h c;exact⟨_,ahm.2 ⟨N,i,rfl⟩,d _ h1,d _ h2,h3⟩
 rintro⟨q,c,h1,h2,h3⟩;obtain⟨N,i,rfl⟩:=ahm.1 c;have⟨q,c,d⟩:=aeM V k l m e o f h N i;exact⟨q,c,(d _).1 h1,(d _).1 h2,h3⟩
theorem aeO(o:Vd B)(e:jG B)(d:b8 B E H)(f:eF B E H P)(i:jx B (-1) M D V)(j:∀m,fc B (-1) M D V m)(h:fR (rW B D) [0] (ab7 B.aj.length false) W L.reverse):L=P:=by have k:=runK o.lU e o.cG d i j;have⟨_,h2⟩:=f.sr;have:=(h2.bI (W':=rW B D) (C:=λm=>E.getD m false=true) (λx c=>⟨by have⟨h1,h2⟩:=k.op x c;rw[rW,wW,jU,h1,<-vP h2,aiF];rfl,λy l=>d.il c l⟩) (λx c=>by rw[abt]at c;rw[c];exact d.c0)).pO h;exact List.reverse_inj.1 this.2.symm
theorem He(V:Vd B)(hb:F<B.aj.length):dN (aE B F)=gB B F:=(Gj λx c=>(V.lU.aB _ (kq hb) x c).r.t0).symm
theorem On(V:Vd B)(c:b8 B E H)(d:eF B E H L):pL B++L.flatMap (λe=>dN (aE B e))=fh B L:=by rw[fh,yq λe hb=>He V (c.lt ((d.mem e).1 hb))]
theorem aeP(C:Vd B)(s:jG B)(k:b8 B M H)(l:eF B M H L)(z:B.aO=v)(t:jx B (-1) E D V)(u:∀G,fc B (-1) E D V G)(m:ku B.aO.toNat B.i4.toNat A (jy B B.aj.length))(o:F<v):(F:Int)∈fh B L↔(F:Int)∈oV v A E:=by
 have w:=runK C.lU s C.cG k t u;have y:=C.lU.p0;rw[Od,<-On C k l,ac6,AB,ahI,yD,aij,decide_eq_true_iff];by_cases r:(F:Int)<B.i4;·have:=m.aK F aa;exact⟨λ_=>⟨o,.inl aa⟩,λ_=>.inl ⟨aa,r⟩⟩
 have h1:=C.lU.all F aa aa;rw[<-aid (l:=B.aj),<-vL B _ (aeE _)]at h1;obtain⟨⟨_,i⟩,h2,rfl⟩:=ahm.1 h1;have h3:=m.bq _ h2;have⟨j,hj,x⟩:=ahI.1 h2;have⟨_,c,e⟩:=ahm.1 x;obtain⟨rfl,rfl⟩:=Prod.mk.inj e;simp only[aeY]at h3;rw[ahR]at hj;rw[h3,aeY,w.cm,<-l.mem];constructor
 .rintro(h|⟨G,hb,f⟩);·exact absurd h.2 r
  have d:=k.lt ((l.mem G).1 hb);rw[He C d]at f;rw[He C hj]at c;have⟨p,f⟩:=GR.1 f;have⟨q,c⟩:=GR.1 c;rw[<-C.gv.one G j d hj _ _ _ f c];exact⟨o,.inr hb⟩
 rintro⟨_,h|h⟩;·omega
 exact .inr ⟨j,h,c⟩
section
variable{ac:Nat->aX}
section
variable{H:ai}{cs:List AV}
theorem aeS(T:Tb ac)(b:¬Vd B)(c:ny B)(d:ml B)(hg:dc H B cs)(h:∀a e,nD B e->aR H a->S (.tuple [.bj,aI e]) a):YN ac KA [.agg cs] H S:=ad6 T b c d rfl T.KU T.KX hg h
theorem aeT(T:Tb ac)(i:¬Vd B)(j:ny B)(k:ml B)(hg:dc H B cs)(hrd:Z.bk=true)(h:∀c e,nD B e->aR H c->S (aI e) c):YN ac KB [.agg cs,Z] H S:=by have f:=hg.one;obtain⟨d,rfl,bz⟩:=hg;have⟨l,_,_,_⟩:=bz.all;refine YF.code T.KW aC (au ?_);refine RO.bZ (ak.bM H) λm n U=>ab ?_;refine RO.bT U 0 ?_;refine RO.cl (NO T i j k (cs:=[.str B.i7,aI B.i4,aI B.aO,d]) ⟨d,rfl,bV.block.gK U.gr bz⟩ λo e he a=>?_);have b:=he.ne;refine ab ?_;refine Ru.cond (λ_=>ab ?_) (λh=>absurd b h);exact Ru.aL (h _ e he (U.gr.trans a))
theorem ahf(T:Tb ac)(j:∀{H:ai}{K:KT},(∀t,aR H t->K (.bool true) t)->YN ac V6 [] H K)(hg:dc H B cs)(u:ml B)(k:dh H A Z){K:KT}(h:∀t,aR H t->K (.bool true) t):YN ac V4 [.agg cs,Z] H K:=by
 have a':=hg.one;have f:=hg;obtain⟨vb,rfl,bz⟩:=hg;have⟨bv,_,_,b0⟩:=bz.all;have⟨hrd,b3,b4,b6⟩:=k.all;refine YF.code T.Yp aC (ab ?_);refine RO.bZ (ak.bM H) λH1 q2 U=>ab ?_;refine RO.bT U 0 ?_;refine RO.cl (Be T (bV.eY U.gr f) (λH2 hg=>?_) (λH2 hg x=>?_));·have U:=U.bN hg;refine ab ?_;refine RO.cl (j λJ hg=>?_);have U:=U.bN hg;refine ab ?_;exact Ru.aL (h _ U.gr)
 have U:=U.bN hg;have m:=x.sm;have b7:=m.nb;refine ab ?_;refine Ru.cond (λg1=>?_) (λg1=>?_);·refine ab ?_;refine RO.cl (j λJ hg=>?_);have U:=U.bN hg;refine ab ?_;exact Ru.aL (h _ U.gr)
 have b':A.length<=210:=Nat.not_lt.1 g1;refine ab ?_;refine RO.bT U 0 ?_;refine RO.cl (ael T (bV.eY U.gr f) aa (λb hb=>⟨m.bl b hb,m.st b hb,m.ed b hb⟩) λJ ca hg a=>?_);have U:=U.bN hg;have a6:=a.one;have P:=a;obtain⟨wb,rfl,cd⟩:=P;refine RO.ir (ak.bM J) 1 λH4 v4 hl=>?_;have cf:=(hl.sl 0 rfl).all.1;refine ab ?_;refine RO.kI hl 0 ((U.gr.trans hl.gr).sl k) (λH5 yv hl=>?_) (h1:=md A);have Q:=(hl.sl 0 rfl).all.1;refine ab ?_;refine RO.dD hl λH6 q5 hl=>?_;have a:=bV.eY hl.gr a;have c:dh H6 A yv:=by have:=hl.sl 1 rfl;rw[aie,ahw]at this;exact this
 have U:=U.cH hl;have U:ak H H6 [tB cA q5 [.str B.i7,aI B.i4,aI B.aO,wb],tB cA q2 [.str B.i7,aI B.i4,aI B.aO,vb]]:=U.sub (.cons_cons _ (.cons _ (ahM _)));refine ab ?_;refine RO.bT U 0 ?_;by_cases V:Vd B;rotate_left;·refine RO.cl (aeS T V x u a λH7 e he hg=>?_);have S:=he.ne;have U:=U.bN hg;have a:=bV.eY hg a;have c:=hg.sl c;refine ab ?_;refine RO.bT U 0 (ab ?_);refine RO.cl (aeT T V x u a Q λH8 e' W hg=>?_);obtain rfl:=he.pO W;have U:=U.bN hg;have a:=bV.eY hg a;have c:=hg.sl c;refine ab ?_;refine RO.bT U 0 ?_;refine RO.bT U 1 ?_;refine RO.cl (NX T a (bV.eY U.gr f) u m λH9 hg=>?_);have U:=U.bN hg;have c:=hg.sl c;refine ab ?_;refine RO.cl (Ar T c (U.gr.sl k) aa (λ_=>ab ?_) (λi=>absurd rfl i));refine RO.bT U 1 ?_;refine RO.cl (aeR T x u he (bV.eY U.gr f) λX hg=>?_);have U:=U.bN hg;refine ab ?_;refine Ru.cond (λ_=>ab ?_) (λi=>absurd S i);refine RO.bP (λ_=>ab ?_) (λi=>absurd rfl i);refine RO.bP (λ_=>ab ?_) (λi=>absurd rfl i);refine RO.cl (j λY hg=>?_);have U:=U.bN hg;refine ab ?_;exact Ru.aL (h _ U.gr)
 have G:=V.lU;have cn:=G.p0;have cp:=G.p1;have⟨o,cv⟩:=Aw x V.iw;obtain⟨n,q⟩:∃n:Nat,B.aO=n:=⟨B.aO.toNat,aa⟩;have y:n<=200:=aa;refine RO.cl (ad1 T V a q λH7 v C ba os am lv I L ag hC hg d=>?_);have cx:=hC.len;have⟨cy,_,_,_⟩:=d.all;have U:=U.bN hg;have a:=bV.eY hg a;have c:=hg.sl c;refine ab ?_;refine RO.bT U 0 (ab ?_);refine RO.cl (ad4 T V a q aa c aa λH8 e a8 cE bb c8 z D F hV hg=>?_);have U:=U.bN hg;have a:=bV.eY hg a;have c:=hg.sl c;have d:=hg.sl d;refine ab ?_;refine RO.bT U 0 ?_;refine RO.bT U 1 ?_;refine RO.cl (NX T a (bV.eY U.gr f) u m λH9 hg=>?_);have U:=U.bN hg;have c:=hg.sl c;have d:=hg.sl d;refine ab ?_;refine RO.cl (Ar T c (U.gr.sl k) aa (λ_=>ab ?_) (λi=>absurd rfl i));refine RO.bT U 1 ?_;refine RO.cl (aeQ T V I (bV.eY U.gr f) λX l hg=>?_);have U:=U.bN hg;have d:=hg.sl d;refine ab ?_;refine RO.bT U 1 (ab ?_);refine RO.cl (aeC T (bV.eY U.gr f) m G o q y λY w C' NL cl o2 cR oR av bc M N O aw E hg p=>?_);have U:=U.bN hg;have d:=hg.sl d;have⟨c9,_,_,_⟩:=p.all;have⟨⟨ax,r,s⟩,_⟩:=M;obtain rfl:=aeO V l I L N O aw;rw[On V I L]at E;obtain rfl:=hC.pO (Om V l I L ag q r s) E;refine ab ?_;refine RO.cl (Ar T d p aa (λ_=>ab ?_) (λi=>absurd rfl i));refine RO.bT U 1 (ab ?_);refine RO.cl (aeF T (bV.eY U.gr f) m G o q y (U.gr.sl k) aa (λay h2 hg=>?_) (λay e' NL cl gl cR oR av M N O hG a1 hg=>?_))
 .obtain⟨_,rfl⟩|⟨h3,_⟩:=hV;rotate_left;·exact absurd h3 h2
  have U:=U.bN hg;refine ab ?_;refine RO.cl (j λa2 hg=>?_);have U:=U.bN hg;refine ab ?_;exact Ru.aL (h _ U.gr)
 have⟨⟨ax,r,s⟩,_⟩:=M;obtain rfl:=hV.bI (Om V l z D F q r s) (λv hv=>aeP V l z D q N O hG hv) a1;have U:=U.bN hg;refine ab ?_;refine RO.bP (λ_=>ab ?_) (λi=>absurd rfl i);refine RO.cl (j λa2 hg=>?_);have U:=U.bN hg;refine ab ?_;exact Ru.aL (h _ U.gr)
end
end
end Go.al.R
end
