/- A part. No conditions. -/
import Derived.Test.YtpplokbfajnjhaaGreatDoorA31
set_option linter.all false
set_option maxHeartbeats 16000000
open List renaming replicate->acJ
noncomputable section
namespace Go.al.R
section
variable{ab:Nat->aV}
theorem ae1{g:G.aP}(d:ev g){n:Nat}(o:g.aQ=n){a:Nat->List (List Int)}(c:∀b,b<g.aj.length->mF g n b (a b)){e:List (List Int)}(h:jZ g a (λb j=>b<g.aj.length/\j<(a b).length) e):∀N∈e,∀x∈N,0<=x/\x<n:=λN i x f=>by
 have l:=d.p0;have m:=d.p1;obtain⟨_,_,b,j,⟨hb,_⟩,h1|⟨hj,k,h1⟩⟩:=h.snd N i
 .rcases(h1 x).1 f with h2|⟨_,h2|⟨_,h2,h3⟩⟩;·exact((c b hb).bd.2 j).2.2 x h2
  .have:=d.rg x (aiG.2 ⟨_,kY hb,ah1 _ h2⟩);omega
  omega
 rcases(h1 x).1 f with h2|h2;·exact((c b hb).bd.2 (j+1)).2.2 x h2
 subst h2;rw[bf hj]at k⊢;have:=(d.aA _ (kY hb) _ (acm hj)).r.t1;omega
theorem ae2{l:List Int}(h:l.Nodup){i j:Nat}(hi:i<l.length)(hj:j<l.length)(e:l[i]=l[j]):i=j:=by
 have h2:=List.pairwise_iff_getElem.1 h;rcases Nat.lt_trichotomy i j with h3|h3|h3;·exact absurd e (h2 i j hi hj h3)
 .exact h3
 exact absurd e.symm (h2 j i hj hi h3)
section
variable{g:G.aP}{H:ai}{cs:List AV}
theorem ae3(T:Tb ab)(hg:dt H g cs)(J:G.Sm g)(L:ev g)(m:g.aj.length<=30){n:Nat}(M:g.aQ=n)(q:n<=200){K:KT}(h:∀H' w a c,(∀b,b<g.aj.length->mF g n b (c b))->jZ g c (λb j=>b<g.aj.length/\j<(c b).length) a->(∀N∈a,N.length<=w)->(w=0\/∃N∈a,N.length=w)->aS H H'->K (aN w) H'):YN ab WO [.agg cs] H K:=by
 have D:=hg.one;have r:=hg;obtain⟨Z,rfl,bG⟩:=hg;refine YF.code T.Y1 aC (au ?_);refine RO.ct (ak.bN H) λH1 q1 U=>af ?_;refine RO.co U 0 ?_;refine RO.cl (OB T (bX.fS U.gr r) J L m M q λC v a s F c t u R d hl=>?_);have U:=U.dq hl;have x:=d.len;have f:pD C a v:=d.sl U 0 rfl (by rw[x];exact U.sl (e:=cB) (size:=1) (vs:=s) (n:=a.length) (full:=true) 1);have⟨S,_,_,V⟩:=f.all;have y:=U.gr;refine af ?_;refine Ru.nm λO P z i=>Ru.bI i (up (P:=λk=>∀w,(∀j(hj:j<a.length),j<k->a[j].length<=w)->(w=0\/∃N∈a,N.length=w)->Ru ab _ O ([(p5,aN k),(p4,aN w)]++pk P [p3]) C) a.length (λk hk o w h1 h2=>?_) 0 aa 0 (λj _ hj=>by omega) (.inl rfl));subst z;subst i;refine Ru.loop (af ?_);refine Ru.cond (λl=>?_) (λl=>?_)
 .have o:=o (k+1) aa aa;refine af ?_;refine RO.bO (aS.refl _) f (λq9 o9 c9 W A X hat hrd=>?_) (j:=k);obtain⟨v9,rfl,B⟩:=A;have⟨E,_,_,I⟩:=B.all;refine RO.be (v:=v9) (af ?_) (hc:=hat 0 _ rfl);refine RO.Ol (af ?_);refine Ru.wk (o (max w a[k].length) (λj hj Y=>?_) ?_)
  .by_cases e:j=k;·subst e;exact Nat.le_max_right ..
   exact aji (h1 j hj aa) (Nat.le_max_left ..)
  rcases Nat.le_total a[k].length w with p|p;·rw[Nat.max_eq_left p];exact h2
  rw[Nat.max_eq_right p];exact .inr ⟨_,acm l,rfl⟩
 refine Ru.exitTo ?_;refine af ?_;exact Ru.aL (h _ w a c t u (λN Q=>by obtain⟨j,hj,rfl⟩:=ah0 Q;exact h1 j hj aa) h2 y)
def oH(d:ah)(g:G.aP)(e v3 v4:AV)(n c:Nat)(F:List Th)(a:List AV)(b:Nat->ah)(k:Nat):List Th:=[tS gR 1 (jX b n k) k true v4,tZ F,tS cB 1 a c true v3,tB cJ d [.str g.name,aI g.params,aN n,e]]
theorem ae4(T:Tb ab)(hg:dt H g cs)(hB:G.Sm g)(hR:ev g)(b7:g.aj.length<=30){n:Nat}(hn:g.aQ=n)(cf:n<=200){K:KT}(h:∀H' v a I cl c F,(∀b,b<g.aj.length->mF g n b (I b))->jZ g I (λb j=>b<g.aj.length/\j<(I b).length) a->cl.length=n->(∀v,v<n->(cl.getD v []).Pairwise (·<·)/\∀x,x∈cl.getD v []↔∃N∈a,(v:Int)∈N/\x∈N/\x≠v)->fA cl c F->ak H H' [tZ F,tS cB 1 c n true v]->K v H'):YN ab WQ [.agg cs] H K:=by
 have d1:=hg.one;have cn:=hg;obtain⟨E,rfl,bG⟩:=hg;refine YF.code T.Y3 aC (au ?_);refine RO.ct (ak.bN H) λH1 q U=>af ?_;refine RO.co U 0 ?_;refine RO.cl (OB T (bX.fS U.gr cn) hB hR b7 hn cf λH2 v3 a c F I bb W d3 av hl=>?_);have U:ak H H2 [tZ F,tS cB 1 c a.length true v3,tB cJ q [.str g.name,aI g.params,aI g.aQ,E]]:=U.dq hl;rw[hn]at U;have bc:=av.len;have⟨d4,_,_,d5⟩:=(U.sl (e:=cB) (size:=1) (sv:=v3) (vs:=c) (n:=a.length) (full:=true) 1).all;have bv:=ae1 hR hn bb W;have cp:∀N∈a,N.length<=1000:=λN hN=>(W.snd N hN).2.1;have cv:∀N∈a,N.Nodup:=λN hN=>(W.snd N hN).1;refine af ?_;refine RO.ji U 1 λH3 v4 U=>?_;have U:ak H H3 (oH q g E v3 v4 n a.length F c (λ_=>q) 0++eU (λ_=>q) n []):=U;have⟨cx,_,_,_⟩:=(U.sl (e:=gR) (size:=1) (sv:=v4) (vs:=[]) (n:=0) (full:=true) 0).all;refine af ?_;refine Ru.nm λS1 M1 cy b0=>Ru.bI b0 (up (P:=λk=>∀f v4 ids,ak H f (oH q g E v3 v4 n a.length F c ids k++eU ids n (acJ k (acJ n false)))->Ru ab _ S1 ([(p5,aN k),(p4,v4)]++pk M1 [p1,p3]) f) n (λk hk ih f v4 ids U=>?_) 0 aa _ v4 (λ_=>q) U);subst cy;subst b0;have⟨cx,_,_,d6⟩:=(U.sl (e:=gR) (size:=1) (sv:=v4) (vs:=jX ids n k) (n:=k) (full:=true) 0).all;refine Ru.loop (af ?_);refine Ru.cond (λcE=>?_) (λcE=>?_);·have ih:=ih (k+1) aa aa;refine af ?_;refine RO.jy U (n:=n) (λH5 qr U=>?_) (hz:=by rw[eK];simp);rw[eK]at U;refine af ?_;refine RO.push U 1 (λw H6 v6 U=>?_) (ws:=[.slice qr 0 n n true]);have⟨d7,_,_,_⟩:=(U.sl (e:=gR) (size:=1) (sv:=v6) (vs:=jX ids n k++[.slice qr 0 n n true]) (n:=k+1) (full:=true) 1).all;refine af ?_;refine Ru.wk (ih _ v6 (λi=>if i=k then qr else ids i) ?_);have U:=U.bV (aiq (l₁:=[_]));have e1:=Gu (ids:=ids) (n:=n) (M:=acJ k (acJ n false)) (r:=acJ n false) (q:=qr);rw[aiZ,<-List.replicate_succ',ajd]at e1;rw[e1];unfold oH;rw[Gv,<-ahD];exact U
 refine Ru.exitTo ?_;obtain rfl:k=n:=aa;have cR:mB k k (acJ k (acJ k false)):=⟨aC,λb hb=>by rw[bf (by simpa using hb)];simp⟩;have b':∀b v,¬fM (acJ k (acJ k false)) b v:=λb v m=>by
  unfold fM cA at m;by_cases hb:b<k;·rw[show(acJ k (acJ k false)).getD b []=acJ k false by rw[bf (by simpa using hb),List.getElem_replicate]]at m;simp only[ah3,aiI]at m;split at m<;>simp at m
  rw[show(acJ k (acJ k false)).getD b []=[]by rw[ah3,aiJ (by simpa using hb)];rfl]at m;simp at m
 generalize c8:acJ k (acJ k false)=M0 at*;clear c8;refine af ?_;refine Ru.nm λS2 M2 c' b3=>Ru.bI b3 (up (P:=λi=>∀f M,mB k k M->(∀v w:Nat,fM M v w↔∃y,∃hy:y<a.length,y<i/\(v:Int)∈a[y]/\(w:Int)∈a[y]/\v≠w)->ak H f (oH q g E v3 v4 k a.length F c ids k++eU ids k M)->Ru ab _ S2 ([(p6,aN i)]++pk M2 [p1,p3,p4]) f) a.length (λi hi ih f M aw ax U=>?_) 0 aa _ M0 cR (λv w=>⟨λm=>absurd m (b' v w),λ⟨y,_,m,_⟩=>by omega⟩) U);subst c';subst b3;refine Ru.loop (af ?_);refine Ru.cond (λQ=>?_) (λQ=>?_)
 .have ih:=ih (i+1) aa aa;have ay:=acm Q;have d2:=cp _ ay;have ca:=cv _ ay;have Y:=bv _ ay;refine af ?_;refine Ru.nm λS3 M3 a1 J=>Ru.bI J (up (P:=λx=>∀f M',mB k k M'->(∀v w:Nat,fM M' v w↔fM M v w\/∃y,∃hy:y<a[i].length,y<x/\a[i][y]=v/\(w:Int)∈a[i]/\v≠w)->ak H f (oH q g E v3 v4 k a.length F c ids k++eU ids k M')->Ru ab _ S3 ([(p7,aN x)]++pk M3 [p1,p3,p4,p6]) f) a[i].length (λx hx r f M' Z b4 U=>?_) 0 aa _ M aw (λv w=>⟨.inl,λm=>m.resolve_right λ⟨y,_,m,_⟩=>by omega⟩) U);subst a1;subst J;have o:=av.sl U 1 rfl (by rw[bc];exact U.sl (e:=cB) (size:=1) (sv:=v3) (vs:=c) (n:=a.length) (full:=true) 2);refine Ru.loop (af ?_);refine RO.bO (aS.refl _) o (λq9 o9 c9 a2 s a6 hat hrd=>?_) (j:=i);obtain⟨v9,rfl,l⟩:=s;have⟨R,_,_,S⟩:=l.all;refine RO.be (v:=v9) (af ?_) (hc:=hat 0 _ rfl);refine Ru.cond (λB=>?_) (λB=>?_)
  .have r:=r (x+1) aa aa;obtain⟨z0,z1⟩:=Y _ (acm B);obtain⟨z,hz⟩:∃z:Nat,a[i][x]=z:=⟨a[i][x].toNat,aa⟩;have a8:z<k:=aa;refine af ?_;refine Ru.nm λS4 M4 dm b6=>Ru.bI b6 (up (P:=λy=>∀f t,mB k k t->(∀v w:Nat,fM t v w↔fM M' v w\/v=z/\v≠w/\∃j,∃hj:j<a[i].length,j<y/\a[i][j]=w)->ak H f (oH q g E v3 v4 k a.length F c ids k++eU ids k t)->Ru ab _ S4 ([(p8,aN y)]++pk M4 [p1,p3,p4,p6,p7]) f) a[i].length (λy hy X f t p L U=>?_) 0 aa _ M' Z (λv w=>⟨.inl,λm=>m.resolve_right λ⟨_,_,j,_,m,_⟩=>by omega⟩) U);subst dm;subst b6;have o:=av.sl U 1 rfl (by rw[bc];exact U.sl (e:=cB) (size:=1) (sv:=v3) (vs:=c) (n:=a.length) (full:=true) 2);refine Ru.loop (af ?_);refine RO.bO (aS.refl _) o (λq9 o9 c9 a2 s a6 hat hrd=>?_) (j:=i);obtain⟨v9,rfl,l⟩:=s;have⟨R,_,_,S⟩:=l.all;refine RO.be (v:=v9) (af ?_) (hc:=hat 0 _ rfl);refine Ru.cond (λC=>?_) (λC=>?_)
   .have X:=X (y+1) aa aa;obtain⟨u0,u1⟩:=Y _ (acm C);obtain⟨u,hu⟩:∃u:Nat,a[i][y]=u:=⟨a[i][y].toNat,aa⟩;have d':u<k:=aa;refine af ?_;refine Ru.cond (λO=>?_) (λO=>?_)
    .have dr:z≠u:=λe=>O (by
      have e2:a[i][y]=a[i][x]:=by rw[hz,hu,e]
      exact ae2 ca C B e2);obtain⟨q4,cap,ex,rfl⟩:=U.jO (e:=gR) (size:=1) (n:=k) (full:=true) (sv:=v4) 0 rfl aa;have ds:=p.len;have D:=p.row z a8;have a':=Cq (ids:=ids) (n:=k) (k:=k) a8;have cd:(oH q g E v3 (.slice q4 0 k cap ex) k a.length F c ids k++eU ids k t)[4+z]?=some (tS 4 1 ((t.getD z []).map .bool) k true (.slice (ids z) 0 k k true)):=(Ac (X:=oH q g E v3 (.slice q4 0 k cap ex) k a.length F c ids k) (l:=eU ids k t) (i:=z)).trans (vC aa);refine af ?_;refine RO.bO (aS.refl _) o (λq9 o9 c9 a2 s a6 hat hrd=>?_) (j:=i);obtain⟨v9,rfl,l⟩:=s;have⟨R,_,_,S⟩:=l.all;refine RO.be (v:=v9) (af ?_) (hc:=hat 0 _ rfl);refine RO.jk (aS.refl _) l (λq8 o8 dv P=>?_) (j:=x);rw[hz]at P;refine RO.be (v:=aN z) (af ?_) (hc:=P);refine RO.cZ U 0 (hv:=a') (af ?_);refine RO.bO (aS.refl _) o (λq9 o9 c9 a2 s a6 hat hrd=>?_) (j:=i);obtain⟨v9,rfl,l⟩:=s;have⟨R,_,_,S⟩:=l.all;refine RO.be (v:=v9) (af ?_) (hc:=hat 0 _ rfl);refine RO.jk (aS.refl _) l (λq8 o8 dv P=>?_) (j:=y);rw[hu]at P;refine RO.be (v:=aN u) (af ?_) (hc:=P);refine RO.gk (f:=.bool) (zs:=t.getD z []) U (4+z) true D (λH9 U=>af ?_) (hi:=cd);refine Ru.wk (X _ (t.set z ((t.getD z []).set u true)) (p.set a8 (by simpa using D)) (λv w=>?_) ?_)
     .unfold fM at L⊢;rw[M7 aa];by_cases e:v=z
      .subst e;rw[aG rfl,pF aa];by_cases e2:w=u;·subst e2;rw[aG rfl];exact⟨λ_=>.inr ⟨rfl,dr,y,C,aa,hu⟩,λ_=>rfl⟩
       rw[an e2,L];refine or_congr ajH (and_congr ajH (and_congr ajH ⟨λ⟨j,hj,h1,h2⟩=>⟨j,hj,aa,h2⟩,λ⟨j,hj,h1,h2⟩=>⟨j,hj,?_,h2⟩⟩));have:j≠y:=λe=>by subst e;rw[hu]at h2;omega
       omega
      rw[an e,L];simp[e]
     have e1:=MZ (X:=oH q g E v3 (.slice q4 0 k cap ex) k a.length F c ids k) (l:=eU ids k t) (i:=z) (t:=tS 4 1 (((t.getD z []).set u true).map .bool) k true (.slice (ids z) 0 k k true));rw[MY aa]at e1;exact Eq.mp (congrArg (ak H H9) e1) U
    have O:y=x:=ajj.1 O;subst O;refine af ?_;refine Ru.wk (X _ t p (λv w=>?_) U);rw[L];refine or_congr ajH ⟨λ⟨h1,h2,j,hj,h3,A⟩=>⟨h1,h2,j,hj,aa,A⟩,λ⟨h1,h2,j,hj,h3,A⟩=>⟨h1,h2,j,hj,?_,A⟩⟩;have:j≠y:=λe=>by subst e;rw[hz]at A;exact h2 aa
    omega
   refine Ru.exitTo ?_;refine af ?_;refine Ru.wk (r _ t p (λv w=>?_) U);rw[L,b4,or_assoc];refine or_congr ajH ?_;constructor
   .rintro(⟨j,hj,h1,h2⟩|⟨rfl,h2,j,hj,_,A⟩);·exact⟨j,hj,aa,h2⟩
    exact⟨x,B,aa,hz,by rw[<-A];exact acm hj,h2⟩
   rintro⟨j,hj,h1,h2,h3,A⟩;by_cases e:j=x;·subst e;obtain⟨j',ba,e'⟩:=ah0 h3;exact .inr ⟨by rw[hz]at h2;omega,A,j',ba,aa,e'⟩
   exact .inl ⟨j,hj,aa,h2,h3,A⟩
  refine Ru.exitTo ?_;refine af ?_;refine Ru.wk (ih _ M' Z (λv w=>?_) U);rw[b4,ax];constructor
  .rintro(⟨j,hj,h1,h2⟩|⟨j,hj,_,h2,h3,A⟩);·exact⟨j,hj,aa,h2⟩
   exact⟨i,Q,aa,by rw[<-h2];exact acm hj,h3,A⟩
  rintro⟨j,hj,h1,h2,h3,A⟩;by_cases e:j=i;·subst e;have⟨j',ba,e'⟩:=ah0 h2;exact .inr ⟨j',ba,aa,e',h3,A⟩
  exact .inl ⟨j,hj,aa,h2,h3,A⟩
 refine Ru.exitTo ?_;have ds:=aw.len;refine af ?_;refine RO.ji U 1 λH9 v9 U=>?_;have⟨dx,_,_,_⟩:=(U.sl (e:=cB) (size:=1) (sv:=v9) (vs:=[]) (n:=0) (full:=true) 0).all;have U:=U.lU;refine af ?_;refine Ru.nm λS3 M3 a1 J=>Ru.bI J (up (P:=λj=>∀f F' d v9,fA (jD M j) d F'->ak H f (tZ F'::tS cB 1 d j true v9::(oH q g E v3 v4 k a.length F c ids k++eU ids k M))->Ru ab _ S3 ([(eM,aN j),(p9,v9)]++pk M3 [p1,p4]) f) k (λj hj r f F' d v9 ag U=>?_) 0 aa _ [] [] v9 ⟨rfl,λb hb=>by simp[jD]at hb⟩ U);subst a1;subst J;have⟨dx,_,_,_⟩:=(U.sl (e:=cB) (size:=1) (sv:=v9) (vs:=d) (n:=j) (full:=true) 1).all;refine Ru.loop (af ?_);refine RO.eD U 5 (v:=aN k) (af ?_);refine Ru.cond (λV=>?_) (λV=>?_)
 .have r:=r (j+1) aa aa;obtain⟨q4,cap,ex,rfl⟩:=U.jO (e:=gR) (size:=1) (n:=k) (full:=true) (sv:=v4) 2 rfl aa;have a':=Cq (ids:=ids) (n:=k) (k:=k) V;have D:=aw.row j V;have hat:(tZ F'::tS cB 1 d j true v9::(oH q g E v3 (.slice q4 0 k cap ex) k a.length F c ids k++eU ids k M))[6+j]?=some (tS 4 1 ((M.getD j []).map .bool) k true (.slice (ids j) 0 k k true)):=(Ac (X:=tZ F'::tS cB 1 d j true v9::oH q g E v3 (.slice q4 0 k cap ex) k a.length F c ids k) (l:=eU ids k M) (i:=j)).trans (vC aa);refine af ?_;refine RO.cZ U 2 (hv:=a') ?_;refine RO.cl (Gj T (l:=M.getD j []) (by rw[D];exact U.sl (6+j) hat) aa λdy w hl=>?_);have U:=((U.dq hl).as 0 rfl (t':=tR 1 ((fV (M.getD j [])).map aI) (fV (M.getD j [])).length w) λfp hp=>tS.io hp).iC;have⟨dz,_,d0,_⟩:=(show Sl dy 1 ((fV (M.getD j [])).map aI) (fV (M.getD j [])).length w by obtain⟨_,hp⟩:=hl.get 0 rfl;exact cP.sl hp).all;refine af ?_;refine RO.push U 1 (λw0 ea v2 U=>?_) (ws:=[w]) (hl:=gT rfl dz d0 rfl rfl rfl);have⟨eb,ec,ei,_⟩:=(U.sl (e:=cB) (size:=1) (n:=j+1) (full:=true) (sv:=v2) 1).all;refine af ?_;refine Ru.wk (r _ (tR 1 ((fV (M.getD j [])).map aI) (fV (M.getD j [])).length w::F') (d++[w]) v2 ?_ U);have e1:jD M (j+1)=jD M j++[fV (M.getD j [])]:=by simp[jD,aiW]
  rw[e1];exact ag.tE
 refine Ru.exitTo ?_;obtain rfl:j=k:=aa;refine af ?_;refine Ru.aL (h _ v9 a I (jD M j) d F' bb W (by simp[jD]) (λv hv=>?_) ag (U.sub (.cons_cons _ (.cons_cons _ (ajr _)))));rw[jD,bf (by simpa using hv)];simp only[aiD,aju];refine⟨MO _,λx=>?_⟩;rw[z7];constructor;·rintro⟨w,rfl,m⟩;have⟨y,hy,_,h1,h2,h3⟩:=(ax v w).1 m;exact⟨_,acm hy,h1,h2,aa⟩
 rintro⟨N,hN,h1,h2,h3⟩;obtain⟨y,hy,rfl⟩:=ah0 hN;have⟨x0,x1⟩:=bv _ hN x h2;obtain⟨w,rfl⟩:∃w:Nat,x=w:=⟨x.toNat,aa⟩;exact⟨w,rfl,(ax v w).2 ⟨y,hy,aa,h1,h2,aa⟩⟩
end
end
section
variable{g:G.aP}{come:List Bool}{os:List (List bt)}{ap:List Nat}{a:List (List Int)}
theorem mF.OC(V:Vd g)(k:jW g)(l:b9 g come os)(q:eT g come os ap)(e:fN g come os a){n:Nat}(r:g.aQ=n){b:Nat}(hb:b<g.aj.length){pl:List (List Int)}(h:mF g n b pl):CQ g come os a b pl:=by
 obtain⟨v,w,t1,m,o,⟨p,rfl⟩|⟨M,c2,o2,x,f,i,s,t⟩⟩:=h;·refine .inr ⟨?_,rfl⟩;have u:=runK V.qO k V.cK l m o;cases j:come.getD b false with|false=>rfl|true=>rw[(u.cm b).2 j]at p;cases p
 exact aeY V k l q e r hb m o f i s t
theorem G9(V:Vd g){b k:Nat}{pl:List (List Int)}(h:CQ g come os a b pl)(j:k<pl.length)(x:Int):se pl g.params (aE g b) b k x↔(if k=0 then qP g os a b else dh g os a b ((aE g b).aA.length - k)) x:=by
 obtain⟨m,hl,l⟩|⟨_,rfl⟩:=h;rotate_left;·simp at j
 have⟨_,h2⟩:=l k aa;by_cases e:k=0
 .subst e;unfold se qP;rw[h2,ajF];by_cases f:b=0
  .subst f;have i:(aE g 0).params=[]:=by rw[aE];exact V.fm.first
   rw[mE,aG rfl,i];constructor
   .rintro(h|⟨_,h|⟨_,h⟩⟩);·exact .inr h
    .cases h
    exact .inl (G0.2 h)
   rintro(h|h);·exact .inr ⟨rfl,.inr ⟨rfl,G0.1 h⟩⟩
   exact .inl h
  rw[mE,an f];constructor
  .rintro(h|⟨_,h|⟨h,_⟩⟩);·exact .inr h
   .exact .inl h
   exact absurd h f
  rintro(h|h);·exact .inr ⟨rfl,.inl h⟩
  exact .inl h
 rw[an e];unfold se;rw[h2];exact⟨λh=>h.resolve_right λh=>e h.1,.inl⟩
theorem OD{b k:Nat}{pl:List (List Int)}(h:CQ g come os a b pl)(hj:k<pl.length)(e:k<(aE g b).aA.length)(f:0<=((aE g b).aA.getD k default).to)(x:Int):vH pl (aE g b) k x↔x6 g os a b (k+1) x:=by obtain⟨i,hl,j⟩|⟨_,rfl⟩:=h;all_goals grind[vH,x6]
theorem ae5{b k:Nat}(hb:b∈ap)(e:k<=(aE g b).aA.length):dh g os a b ((aE g b).aA.length - k)∈kZ g os a ap:=by
 refine aiG.2 ⟨b,hb,?_⟩;by_cases hl:k<(aE g b).aA.length;·simp only[tQ,adX,acT,aiG,aiO];exact .inl (.inr ⟨k,hl,by simp[qQ]⟩)
 rw[show(aE g b).aA.length - k=0 by omega];exact aid _ (abP.2 rfl)
section
variable{n:Nat}{c:Nat->List (List Int)}{d:List (List Int)}
theorem OE(V:Vd g)(o:jW g)(p:b9 g come os)(m:eT g come os ap)(i:fN g come os a)(q:g.aQ=n)(k:∀b,b<g.aj.length->mF g n b (c b))(l:jZ g c (λb j=>b<g.aj.length/\j<(c b).length) d):∀N∈d,∃C∈kZ g os a ap,∀x,x∈N↔C x:=by
 intro N r;have⟨_,_,b,j,⟨hb,hj⟩,h1⟩:=l.snd N r;have hl:=(k b hb).OC V o p m i q hb;have h:come.getD b false=true/\(c b).length=(aE g b).aA.length+1:=by
  rcases hl with⟨h1,h2,_⟩|⟨_,h2⟩;·exact⟨h1,h2⟩
  rw[h2]at hj;simp at hj
 have e:=(m.mem b).2 h.1;rcases h1 with h1|⟨f,s,h1⟩
 .refine⟨_,?_,λx=>(h1 x).trans (G9 V hl hj x)⟩;split;·exact Om (k:=0) e (Nat.zero_le _)
  grind[ae5]
 exact⟨_,Om (k:=j+1) e f,λx=>(h1 x).trans (OD hl hj f s x)⟩
theorem OF(V:Vd g)(v:jW g)(p:b9 g come os)(q:eT g come os ap)(m:fN g come os a)(w:g.aQ=n)(o:∀b,b<g.aj.length->mF g n b (c b))(f:jZ g c (λb j=>b<g.aj.length/\j<(c b).length) d){C:Int->Prop}(y:C∈kZ g os a ap):∃N∈d,∀x,C x->x∈N:=by
 have⟨b,hb,k,r,h⟩:=aeT y;have s:=(q.mem b).1 hb;have e:=p.lt s;have hl:=(o b e).OC V v p q m w e;have u:(c b).length=(aE g b).aA.length+1:=by
  rcases hl with⟨_,h2,_⟩|⟨h2,_⟩;·exact h2
  rw[s]at h2;cases h2
 cases k with
 |zero=>have⟨N,i,h1⟩:=f.c1 b 0 ⟨e,aa⟩;exact⟨N,i,λx l=>(h1 x).2 ((G9 V hl aa x).2 (by exact h x l))⟩
 |succ k=>
  by_cases t:0<=((aE g b).aA.getD k default).to;·have⟨N,i,h1⟩:=f.c2 b k ⟨e,aa⟩ r t;grind[OD]
  have⟨N,i,h1⟩:=f.c1 b (k+1) ⟨e,aa⟩;refine⟨N,i,λx l=>(h1 x).2 ((G9 V hl aa x).2 ?_)⟩;rcases h x l with⟨h2,h3⟩|h2;·rw[bf aa]at h2 t;have:=(V.oE _ (kY e) _ (Aj r (by rw[<-h2];exact h3))).1;omega
  grind
theorem ae6(V:Vd g)(r:jW g)(s:b9 g come os)(t:eT g come os ap)(i:fN g come os a)(u:g.aQ=n)(k:∀b,b<g.aj.length->mF g n b (c b))(f:jZ g c (λb j=>b<g.aj.length/\j<(c b).length) d){N w:Nat}(v:CP (kZ g os a ap) N)(h1:∀N∈d,N.length<=w)(h2:w=0\/∃N∈d,N.length=w):w=N:=by
 refine Nat.le_antisymm ?_ ?_
 .rcases h2 with h|⟨M,m,e⟩;·omega
  have⟨C,o,h3⟩:=OE V r s t i u k f M m;rw[<-e];exact v.1 C o M (f.snd M m).1 λx p=>(h3 x).1 p
 rcases v.2 with h|⟨C,o,l,hl,q,e⟩;·omega
 have⟨M,m,h3⟩:=OF V r s t i u k f o;have:=Oj hl λx p=>h3 x (q x p);grind
theorem ae7(V:Vd g)(s:jW g)(t:b9 g come os)(u:eT g come os ap)(h:fN g come os a)(w:g.aQ=n)(i:∀b,b<g.aj.length->mF g n b (c b))(k:jZ g c (λb j=>b<g.aj.length/\j<(c b).length) d){cl c2:List (List Int)}(e:G3 (kZ g os a ap) n cl)(hl:c2.length=n)(h2:∀v,v<n->(c2.getD v []).Pairwise (·<·)/\∀x,x∈c2.getD v []↔∃N∈d,(v:Int)∈N/\x∈N/\x≠v):cl=c2:=by
 refine ai2 (by rw[hl,e.len]) λv h3 y=>?_;have l:v<n:=by rw[<-hl];exact y
 have z:=e.Oe v l;have A:=e.mem v l;have⟨b1,b2⟩:=h2 v l;rw[bf h3]at z A;rw[bf y]at b1 b2;refine MP z b1 λx=>(A x).trans (Iff.trans ?_ (b2 x).symm);constructor;·rintro⟨C,m,o,p,q⟩;have⟨M,r,f⟩:=OF V s t u h w i k m;exact⟨M,r,f _ o,f _ p,q⟩
 rintro⟨M,r,o,p,q⟩;have⟨C,m,f⟩:=OE V s t u h w i k M r;exact⟨C,m,(f _).1 o,(f _).1 p,q⟩
end
end
section
variable{ab:Nat->aV}
section
section
variable{g:G.aP}{H:ai}
theorem nG.vc{e a:Int}(h:nG g e)(c:nG g a):e=a:=by rcases h with⟨rfl,h1⟩|⟨rfl,h1,h2⟩|⟨rfl,h1,h2,h3⟩<;>rcases c with⟨rfl,b⟩|⟨rfl,b,d⟩|⟨rfl,b,d,f⟩<;>first|rfl|(exfalso;simp_all)
theorem OG(T:Tb ab)(j:¬Vd g)(l:nk g)(m:lT g){z:AV}(i:z.br=true){a b k:Nat}(n:ab a=.code 8 [.tmp p2,.tmp p3] (Oh z b k))(hb:ab b=.code 19 [.tmp p4,.tmp p5] (Og z)){cs:List AV}(hg:dt H g cs){K:KT}(h:∀H' e,nG g e->aS H H'->K (.tuple [z,aI e]) H'):YN ab a [.agg cs] H K:=by obtain⟨c,rfl,bG⟩:=hg;have⟨o,p,q,r⟩:=bG.all;refine YF.code n aC (au ?_);refine RO.ct (ak.bN H) λH1 s U=>af ?_;refine RO.co U 0 ?_;refine RO.cl (fv:=.func b [] []) (av:=[.agg [.str g.name,aI g.params,aI g.aQ,c],.func k [] []]) (YF.code hb aC ?_);refine au ?_;refine RO.ct U λt u U=>af ?_;refine RO.co U 0 ?_;refine RO.cl (ae8 T j l m (cs:=[.str g.name,aI g.params,aI g.aQ,c]) ⟨c,rfl,bX.block.gp U.gr bG⟩ λv e he d=>?_);have f:=he.ne;refine af ?_;refine Ru.cond (λ_=>af ?_) (λh=>absurd f h);refine Ru.kJ (vs:=[z,aI e]) ⟨rfl,i,rfl,rfl,trivial⟩ (af ?_);exact Ru.kJ (vs:=[z,aI e]) ⟨rfl,i,rfl,rfl,trivial⟩ (h _ e he (U.gr.trans d))
theorem ae9(T:Tb ab)(a:¬Vd g)(b:nk g)(c:lT g){cs:List AV}(hg:dt H g cs){K:KT}(h:∀H' e,nG g e->aS H H'->K (.tuple [aI 0,aI e]) H'):YN ab KJ [.agg cs] H K:=OG T a b c (z:=Go.al.i 3 0) rfl T.K6 T.K8 hg h
theorem afa(T:Tb ab)(a:¬Vd g)(b:nk g)(c:lT g){cs:List AV}(hg:dt H g cs){K:KT}(h:∀H' e,nG g e->aS H H'->K (.tuple [.bh,aI e]) H'):YN ab KK [.agg cs] H K:=OG T a b c rfl T.K7 T.K9 hg h
end
end
section
section
variable{g:G.aP}{H:ai}{cs:List AV}
theorem afb(T:Tb ab)(V:Vd g){a:List Bool}{os:List (List bt)}(b:b9 g a os)(hg:dt H g cs){K:KT}(h:∀H',jW g->aS H H'->K (aI 0) H'):YN ab E9 [.agg cs] H K:=Nr T hg V.fw V.CF (λH' hg c=>h H' c.right hg) (λH' hg d=>by have:=V.iD;rw[d]at this;cases this) (λH' hg _ e=>absurd V.qO e) λH' hg _ _ f i=>absurd (adQ V.qO (Ai V.fw V.iD).1 f V.cK V.gv b (V.oG a os b)) i
theorem afc(T:Tb ab)(d:nk g)(f:lT g){e:Int}(he:nG g e)(hg:dt H g cs){K:KT}(h:∀H',aS H H'->K (aI e) H'):YN ab E9 [.agg cs] H K:=by
 refine Nr T hg d f (λH' hg b=>?_) (λH' hg a=>?_) (λH' hg h1 c=>?_) λH' hg h1 h2 _ i=>?_
 .rcases he with⟨rfl,h1⟩|⟨rfl,_,h1⟩|⟨rfl,_,_,h1⟩;·have:=b.adM;rw[h1]at this;cases this
  .exact absurd b.qO h1
  exact absurd b.right h1
 .rcases he with⟨rfl,_⟩|⟨rfl,h1,_⟩|⟨rfl,h1,_⟩;·exact h _ hg
  .rw[a]at h1;cases h1
  rw[a]at h1;cases h1
 .rcases he with⟨rfl,a⟩|⟨rfl,_⟩|⟨rfl,_,h2,_⟩;·rw[a]at h1;cases h1
  .exact h _ hg
  exact absurd h2 c
 rcases he with⟨rfl,a⟩|⟨rfl,_,c⟩|⟨rfl,_⟩;·rw[a]at h1;cases h1
 .exact absurd h2 c
 exact h _ hg
end
end
section
section
variable{g:G.aP}{H:ai}{cs:List AV}
theorem afd(T:Tb ab)(o:∀{H:ai}{K:KT},(∀H',aS H H'->K (.bool true) H')->YN ab KI [] H K)(hg:dt H g cs)(y:lT g){K:KT}(h:∀H',aS H H'->K (.bool true) H'):YN ab WK [.agg cs] H K:=by
 have ax:=hg.one;have d:=hg;obtain⟨vb,rfl,bG⟩:=hg;have⟨a8,_,_,a'⟩:=bG.all;refine YF.code T.YW aC (af ?_);refine RO.ct (ak.bN H) λH1 q2 U=>af ?_;refine RO.co U 0 ?_;refine RO.cl (AY T (bX.fS U.gr d) (λH2 hg=>?_) (λH2 hg z=>?_));·have U:=U.bR hg;refine af ?_;refine RO.cl (o λH3 hg=>?_);have U:=U.bR hg;refine af ?_;exact Ru.aL (h _ U.gr)
 have U:=U.bR hg;have j:=z.sm;have ba:=j.nb;refine af ?_;refine RO.co U 0 ?_;refine RO.cl (adj T (bX.fS U.gr d) aa (λb hb=>⟨j.bl b hb,j.st b hb,j.ed b hb⟩) λH3 bb hg a=>?_);have U:=U.bR hg;have av:=a.one;have L:=a;obtain⟨wb,rfl,bc⟩:=L;refine RO.dS (ak.bN H3) λH4 q5 hl=>?_;have a:=bX.fS hl.gr a;have U:ak H H4 [tB cJ q5 [.str g.name,aI g.params,aI g.aQ,wb],tB cJ q2 [.str g.name,aI g.params,aI g.aQ,vb]]:=U.dq hl;refine af ?_;refine RO.co U 0 ?_;by_cases V:Vd g;rotate_left;·refine RO.cl (ae9 T V z y a λI e he hg=>?_);have M:=he.ne;have U:=U.bR hg;have a:=bX.fS hg a;refine af ?_;refine RO.co U 0 ?_;refine RO.cl (afa T V z y a λI e' O hg=>?_);obtain rfl:=he.vc O;have U:=U.bR hg;have a:=bX.fS hg a;refine af ?_;refine RO.co U 1 ?_;refine RO.cl (afc T z y he (bX.fS U.gr d) λH6 hg=>?_);have U:=U.bR hg;have a:=bX.fS hg a;refine af ?_;refine RO.co U 0 ?_;refine RO.co U 1 ?_;refine RO.cl (MW T a (bX.fS U.gr d) y j λH8 hg=>?_);have U:=U.bR hg;refine af ?_;refine RO.bW (λf=>absurd rfl f) (λ_=>af ?_);refine Ru.cond (λf=>absurd rfl f) (λ_=>af ?_);refine Ru.cond (λ_=>af ?_) (λf=>absurd M f);refine RO.cl (o λH9 hg=>?_);have U:=U.bR hg;refine af ?_;exact Ru.aL (h _ U.gr)
 have G:=V.qO;have bv:=G.p0;have b0:=G.p1;have⟨l,b3⟩:=Ai z V.iD;obtain⟨n,u⟩:∃n:Nat,g.aQ=n:=⟨g.aQ.toNat,aa⟩;have A:n<=200:=aa;refine RO.cl (aeS T V a λI N ay os ap lv hK hO P Q hg=>?_);have U:=U.bR hg;have a:=bX.fS hg a;refine af ?_;refine RO.co U 0 ?_;refine RO.cl (aeP T V a u aa λI v cl aw b4 a6 b6 p q m i hg c=>?_);have⟨R,_,_,_⟩:=c.all;have U:=U.bR hg;have a:=bX.fS hg a;refine af ?_;refine RO.co U 1 ?_;refine RO.cl (afb T V hK (bX.fS U.gr d) λH6 B hg=>?_);have U:=U.bR hg;have a:=bX.fS hg a;have c:=bX.zZ.gp hg c;refine af ?_;refine RO.co U 0 ?_;refine RO.co U 1 ?_;refine RO.cl (MW T a (bX.fS U.gr d) y j λH8 hg=>?_);have U:=U.bR hg;have c:=bX.zZ.gp hg c;refine af ?_;refine RO.co U 1 ?_;refine RO.cl (ae3 T (bX.fS U.gr d) j G l u A λH9 w NL S r s W X hg=>?_);obtain rfl:=ae6 V B hK hO P u r s Q W X;have U:=U.bR hg;have c:=bX.zZ.gp hg c;refine af ?_;refine RO.bW (λ_=>af ?_) (λf=>absurd rfl f);refine RO.co U 1 (af ?_);refine RO.cl ((ae4 (K:=λv H'=>pD H' cl v/\aS H9 H') T (bX.fS U.gr d) j G l u A λY v2 NL S c2 Z F r s hl h2 D t=>⟨?_,t.gr⟩).mono ?_);·rw[ae7 V B p q m u r s i hl h2];have ag:=D.len;exact D.sl t 0 rfl (by rw[ag,hl];exact t.sl (e:=cB) (size:=1) (vs:=Z) (n:=n) (full:=true) 1)
 rintro v2 Y⟨hv,hg⟩;have⟨R,_,_,_⟩:=hv.all;have U:=U.bR hg;have c:=bX.zZ.gp hg c;have E:cl.length<=1000000/\∀x∈cl,x.length<=1000000:=by
  have hl:=i.len;refine⟨aa,λx J=>?_⟩;obtain⟨k,hk,rfl⟩:=ah0 J;have a1:=i.Oe k aa;have a2:=i.mem k aa;rw[bf hk]at a1 a2;have:=Of (n:=n) (a1.imp λh=>Int.ne_of_lt h) λx J=>by have⟨C,hC,_,h3,_⟩:=(a2 x).1 J;rw[<-u];exact aeL V p q (aeM V p q m hC h3)
  omega
 refine af ?_;refine RO.cl (ac3 T c hv E.1 E.2 (λ_=>af ?_) (λf=>absurd rfl f));refine RO.cl (o λb7 hg=>?_);have U:=U.bR hg;refine af ?_;exact Ru.aL (h _ U.gr)
end
end
end
end Go.al.R
end
