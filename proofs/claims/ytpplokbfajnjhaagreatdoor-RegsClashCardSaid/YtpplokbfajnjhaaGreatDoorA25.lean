/- A part. No conditions. -/
import Derived.Test.YtpplokbfajnjhaaGreatDoorA24
set_option linter.all false
set_option maxHeartbeats 16000000
open List renaming replicate->acJ,range->ah7
noncomputable section
namespace Go.al.R
section
variable{ab:Nat->aV}
section
def eU(ids:Nat->ah)(n:Nat)(M:List (List Bool)):List Th:=(ah7 M.length).map λi=>tS 4 1 ((M.getD i []).map .bool) n true (.slice (ids i) 0 n n true)
def jX(ids:Nat->ah)(n k:Nat):List AV:=(ah7 k).map λi=>.slice (ids i) 0 n n true
section
variable{ids:Nat->ah}{n i k:Nat}{M:List (List Bool)}{r:List Bool}{X:List Th}{A H:ai}{v:AV}{q:ah}
theorem vC(hi:i<M.length):(eU ids n M)[i]?=some (tS 4 1 ((M.getD i []).map .bool) n true (.slice (ids i) 0 n n true)):=by simp only[eU,aiw,List.getElem?_range hi,aip]
theorem MY(hi:i<M.length):(eU ids n M).set i (tS 4 1 (r.map .bool) n true (.slice (ids i) 0 n n true))=eU ids n (M.set i r):=by
 apply List.ext_getElem?;intro j;rw[List.getElem?_set];by_cases hj:j<M.length
 .rw[vC (M:=M.set i r) (by simpa using hj),dD hi];by_cases e:i=j;·subst e;rw[aG rfl,aG (by simpa[eU]using hi),aG rfl]
  rw[an e,an λh=>e h.symm,vC hj]
 rw[an aa,aiJ (by simp[eU];omega),aiJ (by simp[eU];omega)]
theorem Gu:eU (λi=>if i=M.length then q else ids i) n (M++[r])=eU ids n M++[tS 4 1 (r.map .bool) n true (.slice q 0 n n true)]:=by
 unfold eU;rw[ahY,aiv,aiW,ail];congr 1;·refine ai7 λi hi=>?_;rw[aiO]at hi;dsimp only;rw[an aa];simp[aij hi]
 simp
theorem Cq(hi:i<k):(jX ids n k)[0+i*1]?=some (.slice (ids i) 0 n n true):=by rw[show 0+i*1=i by omega,jX,aiw,List.getElem?_range hi];rfl
theorem Gv:jX (λi=>if i=k then q else ids i) n (k+1)=jX ids n k++[.slice q 0 n n true]:=by
 unfold jX;rw[aiW,ail];congr 1;·refine ai7 λi hi=>?_;rw[aiO]at hi;dsimp only;rw[an aa]
 simp
theorem Ac{l:List Th}:(X++l)[X.length+i]?=l[i]?:=by rw[ajb aa];congr 1;omega
theorem MZ{l:List Th}{t:Th}:(X++l).set (X.length+i) t=X++l.set i t:=by rw[List.set_append_right _ _ aa];congr 2;omega
theorem M6(U:ak A H (X++eU ids n M))(i0:Nat)(e:X[i0]?=some (tS gR 1 (jX ids n M.length) M.length true v))(a:∀b,b<M.length->(M.getD b []).length=n):Gl H M v:=by
 have d:i0<X.length:=(aiF.1 e).1;refine⟨_,U.sl i0 (by rw[aij d];exact e),λk c=>?_⟩;refine⟨.slice (ids k) 0 n n true,?_,?_⟩;·rw[ajo,ah6 (by simpa[jX]using c)];simp[jX]
 have:=U.sl (X.length+k) (by rw[Ac];exact vC c);rw[show M[k]=M.getD k []from(bf c _).symm,a k c];exact this
end
def tH(M:List (List Bool)):Nat:=(M.map ip).sum
theorem adn{M:List (List Bool)}{b v:Nat}(hb:b<M.length)(a:v<(M.getD b []).length)(h:(M.getD b []).getD v false=false):tH (M.set b ((M.getD b []).set v true))+1=tH M:=by unfold tH;rw[List.map_set];have h1:=Mn (l:=M.map ip) (k:=b) (x:=ip ((M.getD b []).set v true)) (by simpa using hb);have h2:=pB a h;simp only[aiD]at h1;rw[show M[b]=M.getD b []from(bf hb _).symm]at h1;omega
theorem mB.set{nb n b:Nat}{M:List (List Bool)}(h:mB nb n M)(hb:b<nb){r:List Bool}(c:r.length=n):mB nb n (M.set b r):=by
 have hl:=h.len;refine⟨by simpa using hl,λd a=>?_⟩;rw[dD aa];split;·exact c
 exact h.row d a
theorem M7{M:List (List Bool)}{b a v:Nat}{r:List Bool}(hb:b<M.length):cA ((M.set b r).getD a []) v↔if a=b then cA r v else cA (M.getD a []) v:=by rw[dD hb];split<;>rfl
theorem Cr{B:G.dK}{b a pi:Nat->Prop}{v:Nat}(h:b v->a v):∀i,ig B b pi i v->ig B a pi i v|0,h1=>h h1|i+1,h1=>h1.imp (λh2=>h2.imp id λh3=>⟨Cr h i h3.1,h3.2⟩) id
def sa(g:G.aP)(aB:List (List Int))(S:Nat->Nat->Prop)(b v:Nat):Prop:=(ig (aE g b) (λv=>∃w∈fU g b (aB.getD b []),S w.1.toNat v) (λ_=>False) ((aE g b).aA.length+1) v\/∃t,mA g (aB.getD b [])=some t/\S t.toNat v)/\(v:Int)∉(aE g b).params
theorem sa.mono{g:G.aP}{aB:List (List Int)}{S a:Nat->Nat->Prop}(h:∀b v,S b v->a b v){b v:Nat}(h1:sa g aB S b v):sa g aB a b v:=⟨h1.1.imp (Cr (λ⟨w,h2,h3⟩=>⟨w,h2,h _ _ h3⟩) _) λ⟨t,h2,h3⟩=>⟨t,h2,h _ _ h3⟩,h1.2⟩
def fM(M:List (List Bool))(b v:Nat):Prop:=cA (M.getD b []) v
def Ad(g:G.aP)(a:List Bool)(aB:List (List Int))(n:Nat)(M:List (List Bool)):Prop:=∀Q:Nat->Nat->Prop,(∀b v,a.getD b false=true->v<n->sa g aB Q b v->Q b v)->∀b v,fM M b v->Q b v
structure qN(g:G.aP)(come:List Bool)(aB:List (List Int))(n:Nat)(M:List (List Bool)):Prop where
 Gw:mB g.aj.length n M
 cl:∀b,b<g.aj.length->come.getD b false=true->∀v,v<n->sa g aB (fM M) b v->fM M b v
 snd:Ad g come aB n M
def jD(M:List (List Bool))(k:Nat):List (List Int):=(ah7 k).map λb=>fV (M.getD b [])
section
variable{g:G.aP}{H:ai}{cs:List AV}
def nF(f h d e:ah)(g:G.aP)(i v5:AV)(n:Nat)(F:List Th)(a:List Bool)(b:List AV)(c:Bool)(ids:Nat->ah)(k:Nat):List Th:=[tS gR 1 (jX ids n k) k true v5,tZ F,tS uJ 1 b g.aj.length true (.slice e 0 g.aj.length g.aj.length true),tS 4 1 (a.map .bool) g.aj.length true (.slice d 0 g.aj.length g.aj.length true),tB nZ h [.slice d 0 g.aj.length g.aj.length true,.slice e 0 g.aj.length g.aj.length true,.bool c],tB cJ f [.str g.name,aI g.params,aN n,i]]
theorem ado(T:Tb ab)(hg:dt H g cs)(hB:G.Sm g)(hR:ev g)(c':g.aj.length<=30){n:Nat}(hn:g.aQ=n)(cf:n<=6000){K:KT}(h:∀H' v a aB c M q F,lC g (-1) a aB c->(∀b,gM g (-1) a aB c b)->qN g a aB n M->fA (jD M g.aj.length) q F->ak H H' [tZ F,tS cB 1 q g.aj.length true v]->K v H'):YN ab XI [.agg cs] H K:=by
 have e5:=hg.one;have dy:=hg;obtain⟨A,rfl,bG⟩:=hg;have⟨cn,_,_,e'⟩:=bG.all;have a1:eV A A=true:=bG.bK;have hS:=hR.sh;have fa:=hS.ne;have bb:∀{s},aS H s->dt s g [.str g.name,aI g.params,aN n,A]:=λhg=>by have:=bX.fS hg dy;rw[hn]at this;exact this
 refine YF.code T.ZW aC (au ?_);refine RO.ct (ak.bN H) λH1 B U=>?_;have U:ak H H1 [tB cJ B [.str g.name,aI g.params,aI g.aQ,A]]:=U;rw[hn]at U;refine af ?_;refine RO.co U 0 (af ?_);refine RO.dN U λH2 J U=>?_;have dz:=U.px (e:=nZ) (q:=J) (vs:=[.bh,.bh,.bool false]) 0;have dm:∀H0:ai,H0.next=H2.next->(∀j,j∉ [J]->H0.get j=H2.get j)->aS H H0:=λH0 h1 h2=>⟨by rw[h1];exact U.gr.nx,λj hj=>by rw[h2 j ?_,U.gr.cM j hj];rw[abP];intro e;rw[e]at hj;omega⟩;refine RO.uZ (is:=[J]) (Q:=λv ns=>∃D C f F a aB c,lC g (-1) a aB c/\(∀b,gM g (-1) a aB c b)/\fA aB f F/\v=.agg [.slice D 0 g.aj.length g.aj.length true,.slice C 0 g.aj.length g.aj.length true,.bool c]/\ns=[tZ F,tS uJ 1 f g.aj.length true (.slice C 0 g.aj.length g.aj.length true),tS 4 1 (a.map .bool) g.aj.length true (.slice D 0 g.aj.length g.aj.length true)]) U (λj hj=>by rw[abP]at hj;rw[hj];exact dz.2) (λH0 d0 hs=>z8 T (bb (dm H0 d0 hs)) hB hS c' (wo:= -1) λH' D C f F a aB c h1 h2 h3 h4=>⟨_,h4,D,C,f,F,a,aB,c,h1,h2,h3,rfl,rfl⟩) (λfv ns HU hQ fb U=>?_);obtain⟨D,C,f,F,a,aB,c,R,d1,cp,rfl,rfl⟩:=hQ;refine⟨λac bc=>?_,?_⟩;·obtain⟨_,bv⟩:=U.get 4 rfl;exact eo (i:=B) (o:=3) (v:=A) bc (by(conv=>lhs;whnf)<;>rfl) (by(conv=>lhs;whnf)<;>rfl) cn a1 (tB.cell bv rfl) rfl
 refine RO.xK U 3 (λH3 U=>⟨λac bc=>?_,?_⟩);·obtain⟨_,bv⟩:=U.get 4 rfl;exact eo (i:=B) (o:=3) (v:=A) bc (by(conv=>lhs;whnf)<;>rfl) (by(conv=>lhs;whnf)<;>rfl) cn a1 (tB.cell bv rfl) rfl
 have d2:=R.lc;have cv:=R.lo;have d3:=cp.len;refine af ?_;refine RO.ji U 1 λH4 v5 U=>?_;have U:ak H H4 (nF B J D C g A v5 n F a f c (λ_=>B) 0++eU (λ_=>B) n []):=U;have⟨d4,_,_,_⟩:=(U.sl (e:=gR) (size:=1) (sv:=v5) (vs:=[]) (n:=0) (full:=true) 0).all;refine af ?_;refine Ru.nm λS1 M1 b0 S=>Ru.bI S (up (P:=λk=>∀s v5 ids,ak H s (nF B J D C g A v5 n F a f c ids k++eU ids n (acJ k (acJ n false)))->Ru ab _ S1 ([(p6,aN k),(p5,v5)]++pk M1 [p1,p3,p4]) s) g.aj.length (λk hk ih s v5 ids U=>?_) 0 aa _ v5 (λ_=>B) U);subst b0;subst S;have⟨d4,_,_,fd⟩:=(U.sl (e:=gR) (size:=1) (sv:=v5) (vs:=jX ids n k) (n:=k) (full:=true) 0).all;refine Ru.loop (af ?_);refine Ru.cond (λd5=>?_) (λd5=>?_);·have ih:=ih (k+1) aa aa;refine af ?_;refine RO.eD U 5 (v:=aN n) ?_;refine RO.jy U (n:=n) (λH5 qr U=>?_) (hz:=by rw[eK];simp);rw[eK]at U;refine af ?_;refine RO.push U 1 (λw H6 v6 U=>?_) (ws:=[.slice qr 0 n n true]);have⟨fe,_,_,_⟩:=(U.sl (e:=gR) (size:=1) (sv:=v6) (vs:=jX ids n k++[.slice qr 0 n n true]) (n:=k+1) (full:=true) 1).all;refine af ?_;refine Ru.wk (ih _ v6 (λi=>if i=k then qr else ids i) ?_);have U:=U.bV (aiq (l₁:=[_]));have e1:=Gu (ids:=ids) (n:=n) (M:=acJ k (acJ n false)) (r:=acJ n false) (q:=qr);rw[aiZ,<-List.replicate_succ',ajd]at e1;rw[e1];unfold nF;rw[Gv,<-ahD];exact U
 refine Ru.exitTo ?_;obtain rfl:k=g.aj.length:=aa;have d6:mB g.aj.length n (acJ g.aj.length (acJ n false)):=⟨aC,λb hb=>by rw[bf (by simpa using hb)];simp⟩;have a2:∀b v,¬fM (acJ g.aj.length (acJ n false)) b v:=λb v d=>by
  unfold fM cA at d;by_cases hb:b<g.aj.length;·rw[show(acJ g.aj.length (acJ n false)).getD b []=acJ n false by rw[bf (by simpa using hb),List.getElem_replicate]]at d;simp only[ah3,aiI]at d;split at d<;>simp at d
  rw[show(acJ g.aj.length (acJ n false)).getD b []=[]by rw[ah3,aiJ (by simpa using hb)];rfl]at d;simp at d
 generalize d7:acJ g.aj.length (acJ n false)=M0 at*;have cd:Ad g a aB n M0:=λQ hQ b v d=>absurd d (a2 b v);clear a2 d7;obtain⟨q5,cap,ex,rfl⟩:=U.jO (e:=gR) (size:=1) (n:=g.aj.length) (full:=true) (sv:=v5) 0 rfl aa;refine af ?_;refine Ru.nm λS1 M1 b0 S=>Ru.bI S (dn (P:=λm=>∀s M L,(if L=true then tH M+1 else 0)=m->(L=false->∀b,b<g.aj.length->a.getD b false=true->∀v,v<n->sa g aB (fM M) b v->fM M b v)->mB g.aj.length n M->Ad g a aB n M->ak H s (nF B J D C g A (.slice q5 0 g.aj.length cap ex) n F a f c ids g.aj.length++eU ids n M)->Ru ab _ S1 ([(p7,.bool L)]++pk M1 [p1,p3,p4,p5]) s) (λm ih s M L hm V o l U=>?_) _ _ M0 true rfl (λd=>by cases d) d6 cd U);subst b0;subst S;refine Ru.loop (af ?_);refine Ru.eC (λb3=>?_) (λb3=>?_)
 .subst b3;simp only[bi]at hm;refine af ?_;refine Ru.nm λS2 M2 b4 W=>Ru.bI W (up (P:=λb=>∀s M L,(L=true->tH M+1<m)->tH M+1<=m->(L=false->∀N,N<b->a.getD N false=true->∀v,v<n->sa g aB (fM M) N v->fM M N v)->mB g.aj.length n M->Ad g a aB n M->ak H s (nF B J D C g A (.slice q5 0 g.aj.length cap ex) n F a f c ids g.aj.length++eU ids n M)->Ru ab _ S2 ([(p8,aN b),(p7,.bool L)]++pk M2 [p1,p3,p4,p5]) s) g.aj.length (λb hb aw s M L Y a6 V o l U=>?_) 0 aa _ M false (λd=>by cases d) aa (λ_ N b6=>by omega) o l U);subst b4;subst W;refine Ru.loop (af ?_);refine Ru.cond (λdr=>?_) (λdr=>?_)
  .have aw:=aw (b+1) aa aa;have d':=nD (l:=a) (k:=b) d2 aa;refine af ?_;refine RO.cZ U 3 (hv:=d') (af ?_);refine Ru.eC (λy=>?_) (λy=>?_)
   .have y:a.getD b false=false:=by simpa using y
    refine Ru.exitTo ?_;refine af ?_;exact Ru.wk (aw _ M L Y a6 (λd N b6 hc=>by
     by_cases e:N=b;·subst e;rw[y]at hc;cases hc
     exact V d N aa hc) o l U)
   have y:a.getD b false=true:=by simpa using y
   obtain⟨X,ea⟩:=(R.snd b y).ok hS;have e6:=R.iD b y;have cx:=o.len;refine af ?_;refine RO.co U 5 (RO.co U 4 (af ?_));refine RO.cl (MR T (bb U.gr) hB hS hn cf rfl rfl (cp.sl U 1 rfl (by rw[d3,cv];exact U.sl (e:=uJ) (size:=1) (sv:=.slice C 0 g.aj.length g.aj.length true) (vs:=f) (n:=g.aj.length) (full:=true) 2)) cv (M6 U 0 (by rw[cx];rfl) λb hb=>o.row b aa) o X aa ea λH5 qo vh eb hr ec ei Z cy cE hl=>?_);have U:=U.dq hl;have⟨e7,_,_,_⟩:=cE.all;refine af ?_;refine RO.co U 6 (af ?_);refine RO.cl (adm T (bb U.gr) hB hR hn cf (U.sl (e:=4) (size:=1) (vs:=eb.map .bool) (n:=n) (full:=true) 0) ec cE ei X λH6 vl P ej a8 ek=>?_);have U:=(U.dq ek).sub (us:=tS 4 1 (P.map .bool) n true vl::(nF B J D C g A (.slice q5 0 g.aj.length cap ex) n F a f c ids g.aj.length++eU ids n M)) (.cons_cons _ (.cons _ (aiE _)));have a':∀v,v<n->(cA P v↔sa g aB (fM M) b v):=λv hv=>by rw[a8 v hv,sa,cy v hv];refine and_congr_left λ_=>or_congr ⟨Cr (Z v hv).1 _,Cr (Z v hv).2 _⟩ ajH
   clear a8 Z cy;have⟨e8,_,_,_⟩:=(U.sl (e:=4) (size:=1) (sv:=vl) (vs:=P.map .bool) (n:=n) (full:=true) 0).all;refine af ?_;refine Ru.nm λS3 M3 el cR=>Ru.bI cR (up (P:=λx=>∀s p E,(E=true->tH p+1<m)->tH p+1<=m->(E=false->L=false/\p=M/\∀v,v<x->cA P v->fM M b v)->mB g.aj.length n p->Ad g a aB n p->ak H s (tS 4 1 (P.map .bool) n true vl::(nF B J D C g A (.slice q5 0 g.aj.length cap ex) n F a f c ids g.aj.length++eU ids n p))->Ru ab _ S3 ([(ib,aN x),(p7,.bool E)]++pk M3 [p1,p3,p4,p5,p8,eS]) s) n (λx hx z s p E b7 b' c8 u r U=>?_) 0 aa _ M L Y a6 (λd=>⟨d,rfl,λv hv=>by omega⟩) o l U);subst el;subst cR;refine Ru.loop (af ?_);refine RO.eD U 6 (v:=aN n) (af ?_);refine Ru.cond (λds=>?_) (λds=>?_)
   .have z:=z (x+1) aa aa;obtain⟨ql,ag,ca,rfl⟩:=U.jO (e:=4) (size:=1) (n:=n) (full:=true) (sv:=vl) 0 rfl aa;have O:=nD (l:=P) (k:=x) ej aa;have e9:=u.len;have I:=u.row b X;have et:=nD (l:=p.getD b []) (k:=x) I aa;have ax:=Cq (ids:=ids) (n:=n) (k:=g.aj.length) X;have hat:(tS 4 1 (P.map .bool) n true (.slice ql 0 n ag ca)::(nF B J D C g A (.slice q5 0 g.aj.length cap ex) n F a f c ids g.aj.length++eU ids n p))[7+b]?=some (tS 4 1 ((p.getD b []).map .bool) n true (.slice (ids b) 0 n n true)):=(Ac (X:=tS 4 1 (P.map .bool) n true (.slice ql 0 n ag ca)::nF B J D C g A (.slice q5 0 g.aj.length cap ex) n F a f c ids g.aj.length) (l:=eU ids n p) (i:=b)).trans (vC aa);have skip:(cA P x->fM p b x)->E=false->L=false/\p=M/\∀v,v<x+1->cA P v->fM M b v:=λh8 d=>by
     obtain⟨dv,dx,a3⟩:=c8 d;subst dx;refine⟨dv,rfl,λv hv h7=>?_⟩;by_cases e:v=x;·subst e;exact h8 h7
     exact a3 v aa h7
    refine af ?_;cases ay:P.getD x false with
    |false=>rw[ay]at O;refine RO.cZ U 0 (hv:=O) (af ?_);exact Ru.wk (z _ p E b7 b' (skip λd=>by rw[cA,ay]at d;cases d) u r U)
    |true=>
     rw[ay]at O;refine RO.cZ U 0 (hv:=O) (af ?_);refine RO.cZ U 1 (hv:=ax) (af ?_);refine RO.cZ U (7+b) (hi:=hat) (hv:=et) ?_;cases c9:(p.getD b []).getD x false with
     |true=>refine af ?_;exact Ru.wk (z _ p E b7 b' (skip λ_=>c9) u r U)
     |false=>
      refine af ?_;refine RO.cZ U 1 (hv:=ax) (af ?_);refine RO.gk (f:=.bool) (zs:=p.getD b []) U (7+b) true I (λH9 U=>af ?_) (hi:=hat);have fk:=adn (M:=p) (b:=b) (v:=x) aa aa c9;refine Ru.wk (z _ (p.set b ((p.getD b []).set x true)) true (λ_=>by omega) aa (λd=>by cases d) (u.set X (by simpa using I)) (λQ hQ N v' d=>?_) ?_)
      .unfold fM at d;rw[M7 aa]at d;split at d
       .rename_i e;subst e;rw[pF aa]at d;split at d;·rename_i e;subst e;exact hQ _ _ y aa (((a' v' aa).1 ay).mono (l Q hQ))
        exact r Q hQ _ _ d
       exact r Q hQ _ _ d
      have e1:=MZ (X:=tS 4 1 (P.map .bool) n true (.slice ql 0 n ag ca)::nF B J D C g A (.slice q5 0 g.aj.length cap ex) n F a f c ids g.aj.length) (l:=eU ids n p) (i:=b) (t:=tS 4 1 (((p.getD b []).set x true).map .bool) n true (.slice (ids b) 0 n n true));rw[MY aa]at e1;exact Eq.mp (congrArg (ak H H9) e1) U
   refine Ru.exitTo ?_;refine af ?_;exact Ru.wk (aw _ p E b7 b' (λd N b6 hc v hv hq=>by
    obtain⟨dv,dx,a3⟩:=c8 d;subst dx;by_cases e:N=b;·subst e;exact a3 v aa ((a' v hv).2 hq)
    exact V dv N aa hc v hv hq) u r U.tail)
  refine Ru.exitTo (af ?_);cases L with|true=>exact Ru.wk (ih _ (by have:=Y rfl;simpa using this) _ M true rfl (λd=>by cases d) o l U)|false=>exact Ru.wk (ih 0 aa _ M false rfl (λd N b6=>V d N aa) o l U)
 subst b3;have ew:qN g a aB n M:=⟨o,V rfl,l⟩;have cx:=o.len;refine Ru.exitTo ?_;refine af ?_;refine RO.ji U 1 λH9 t U=>?_;have⟨e0,_,_,_⟩:=(U.sl (e:=cB) (size:=1) (sv:=t) (vs:=[]) (n:=0) (full:=true) 0).all;have U:=U.lU;refine af ?_;refine Ru.nm λS2 M2 b4 W=>Ru.bI W (up (P:=λk=>∀s F' q t,fA (jD M k) q F'->ak H s (tZ F'::tS cB 1 q k true t::(nF B J D C g A (.slice q5 0 g.aj.length cap ex) n F a f c ids g.aj.length++eU ids n M))->Ru ab _ S2 ([(ic,aN k),(jA,t)]++pk M2 [p4,p5]) s) g.aj.length (λk hk z s F' q t ba U=>?_) 0 aa _ [] [] t ⟨rfl,λb hb=>by simp[jD]at hb⟩ U);subst b4;subst W;have⟨e0,_,_,_⟩:=(U.sl (e:=cB) (size:=1) (sv:=t) (vs:=q) (n:=k) (full:=true) 1).all;refine Ru.loop (af ?_);refine Ru.cond (λav=>?_) (λav=>?_)
 .have z:=z (k+1) aa aa;have ax:=Cq (ids:=ids) (n:=n) (k:=g.aj.length) av;have I:=o.row k av;have hat:(tZ F'::tS cB 1 q k true t::(nF B J D C g A (.slice q5 0 g.aj.length cap ex) n F a f c ids g.aj.length++eU ids n M))[8+k]?=some (tS 4 1 ((M.getD k []).map .bool) n true (.slice (ids k) 0 n n true)):=(Ac (X:=tZ F'::tS cB 1 q k true t::nF B J D C g A (.slice q5 0 g.aj.length cap ex) n F a f c ids g.aj.length) (l:=eU ids n M) (i:=k)).trans (vC aa);refine af ?_;refine RO.cZ U 2 (hv:=ax) ?_;refine RO.cl (Gj T (l:=M.getD k []) (by rw[I];exact U.sl (8+k) hat) aa λe2 w hl=>?_);have U:=((U.dq hl).as 0 rfl (t':=tR 1 ((fV (M.getD k [])).map aI) (fV (M.getD k [])).length w) λfs hp=>tS.io hp).iC;have⟨e3,_,e4,_⟩:=(show Sl e2 1 ((fV (M.getD k [])).map aI) (fV (M.getD k [])).length w by obtain⟨_,hp⟩:=hl.get 0 rfl;exact cP.sl hp).all;refine af ?_;refine RO.push U 1 (λw0 fl v2 U=>?_) (ws:=[w]) (hl:=gT rfl e3 e4 rfl rfl rfl);have⟨fo,fp,fq,_⟩:=(U.sl (e:=cB) (size:=1) (n:=k+1) (full:=true) (sv:=v2) 1).all;refine af ?_;refine Ru.wk (z _ (tR 1 ((fV (M.getD k [])).map aI) (fV (M.getD k [])).length w::F') (q++[w]) v2 ?_ U);have e1:jD M (k+1)=jD M k++[fV (M.getD k [])]:=by simp[jD,aiW]
  rw[e1];exact ba.tE
 refine Ru.exitTo ?_;obtain rfl:k=g.aj.length:=aa;refine af ?_;exact Ru.aL (h _ t a aB c M q F' R d1 ew ba (U.sub (.cons_cons _ (.cons_cons _ (ajr _)))))
end
end
section
theorem qN.bK{g:G.aP}{a:List Bool}{aB:List (List Int)}{n:Nat}{M c:List (List Bool)}(h:qN g a aB n M)(d:mB g.aj.length n c)(he:∀b v,fM c b v↔fM M b v):qN g a aB n c:=⟨d,λb hb e v f i=>(he b v).2 (h.cl b hb e v f (i.mono λb v=>(he b v).1)),λQ j b v k=>h.snd Q j b v ((he b v).1 k)⟩
section
variable{g:G.aP}{H:ai}{cs:List AV}
theorem adp{a:Type}{l:List a}{x d:a}{b:Nat}:(l++[x]).getD b d=if b=l.length then x else l.getD b d:=by
 simp only[ah3,List.getElem?_append];by_cases e:b=l.length;·subst e;simp
 rw[an e];split;·rfl
 rw[aiJ (l:=l) aa];rw[aiJ (by simp;omega)]
theorem adq(T:Tb ab)(hg:dt H g cs)(hB:G.Sm g)(hR:ev g)(W:g.aj.length<=30){n:Nat}(hn:g.aQ=n)(ag:n<=6000){K:KT}(h:∀H' v a aB q M ids,lC g (-1) a aB q->(∀b,gM g (-1) a aB q b)->qN g a aB n M->ak H H' ([tS gR 1 (jX ids n g.aj.length) g.aj.length true v]++eU ids n M)->K v H'):YN ab Xy [.agg cs] H K:=by
 have b0:=hg.one;have av:=hg;obtain⟨L,rfl,bG⟩:=hg;have b4:=hR.ne;have aw:∀{d},aS H d->dt d g [.str g.name,aI g.params,aN n,L]:=λhg=>by have:=bX.fS hg av;rw[hn]at this;exact this
 refine YF.code T.ZK aC (au ?_);refine RO.ct (ak.bN H) λH1 x U=>?_;have U:ak H H1 [tB cJ x [.str g.name,aI g.params,aI g.aQ,L]]:=U;rw[hn]at U;refine af ?_;refine RO.co U 0 ?_;refine RO.cl (ado T (aw U.gr) hB hR W hn ag λH2 J a aB q M f F ax ay B P hl=>?_);have U:=U.dq hl;have Q:=P.len;have a1:(jD M g.aj.length).length=g.aj.length:=by simp[jD]
 rw[a1]at Q;have⟨b6,_,_,b7⟩:=(U.sl (e:=cB) (size:=1) (sv:=J) (vs:=f) (n:=g.aj.length) (full:=true) 1).all;refine af ?_;refine RO.ji U 1 λH3 v4 U=>?_;have U:ak H H3 ([tS gR 1 (jX (λ_=>x) n 0) 0 true v4,tZ F,tS cB 1 f g.aj.length true J,tB cJ x [.str g.name,aI g.params,aN n,L]]++eU (λ_=>x) n []):=U;have⟨a2,_,_,_⟩:=(U.sl (e:=gR) (size:=1) (sv:=v4) (vs:=[]) (n:=0) (full:=true) 0).all;refine af ?_;refine Ru.nm λS1 M1 a6 R=>Ru.bI R (up (P:=λk=>∀d v4 ids(p:List (List Bool)),p.length=k->(∀b,b<k->(p.getD b []).length=n/\∀v,fM p b v↔fM M b v)->ak H d ([tS gR 1 (jX ids n k) k true v4,tZ F,tS cB 1 f g.aj.length true J,tB cJ x [.str g.name,aI g.params,aN n,L]]++eU ids n p)->Ru ab _ S1 ([(p5,aN k),(p4,v4)]++pk M1 [p1,p3]) d) g.aj.length (λk hk ih d v4 ids p c C U=>?_) 0 aa _ v4 (λ_=>x) [] rfl (λb hb=>by omega) U);subst a6;subst R;have⟨a2,_,_,b'⟩:=(U.sl (e:=gR) (size:=1) (sv:=v4) (vs:=jX ids n k) (n:=k) (full:=true) 0).all;have ca:=B.Gw.len;refine Ru.loop (af ?_);refine Ru.cond (λD=>?_) (λD=>?_)
 .have ih:=ih (k+1) aa aa;refine af ?_;refine RO.jy U (n:=n) (λH5 N U=>?_) (hz:=by rw[eK];simp);rw[eK,<-ajd]at U;have bv:=B.Gw.row k D;have S:(jD M g.aj.length).getD k []=fV (M.getD k []):=by rw[jD,bf (by simpa using D)];simp
  have b3:(fV (M.getD k [])).length<=6000:=by have:=Gi (l:=M.getD k []) (M.getD k []).length;unfold fV;omega
  refine af ?_;refine Ru.nm λS2 a8 a' t=>Ru.bI t (up (P:=λj=>∀d r,r.length=n->(∀v,v<n->(cA r v↔(v:Int)∈(fV (M.getD k [])).take j))->ak H d (tS 4 1 (r.map .bool) n true (.slice N 0 n n true)::([tS gR 1 (jX ids n k) k true v4,tZ F,tS cB 1 f g.aj.length true J,tB cJ x [.str g.name,aI g.params,aN n,L]]++eU ids n p))->Ru ab _ S2 ([(p7,aN j)]++pk a8 [p1,p3,p4,p5,p6]) d) (fV (M.getD k [])).length (λj hj E d r I hr U=>?_) 0 aa _ (acJ n false) aC (λv A=>by simp[cA,ah3,aiI,A]) U);subst a';subst t;have u:pD d (jD M g.aj.length) J:=P.sl U 2 rfl (by rw[Q];exact U.sl (e:=cB) (size:=1) (sv:=J) (vs:=f) (n:=g.aj.length) (full:=true) 3);refine Ru.loop (af ?_);refine RO.bO (aS.refl _) u (λq8 o8 c8 ba l bb m X=>?_) (j:=k);rw[show(jD M g.aj.length)[k]=fV (M.getD k [])from(bf _ []).symm.trans S]at l;obtain⟨v8,rfl,s⟩:=l;have⟨Y,_,_,Z⟩:=s.all;refine RO.be (v:=v8) (af ?_) (hc:=m 0 _ rfl);refine Ru.cond (λo=>?_) (λo=>?_)
  .have E:=E (j+1) aa aa;have⟨z,hz,bc⟩:=z7.1 (acm o);have cd:z<n:=by have:=tC bc aC;omega
   refine af ?_;refine RO.bO (aS.refl _) u (λq8 o8 c8 ba l bb m X=>?_) (j:=k);rw[show(jD M g.aj.length)[k]=fV (M.getD k [])from(bf _ []).symm.trans S]at l;obtain⟨v8,rfl,s⟩:=l;have⟨Y,_,_,Z⟩:=s.all;refine RO.be (v:=v8) (af ?_) (hc:=m 0 _ rfl);refine RO.jk (aS.refl _) s (λq9 o9 cf V=>?_) (j:=j);rw[hz]at V;refine RO.be (v:=aN z) (af ?_) (hc:=V);refine RO.gk (f:=.bool) (zs:=r) U 0 true I (λH9 U=>af ?_);exact Ru.wk (E _ (r.set z true) (by simpa using I) (λv A=>by
    rw[pF aa,(ah9 o).symm,adX,abP,hz];by_cases e:v=z;·subst e;simp
    rw[an e,hr v A];have:¬((v:Int)=(z:Int)):=aa;simp[this]) U)
  refine Ru.exitTo ?_;rw[aic aa]at hr;refine af ?_;refine RO.push U 1 (λw H6 v6 U=>?_) (ws:=[.slice N 0 n n true]);have⟨cn,_,_,_⟩:=(U.sl (e:=gR) (size:=1) (sv:=v6) (vs:=jX ids n k++[.slice N 0 n n true]) (n:=k+1) (full:=true) 1).all;refine af ?_;refine Ru.wk (ih _ v6 (λi=>if i=k then N else ids i) (p++[r]) (by simp[c]) (λb hb=>?_) ?_)
  .unfold fM;rw[adp,c];by_cases e:b=k
   .subst e;rw[aG rfl];refine⟨I,λv=>?_⟩;constructor
    .intro O;have A:v<n:=by have:=tC O aC;omega
     have⟨y,e,h8⟩:=z7.1 ((hr v A).1 O);obtain rfl:v=y:=aa;exact h8
    intro O;have A:v<n:=by have:=tC O aC;omega
    exact(hr v A).2 (z7.2 ⟨v,rfl,O⟩)
   rw[an e];exact C b aa
  have U:=U.bV (aiq (l₁:=[_]));have e1:=Gu (ids:=ids) (n:=n) (M:=p) (r:=r) (q:=N);rw[c]at e1;rw[e1,Gv,<-ahD];exact U
 refine Ru.exitTo ?_;obtain rfl:k=g.aj.length:=aa;refine af ?_;refine Ru.aL (h _ v4 a aB q p ids ax ay (B.bK ⟨c,λb hb=>(C b hb).1⟩ λb v=>?_) (U.sub (.cons_cons _ (.cons _ (.cons _ (.cons _ (aiE _)))))));by_cases hb:b<g.aj.length;·exact(C b hb).2 v
 have e1:p.getD b []=[]:=by rw[ah3,aiJ aa];rfl
 have e2:M.getD b []=[]:=by rw[ah3,aiJ aa];rfl
 unfold fM;rw[e1,e2]
end
end
end
end Go.al.R
end
