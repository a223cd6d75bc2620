/- A part of the proof. No conditions. -/
import Derived.Test.YtjhkgigolpfcfaaGreatDoorA24
set_option linter.all false
set_option maxHeartbeats 16000000
open List renaming mem_singleton->aep,replicate->ahr,range->ake,getElem?_append_left->akw,length_singleton->akC,range_succ->alb
open Nat renaming le_of_ble_eq_true->akc
noncomputable section
namespace Go.am.R
section
variable{ac:Nat->aG}
section
def dE(ids:Nat->ab)(n:Nat)(M:List (List Bool)):List Th:=(ake M.length).map λi=>tS 4 1 ((M.getD i []).map .bool) n true (.slice (ids i) 0 n n true)
def eP(ids:Nat->ab)(n k:Nat):List AV:=(ake k).map λi=>.slice (ids i) 0 n n true
section
variable{ids:Nat->ab}{n i k:Nat}{M:List (List Bool)}{r:List Bool}{X:List Th}{A H:ai}{v:AV}{q:ab}
theorem xe(hi:i<M.length):(dE ids n M)[i]?=some (tS 4 1 ((M.getD i []).map .bool) n true (.slice (ids i) 0 n n true)):=by simp only[dE,aks,List.getElem?_range hi,akt]
theorem ZW(hi:i<M.length):(dE ids n M).set i (tS 4 1 (r.map .bool) n true (.slice (ids i) 0 n n true))=dE ids n (M.set i r):=by
 apply List.ext_getElem?;intro j;rw[List.getElem?_set];by_cases hj:j<M.length
 .rw[xe (M:=M.set i r) (by simpa using hj),fu hi];by_cases e:i=j;·subst e;rw[aK rfl,aK (by simpa[dE]using hi),aK rfl]
  rw[aq e,aq λh=>e h.symm,xe hj]
 rw[aq af,List.getElem?_eq_none (by simp[dE];omega),List.getElem?_eq_none (by simp[dE];omega)]
theorem O7:dE (λi=>if i=M.length then q else ids i) n (M++[r])=dE ids n M++[tS 4 1 (r.map .bool) n true (.slice q 0 n n true)]:=by
 unfold dE;rw[aj8,akC,alb,akE];congr 1;·refine alk λi hi=>?_;rw[ak3]at hi;dsimp only;rw[aq af];simp[akw hi]
 simp
theorem Q1(hi:i<k):(eP ids n k)[0+i*1]?=some (.slice (ids i) 0 n n true):=by rw[show 0+i*1=i by omega,eP,aks,List.getElem?_range hi];rfl
theorem Q2:eP (λi=>if i=k then q else ids i) n (k+1)=eP ids n k++[.slice q 0 n n true]:=by
 unfold eP;rw[alb,akE];congr 1;·refine alk λi hi=>?_;rw[ak3]at hi;dsimp only;rw[aq af]
 simp
theorem Ku{l:List Th}:(X++l)[X.length+i]?=l[i]?:=by rw[List.getElem?_append_right af];congr 1;omega
theorem ZX{l:List Th}{t:Th}:(X++l).set (X.length+i) t=X++l.set i t:=by rw[List.set_append_right _ _ af];congr 2;omega
theorem Ri(U:aj A H (X++dE ids n M))(i0:Nat)(e:X[i0]?=some (tS 61 1 (eP ids n M.length) M.length true v))(a:∀b,b<M.length->(M.getD b []).length=n):IR H M v:=by
 have d:i0<X.length:=(akR.1 e).1;refine⟨_,U.sl i0 (by rw[akw d];exact e),λk c=>?_⟩;refine⟨.slice (ids k) 0 n n true,?_,?_⟩;·rw[alt,aj9 (by simpa[eP]using c)];simp[eP]
 have:=U.sl (X.length+k) (by rw[Ku];exact xe c);rw[show M[k]=M.getD k []from(bF c _).symm,a k c];exact this
end
def sn(M:List (List Bool)):Nat:=(M.map lr).sum
theorem ZY{M:List (List Bool)}{b v:Nat}(hb:b<M.length)(a:v<(M.getD b []).length)(h:(M.getD b []).getD v false=false):sn (M.set b ((M.getD b []).set v true))+1=sn M:=by unfold sn;rw[List.map_set];have h1:=aeI (l:=M.map lr) (k:=b) (x:=lr ((M.getD b []).set v true)) (by simpa using hb);have h2:=wS a h;simp only[akN]at h1;rw[show M[b]=M.getD b []from(bF hb _).symm]at h1;omega
theorem me.set{nb n b:Nat}{M:List (List Bool)}(h:me nb n M)(hb:b<nb){r:List Bool}(c:r.length=n):me nb n (M.set b r):=by
 have hl:=h.len;refine⟨by simpa using hl,λd a=>?_⟩;rw[fu af];split;·exact c
 exact h.row d a
theorem ZZ{M:List (List Bool)}{b a v:Nat}{r:List Bool}(hb:b<M.length):bS ((M.set b r).getD a []) v↔if a=b then bS r v else bS (M.getD a []) v:=by rw[fu hb];split<;>rfl
theorem AP{B:G.gV}{b a VV:Nat->Prop}{v:Nat}(h:b v->a v):∀i,dD B b VV i v->dD B a VV i v|0,h1=>h h1|i+1,h1=>h1.imp (λh2=>h2.imp id λh3=>⟨AP h i h3.1,h3.2⟩) id
def pb(g:G.bu)(aC:List (List Int))(S:Nat->Nat->Prop)(b v:Nat):Prop:=(dD (aH g b) (λv=>∃w∈lu g b (aC.getD b []),S w.1.toNat v) (λ_=>False) ((aH g b).aD.length+1) v\/∃t,ig g (aC.getD b [])=some t/\S t.toNat v)/\(v:Int)∉(aH g b).params
theorem pb.mono{g:G.bu}{aC:List (List Int)}{S a:Nat->Nat->Prop}(h:∀b v,S b v->a b v){b v:Nat}(h1:pb g aC S b v):pb g aC a b v:=⟨h1.1.imp (AP (λ⟨w,h2,h3⟩=>⟨w,h2,h _ _ h3⟩) _) λ⟨t,h2,h3⟩=>⟨t,h2,h _ _ h3⟩,h1.2⟩
def CU(M:List (List Bool))(b v:Nat):Prop:=bS (M.getD b []) v
def x6(g:G.bu)(a:List Bool)(aC:List (List Int))(n:Nat)(M:List (List Bool)):Prop:=∀Q:Nat->Nat->Prop,(∀b v,a.getD b false=true->v<n->pb g aC Q b v->Q b v)->∀b v,CU M b v->Q b v
structure nq(g:G.bu)(come:List Bool)(aC:List (List Int))(n:Nat)(M:List (List Bool)):Prop where
 Kv:me g.al.length n M
 cl:∀b,b<g.al.length->come.getD b false=true->∀v,v<n->pb g aC (CU M) b v->CU M b v
 snd:x6 g come aC n M
def i6(M:List (List Bool))(k:Nat):List (List Int):=(ake k).map λb=>ev (M.getD b [])
section
variable{g:G.bu}{H:ai}{cs:List AV}
def jt(f h d e:ab)(g:G.bu)(i j:AV)(n:Nat)(F:List Th)(a:List Bool)(b:List AV)(c:Bool)(ids:Nat->ab)(k:Nat):List Th:=[tS 61 1 (eP ids n k) k true j,tZ F,tS Il 1 b g.al.length true (.slice e 0 g.al.length g.al.length true),tS 4 1 (a.map .bool) g.al.length true (.slice d 0 g.al.length g.al.length true),tB Ap h [.slice d 0 g.al.length g.al.length true,.slice e 0 g.al.length g.al.length true,.bool c],tB fI f [.str g.name,aI g.params,aN n,i]]
theorem Z0(T:Tb ac)(hg:iG H g cs)(hB:G.Sm g)(hR:sD g)(cx:g.al.length<=30){n:Nat}(hn:g.bp=n)(b4:n<=6000){K:KT}(h:∀H' v a aC c M q F,fN g (-1) a aC c->(∀b,oF g (-1) a aC c b)->nq g a aC n M->lQ (i6 M g.al.length) q F->aj H H' [tZ F,tS eH 1 q g.al.length true v]->K v H'):YN ac Zh [.agg cs] H K:=by
 have el:=hg.one;have c':=hg;obtain⟨A,rfl,cA⟩:=hg;have⟨b5,_,_,e2⟩:=cA.all;have a0:iy A A=true:=cA.bX;have hS:=hR.sh;have e3:=hS.ne;have a6:∀{s},bm H s->iG s g [.str g.name,aI g.params,aN n,A]:=λhg=>by have:=dQ.nM hg c';rw[hn]at this;exact this
 refine YF.code T.Zv aB ?_;refine au ?_;refine RO.dL (aj.dc H) λH1 B U=>?_;have U:aj H H1 [tB fI B [.str g.name,aI g.params,aI g.bp,A]]:=U;rw[hn]at U;refine ah ?_;refine RO.eQ U 0 ?_;refine ah ?_;refine RO.gI U λH2 J U=>?_;have dm:=U.AU (e:=Ap) (q:=J) (vs:=[.aS,.aS,.bool false]) 0;have cy:∀H0:ai,H0.next=H2.next->(∀j,j∉ [J]->H0.get j=H2.get j)->bm H H0:=λH0 h1 h2=>⟨by rw[h1];exact U.gr.nx,λj hj=>by rw[h2 j ?_,U.gr.dT j hj];rw[aep];intro e;rw[e]at hj;omega⟩;refine RO.CH (is:=[J]) (Q:=λv ns=>∃D C f F a aC c,fN g (-1) a aC c/\(∀b,oF g (-1) a aC c b)/\lQ aC f F/\v=.agg [.slice D 0 g.al.length g.al.length true,.slice C 0 g.al.length g.al.length true,.bool c]/\ns=[tZ F,tS Il 1 f g.al.length true (.slice C 0 g.al.length g.al.length true),tS 4 1 (a.map .bool) g.al.length true (.slice D 0 g.al.length g.al.length true)]) U (λj hj=>by rw[aep]at hj;rw[hj];exact dm.2) (λH0 dr hs=>JQ T (a6 (cy H0 dr hs)) hB hS cx (wo:= -1) λH' D C f F a aC c h1 h2 h3 h4=>⟨_,h4,D,C,f,F,a,aC,c,h1,h2,h3,rfl,rfl⟩) (λfv ns HU hQ e4 U=>?_);obtain⟨D,C,f,F,a,aC,c,R,ds,b6,rfl,rfl⟩:=hQ;refine⟨λaa a8=>?_,?_⟩;·obtain⟨_,a9⟩:=U.get 4 rfl;exact il (i:=B) (o:=3) (v:=A) a8 (by(conv=>lhs;whnf)<;>rfl) (by(conv=>lhs;whnf)<;>rfl) b5 a0 (tB.cell a9 rfl) rfl
 refine RO.Ja U 3 (λH3 U=>⟨λaa a8=>?_,?_⟩);·obtain⟨_,a9⟩:=U.get 4 rfl;exact il (i:=B) (o:=3) (v:=A) a8 (by(conv=>lhs;whnf)<;>rfl) (by(conv=>lhs;whnf)<;>rfl) b5 a0 (tB.cell a9 rfl) rfl
 have dv:=R.lc;have b':=R.lo;have dx:=b6.len;refine ah ?_;refine RO.qS U 1 λH4 v5 U=>?_;have U:aj H H4 (jt B J D C g A v5 n F a f c (λ_=>B) 0++dE (λ_=>B) n []):=U;have⟨dy,_,_,_⟩:=(U.sl (e:=61) (size:=1) (sv:=v5) (vs:=[]) (n:=0) (full:=true) 0).all;refine ah ?_;refine Ru.nm λS1 M1 a' S=>?_;refine Ru.cC S (up (P:=λk=>∀s v5 ids,aj H s (jt B J D C g A v5 n F a f c ids k++dE ids n (ahr k (ahr n false)))->Ru ac _ S1 ([(p6,aN k),(p5,v5)]++pk M1 [p1,p3,p4]) s) g.al.length (λk hk ih s v5 ids U=>?_) 0 af _ v5 (λ_=>B) U);subst a';subst S;have⟨dy,_,_,e5⟩:=(U.sl (e:=61) (size:=1) (sv:=v5) (vs:=eP ids n k) (n:=k) (full:=true) 0).all;refine Ru.loop ?_;refine ah ?_;refine Ru.cond (λdz=>?_) (λdz=>?_);·have ih:=ih (k+1) af af;refine ah ?_;refine RO.gU U 5 (v:=aN n) ?_;refine RO.oT U (n:=n) (λH5 qr U=>?_) (hz:=by rw[iZ];simp);rw[iZ]at U;refine ah ?_;refine RO.push U 1 (λw H6 v6 U=>?_) (ws:=[.slice qr 0 n n true]);have⟨e6,_,_,_⟩:=(U.sl (e:=61) (size:=1) (sv:=v6) (vs:=eP ids n k++[.slice qr 0 n n true]) (n:=k+1) (full:=true) 1).all;refine ah ?_;refine Ru.wk (ih _ v6 (λi=>if i=k then qr else ids i) ?_);have U:=U.cM (akH (l₁:=[_]));have e1:=O7 (ids:=ids) (n:=n) (M:=ahr k (ahr n false)) (r:=ahr n false) (q:=qr);rw[ak9,<-List.replicate_succ',alz]at e1;rw[e1];unfold jt;rw[Q2,<-aj2];exact U
 refine Ru.exitTo ?_;obtain rfl:k=g.al.length:=af;have d0:me g.al.length n (ahr g.al.length (ahr n false)):=⟨aB,λb hb=>by rw[bF (by simpa using hb)];simp⟩;have a1:∀b v,¬CU (ahr g.al.length (ahr n false)) b v:=λb v d=>by
  unfold CU bS at d;by_cases hb:b<g.al.length;·rw[show(ahr g.al.length (ahr n false)).getD b []=ahr n false by rw[bF (by simpa using hb),List.getElem_replicate]]at d;simp only[akm,ak8]at d;split at d<;>simp at d
  rw[show(ahr g.al.length (ahr n false)).getD b []=[]by rw[akm,List.getElem?_eq_none (by simpa using hb)];rfl]at d;simp at d
 generalize d1:ahr g.al.length (ahr n false)=M0 at*;have b3:x6 g a aC n M0:=λQ hQ b v d=>absurd d (a1 b v);clear a1 d1;obtain⟨q5,cap,ex,rfl⟩:=U.uT (e:=61) (size:=1) (n:=g.al.length) (full:=true) (sv:=v5) 0 rfl af;refine ah ?_;refine Ru.nm λS1 M1 a' S=>?_;refine Ru.cC S (dn (P:=λm=>∀s M L,(if L=true then sn M+1 else 0)=m->(L=false->∀b,b<g.al.length->a.getD b false=true->∀v,v<n->pb g aC (CU M) b v->CU M b v)->me g.al.length n M->x6 g a aC n M->aj H s (jt B J D C g A (.slice q5 0 g.al.length cap ex) n F a f c ids g.al.length++dE ids n M)->Ru ac _ S1 ([(p7,.bool L)]++pk M1 [p1,p3,p4,p5]) s) (λm ih s M L hm V o l U=>?_) _ _ M0 true rfl (λd=>by cases d) d0 b3 U);subst a';subst S;refine Ru.loop ?_;refine ah ?_;refine Ru.kN (λba=>?_) (λba=>?_)
 .subst ba;simp only[bq]at hm;refine ah ?_;refine Ru.nm λS2 M2 bb W=>?_;refine Ru.cC W (up (P:=λb=>∀s M L,(L=true->sn M+1<m)->sn M+1<=m->(L=false->∀N,N<b->a.getD N false=true->∀v,v<n->pb g aC (CU M) N v->CU M N v)->me g.al.length n M->x6 g a aC n M->aj H s (jt B J D C g A (.slice q5 0 g.al.length cap ex) n F a f c ids g.al.length++dE ids n M)->Ru ac _ S2 ([(p8,aN b),(p7,.bool L)]++pk M2 [p1,p3,p4,p5]) s) g.al.length (λb hb aw s M L Y a2 V o l U=>?_) 0 af _ M false (λd=>by cases d) af (λ_ N bc=>by omega) o l U);subst bb;subst W;refine Ru.loop ?_;refine ah ?_;refine Ru.cond (λcE=>?_) (λcE=>?_)
  .have aw:=aw (b+1) af af;have d2:=iD (l:=a) (k:=b) dv af;refine ah ?_;refine RO.fD U 3 (hv:=d2) ?_;refine ah ?_;refine Ru.kN (λy=>?_) (λy=>?_)
   .have y:a.getD b false=false:=by simpa using y
    refine Ru.exitTo ?_;refine ah ?_;exact Ru.wk (aw _ M L Y a2 (λd N bc hc=>by
     by_cases e:N=b;·subst e;rw[y]at hc;cases hc
     exact V d N af hc) o l U)
   have y:a.getD b false=true:=by simpa using y
   obtain⟨X,d3⟩:=(R.snd b y).ok hS;have et:=R.jx b y;have ca:=o.len;refine ah ?_;refine RO.eQ U 5 ?_;refine RO.eQ U 4 ?_;refine ah ?_;refine RO.cl (O4 T (a6 U.gr) hB hS hn b4 rfl rfl (b6.sl U 1 rfl (by rw[dx,b'];exact U.sl (e:=Il) (size:=1) (sv:=.slice C 0 g.al.length g.al.length true) (vs:=f) (n:=g.al.length) (full:=true) 2)) b' (Ri U 0 (by rw[ca];rfl) λb hb=>o.row b af) o X af d3 λH5 qo vh d4 hr d5 d6 Z cd cf hl=>?_);have U:=U.fC hl;have⟨ew,_,_,_⟩:=cf.all;refine ah ?_;refine RO.eQ U 6 ?_;refine ah ?_;refine RO.cl (ZV T (a6 U.gr) hB hR hn b4 (U.sl (e:=4) (size:=1) (vs:=d4.map .bool) (n:=n) (full:=true) 0) d5 cf d6 X λH6 vl P d7 a3 d8=>?_);have U:=(U.fC d8).sub (us:=tS 4 1 (P.map .bool) n true vl::(jt B J D C g A (.slice q5 0 g.al.length cap ex) n F a f c ids g.al.length++dE ids n M)) (.cons_cons _ (.cons _ (akL _)));have a4:∀v,v<n->(bS P v↔pb g aC (CU M) b v):=λv hv=>by rw[a3 v hv,pb,cd v hv];refine and_congr_left λ_=>or_congr ⟨AP (Z v hv).1 _,AP (Z v hv).2 _⟩ Iff.rfl
   clear a3 Z cd;have⟨eY,_,_,_⟩:=(U.sl (e:=4) (size:=1) (sv:=vl) (vs:=P.map .bool) (n:=n) (full:=true) 0).all;refine ah ?_;refine Ru.nm λS3 M3 d' cn=>?_;refine Ru.cC cn (up (P:=λx=>∀s p E,(E=true->sn p+1<m)->sn p+1<=m->(E=false->L=false/\p=M/\∀v,v<x->bS P v->CU M b v)->me g.al.length n p->x6 g a aC n p->aj H s (tS 4 1 (P.map .bool) n true vl::(jt B J D C g A (.slice q5 0 g.al.length cap ex) n F a f c ids g.al.length++dE ids n p))->Ru ac _ S3 ([(aY,aN x),(p7,.bool E)]++pk M3 [p1,p3,p4,p5,p8,aR]) s) n (λx hx z s p E bd bv cp u r U=>?_) 0 af _ M L Y a2 (λd=>⟨d,rfl,λv hv=>by omega⟩) o l U);subst d';subst cn;refine Ru.loop ?_;refine ah ?_;refine RO.gU U 6 (v:=aN n) ?_;refine ah ?_;refine Ru.cond (λc3=>?_) (λc3=>?_)
   .have z:=z (x+1) af af;obtain⟨ql,ag,b0,rfl⟩:=U.uT (e:=4) (size:=1) (n:=n) (full:=true) (sv:=vl) 0 rfl af;have O:=iD (l:=P) (k:=x) d7 af;have e0:=u.len;have I:=u.row b X;have ea:=iD (l:=p.getD b []) (k:=x) I af;have ax:=Q1 (ids:=ids) (n:=n) (k:=g.al.length) X;have hat:(tS 4 1 (P.map .bool) n true (.slice ql 0 n ag b0)::(jt B J D C g A (.slice q5 0 g.al.length cap ex) n F a f c ids g.al.length++dE ids n p))[7+b]?=some (tS 4 1 ((p.getD b []).map .bool) n true (.slice (ids b) 0 n n true)):=(Ku (X:=tS 4 1 (P.map .bool) n true (.slice ql 0 n ag b0)::jt B J D C g A (.slice q5 0 g.al.length cap ex) n F a f c ids g.al.length) (l:=dE ids n p) (i:=b)).trans (xe af);have skip:(bS P x->CU p b x)->E=false->L=false/\p=M/\∀v,v<x+1->bS P v->CU M b v:=λh8 d=>by
     obtain⟨c5,c8,c9⟩:=cp d;subst c8;refine⟨c5,rfl,λv hv h7=>?_⟩;by_cases e:v=x;·subst e;exact h8 h7
     exact c9 v af h7
    refine ah ?_;cases ay:P.getD x false with
    |false=>rw[ay]at O;refine RO.fD U 0 (hv:=O) ?_;refine ah ?_;exact Ru.wk (z _ p E bd bv (skip λd=>by rw[bS,ay]at d;cases d) u r U)
    |true=>
     rw[ay]at O;refine RO.fD U 0 (hv:=O) ?_;refine ah ?_;refine RO.fD U 1 (hv:=ax) ?_;refine ah ?_;refine RO.fD U (7+b) (hi:=hat) (hv:=ea) ?_;cases cv:(p.getD b []).getD x false with
     |true=>refine ah ?_;exact Ru.wk (z _ p E bd bv (skip λ_=>cv) u r U)
     |false=>
      refine ah ?_;refine RO.fD U 1 (hv:=ax) ?_;refine ah ?_;refine RO.lC (f:=.bool) (zs:=p.getD b []) U (7+b) true I (λH9 U=>?_) (hi:=hat);refine ah ?_;have e7:=ZY (M:=p) (b:=b) (v:=x) af af cv;refine Ru.wk (z _ (p.set b ((p.getD b []).set x true)) true (λ_=>by omega) af (λd=>by cases d) (u.set X (by simpa using I)) (λQ hQ N v' d=>?_) ?_)
      .unfold CU at d;rw[ZZ af]at d;split at d
       .rename_i e;subst e;rw[m9 af]at d;split at d;·rename_i e;subst e;exact hQ _ _ y af (((a4 v' af).1 ay).mono (l Q hQ))
        exact r Q hQ _ _ d
       exact r Q hQ _ _ d
      have e1:=ZX (X:=tS 4 1 (P.map .bool) n true (.slice ql 0 n ag b0)::jt B J D C g A (.slice q5 0 g.al.length cap ex) n F a f c ids g.al.length) (l:=dE ids n p) (i:=b) (t:=tS 4 1 (((p.getD b []).set x true).map .bool) n true (.slice (ids b) 0 n n true));rw[ZW af]at e1;exact Eq.mp (congrArg (aj H H9) e1) U
   refine Ru.exitTo ?_;refine ah ?_;exact Ru.wk (aw _ p E bd bv (λd N bc hc v hv hq=>by
    obtain⟨c5,c8,c9⟩:=cp d;subst c8;by_cases e:N=b;·subst e;exact c9 v af ((a4 v hv).2 hq)
    exact V c5 N af hc v hv hq) u r U.tail)
  refine Ru.exitTo ?_;refine ah ?_;cases L with|true=>exact Ru.wk (ih _ (by have:=Y rfl;simpa using this) _ M true rfl (λd=>by cases d) o l U)|false=>exact Ru.wk (ih 0 af _ M false rfl (λd N bc=>V d N af) o l U)
 subst ba;have eb:nq g a aC n M:=⟨o,V rfl,l⟩;have ca:=o.len;refine Ru.exitTo ?_;refine ah ?_;refine RO.qS U 1 λH9 t U=>?_;have⟨ec,_,_,_⟩:=(U.sl (e:=eH) (size:=1) (sv:=t) (vs:=[]) (n:=0) (full:=true) 0).all;have U:=U.rl;refine ah ?_;refine Ru.nm λS2 M2 bb W=>?_;refine Ru.cC W (up (P:=λk=>∀s F' q t,lQ (i6 M k) q F'->aj H s (tZ F'::tS eH 1 q k true t::(jt B J D C g A (.slice q5 0 g.al.length cap ex) n F a f c ids g.al.length++dE ids n M))->Ru ac _ S2 ([(bi,aN k),(aX,t)]++pk M2 [p4,p5]) s) g.al.length (λk hk z s F' q t a5 U=>?_) 0 af _ [] [] t ⟨rfl,λb hb=>by simp[i6]at hb⟩ U);subst bb;subst W;have⟨ec,_,_,_⟩:=(U.sl (e:=eH) (size:=1) (sv:=t) (vs:=q) (n:=k) (full:=true) 1).all;refine Ru.loop ?_;refine ah ?_;refine Ru.cond (λav=>?_) (λav=>?_)
 .have z:=z (k+1) af af;have ax:=Q1 (ids:=ids) (n:=n) (k:=g.al.length) av;have I:=o.row k av;have hat:(tZ F'::tS eH 1 q k true t::(jt B J D C g A (.slice q5 0 g.al.length cap ex) n F a f c ids g.al.length++dE ids n M))[8+k]?=some (tS 4 1 ((M.getD k []).map .bool) n true (.slice (ids k) 0 n n true)):=(Ku (X:=tZ F'::tS eH 1 q k true t::jt B J D C g A (.slice q5 0 g.al.length cap ex) n F a f c ids g.al.length) (l:=dE ids n M) (i:=k)).trans (xe af);refine ah ?_;refine RO.fD U 2 (hv:=ax) ?_;refine RO.cl (O3 T (l:=M.getD k []) (by rw[I];exact U.sl (8+k) hat) af λei w hl=>?_);have U:=((U.fC hl).as 0 rfl (t':=tR 1 ((ev (M.getD k [])).map aI) (ev (M.getD k [])).length w) λfp hp=>tS.mg hp).lq;have⟨ej,_,ek,_⟩:=(show Sl ei 1 ((ev (M.getD k [])).map aI) (ev (M.getD k [])).length w by obtain⟨_,hp⟩:=hl.get 0 rfl;exact dU.sl hp).all;refine ah ?_;refine RO.push U 1 (λw0 e8 v2 U=>?_) (ws:=[w]) (hl:=kG rfl ej ek rfl rfl rfl);have⟨e',fa,fb,_⟩:=(U.sl (e:=eH) (size:=1) (n:=k+1) (full:=true) (sv:=v2) 1).all;refine ah ?_;refine Ru.wk (z _ (tR 1 ((ev (M.getD k [])).map aI) (ev (M.getD k [])).length w::F') (q++[w]) v2 ?_ U);have e1:i6 M (k+1)=i6 M k++[ev (M.getD k [])]:=by simp[i6,alb]
  rw[e1];exact a5.wY
 refine Ru.exitTo ?_;obtain rfl:k=g.al.length:=af;refine ah ?_;exact Ru.aV (h _ t a aC c M q F' R ds eb a5 (U.sub (.cons_cons _ (.cons_cons _ (List.nil_sublist _)))))
end
end
section
theorem nq.bX{g:G.bu}{a:List Bool}{aC:List (List Int)}{n:Nat}{M c:List (List Bool)}(h:nq g a aC n M)(d:me g.al.length n c)(he:∀b v,CU c b v↔CU M b v):nq g a aC n c:=⟨d,λb hb e v f i=>(he b v).2 (h.cl b hb e v f (i.mono λb v=>(he b v).1)),λQ j b v k=>h.snd Q j b v ((he b v).1 k)⟩
section
variable{g:G.bu}{H:ai}{cs:List AV}
theorem Z1{a:Type}{l:List a}{x d:a}{b:Nat}:(l++[x]).getD b d=if b=l.length then x else l.getD b d:=by
 simp only[akm,List.getElem?_append];by_cases e:b=l.length;·subst e;simp
 rw[aq e];split;·rfl
 rw[List.getElem?_eq_none (l:=l) af];rw[List.getElem?_eq_none (by simp;omega)]
theorem Z2(T:Tb ac)(hg:iG H g cs)(hB:G.Sm g)(hR:sD g)(X:g.al.length<=30){n:Nat}(hn:g.bp=n)(av:n<=6000){K:KT}(h:∀H' v a aC s M ids,fN g (-1) a aC s->(∀b,oF g (-1) a aC s b)->nq g a aC n M->aj H H' ([tS 61 1 (eP ids n g.al.length) g.al.length true v]++dE ids n M)->K v H'):YN ac Zb [.agg cs] H K:=by
 have ba:=hg.one;have aw:=hg;obtain⟨N,rfl,cA⟩:=hg;have bc:=hR.ne;have ax:∀{d},bm H d->iG d g [.str g.name,aI g.params,aN n,N]:=λhg=>by have:=dQ.nM hg aw;rw[hn]at this;exact this
 refine YF.code T.Zr aB ?_;refine au ?_;refine RO.dL (aj.dc H) λH1 A U=>?_;have U:aj H H1 [tB fI A [.str g.name,aI g.params,aI g.bp,N]]:=U;rw[hn]at U;refine ah ?_;refine RO.eQ U 0 ?_;refine RO.cl (Z0 T (ax U.gr) hB hR X hn av λH2 L a aC s M f F ay a0 C Q hl=>?_);have U:=U.fC hl;have R:=Q.len;have a1:(i6 M g.al.length).length=g.al.length:=by simp[i6]
 rw[a1]at R;have⟨bd,_,_,bv⟩:=(U.sl (e:=eH) (size:=1) (sv:=L) (vs:=f) (n:=g.al.length) (full:=true) 1).all;refine ah ?_;refine RO.qS U 1 λH3 p U=>?_;have U:aj H H3 ([tS 61 1 (eP (λ_=>A) n 0) 0 true p,tZ F,tS eH 1 f g.al.length true L,tB fI A [.str g.name,aI g.params,aN n,N]]++dE (λ_=>A) n []):=U;have⟨a2,_,_,_⟩:=(U.sl (e:=61) (size:=1) (sv:=p) (vs:=[]) (n:=0) (full:=true) 0).all;refine ah ?_;refine Ru.nm λS1 M1 a3 S=>?_;refine Ru.cC S (up (P:=λk=>∀d p ids(q:List (List Bool)),q.length=k->(∀b,b<k->(q.getD b []).length=n/\∀v,CU q b v↔CU M b v)->aj H d ([tS 61 1 (eP ids n k) k true p,tZ F,tS eH 1 f g.al.length true L,tB fI A [.str g.name,aI g.params,aN n,N]]++dE ids n q)->Ru ac _ S1 ([(p5,aN k),(p4,p)]++pk M1 [p1,p3]) d) g.al.length (λk hk ih d p ids q c D U=>?_) 0 af _ p (λ_=>A) [] rfl (λb hb=>by omega) U);subst a3;subst S;have⟨a2,_,_,b0⟩:=(U.sl (e:=61) (size:=1) (sv:=p) (vs:=eP ids n k) (n:=k) (full:=true) 0).all;have b3:=C.Kv.len;refine Ru.loop ?_;refine ah ?_;refine Ru.cond (λE=>?_) (λE=>?_)
 .have ih:=ih (k+1) af af;refine ah ?_;refine RO.oT U (n:=n) (λH5 O U=>?_) (hz:=by rw[iZ];simp);rw[iZ,<-alz]at U;have a':=C.Kv.row k E;have V:(i6 M g.al.length).getD k []=ev (M.getD k []):=by rw[i6,bF (by simpa using E)];simp
  have bb:(ev (M.getD k [])).length<=6000:=by have:=FC (l:=M.getD k []) (M.getD k []).length;unfold ev;omega
  refine ah ?_;refine Ru.nm λS2 a4 a5 u=>?_;refine Ru.cC u (up (P:=λj=>∀d r,r.length=n->(∀v,v<n->(bS r v↔(v:Int)∈(ev (M.getD k [])).take j))->aj H d (tS 4 1 (r.map .bool) n true (.slice O 0 n n true)::([tS 61 1 (eP ids n k) k true p,tZ F,tS eH 1 f g.al.length true L,tB fI A [.str g.name,aI g.params,aN n,N]]++dE ids n q))->Ru ac _ S2 ([(p7,aN j)]++pk a4 [p1,p3,p4,p5,p6]) d) (ev (M.getD k [])).length (λj hj I d r J hr U=>?_) 0 af _ (ahr n false) aB (λv B=>by simp[bS,akm,ak8,B]) U);subst a5;subst u;have x:CX d (i6 M g.al.length) L:=Q.sl U 2 rfl (by rw[R];exact U.sl (e:=eH) (size:=1) (sv:=L) (vs:=f) (n:=g.al.length) (full:=true) 3);refine Ru.loop ?_;refine ah ?_;refine RO.cZ (bm.refl _) x (λq8 o8 c8 a6 l a8 m Y=>?_) (j:=k);rw[show(i6 M g.al.length)[k]=ev (M.getD k [])from(bF _ []).symm.trans V]at l;obtain⟨v8,rfl,t⟩:=l;have⟨Z,_,_,ag⟩:=t.all;refine RO.aW (v:=v8) ?_ (hc:=m 0 _ rfl);refine ah ?_;refine Ru.cond (λo=>?_) (λo=>?_)
  .have I:=I (j+1) af af;obtain⟨z,hz,a9⟩:=zb.1 (agB o);have b4:z<n:=by have:=E2 a9 aB;omega
   refine ah ?_;refine RO.cZ (bm.refl _) x (λq8 o8 c8 a6 l a8 m Y=>?_) (j:=k);rw[show(i6 M g.al.length)[k]=ev (M.getD k [])from(bF _ []).symm.trans V]at l;obtain⟨v8,rfl,t⟩:=l;have⟨Z,_,_,ag⟩:=t.all;refine RO.aW (v:=v8) ?_ (hc:=m 0 _ rfl);refine ah ?_;refine RO.kz (bm.refl _) t (λq9 o9 b5 W=>?_) (j:=j);rw[hz]at W;refine RO.aW (v:=aN z) ?_ (hc:=W);refine ah ?_;refine RO.lC (f:=.bool) (zs:=r) U 0 true J (λH9 U=>?_);refine ah ?_;exact Ru.wk (I _ (r.set z true) (by simpa using J) (λv B=>by
    rw[m9 af,(akd o).symm,ahp,aep,hz];by_cases e:v=z;·subst e;simp
    rw[aq e,hr v B];have:¬((v:Int)=(z:Int)):=af;simp[this]) U)
  refine Ru.exitTo ?_;rw[akl af]at hr;refine ah ?_;refine RO.push U 1 (λw H6 v6 U=>?_) (ws:=[.slice O 0 n n true]);have⟨b6,_,_,_⟩:=(U.sl (e:=61) (size:=1) (sv:=v6) (vs:=eP ids n k++[.slice O 0 n n true]) (n:=k+1) (full:=true) 1).all;refine ah ?_;refine Ru.wk (ih _ v6 (λi=>if i=k then O else ids i) (q++[r]) (by simp[c]) (λb hb=>?_) ?_)
  .unfold CU;rw[Z1,c];by_cases e:b=k
   .subst e;rw[aK rfl];refine⟨J,λv=>?_⟩;constructor
    .intro P;have B:v<n:=by have:=E2 P aB;omega
     obtain⟨y,e,h8⟩:=zb.1 ((hr v B).1 P);obtain rfl:v=y:=af;exact h8
    intro P;have B:v<n:=by have:=E2 P aB;omega
    exact(hr v B).2 (zb.2 ⟨v,rfl,P⟩)
   rw[aq e];exact D b af
  have U:=U.cM (akH (l₁:=[_]));have e1:=O7 (ids:=ids) (n:=n) (M:=q) (r:=r) (q:=O);rw[c]at e1;rw[e1,Q2,<-aj2];exact U
 refine Ru.exitTo ?_;obtain rfl:k=g.al.length:=af;refine ah ?_;refine Ru.aV (h _ p a aC s q ids ay a0 (C.bX ⟨c,λb hb=>(D b hb).1⟩ λb v=>?_) (U.sub (.cons_cons _ (.cons _ (.cons _ (.cons _ (akL _)))))));by_cases hb:b<g.al.length;·exact(D b hb).2 v
 have e1:q.getD b []=[]:=by rw[akm,List.getElem?_eq_none af];rfl
 have e2:M.getD b []=[]:=by rw[akm,List.getElem?_eq_none af];rfl
 unfold CU;rw[e1,e2]
end
end
end
end Go.am.R
end
