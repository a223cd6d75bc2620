/- A part. No conditions. -/
import Derived.Test.YtjapbgcbkolgmaaGreatDoorA11
set_option linter.all false
set_option maxHeartbeats 16000000
open List renaming replicate->aeN
open Nat renaming beq->afw
noncomputable section
namespace Go.al.R
section
variable{ac:Nat->aX}
theorem qL(T:Tb ac){H:ah}{a b n:Int}{K:KT}(c:K (.bool (decide (a<=n/\n<=b))) H):YN ac Wq [aI a,aI b,aI n] H K:=by
 refine YF.code T.Zc aF ?_;refine au ?_;refine RO.bR (λh=>?_) (λh=>?_);·refine aV ?_;refine Ru.aP ?_;simpa[h]using c
 refine aV ?_;refine Ru.aP ?_;simpa[h]using c
def MI(ac:Nat->aX)(fv:AV)(p:Nat->Bool):Prop:=∀r,r<=2147483647->∀{H:ah},YF ac fv [.int 2 (.ofNat r)] H λv a=>v=.bool (p r)/\a=H
theorem aaO(T:Tb ac){H:ah}{fv:AV}{t:List Nat}{p:Nat->Bool}(z:fv.bC=true)(f:MI ac fv p)(hb:∀b∈t,b<256)(g:∀r,128<=r->p r=true){K:KT}(c:∀l(i:Int),aZ H l->decide (0<=i)=t.any p->K (aI i) l):YN ac Xj [.str t,fv,.bool true] H K:=by
 refine YF.code T.aam aF ?_;refine au ?_;refine RO.oQ (aq.ct H) λB q U=>?_;refine au ?_;refine Ru.nm λS M o m=>?_;refine Ru.bT m (up (P:=λk=>∀d,(∀j(h:j<t.length),j<k->p t[j]=false)->aq H d [tX q (.jU t (t.drop k) k)]->Ru ac _ S ([]++pk M [p0,p1,p2,eP]) d) t.length (λk C s d n U=>?_) 0 ab _ (λj _ hj=>by omega) U);subst o;subst m;refine Ru.loop ?_;refine au ?_;by_cases a:k<t.length
 .rw[afv a]at U;have A:=hb _ (adq a);have aB:p t[k]=true->decide ((0:Int)<=(k:Int))=t.any p:=λh=>by rw[List.any_eq_true.2 ⟨_,adq a,h⟩];exact decide_eq_true ab
  by_cases h1:t[k]<128
  .refine RO.aaH U 0 h1 λu U=>?_;refine au ?_;refine RO.cl ((f t[k] ab).mono ?_);rintro v w⟨rfl,rfl⟩;by_cases h2:p t[k]=true;·rw[h2];refine au ?_;refine RO.eq (t:=true) ?_;refine au ?_;exact Ru.aP (c _ _ U.gr (aB h2))
   rw[Bool.not_eq_true]at h2;rw[h2];refine au ?_;refine RO.eq (t:=false) ?_;refine au ?_;exact Ru.wk (s (k+1) ab ab _ (λj hj h=>by
    by_cases e:j=k;·subst e;exact h2
    exact n j hj ab) U)
  have hu:=aaJ hb a ab;have h2:=g _ hu.1;refine RO.aaI U 0 h1 λu U=>?_;refine au ?_;refine RO.cl ((f _ hu.2).mono ?_);rintro v w⟨rfl,rfl⟩;rw[h2];refine au ?_;refine RO.eq (t:=true) ?_;refine au ?_;exact Ru.aP (c _ _ U.gr (aB (g _ ab)))
 rw[agR ab]at U;refine RO.aaG U 0 ?_;refine au ?_;refine Ru.exitTo ?_;refine au ?_;refine Ru.aP (c _ _ U.gr ?_);rw[decide_eq_false ab,eq_comm,List.any_eq_false];intro x y;obtain⟨i,hi,rfl⟩:=afr y;rw[n i hi ab];simp
theorem MJ(T:Tb ac){H:ah}{fv:AV}{t:List Nat}{p:Nat->Bool}(c:fv.bC=true)(d:MI ac fv p)(hb:∀b∈t,b<256)(e:∀r,128<=r->p r=true){K:KT}(f:∀a,aZ H a->K (.bool (t.any p)) a):YN ac W6 [.str t,fv] H K:=by
 refine YF.code T.Z3 aF ?_;refine au ?_;have h2:YN ac Xe [.str t,fv] H λv a=>∃i:Int,v=aI i/\decide (0<=i)=t.any p/\aZ H a:=by refine YF.code T.aaf aF ?_;refine au ?_;refine RO.cl (aaO T c d hb e λa i hg hi=>?_);refine au ?_;exact Ru.aP ⟨i,rfl,hi,hg⟩
 refine RO.cl (h2.mono ?_);rintro v a⟨i,rfl,hi,hg⟩;refine RO.geq (a:=i) (b:=0) ?_;refine au ?_;refine Ru.aP ?_;rw[hi];exact f _ hg
def jB(t:List Nat):Prop:=1<=t.length/\t.length<=40/\∀b∈t,33<=b/\b<=126/\b≠34
def qM(t:List Nat):Prop:=t.length<=200/\∀b∈t,(32<=b/\b<=126)\/b=10
instance{t:List Nat}:Decidable (jB t):=inferInstanceAs(Decidable (_/\_/\_))
instance{t:List Nat}:Decidable (qM t):=inferInstanceAs(Decidable (_/\_))
def Ar(r:Nat):Bool:=decide (r<33)||decide (126<r)||decide (r=34)
def As(r:Nat):Bool:=(decide (r<32)||decide (126<r))&&!decide (r=10)
theorem Hk(T:Tb ac){H:ah}{t:List Nat}(hb:∀b∈t,b<256)(hl:t.length<=1000000){K:KT}(c:∀d,aZ H d->K (.bool (decide (jB t))) d):YN ac Ml [.str t] H K:=by
 refine YF.code T.ZN aF ?_;refine au ?_;refine RO.nJ ?_;refine au ?_;refine RO.cl (qL T (a:=1) (b:=40) (n:=t.length) ?_);by_cases h0:(1:Int)<=t.length/\(t.length:Int)<=40
 .rw[decide_eq_true h0];refine aV ?_;refine RO.cl (MJ T (fv:=.func W5 [] []) (p:=Ar) rfl (λr f=>λ{H}=>?_) hb (λr f=>by simp[Ar];omega) λg hg=>?_)
  .unfold Ar;refine YF.code T.Z2 aF ?_;refine au ?_;refine RO.bR (λh=>?_) (λh=>?_);·refine aV ?_;refine Ru.aP ⟨?_,rfl⟩;simp;omega
   refine aV ?_;refine RO.bR (λh=>?_) (λh=>?_);·refine aV ?_;refine Ru.aP ⟨?_,rfl⟩;simp;omega
   refine aV ?_;refine Ru.aP ⟨?_,rfl⟩;simp;omega
  refine aV ?_;have e:decide (jB t)=!t.any Ar:=by
   rw[agp,decide_eq_true_iff,af4,List.any_eq_false];simp only[jB,Ar];constructor;·intro h b a;have:=h.2.2 b a;simp;omega
   intro h;exact⟨ab,ab,λb a=>by have:=h b a;simp at this;omega⟩
  rw[e]at c;exact Ru.aP (c _ hg)
 rw[decide_eq_false h0];refine aV ?_;have e:decide (jB t)=false:=decide_eq_false λh=>h0 ⟨by have:=h.1;omega,by have:=h.2.1;omega⟩;rw[e]at c;exact Ru.aP (c _ (aZ.refl H))
theorem aaP(T:Tb ac){H:ah}{t:List Nat}(hb:∀b∈t,b<256)(hl:t.length<=1000000){K:KT}(c:∀d,aZ H d->K (.bool (decide (qM t))) d):YN ac Mr [.str t] H K:=by
 refine YF.code T.aan aF ?_;refine au ?_;refine RO.nJ ?_;refine au ?_;refine RO.bR (λh=>?_) (λh=>?_)
 .refine aV ?_;refine RO.cl (MJ T (fv:=.func Xp [] []) (p:=As) rfl (λr f=>λ{H}=>?_) hb (λr f=>by simp[As];omega) λg hg=>?_)
  .unfold As;refine YF.code T.aat aF ?_;refine au ?_;refine RO.bR (λh=>?_) (λh=>?_);·refine aV ?_;refine Ru.aP ⟨?_,rfl⟩;simp;omega
   refine aV ?_;refine RO.bR (λh=>?_) (λh=>?_);·refine aV ?_;refine Ru.aP ⟨?_,rfl⟩;simp;omega
   refine aV ?_;refine Ru.aP ⟨?_,rfl⟩;simp;omega
  refine aV ?_;have e:decide (qM t)=!t.any As:=by
   rw[agp,decide_eq_true_iff,af4,List.any_eq_false];simp only[qM,As];constructor;·intro h b a;have:=h.2 b a;simp;omega
   intro h;exact⟨by simp at*;omega,λb a=>by have:=h b a;simp at this;omega⟩
  rw[e]at c;exact Ru.aP (c _ hg)
 refine aV ?_;have e:decide (qM t)=false:=decide_eq_false λh2=>h (by have:=h2.1;simp;omega);rw[e]at c;exact Ru.aP (c _ (aZ.refl H))
theorem rh:∀{a b:List Nat},ir a b=true↔a=b
 |[],[]=>by simp[ir]
 |a::l,b::m=>by
  simp only[ir,ae9,rh (a:=l) (b:=m),afM];constructor;·exact λh=>⟨afo h.1,h.2⟩
  exact λh=>⟨h.1▸agB a,h.2⟩
 |[],_::_=>by simp[ir]
 |_::_,[]=>by simp[ir]
theorem kf(a b:List Nat):ir a b=decide (a=b):=by
 cases h:ir a b;·symm;rw[decide_eq_false_iff_not];intro e;rw[rh.2 e]at h;cases h
 symm;rw[decide_eq_true_eq];exact rh.1 h
theorem RO.Co{c:Cx}{s:List SI}{L:Kn}{H:ah}{d:Option af}{l:List bA}{x y:aL}{a b:List Nat}(h:RO ac c l s (bq L d (.bool (decide (a=b)))) H)(e:aW L x=.str a:=by exact cw)(f:aW L y=.str b:=by exact cw):RO ac c (⟨d,.lE .eql x y,none,[],[]⟩::l) s L H:=RO.lE (v:=.bool (decide (a=b))) h e rfl f rfl (by simp only[ze,kf])
theorem aaQ(T:Tb ac){H:ah}{t:List Nat}{K:KT}(a:K (.bool (decide (t=[]))) H):YN ac Mp [.str t] H K:=by refine YF.code T.aai aF ?_;refine au ?_;refine RO.Co (b:=[]) ?_;refine au ?_;exact Ru.aP a
def Au:List (List Nat):=[[110,101,103],[110,111,116],[115,105,122,101],[115,104,111,119],[114,101,97,100]]
def Av:List (List Nat):=[[97,100,100],[115,117,98],[109,117,108],[100,105,118],[109,111,100],[108,116],[108,101],[101,113],[106,111,105,110],[98,121,116,101],[115,97,109,101]]
def Aw:List (List Nat):=[[99,117,116]]
def eQ(t:List Nat):Nat:=if t∈Au then 1 else if t∈Av then 2 else if t∈Aw then 3 else 0
theorem MK(T:Tb ac){H:ah}{t:List Nat}{K:KT}(a:K (aN (eQ t)) H):YN ac Xl [.str t] H K:=by
 refine YF.code T.aap aF ?_;refine au ?_;repeat' first|refine RO.Co (RO.bR (λh=>?_) (λh=>?_))|refine RO.aR ?_|refine RO.nil ?_|refine Ru.region ?_|refine Ru.seq ?_|refine Ru.block ?_|refine Ru.skip ?_|refine Ru.bm ?_|refine Ru.ph ?_|refine Ru.mi ?_|refine Ru.aP ?_
 all_goals
  first|(subst_vars;exact a)|
   (
    have e:eQ t=0:=by simp[eQ,Au,Av,Aw, *]
    rw[e]at a;exact a)
abbrev zv:List AV:=[aU 0,aI 0,.str []]
def sd:ah->Unit->List AV->Prop:=λ_ _ cs=>cs=zv
theorem aaR(T:Tb ac){H:ah}{d f:AV}{g:List Unit}{ks:List Nat}(h:cP 3 sd H g d)(i:G0 H ks f)(m:0<g.length)(h0:∀k∈ks,k≠0){K:KT}(j:∀l,aZ H l->K (.bool false) l):YN ac Mt [d,f] H K:=by
 have⟨hd,_,_,hl⟩:=h.all;have⟨p,_,_,r⟩:=i.all;refine YF.code T.aaw aF ?_;refine au ?_;refine Ru.cond (λb=>?_) (λb=>?_);·refine au ?_;exact Ru.aP (j H (aZ.refl H))
 refine au ?_;refine Ru.loop ?_;refine au ?_;refine Ru.cond (λa=>?_) (λa=>absurd m a);refine au ?_;refine RO.bY (aZ.refl H) h λq o cs hj n t hat hrd=>?_;cases n;refine aV ?_;refine RO.eL (aq.ct H) λu v U=>?_;refine aV ?_;refine RO.fc U 0 (λw U=>?_);refine aV ?_;refine RO.fO U.gr i (λx o2 c s=>?_) (hj:=by omega);refine aV ?_;refine Ru.cond (λa=>?_) (λa=>?_);·refine aV ?_;exact Ru.aP (j _ U.gr)
 exact(a λe=>h0 _ (adq c) e.symm).elim
theorem aaS(T:Tb ac){H:ah}{K:KT}(b:∀a q,aq H a [tB Cu q zv]->K (.bool true) a):YN ac Hf [.agg zv] H K:=by refine YF.code T.aar aF ?_;refine au ?_;refine RO.dp (aq.ct H) λc q U=>?_;refine aV ?_;refine RO.dj U 0 ?_;refine aV ?_;refine RO.eq (t:=true) ?_;refine aV ?_;exact Ru.aP (b _ q U)
theorem aaT(T:Tb ac){H:ah}{f:AV}{c:List Unit}(g:cP 3 sd H c f)(m:c.length<=4){K:KT}(i:∀b,aZ H b->K (.bool true) b):YN ac Xm [f,.func Hf [] []] H K:=by
 have j:na ac H (.func Hf [] []) sd true (λ_:Unit=>[]) (λ_=>True) (λs _=>(true,s)) c:=by rintro s a cs H us _ _ rfl U;refine aaS T λb q d=>⟨rfl,trivial,[tB Cu q zv],by simpa using U.eO d⟩
 have e:∀(l:List Unit)s,dC (λ(s:Unit)(_:Unit)=>(true,s)) s l=(true,s):=λl=>by induction l with|nil=>intro s;rfl|cons a l k=>intro s;simpa[dC]using k s
 refine Aq T.aaq bo T.aau bo T.aax (size:=3) (agg:=true) bo (λh=>by cases h) (st:=λs _=>(true,s)) (T:=λ_:Unit=>[]) (I:=λ_=>True) (s:=()) (us:=[]) rfl rfl rfl (MG T.aav bo rfl (λa cs h=>by cases h;exact⟨rfl,rfl⟩) j) (λa cs h=>by cases h;rfl) g ab trivial (aq.ct H) λb n _ U=>?_;rw[e];exact i b U.gr
def nz:AV->Bool
 |.int 4 (.ofNat (_+1))=>true
 |_=>false
theorem ML:∀{b:List AV},b.all nz=true->∃a:List Nat,b=a.map aU/\∀k∈a,k≠0
 |[],_=>⟨[],rfl,λ_ h=>by cases h⟩
 |w::b,h=>by
  simp only[List.all_cons,ae9]at h;obtain⟨a,e,h2⟩:=ML h.2;have h1:=h.1;unfold nz at h1;split at h1;·rename_i k;exact⟨(k+1)::a,by rw[e];rfl,λj hj=>(acn.1 hj).elim (λe=>by omega) (h2 j)⟩
  cases h1
theorem RO.bsK{B:ah}{c:Cx}{s:List SI}{L:Kn}{H:ah}{d:Option af}{l:List bA}{e n:Nat}{f a:List AV}{g:List (Nat×Nat×aL)}(j:aZ B H)(h:∀v b,aZ B b->Sl b 1 a a.length v->v.bC=true->RO ac c l s (bq L d v) b)(hl:mB L (eo f n) g=some a:=by exact cw)(k:a.length=n:=by rfl)(h1:cL a=true:=by rfl):RO ac c (⟨d,.buildSlice e n f g,none,[],[]⟩::l) s L H:=by subst k;refine RO.buildSlice ?_ hl h1;have i:cM (H.new (.cells (bX a) (a.length*1) e true [] 0)) [H.next] e 1 a a.length true (.slice H.next 0 a.length a.length true):=cM.new (agU _).symm true true;rw[agU]at i;exact h _ _ (j.trans (aZ.new H _)) i.sl rfl
theorem aaV(T:Tb ac){B H:ah}{c d:AV}{e:List Unit}{b:List AV}(f:aZ B H)(g:cP 3 sd B e c)(i:0<e.length)(j:Sl H 1 b b.length d)(h0:b.all nz=true){K:KT}(k:∀a,aZ B a->K (.bool false) a):YN ac Mt [c,d] H K:=by obtain⟨ks,rfl,h1⟩:=ML h0;exact aaR T (ks:=ks) (cY.lx (λ_ h=>h) f g) (by simpa using j) i h1 λa hg=>k a (f.trans hg)
theorem aaW(T:Tb ac){H:ah}{t:List Nat}{b:AV}{c:List Unit}(d:cP 3 sd H c b)(f:0<c.length){K:KT}(g:∀e,aZ H e->K (.bool false) e):YN ac Xn [.str t,b] H K:=by
 have⟨hd,_,_,_⟩:=d.all;have a:=aZ.refl H;refine YF.code T.aas aF ?_;repeat' first|refine RO.Co (RO.bR (λ_=>?_) (λ_=>?_))|refine RO.aR ?_|refine RO.nil ?_|refine RO.bsK a (λ_ _ a hs _=>?_)|(refine RO.cl (aaV T a d f hs rfl λ_ a=>?_))|refine Ru.region ?_|refine Ru.seq ?_|refine Ru.block ?_|refine Ru.skip ?_|refine Ru.bm ?_|refine Ru.ph ?_|refine Ru.mi ?_|refine RO.Ag ?_|refine RO.LS ?_|refine RO.GQ ?_|refine RO.GR ?_|refine Ru.aP ?_
 all_goals exact g _ (by assumption)
theorem aaX(T:Tb ac){H:ah}{t:List Nat}{g:AV}{b:List Unit}(d:cP 3 sd H b g)(hl:b.length<=eQ t)(h0:0<eQ t){K:KT}(c:∀i,aZ H i->K (.tuple [.agg zv,.str [],aN (if b.length=eQ t then 11 else 2)]) i):YN ac Mq [.str t,g] H K:=by
 have⟨hd,_,_,j⟩:=d.all;have h3:eQ t<=3:=by unfold eQ;split<;>(try split)<;>(try split)<;>omega
 refine YF.code T.MB aF ?_;refine au ?_;refine RO.eL (aq.ct H) λk q U=>?_;refine aV ?_;refine RO.cl (MK T ?_);refine aV ?_;refine Ru.cond (λ(h:eQ t=0)=>absurd h ab) (λ_=>?_);refine aV ?_;refine Ru.cond (λh=>?_) (λh=>?_);·refine aV ?_;refine RO.dj U 0 ?_;refine RO.fc U 0 (λf U=>?_);refine aV ?_;have a:b.length≠eQ t:=λe=>h (by rw[e]);rw[ap a]at c;exact Ru.iY (vs:=[_,_,_]) ⟨⟨q,0,rfl,U.agg 0⟩,rfl,rfl,rfl,rfl,trivial⟩ (c _ U.gr)
 have a:b.length=eQ t:=agJ.1 h;rw[aJ a]at c;refine aV ?_;refine RO.cl (aaT T (cY.lx (λ_ h=>h) U.gr d) ab λf hg=>?_);have U:=U.cq hg;refine aV ?_;refine RO.cl (aaW T (cY.lx (λ_ h=>h) U.gr d) ab λf hg=>?_);have U:=U.cq hg;refine aV ?_;refine RO.dj U 0 ?_;refine RO.fc U 0 (λf U=>?_);refine aV ?_;exact Ru.iY (vs:=[_,_,_]) ⟨⟨q,0,rfl,U.agg 0⟩,rfl,rfl,rfl,rfl,trivial⟩ (c _ U.gr)
theorem aaY(T:Tb ac){H:ah}{t:List Nat}{a:AV}{c:List Unit}(d:cP 3 sd H c a)(h0:eQ t=0){K:KT}(e:∀b,aZ H b->K (.tuple [.agg zv,.str [],aN 10]) b):YN ac Mq [.str t,a] H K:=by have⟨hd,_,_,f⟩:=d.all;refine YF.code T.MB aF ?_;refine au ?_;refine RO.eL (aq.ct H) λg q U=>?_;refine aV ?_;refine RO.cl (MK T ?_);refine aV ?_;refine Ru.cond (λ_=>?_) (λh=>absurd h0 h);refine aV ?_;refine RO.dj U 0 ?_;refine RO.fc U 0 (λi U=>?_);refine aV ?_;exact Ru.iY (vs:=[_,_,_]) ⟨⟨q,0,rfl,U.agg 0⟩,rfl,rfl,rfl,rfl,trivial⟩ (e _ U.gr)
theorem MM{H:ah}{k:Nat}{a:AV}(b:k<=3)(h:Sl H 3 ((eo zv 4).take (k*3)) k a):cP 3 sd H (aeN k ()) a:=by
 refine⟨_,by simpa using h,λj hj=>?_⟩;simp only[agx]at hj;match k,b with
  |0,_=>omega
  |1,_=>match j,hj with|0,_=>rfl
  |2,_=>match j,hj with|0,_=>rfl|1,_=>rfl
  |3,_=>match j,hj with|0,_=>rfl|1,_=>rfl|2,_=>rfl
theorem aaZ(T:Tb ac){H:ah}{t:List Nat}(h0:0<eQ t){K:KT}(e:∀c,aZ H c->K (.tuple [aN (eQ t),.bool true]) c):YN ac Mo [.str t] H K:=by
 have h3:eQ t<=3:=by unfold eQ;split<;>(try split)<;>(try split)<;>omega
 refine YF.code T.MA aF ?_;refine au ?_;refine RO.ls (aq.ct H) (n:=4) (λm q U=>?_) (hz:=rfl);refine au ?_;refine Ru.nm λS M f d=>?_;refine Ru.bT d (up (P:=λk=>∀b,aq H b [tS Cu 3 (eo zv 4) 4 true (.slice q 0 4 4 true)]->Ru ac _ S ([(jy,aN k)]++pk M [p0,p4,eP,eK]) b) (eQ t) (λk g i b U=>?_) 0 ab _ U);subst f;subst d;refine Ru.loop ?_;refine au ?_;refine Ru.cond (λ(j:k<4)=>?_) (λh=>absurd (show k<4 by omega) h);refine au ?_;refine RO.LZ (U.sl 0) (λl hs=>?_);have hz:=MM ab hs;have hd:=hz.bC;refine au ?_;refine RO.cl (aaX T hz (by simpa using g) h0 λn hg=>?_);have U:=U.cq hg;rw[agx];refine au ?_;refine RO.ff U (λo p U=>?_);refine au ?_;by_cases a:k=eQ t;·rw[aJ a];refine aV ?_;refine Ru.mz ?_;rw[a];exact e _ U.gr
 rw[ap a];refine aV ?_;exact Ru.wk (i (k+1) ab ab _ U.tail)
theorem aa0(T:Tb ac){H:ah}{t:List Nat}(h0:eQ t=0){K:KT}(d:∀b,aZ H b->K (.tuple [aN 0,.bool false]) b):YN ac Mo [.str t] H K:=by
 refine YF.code T.MA aF ?_;refine au ?_;refine RO.ls (aq.ct H) (n:=4) (λj q U=>?_) (hz:=rfl);refine au ?_;refine Ru.nm λS M e c=>?_;refine Ru.bT c (up (P:=λk=>∀a,aq H a [tS Cu 3 (eo zv 4) 4 true (.slice q 0 4 4 true)]->Ru ac _ S ([(jy,aN k)]++pk M [p0,p4,eP,eK]) a) 4 (λk l f a U=>?_) 0 ab _ U);subst e;subst c;refine Ru.loop ?_;refine au ?_;refine Ru.cond (λ(g:k<4)=>?_) (λh=>?_);·refine au ?_;refine RO.LZ (U.sl 0) (λi hs=>?_);have hz:=MM ab hs;have hd:=hz.bC;refine au ?_;refine RO.cl (aaY T hz h0 λm hg=>?_);have U:=U.cq hg;refine au ?_;refine RO.ff U (λn o U=>?_);refine aV ?_;exact Ru.wk (f (k+1) ab ab _ U.tail)
 refine Ru.exitTo ?_;refine au ?_;refine Ru.mz ?_;exact d _ U.gr
structure ly where
 ul:Bool
 Ax:Int
 Ay:Int
 nm:Nat
 yM:Int
 yN:Int
def um:Nat->AV
 |0=>.func Mp [] []
 |1=>.func Ml [] []
 |_=>.func Mr [] []
def se(r:ly):AV:=.agg [.bool r.ul,aI r.Ax,aI r.Ay,um r.nm,aI r.yM,aI r.yN]
def lX:List (Nat×ly):=[(1,⟨true,0,0,0, -1000000000,1000000000⟩),(2,⟨true,0,0,0,0,1⟩),(3,⟨true,0,0,2,0,0⟩),(4,⟨true,0,0,0,0,0⟩),(11,⟨true,0,0,1,0,0⟩),(40,⟨true,0,1073741824,1,0,0⟩),(15,⟨true,0,6,1,0,0⟩),(18,⟨true,0,6,1,0,0⟩),(37,⟨true,0,0,1,0,0⟩),(38,⟨false,1,1,1,0,0⟩),(16,⟨true,1,1,1,0,5⟩),(17,⟨false,2,2,1,0,5⟩),(23,⟨false,1,1,0,0,0⟩),(24,⟨true,0,0,0,1,8⟩),(25,⟨false,2,2,0,0,0⟩),(26,⟨true,1,1,0,0,0⟩),(31,⟨false,0,0,0,0,0⟩),(32,⟨false,1,1,0,0,0⟩),(33,⟨true,0,0,0,0,0⟩),(34,⟨false,0,0,0,0,0⟩),(35,⟨true,1,1,0,0,0⟩),(39,⟨false,0,0,0,0,0⟩),(64,⟨true,1,1,0,0,3⟩)]
def pD:Nat->List (Nat×ly)->List aT
 |_,[]=>[]
 |b,p::l=>⟨aU p.1,se p.2,b⟩::pD (b+1) l
def sf(op:Nat):List (Nat×ly)->Nat->Option (Nat×ly)
 |[],_=>none
 |p::l,i=>if op=p.1 then some (i,p.2)else sf op l (i+1)
theorem DQ(op:Nat):∀l b i,findKey .int (aU op) (pD b l) i=some ((sf op l i).map λp=>(p.1,se p.2))
 |[],_,_=>rfl
 |p::l,b,i=>by
  have e:cQ 64 .int (aU op) (aU p.1)=some (decide (op=p.1)):=by
   show(if(4:Nat)=4 then some (fU (.ofNat op) (.ofNat p.1))else none)=_;rw[aJ rfl];congr 1;by_cases h:op=p.1;·simp[fU,h]
   simp only[fU,h,decide_false];cases hb:afw op p.1 with|false=>rfl|true=>exact absurd (afo hb) h
  simp only[pD,findKey,e,sf];by_cases h:op=p.1;·simp[h]
  simp only[h,decide_false,bD];exact DQ op l (b+1) (i+1)
theorem aa1(T:Tb ac){H:ah}{b:Bool}{n:Int}{K:KT}(c:∀a,aZ H a->K (se ⟨b,n,n,0,0,0⟩) a):YN ac Xk [.bool b,aI n] H K:=by refine YF.code T.aao aF ?_;refine au ?_;refine RO.eL (aq.ct H) λd q U=>?_;refine aV ?_;refine RO.fc U 0 (λe U=>?_);refine aV ?_;exact Ru.iY (vs:=[_]) ⟨⟨q,0,rfl,U.agg 0⟩,trivial⟩ (c _ U.gr)
theorem DR(T:Tb ac){H:ah}{b:Bool}{n m:Int}{K:KT}(c:∀a,aZ H a->K (se ⟨b,n,m,1,0,0⟩) a):YN ac Xg [.bool b,aI n,aI m] H K:=by refine YF.code T.aah aF ?_;refine au ?_;refine RO.eL (aq.ct H) λd q U=>?_;refine aV ?_;refine RO.fc U 0 (λe U=>?_);refine aV ?_;exact Ru.iY (vs:=[_]) ⟨⟨q,0,rfl,U.agg 0⟩,trivial⟩ (c _ U.gr)
theorem MN:∀(l:List (Nat×ly))(b:Nat)(p:Nat×ly),pD b (l++[p])=pD b l++[⟨aU p.1,se p.2,b+l.length⟩]|[],_,_=>rfl|a::l,b,p=>by simp only[agb,pD,MN l (b+1) p,afB,agM,Nat.add_comm 1]
theorem RO.aa2{t:Cx}{s:List SI}{L:Kn}{H A:ah}{d:Option af}{l:List bA}{q:af}{f:List Th}{k op:Nat}{r:ly}{m w:aL}(U:aq A H (tX q (.map (pD 0 (lX.take k)) k)::f))(g:lX[k]?=some (op,r))(h:∀a,aq A a (tX q (.map (pD 0 (lX.take (k+1))) (k+1))::f)->RO ac t l s (bq L d .ahp) a)(i:sf op (lX.take k) 0=none:=by rfl)(j:aW L m=.map q:=by exact cw)(n:aW L w=se r:=by exact cw):RO ac t (⟨d,.iP .int m (.c (aU op)) w,none,[],[]⟩::l) s L H:=by
 refine RO.aaL U 0 (kv:=aU op) (λa b=>h a ?_) rfl j rfl n rfl rfl rfl (by show findKey .int (aU op) _ 0=_;rw[DQ,i];rfl);obtain⟨p,_⟩:=af3.1 g;have e:lX.take (k+1)=lX.take k++[(op,r)]:=by rw[List.take_add_one,g];rfl
 have o:(lX.take k).length=k:=by rw[afH];omega
 rw[e,MN,o,afC];exact b
theorem aa3(T:Tb ac){H:ah}{K:KT}(b:∀a q,aq H a [tX q (.map (pD 0 lX) 23)]->K (.map q) a):YN ac Xh [] H K:=by
 refine YF.code T.aaj aF ?_;refine au ?_;refine RO.aaK (aq.ct H) λc q U=>?_;have U:aq H c (tX q (.map (pD 0 (lX.take 0)) 0)::[]):=U;repeat first|refine RO.build ?_|refine RO.aa2 U rfl (λ_ U=>?_)|(refine RO.cl (aa1 T λ_ hg=>?_);have U:=U.cq hg)|(refine RO.cl (DR T λ_ hg=>?_);have U:=U.cq hg)|refine RO.aR ?_|refine RO.nil ?_
 exact Ru.aP (b _ q U)
def mF(s:G.d9):Option ly:=
 if s.op=14 then(if 0<eQ s.i7 then some ⟨true,eQ s.i7,eQ s.i7,1,0,0⟩else none)
 else if s.op=13 then(if s.m=1 then some ⟨true,0,6,1,0,0⟩else some ⟨true,1,7,0,0,0⟩)
 else(sf s.op lX 0).map (·.2)
theorem aa4(T:Tb ac){H:ah}{s:G.d9}{cs:List AV}(hs:oB H s cs){K:KT}(a:∀r,mF s=some r->∀j,aZ H j->K (.tuple [se r,.bool true]) j)(d:mF s=none->∀j(b:Bool)(v:AV),v.dg=true->v.bC=true->aZ H j->K (.tuple [.agg [.bool b,aI 0,aI 0,v,aI 0,aI 0],.bool false]) j):YN ac W7 [.agg cs] H K:=by
 have n:=hs.one;obtain⟨u,rfl,l⟩:=hs;have⟨hd,_,_,w⟩:=l.all;refine YF.code T.Z6 aF ?_;refine au ?_;refine RO.dp (aq.ct H) λx q U=>?_;refine aV ?_;refine RO.eL U λy g U=>?_;refine aV ?_;unfold mF at a d;refine Ru.cond (λf=>?_) (λf=>?_)
 .rw[aJ f]at a d;by_cases h0:0<eQ s.i7;case neg=>rw[ap h0]at d;clear a;refine aV ?_;refine RO.cl (aa0 T (t:=s.i7) ab λk hg=>?_);have U:=U.cq hg;refine aV ?_;refine RO.cl (DR T λk hg=>?_);have U:=U.cq hg;refine aV ?_;refine RO.fc U 0 (λe U=>?_);refine aV ?_;exact Ru.iY (vs:=[_,_]) ⟨⟨g,0,rfl,U.agg 0⟩,rfl,rfl,trivial⟩ (d rfl _ _ _ rfl rfl U.gr)
  rw[aJ h0]at a;clear d;have a:=a _ rfl;refine aV ?_;refine RO.cl (aaZ T h0 λk hg=>?_);have U:=U.cq hg;refine aV ?_;refine RO.cl (DR T λk hg=>?_);have U:=U.cq hg;refine aV ?_;refine RO.fc U 0 (λe U=>?_);refine aV ?_;exact Ru.iY (vs:=[_,_]) ⟨⟨g,0,rfl,U.agg 0⟩,rfl,rfl,trivial⟩ (a _ U.gr)
 rw[ap f]at a d;refine aV ?_;refine RO.bR (λc=>?_) (λc=>?_)
 .rw[aJ c]at a;clear d;refine aV ?_;refine Ru.cond (λ(h1:s.m=1)=>?_) (λ(h1:¬s.m=1)=>?_);·rw[aJ h1]at a;have a:=a _ rfl;refine aV ?_;refine RO.cl (DR T λk hg=>?_);have U:=U.cq hg;refine RO.fc U 0 (λe U=>?_);refine aV ?_;exact Ru.iY (vs:=[_,_]) ⟨⟨g,0,rfl,U.agg 0⟩,rfl,rfl,trivial⟩ (a _ U.gr)
  rw[ap h1]at a;have a:=a _ rfl;refine aV ?_;refine Ru.cond (λh=>?_) (λh=>absurd c h);refine aV ?_;refine RO.fc U 0 (λe U=>?_);refine aV ?_;exact Ru.iY (vs:=[_,_]) ⟨⟨g,0,rfl,U.agg 0⟩,rfl,rfl,trivial⟩ (a _ U.gr)
 rw[ap c]at a d;refine aV ?_;refine Ru.cond (λh=>absurd h c) (λh=>?_);refine aV ?_;refine RO.clR (aa3 T λk z o=>?_);have U:=U.eO o;obtain⟨A,i⟩:=U.get 2 rfl;refine⟨tB.cell (v:=aU s.op) i rfl,?_⟩;cases i:sf s.op lX 0 with
 |none=>rw[i]at d;refine RO.MH U 0 (r:=none) (by have:=DQ s.op lX 0 0;rw[i]at this;exact this) ?_;refine aV ?_;refine RO.fc U 1 (λe U=>?_);refine aV ?_;refine RO.dj U 1 ?_;refine aV ?_;refine RO.fc U 1 (λe U=>?_);refine aV ?_;exact Ru.iY (vs:=[_,_]) ⟨⟨g,0,rfl,U.agg 1⟩,rfl,rfl,trivial⟩ (d rfl _ _ _ rfl rfl U.gr)
 |some p=>
  have a:=a _ (by rw[i];rfl);have t:(um p.2.nm).dg=true:=by unfold um;split<;>rfl
  refine RO.MH U 0 (r:=some (p.1,se p.2)) (by have:=DQ s.op lX 0 0;rw[i]at this;exact this) ?_;refine aV ?_;refine RO.fc U 1 (λe U=>?_);refine aV ?_;refine RO.dj U 1 ?_;refine aV ?_;refine RO.fc U 1 (λe U=>?_);refine aV ?_;exact Ru.iY (vs:=[_,_]) ⟨⟨g,0,rfl,U.agg 1⟩,rfl,rfl,trivial⟩ (a _ U.gr)
section
def fT(g:G.be)(c:AV)(a b:af)(n:Nat)(s:List Bool):List Th:=[tB V2 a [.str g.i7,aI g.i4,aI g.bc,c,.slice b 0 n n true],tS 4 1 (s.map .bool) n true (.slice b 0 n n true)]
def DS:ah->Int->List AV->Prop:=λ_ v cs=>cs=[aI v]
theorem eU.r{H:ah}{l:List Int}{d:AV}(h:eU H l d):cP 1 DS H l d:=⟨_,h,λk e=>by rw[agU,afv (by simpa using e)];simp[DS]⟩
def iD(g:G.be)(s:List Bool)(v:Int):Bool×List Bool:=
 if g.i4<=v/\v<=g.bc - 1 then(if s.getD v.toNat false then(false,s)else(true,s.set v.toNat true))else(false,s)
structure FV(g:G.be)(n:Nat):Prop where
 h0:0<=g.i4
 h1:g.i4<=g.bc
 h2:g.bc<=6000
 h3:(n:Int)=g.bc
section
variable{g:G.be}{c:AV}{a b:af}{n:Nat}{A H:ah}{us:List Th}
theorem aa5(T:Tb ac)(V:FV g n){s:List Bool}(U:aq A H (fT g c a b n s++us)){v:Int}{K:KT}(d:K (.bool (decide (0<=v/\v<=g.bc - 1))) H):YF ac (.func He [.aE a 0] []) [aI v] H K:=by obtain⟨h0,h1,h2,h3⟩:=V;refine YF.code T.Z7 aF ?_;refine au ?_;refine RO.nilCheck ?_;refine aV ?_;refine RO.sub (a:=g.bc) (b:=1) ?_;refine aV ?_;refine RO.cl (qL T ?_);refine aV ?_;exact Ru.aP d
theorem aa6(T:Tb ac)(V:FV g n)(d:List Int):na ac A (.func He [.aE a 0] []) DS false (fT g c a b n) (λs=>s.length=n) (λs v=>(decide (0<=v/\v<=g.bc - 1),s)) d:=by rintro s v cs H us _ e rfl U;exact aa5 T V U ⟨rfl,e,[],by simpa using U⟩
theorem Hl(T:Tb ac)(V:FV g n){s:List Bool}(hs:s.length=n)(U:aq A H (fT g c a b n s++us)){v:Int}{K:KT}(d:∀e,aq A e (fT g c a b n (iD g s v).2++us)->K (.bool (iD g s v).1) e):YF ac (.func G9 [.aE a 0] []) [aI v] H K:=by
 unfold iD at d;obtain⟨h0,h1,h2,h3⟩:=V;refine YF.code T.ZO aF ?_;refine au ?_;refine RO.nilCheck ?_;refine aV ?_;refine RO.nilCheck ?_;refine aV ?_;refine RO.sub (a:=g.bc) (b:=1) ?_;refine aV ?_;refine RO.cl (qL T ?_);by_cases hv:g.i4<=v/\v<=g.bc - 1;·simp only[aJ hv]at d;rw[decide_eq_true hv];obtain⟨k,rfl⟩:∃k:Nat,v=(k:Int):=⟨v.toNat,ab⟩;have f:k<s.length:=ab;simp only[afs]at d;refine aV ?_;refine RO.nilCheck ?_;refine aV ?_;refine RO.dM U 1 ?_ (hv:=mY false f);refine aV ?_;cases hg:s.getD k false with|true=>simp only[hg,bf]at d;refine aV ?_;exact Ru.aP (d H U)|false=>simp only[hg,abe,bD]at d;refine aV ?_;refine RO.nilCheck ?_;refine aV ?_;refine RO.kq U 1 true hs (λh U=>?_);refine aV ?_;exact Ru.aP (d h U)
 simp only[ap hv]at d;rw[decide_eq_false hv];refine aV ?_;exact Ru.aP (d H U)
theorem aa7(T:Tb ac)(V:FV g n)(f:List Int):na ac A (.func G9 [.aE a 0] []) DS false (fT g c a b n) (λs=>s.length=n) (iD g) f:=by
 rintro s v cs H us _ d rfl U;refine Hl T V d U λh e=>⟨rfl,?_,[],by simpa using e⟩;unfold iD;split
 .split;·exact d
  simpa using d
 exact d
end
end
section
def yO:Nat->List Nat->Prop
 |0,t=>t=[]
 |1,t=>jB t
 |_,t=>qM t
structure Az(g:G.be)(x:G.d9)(r:ly):Prop where
 args:r.Ax<=x.args.length/\x.args.length<=r.Ay
 i7:yO r.nm x.i7
 num:r.yM<=x.n/\x.n<=r.yN
 lM:x.m=0\/x.op=13/\x.m=1
 iE:∀a∈x.args,0<=a/\a<=g.bc - 1
open Classical in noncomputable def stepG(g:G.be)(s:List Bool)(x:G.d9):Bool×List Bool:=match mF x with|some r=>if Az g x r then(if r.ul then iD g s x.to else(decide (x.to= -1),s))else(false,s)|none=>(false,s)
theorem aa8(T:Tb ac){H:ah}{k:Nat}{t:List Nat}(hb:∀b∈t,b<256)(hl:t.length<=1000000){K:KT}(f:∀a(b:Bool),aZ H a->(b=true↔yO k t)->K (.bool b) a):YF ac (um k) [.str t] H K:=by match k with|0=>exact aaQ T (f _ _ (aZ.refl H) (by simp[yO]))|1=>exact Hk T hb hl λa hg=>f _ _ hg (by simp[yO])|_+2=>exact aaP T hb hl λa hg=>f _ _ hg (by simp[yO])
theorem Hm{b σ:Type}{p:b->Bool}:∀{la:List b}{s:σ},dC (λs a=>(p a,s)) s la=(la.all p,s)|[],_=>rfl|a::l,s=>by have:=Hm (p:=p) (la:=l) (s:=s);cases h:p a<;>simp[dC,h,this]
section
variable{g:G.be}{d:AV}{c e:af}{n:Nat}{A H:ah}{us:List Th}
theorem DT(T:Tb ac)(V:FV g n){s:List Bool}(hs:s.length=n){la:List Int}{k:AV}(l:eU A la k)(hl:la.length<=1000000)(U:aq A H (fT g d c e n s++us)){K:KT}(m:∀i j(b:Bool),(b=true↔∀a∈la,0<=a/\a<=g.bc - 1)->aq A i (fT g d c e n s++j++us)->K (.bool b) i):YN ac Mm [k,.func He [.aE c 0] []] H K:=by have o:=Hm (σ:=List Bool) (p:=λv=>decide (0<=v/\v<=g.bc - 1)) (la:=la) (s:=s);refine Aq T.My bo T.Hg bo T.Hh (size:=1) (agg:=false) bo (λ_=>rfl) rfl rfl rfl (Hj T.Mz bo rfl (λa cs h=>by cases h;rfl) (aa6 T V la)) (λa cs h=>by cases h;rfl) (eU.r l) hl hs U λi j _ f=>?_;rw[o]at f⊢;exact m i j _ aF f
theorem aa9(T:Tb ac)(V:FV g n){s:List Bool}(hs:s.length=n){x:G.d9}{cs:List AV}(z:oB A x cs)(hb:∀Y∈x.i7,Y<256)(C:x.i7.length<=1000000)(hl:x.args.length<=1000000)(U:aq A H (fT g d c e n s++us)){K:KT}(p:∀i f,aq A i (fT g d c e n (stepG g s x).2++f++us)->K (.bool (stepG g s x).1) i):YF ac (.func Hc [.aE c 0] []) [.agg cs] H K:=by
 have E:=z.one;have D:=z;obtain⟨R,rfl,o⟩:=z;have⟨hd,_,_,S⟩:=o.all;refine YF.code T.ZQ aF ?_;refine au ?_;refine RO.dp U λW q U=>?_;refine au ?_;refine RO.dj U 0 ?_;refine au ?_;refine RO.cl (aa4 T (cY.step U.gr D) (λr h1 I hg=>?_) (λh1 I b v P Q hg=>?_));rotate_left;·have U:=U.cq hg;simp only[stepG,h1]at p;refine au ?_;refine RO.ff U (λJ L U=>?_);refine aV ?_;exact Ru.aP (p _ [_,_] (by have:=aq.eG (xs:=[_,_]) U;simpa[fT]using this))
 have U:=U.cq hg;have no:¬Az g x r->∀i f,aq A i (fT g d c e n s++f++us)->K (.bool false) i:=λh i f U=>by have t:=p i f;simp only[stepG,h1,ap h]at t;exact t U
 have a:Az g x r->∀i f,aq A i (fT g d c e n (if r.ul then iD g s x.to else(decide (x.to= -1),s)).2++f++us)->K (.bool (if r.ul then iD g s x.to else(decide (x.to= -1),s)).1) i:=λh i f U=>by have t:=p i f;simp only[stepG,h1,aJ h]at t;exact t U
 clear p;have y:(um r.nm).dg=true/\(um r.nm).bC=true:=by unfold um;split<;>exact⟨rfl,rfl⟩
 obtain⟨y,F⟩:=y;refine au ?_;refine RO.ff U (λJ L U=>?_);refine aV ?_;refine RO.cl (qL T (a:=r.Ax) (b:=r.Ay) (n:=x.args.length) ?_);by_cases h2:r.Ax<=x.args.length/\(x.args.length:Int)<=r.Ay;rotate_left;·rw[decide_eq_false h2];refine aV ?_;exact Ru.aP (no (λh=>h2 h.args) _ [_,_] (by have:=aq.eG (xs:=[_,_]) U;simpa[fT]using this))
 rw[decide_eq_true h2];refine aV ?_;refine RO.cl (aa8 T hb C λX M hg h3=>?_);have U:=U.cq hg;cases M with
 |false=>refine aV ?_;exact Ru.aP (no (λh=>by have:=h3.2 h.i7;cases this) _ [_,_] (by have:=aq.eG (xs:=[_,_]) U;simpa[fT]using this))
 |true=>
  have h3:=h3.1 rfl;refine aV ?_;refine RO.cl (qL T (a:=r.yM) (b:=r.yN) (n:=x.n) ?_);by_cases u:r.yM<=x.n/\x.n<=r.yN;rotate_left;·rw[decide_eq_false u];refine aV ?_;exact Ru.aP (no (λh=>u h.num) _ [_,_] (by have:=aq.eG (xs:=[_,_]) U;simpa[fT]using this))
  rw[decide_eq_true u];refine aV ?_;refine RO.bR (λ(h:x.m≠0)=>?_) (λ(h:¬x.m≠0)=>?_)
  .refine aV ?_;refine RO.bR (λj=>?_) (λj=>?_);·refine aV ?_;exact Ru.aP (no (λl=>j (l.lM.resolve_left h).1) _ [_,_] (by have:=aq.eG (xs:=[_,_]) U;simpa[fT]using this))
   have j:x.op=13:=agJ.1 j;refine aV ?_;refine RO.bR (λk=>?_) (λk=>?_);·refine aV ?_;exact Ru.aP (no (λl=>k (l.lM.resolve_left h).2) _ [_,_] (by have:=aq.eG (xs:=[_,_]) U;simpa[fT]using this))
   have k:x.m=1:=agJ.1 k;refine aV ?_;refine RO.cl (DT T V hs o hl (aq.eG (xs:=[_,_]) U) λN f B w U=>?_);have U:=aq.j5 (xs:=[_,_]) U;cases B with
   |false=>refine aV ?_;exact Ru.aP (no (λl=>by have:=w.2 l.iE;cases this) _ (f++[_,_]) (by have:=aq.eG (xs:=[_,_]) U;simpa[fT]using this))
   |true=>
    have a:=a ⟨h2,h3,u,.inr ⟨j,k⟩,w.1 rfl⟩;refine aV ?_;refine Ru.eE (λhg=>?_) (λhg=>?_);·simp only[af4]at hg;simp only[hg,abe,bD]at a;refine aV ?_;exact Ru.aP (a _ (f++[_,_]) (by have:=aq.eG (xs:=[_,_]) U;simpa[fT]using this))
    simp only[Bool.not_eq_false']at hg;simp only[hg,bf]at a;refine aV ?_;refine RO.cl (YF.l9 (Hl T V hs (us:=f++[_,_]++us) (by have:=aq.eG (xs:=[_,_]) U;simpa[fT]using this) λO U=>?_));refine aV ?_;exact Ru.aP (a _ (f++[_,_]) (by simpa using U))
  have h:x.m=0:=agJ.1 h;refine aV ?_;refine RO.cl (DT T V hs o hl (aq.eG (xs:=[_,_]) U) λN f B w U=>?_);have U:=aq.j5 (xs:=[_,_]) U;cases B with
  |false=>refine aV ?_;exact Ru.aP (no (λl=>by have:=w.2 l.iE;cases this) _ (f++[_,_]) (by have:=aq.eG (xs:=[_,_]) U;simpa[fT]using this))
  |true=>
   have a:=a ⟨h2,h3,u,.inl h,w.1 rfl⟩;refine aV ?_;refine Ru.eE (λhg=>?_) (λhg=>?_);·simp only[af4]at hg;simp only[hg,abe,bD]at a;refine aV ?_;exact Ru.aP (a _ (f++[_,_]) (by have:=aq.eG (xs:=[_,_]) U;simpa[fT]using this))
   simp only[Bool.not_eq_false']at hg;simp only[hg,bf]at a;refine aV ?_;refine RO.cl (YF.l9 (Hl T V hs (us:=f++[_,_]++us) (by have:=aq.eG (xs:=[_,_]) U;simpa[fT]using this) λO U=>?_));refine aV ?_;exact Ru.aP (a _ (f++[_,_]) (by simpa using U))
end
end
end
end Go.al.R
end
