/- A part. No conditions. -/
import Derived.Test.YtcipmlnpjkngpaaGreatDoorA11
set_option linter.all false
set_option maxHeartbeats 16000000
open List renaming replicate->aeo
open Nat renaming beq->aeF
noncomputable section
namespace Go.ak.R
section
variable{ac:Nat->aX}
theorem qD(T:Tb ac){H:ai}{a b n:Int}{K:KT}(c:K (.bool (decide (a<=n/\n<=b))) H):YN ac Uw [aI a,aI b,aI n] H K:=by
 refine YF.code T.We aC ?_;refine au ?_;refine RO.bT (λh=>?_) (λh=>?_);·refine aS ?_;refine Ru.aP ?_;simpa[h]using c
 refine aS ?_;refine Ru.aP ?_;simpa[h]using c
def J8(ac:Nat->aX)(fv:AV)(p:Nat->Bool):Prop:=∀r,r<=2147483647->∀{H:ai},YF ac fv [.int 2 (.ofNat r)] H λv a=>v=.bool (p r)/\a=H
theorem Ya(T:Tb ac){H:ai}{fv:AV}{t:List Nat}{p:Nat->Bool}(z:fv.bq=true)(f:J8 ac fv p)(hb:∀b∈t,b<256)(g:∀r,128<=r->p r=true){K:KT}(c:∀l(i:Int),aZ H l->decide (0<=i)=t.any p->K (aI i) l):YN ac Vs [.str t,fv,.bool true] H K:=by
 refine YF.code T.Xz aC ?_;refine au ?_;refine RO.oK (al.bY H) λB q U=>?_;refine au ?_;refine Ru.nm λS M o m=>?_;refine Ru.bM m (up (P:=λk=>∀d,(∀j(h:j<t.length),j<k->p t[j]=false)->al H d [tX q (.jN t (t.drop k) k)]->Ru ac _ S ([]++pk M [p0,p1,p2,gf]) d) t.length (λk C s d n U=>?_) 0 ab _ (λj _ hj=>by omega) U);subst o;subst m;refine Ru.loop ?_;refine au ?_;by_cases a:k<t.length
 .rw[aeE a]at U;have A:=hb _ (acI a);have aA:p t[k]=true->decide ((0:Int)<=(k:Int))=t.any p:=λh=>by rw[List.any_eq_true.2 ⟨_,acI a,h⟩];exact decide_eq_true ab
  by_cases h1:t[k]<128
  .refine RO.XU U 0 h1 λu U=>?_;refine au ?_;refine RO.cl ((f t[k] ab).mono ?_);rintro v w⟨rfl,rfl⟩;by_cases h2:p t[k]=true;·rw[h2];refine au ?_;refine RO.eq (t:=true) ?_;refine au ?_;exact Ru.aP (c _ _ U.gr (aA h2))
   rw[Bool.not_eq_true]at h2;rw[h2];refine au ?_;refine RO.eq (t:=false) ?_;refine au ?_;exact Ru.wk (s (k+1) ab ab _ (λj hj h=>by
    by_cases e:j=k;·subst e;exact h2
    exact n j hj ab) U)
  have hu:=XW hb a ab;have h2:=g _ hu.1;refine RO.XV U 0 h1 λu U=>?_;refine au ?_;refine RO.cl ((f _ hu.2).mono ?_);rintro v w⟨rfl,rfl⟩;rw[h2];refine au ?_;refine RO.eq (t:=true) ?_;refine au ?_;exact Ru.aP (c _ _ U.gr (aA (g _ ab)))
 rw[af3 ab]at U;refine RO.XT U 0 ?_;refine au ?_;refine Ru.exitTo ?_;refine au ?_;refine Ru.aP (c _ _ U.gr ?_);rw[decide_eq_false ab,eq_comm,List.any_eq_false];intro x y;obtain⟨i,hi,rfl⟩:=aeB y;rw[n i hi ab];simp
theorem J9(T:Tb ac){H:ai}{fv:AV}{t:List Nat}{p:Nat->Bool}(c:fv.bq=true)(d:J8 ac fv p)(hb:∀b∈t,b<256)(e:∀r,128<=r->p r=true){K:KT}(f:∀a,aZ H a->K (.bool (t.any p)) a):YN ac Vh [.str t,fv] H K:=by
 refine YF.code T.Xd aC ?_;refine au ?_;have h2:YN ac Vo [.str t,fv] H λv a=>∃i:Int,v=aI i/\decide (0<=i)=t.any p/\aZ H a:=by refine YF.code T.Xs aC ?_;refine au ?_;refine RO.cl (Ya T c d hb e λa i hg hi=>?_);refine au ?_;exact Ru.aP ⟨i,rfl,hi,hg⟩
 refine RO.cl (h2.mono ?_);rintro v a⟨i,rfl,hi,hg⟩;refine RO.geq (a:=i) (b:=0) ?_;refine au ?_;refine Ru.aP ?_;rw[hi];exact f _ hg
def jo(t:List Nat):Prop:=1<=t.length/\t.length<=40/\∀b∈t,33<=b/\b<=126/\b≠34
def qE(t:List Nat):Prop:=t.length<=200/\∀b∈t,(32<=b/\b<=126)\/b=10
instance{t:List Nat}:Decidable (jo t):=inferInstanceAs(Decidable (_/\_/\_))
instance{t:List Nat}:Decidable (qE t):=inferInstanceAs(Decidable (_/\_))
def yu(r:Nat):Bool:=decide (r<33)||decide (126<r)||decide (r=34)
def yw(r:Nat):Bool:=(decide (r<32)||decide (126<r))&&!decide (r=10)
theorem Ek(T:Tb ac){H:ai}{t:List Nat}(hb:∀b∈t,b<256)(hl:t.length<=1000000){K:KT}(c:∀d,aZ H d->K (.bool (decide (jo t))) d):YN ac JF [.str t] H K:=by
 refine YF.code T.WW aC ?_;refine au ?_;refine RO.nj ?_;refine au ?_;refine RO.cl (qD T (a:=1) (b:=40) (n:=t.length) ?_);by_cases h0:(1:Int)<=t.length/\(t.length:Int)<=40
 .rw[decide_eq_true h0];refine aS ?_;refine RO.cl (J9 T (fv:=.func Vg [] []) (p:=yu) rfl (λr f=>λ{H}=>?_) hb (λr f=>by simp[yu];omega) λg hg=>?_)
  .unfold yu;refine YF.code T.Xb aC ?_;refine au ?_;refine RO.bT (λh=>?_) (λh=>?_);·refine aS ?_;refine Ru.aP ⟨?_,rfl⟩;simp;omega
   refine aS ?_;refine RO.bT (λh=>?_) (λh=>?_);·refine aS ?_;refine Ru.aP ⟨?_,rfl⟩;simp;omega
   refine aS ?_;refine Ru.aP ⟨?_,rfl⟩;simp;omega
  refine aS ?_;have e:decide (jo t)=!t.any yu:=by
   rw[afy,decide_eq_true_iff,afj,List.any_eq_false];simp only[jo,yu];constructor;·intro h b a;have:=h.2.2 b a;simp;omega
   intro h;exact⟨ab,ab,λb a=>by have:=h b a;simp at this;omega⟩
  rw[e]at c;exact Ru.aP (c _ hg)
 rw[decide_eq_false h0];refine aS ?_;have e:decide (jo t)=false:=decide_eq_false λh=>h0 ⟨by have:=h.1;omega,by have:=h.2.1;omega⟩;rw[e]at c;exact Ru.aP (c _ (aZ.refl H))
theorem Yb(T:Tb ac){H:ai}{t:List Nat}(hb:∀b∈t,b<256)(hl:t.length<=1000000){K:KT}(c:∀d,aZ H d->K (.bool (decide (qE t))) d):YN ac JL [.str t] H K:=by
 refine YF.code T.XA aC ?_;refine au ?_;refine RO.nj ?_;refine au ?_;refine RO.bT (λh=>?_) (λh=>?_)
 .refine aS ?_;refine RO.cl (J9 T (fv:=.func Vx [] []) (p:=yw) rfl (λr f=>λ{H}=>?_) hb (λr f=>by simp[yw];omega) λg hg=>?_)
  .unfold yw;refine YF.code T.XG aC ?_;refine au ?_;refine RO.bT (λh=>?_) (λh=>?_);·refine aS ?_;refine Ru.aP ⟨?_,rfl⟩;simp;omega
   refine aS ?_;refine RO.bT (λh=>?_) (λh=>?_);·refine aS ?_;refine Ru.aP ⟨?_,rfl⟩;simp;omega
   refine aS ?_;refine Ru.aP ⟨?_,rfl⟩;simp;omega
  refine aS ?_;have e:decide (qE t)=!t.any yw:=by
   rw[afy,decide_eq_true_iff,afj,List.any_eq_false];simp only[qE,yw];constructor;·intro h b a;have:=h.2 b a;simp;omega
   intro h;exact⟨by simp at*;omega,λb a=>by have:=h b a;simp at this;omega⟩
  rw[e]at c;exact Ru.aP (c _ hg)
 refine aS ?_;have e:decide (qE t)=false:=decide_eq_false λh2=>h (by have:=h2.1;simp;omega);rw[e]at c;exact Ru.aP (c _ (aZ.refl H))
theorem qX:∀{a b:List Nat},ie a b=true↔a=b
 |[],[]=>by simp[ie]
 |a::l,b::m=>by
  simp only[ie,aew,qX (a:=l) (b:=m),ae1];constructor;·exact λh=>⟨aey h.1,h.2⟩
  exact λh=>⟨h.1▸afM a,h.2⟩
 |[],_::_=>by simp[ie]
 |_::_,[]=>by simp[ie]
theorem jp(a b:List Nat):ie a b=decide (a=b):=by
 cases h:ie a b;·symm;rw[decide_eq_false_iff_not];intro e;rw[qX.2 e]at h;cases h
 symm;rw[decide_eq_true_eq];exact qX.1 h
theorem RO.Ay{c:Cx}{s:List SI}{L:Kn}{H:ai}{d:Option af}{l:List bu}{x y:aK}{a b:List Nat}(h:RO ac c l s (bj L d (.bool (decide (a=b)))) H)(e:aT L x=.str a:=by exact cw)(f:aT L y=.str b:=by exact cw):RO ac c (⟨d,.km .eql x y,none,[],[]⟩::l) s L H:=RO.km (v:=.bool (decide (a=b))) h e rfl f rfl (by simp only[uw,jp])
theorem Yc(T:Tb ac){H:ai}{t:List Nat}{K:KT}(a:K (.bool (decide (t=[]))) H):YN ac JJ [.str t] H K:=by refine YF.code T.Xv aC ?_;refine au ?_;refine RO.Ay (b:=[]) ?_;refine au ?_;exact Ru.aP a
def yz:List (List Nat):=[[110,101,103],[110,111,116],[115,105,122,101],[115,104,111,119],[114,101,97,100]]
def yA:List (List Nat):=[[97,100,100],[115,117,98],[109,117,108],[100,105,118],[109,111,100],[108,116],[108,101],[101,113],[106,111,105,110],[98,121,116,101],[115,97,109,101]]
def yB:List (List Nat):=[[99,117,116]]
def eM(t:List Nat):Nat:=if t∈yz then 1 else if t∈yA then 2 else if t∈yB then 3 else 0
theorem J'(T:Tb ac){H:ai}{t:List Nat}{K:KT}(a:K (aN (eM t)) H):YN ac Vu [.str t] H K:=by
 refine YF.code T.XC aC ?_;refine au ?_;repeat' first|refine RO.Ay (RO.bT (λh=>?_) (λh=>?_))|refine RO.bw ?_|refine RO.nil ?_|refine Ru.region ?_|refine Ru.seq ?_|refine Ru.block ?_|refine Ru.skip ?_|refine Ru.be ?_|refine Ru.rp ?_|refine Ru.nU ?_|refine Ru.aP ?_
 all_goals
  first|(subst_vars;exact a)|
   (
    have e:eM t=0:=by simp[eM,yz,yA,yB, *]
    rw[e]at a;exact a)
abbrev zv:List AV:=[aU 0,aI 0,.str []]
def rS:ai->Unit->List AV->Prop:=λ_ _ cs=>cs=zv
theorem Yd(T:Tb ac){H:ai}{d f:AV}{g:List Unit}{ks:List Nat}(h:cK 3 rS H g d)(i:D4 H ks f)(m:0<g.length)(h0:∀k∈ks,k≠0){K:KT}(j:∀l,aZ H l->K (.bool false) l):YN ac JM [d,f] H K:=by
 have⟨hd,_,_,hl⟩:=h.all;have⟨p,_,_,r⟩:=i.all;refine YF.code T.XJ aC ?_;refine au ?_;refine Ru.cond (λb=>?_) (λb=>?_);·refine au ?_;exact Ru.aP (j H (aZ.refl H))
 refine au ?_;refine Ru.loop ?_;refine au ?_;refine Ru.cond (λa=>?_) (λa=>absurd m a);refine au ?_;refine RO.bW (aZ.refl H) h λq o cs hj n t hat hrd=>?_;cases n;refine aS ?_;refine RO.dM (al.bY H) λu v U=>?_;refine aS ?_;refine RO.eQ U 0 (λw U=>?_);refine aS ?_;refine RO.iE U.gr i (λx o2 c s=>?_) (hj:=by omega);refine aS ?_;refine Ru.cond (λa=>?_) (λa=>?_);·refine aS ?_;exact Ru.aP (j _ U.gr)
 exact(a λe=>h0 _ (acI c) e.symm).elim
theorem Ye(T:Tb ac){H:ai}{K:KT}(b:∀a q,al H a [tB AF q zv]->K (.bool true) a):YN ac Ef [.agg zv] H K:=by refine YF.code T.XE aC ?_;refine au ?_;refine RO.cG (al.bY H) λc q U=>?_;refine aS ?_;refine RO.cr U 0 ?_;refine aS ?_;refine RO.eq (t:=true) ?_;refine aS ?_;exact Ru.aP (b _ q U)
theorem Yf(T:Tb ac){H:ai}{f:AV}{c:List Unit}(g:cK 3 rS H c f)(m:c.length<=4){K:KT}(i:∀b,aZ H b->K (.bool true) b):YN ac Vv [f,.func Ef [] []] H K:=by
 have j:mQ ac H (.func Ef [] []) rS true (λ_:Unit=>[]) (λ_=>True) (λs _=>(true,s)) c:=by rintro s a cs H us _ _ rfl U;refine Ye T λb q d=>⟨rfl,trivial,[tB AF q zv],by simpa using U.eK d⟩
 have e:∀(l:List Unit)s,dC (λ(s:Unit)(_:Unit)=>(true,s)) s l=(true,s):=λl=>by induction l with|nil=>intro s;rfl|cons a l k=>intro s;simpa[dC]using k s
 refine yt T.XD bK T.XH bK T.XK (size:=3) (agg:=true) bK (λh=>by cases h) (st:=λs _=>(true,s)) (T:=λ_:Unit=>[]) (I:=λ_=>True) (s:=()) (us:=[]) rfl rfl rfl (J6 T.XI bK rfl (λa cs h=>by cases h;exact⟨rfl,rfl⟩) j) (λa cs h=>by cases h;rfl) g ab trivial (al.bY H) λb n _ U=>?_;rw[e];exact i b U.gr
def nz:AV->Bool
 |.int 4 (.ofNat (_+1))=>true
 |_=>false
theorem Kb:∀{b:List AV},b.all nz=true->∃a:List Nat,b=a.map aU/\∀k∈a,k≠0
 |[],_=>⟨[],rfl,λ_ h=>by cases h⟩
 |w::b,h=>by
  simp only[List.all_cons,aew]at h;obtain⟨a,e,h2⟩:=Kb h.2;have h1:=h.1;unfold nz at h1;split at h1;·rename_i k;exact⟨(k+1)::a,by rw[e];rfl,λj hj=>(aer.1 hj).elim (λe=>by omega) (h2 j)⟩
  cases h1
theorem RO.Yg{B:ai}{c:Cx}{s:List SI}{L:Kn}{H:ai}{d:Option af}{l:List bu}{e n:Nat}{f a:List AV}{g:List (Nat×Nat×aK)}(j:aZ B H)(h:∀v b,aZ B b->Sl b 1 a a.length v->v.bq=true->RO ac c l s (bj L d v) b)(hl:mc L (ep f n) g=some a:=by exact cw)(k:a.length=n:=by rfl)(h1:cE a=true:=by rfl):RO ac c (⟨d,.buildSlice e n f g,none,[],[]⟩::l) s L H:=by subst k;refine RO.buildSlice ?_ hl h1;have i:cI (H.new (.cells (bX a) (a.length*1) e true [] 0)) [H.next] e 1 a a.length true (.slice H.next 0 a.length a.length true):=cI.new (af0 _).symm true true;rw[af0]at i;exact h _ _ (j.trans (aZ.new H _)) i.sl rfl
theorem Yh(T:Tb ac){B H:ai}{c d:AV}{e:List Unit}{b:List AV}(f:aZ B H)(g:cK 3 rS B e c)(i:0<e.length)(j:Sl H 1 b b.length d)(h0:b.all nz=true){K:KT}(k:∀a,aZ B a->K (.bool false) a):YN ac JM [c,d] H K:=by obtain⟨ks,rfl,h1⟩:=Kb h0;exact Yd T (ks:=ks) (b8.ib (λ_ h=>h) f g) (by simpa using j) i h1 λa hg=>k a (f.trans hg)
theorem Yi(T:Tb ac){H:ai}{t:List Nat}{b:AV}{c:List Unit}(d:cK 3 rS H c b)(f:0<c.length){K:KT}(g:∀e,aZ H e->K (.bool false) e):YN ac Vw [.str t,b] H K:=by
 have⟨hd,_,_,_⟩:=d.all;have a:=aZ.refl H;refine YF.code T.XF aC ?_;repeat' first|refine RO.Ay (RO.bT (λ_=>?_) (λ_=>?_))|refine RO.bw ?_|refine RO.nil ?_|refine RO.Yg a (λ_ _ a hs _=>?_)|(refine RO.cl (Yh T a d f hs rfl λ_ a=>?_))|refine Ru.region ?_|refine Ru.seq ?_|refine Ru.block ?_|refine Ru.skip ?_|refine Ru.be ?_|refine Ru.rp ?_|refine Ru.nU ?_|refine RO.yj ?_|refine RO.IX ?_|refine RO.DY ?_|refine RO.DZ ?_|refine Ru.aP ?_
 all_goals exact g _ (by assumption)
theorem Yj(T:Tb ac){H:ai}{t:List Nat}{g:AV}{b:List Unit}(d:cK 3 rS H b g)(hl:b.length<=eM t)(h0:0<eM t){K:KT}(c:∀i,aZ H i->K (.tuple [.agg zv,.str [],aN (if b.length=eM t then 11 else 2)]) i):YN ac JK [.str t,g] H K:=by
 have⟨hd,_,_,j⟩:=d.all;have h3:eM t<=3:=by unfold eM;split<;>(try split)<;>(try split)<;>omega
 refine YF.code T.JY aC ?_;refine au ?_;refine RO.dM (al.bY H) λk q U=>?_;refine aS ?_;refine RO.cl (J' T ?_);refine aS ?_;refine Ru.cond (λ(h:eM t=0)=>absurd h ab) (λ_=>?_);refine aS ?_;refine Ru.cond (λh=>?_) (λh=>?_);·refine aS ?_;refine RO.cr U 0 ?_;refine RO.eQ U 0 (λf U=>?_);refine aS ?_;have a:b.length≠eM t:=λe=>h (by rw[e]);rw[ap a]at c;exact Ru.iT (vs:=[_,_,_]) ⟨⟨q,0,rfl,U.agg 0⟩,rfl,rfl,rfl,rfl,trivial⟩ (c _ U.gr)
 have a:b.length=eM t:=afP.1 h;rw[aH a]at c;refine aS ?_;refine RO.cl (Yf T (b8.ib (λ_ h=>h) U.gr d) ab λf hg=>?_);have U:=U.bZ hg;refine aS ?_;refine RO.cl (Yi T (b8.ib (λ_ h=>h) U.gr d) ab λf hg=>?_);have U:=U.bZ hg;refine aS ?_;refine RO.cr U 0 ?_;refine RO.eQ U 0 (λf U=>?_);refine aS ?_;exact Ru.iT (vs:=[_,_,_]) ⟨⟨q,0,rfl,U.agg 0⟩,rfl,rfl,rfl,rfl,trivial⟩ (c _ U.gr)
theorem Yk(T:Tb ac){H:ai}{t:List Nat}{a:AV}{c:List Unit}(d:cK 3 rS H c a)(h0:eM t=0){K:KT}(e:∀b,aZ H b->K (.tuple [.agg zv,.str [],aN 10]) b):YN ac JK [.str t,a] H K:=by have⟨hd,_,_,f⟩:=d.all;refine YF.code T.JY aC ?_;refine au ?_;refine RO.dM (al.bY H) λg q U=>?_;refine aS ?_;refine RO.cl (J' T ?_);refine aS ?_;refine Ru.cond (λ_=>?_) (λh=>absurd h0 h);refine aS ?_;refine RO.cr U 0 ?_;refine RO.eQ U 0 (λi U=>?_);refine aS ?_;exact Ru.iT (vs:=[_,_,_]) ⟨⟨q,0,rfl,U.agg 0⟩,rfl,rfl,rfl,rfl,trivial⟩ (e _ U.gr)
theorem Kc{H:ai}{k:Nat}{a:AV}(b:k<=3)(h:Sl H 3 ((ep zv 4).take (k*3)) k a):cK 3 rS H (aeo k ()) a:=by
 refine⟨_,by simpa using h,λj hj=>?_⟩;simp only[afB]at hj;match k,b with
  |0,_=>omega
  |1,_=>match j,hj with|0,_=>rfl
  |2,_=>match j,hj with|0,_=>rfl|1,_=>rfl
  |3,_=>match j,hj with|0,_=>rfl|1,_=>rfl|2,_=>rfl
theorem Yl(T:Tb ac){H:ai}{t:List Nat}(h0:0<eM t){K:KT}(e:∀c,aZ H c->K (.tuple [aN (eM t),.bool true]) c):YN ac JI [.str t] H K:=by
 have h3:eM t<=3:=by unfold eM;split<;>(try split)<;>(try split)<;>omega
 refine YF.code T.JX aC ?_;refine au ?_;refine RO.jn (al.bY H) (n:=4) (λm q U=>?_) (hz:=rfl);refine au ?_;refine Ru.nm λS M f d=>?_;refine Ru.bM d (up (P:=λk=>∀b,al H b [tS AF 3 (ep zv 4) 4 true (.slice q 0 4 4 true)]->Ru ac _ S ([(iS,aN k)]++pk M [p0,p4,gf,fJ]) b) (eM t) (λk g i b U=>?_) 0 ab _ U);subst f;subst d;refine Ru.loop ?_;refine au ?_;refine Ru.cond (λ(j:k<4)=>?_) (λh=>absurd (show k<4 by omega) h);refine au ?_;refine RO.I3 (U.sl 0) (λl hs=>?_);have hz:=Kc ab hs;have hd:=hz.bq;refine au ?_;refine RO.cl (Yj T hz (by simpa using g) h0 λn hg=>?_);have U:=U.bZ hg;rw[afB];refine au ?_;refine RO.eR U (λo p U=>?_);refine au ?_;by_cases a:k=eM t;·rw[aH a];refine aS ?_;refine Ru.i4 ?_;rw[a];exact e _ U.gr
 rw[ap a];refine aS ?_;exact Ru.wk (i (k+1) ab ab _ U.tail)
theorem Ym(T:Tb ac){H:ai}{t:List Nat}(h0:eM t=0){K:KT}(d:∀b,aZ H b->K (.tuple [aN 0,.bool false]) b):YN ac JI [.str t] H K:=by
 refine YF.code T.JX aC ?_;refine au ?_;refine RO.jn (al.bY H) (n:=4) (λj q U=>?_) (hz:=rfl);refine au ?_;refine Ru.nm λS M e c=>?_;refine Ru.bM c (up (P:=λk=>∀a,al H a [tS AF 3 (ep zv 4) 4 true (.slice q 0 4 4 true)]->Ru ac _ S ([(iS,aN k)]++pk M [p0,p4,gf,fJ]) a) 4 (λk l f a U=>?_) 0 ab _ U);subst e;subst c;refine Ru.loop ?_;refine au ?_;refine Ru.cond (λ(g:k<4)=>?_) (λh=>?_);·refine au ?_;refine RO.I3 (U.sl 0) (λi hs=>?_);have hz:=Kc ab hs;have hd:=hz.bq;refine au ?_;refine RO.cl (Yk T hz h0 λm hg=>?_);have U:=U.bZ hg;refine au ?_;refine RO.eR U (λn o U=>?_);refine aS ?_;exact Ru.wk (f (k+1) ab ab _ U.tail)
 refine Ru.exitTo ?_;refine au ?_;refine Ru.i4 ?_;exact d _ U.gr
structure lf where
 tP:Bool
 yC:Int
 yD:Int
 nm:Nat
 wu:Int
 ww:Int
def tQ:Nat->AV
 |0=>.func JJ [] []
 |1=>.func JF [] []
 |_=>.func JL [] []
def rT(r:lf):AV:=.agg [.bool r.tP,aI r.yC,aI r.yD,tQ r.nm,aI r.wu,aI r.ww]
def lH:List (Nat×lf):=[(1,⟨true,0,0,0, -1000000000,1000000000⟩),(2,⟨true,0,0,0,0,1⟩),(3,⟨true,0,0,2,0,0⟩),(4,⟨true,0,0,0,0,0⟩),(11,⟨true,0,0,1,0,0⟩),(40,⟨true,0,1073741824,1,0,0⟩),(15,⟨true,0,6,1,0,0⟩),(18,⟨true,0,6,1,0,0⟩),(37,⟨true,0,0,1,0,0⟩),(38,⟨false,1,1,1,0,0⟩),(16,⟨true,1,1,1,0,5⟩),(17,⟨false,2,2,1,0,5⟩),(23,⟨false,1,1,0,0,0⟩),(24,⟨true,0,0,0,1,8⟩),(25,⟨false,2,2,0,0,0⟩),(26,⟨true,1,1,0,0,0⟩),(31,⟨false,0,0,0,0,0⟩),(32,⟨false,1,1,0,0,0⟩),(33,⟨true,0,0,0,0,0⟩),(34,⟨false,0,0,0,0,0⟩),(35,⟨true,1,1,0,0,0⟩),(39,⟨false,0,0,0,0,0⟩),(64,⟨true,1,1,0,0,3⟩)]
def pu:Nat->List (Nat×lf)->List aV
 |_,[]=>[]
 |b,p::l=>⟨aU p.1,rT p.2,b⟩::pu (b+1) l
def rU(op:Nat):List (Nat×lf)->Nat->Option (Nat×lf)
 |[],_=>none
 |p::l,i=>if op=p.1 then some (i,p.2)else rU op l (i+1)
theorem A0(op:Nat):∀l b i,findKey .int (aU op) (pu b l) i=some ((rU op l i).map λp=>(p.1,rT p.2))
 |[],_,_=>rfl
 |p::l,b,i=>by
  have e:cQ 64 .int (aU op) (aU p.1)=some (decide (op=p.1)):=by
   show(if(4:Nat)=4 then some (gU (.ofNat op) (.ofNat p.1))else none)=_;rw[aH rfl];congr 1;by_cases h:op=p.1;·simp[gU,h]
   simp only[gU,h,decide_false];cases hb:aeF op p.1 with|false=>rfl|true=>exact absurd (aey hb) h
  simp only[pu,findKey,e,rU];by_cases h:op=p.1;·simp[h]
  simp only[h,decide_false,bA];exact A0 op l (b+1) (i+1)
theorem Yn(T:Tb ac){H:ai}{b:Bool}{n:Int}{K:KT}(c:∀a,aZ H a->K (rT ⟨b,n,n,0,0,0⟩) a):YN ac Vt [.bool b,aI n] H K:=by refine YF.code T.XB aC ?_;refine au ?_;refine RO.dM (al.bY H) λd q U=>?_;refine aS ?_;refine RO.eQ U 0 (λe U=>?_);refine aS ?_;exact Ru.iT (vs:=[_]) ⟨⟨q,0,rfl,U.agg 0⟩,trivial⟩ (c _ U.gr)
theorem A3(T:Tb ac){H:ai}{b:Bool}{n m:Int}{K:KT}(c:∀a,aZ H a->K (rT ⟨b,n,m,1,0,0⟩) a):YN ac Vp [.bool b,aI n,aI m] H K:=by refine YF.code T.Xu aC ?_;refine au ?_;refine RO.dM (al.bY H) λd q U=>?_;refine aS ?_;refine RO.eQ U 0 (λe U=>?_);refine aS ?_;exact Ru.iT (vs:=[_]) ⟨⟨q,0,rfl,U.agg 0⟩,trivial⟩ (c _ U.gr)
theorem Kd:∀(l:List (Nat×lf))(b:Nat)(p:Nat×lf),pu b (l++[p])=pu b l++[⟨aU p.1,rT p.2,b+l.length⟩]|[],_,_=>rfl|a::l,b,p=>by simp only[afk,pu,Kd l (b+1) p,aeJ,afU,Nat.add_comm 1]
theorem RO.Yo{t:Cx}{s:List SI}{L:Kn}{H A:ai}{d:Option af}{l:List bu}{q:af}{f:List Th}{k op:Nat}{r:lf}{m w:aK}(U:al A H (tX q (.map (pu 0 (lH.take k)) k)::f))(g:lH[k]?=some (op,r))(h:∀a,al A a (tX q (.map (pu 0 (lH.take (k+1))) (k+1))::f)->RO ac t l s (bj L d .agx) a)(i:rU op (lH.take k) 0=none:=by rfl)(j:aT L m=.map q:=by exact cw)(n:aT L w=rT r:=by exact cw):RO ac t (⟨d,.iV .int m (.c (aU op)) w,none,[],[]⟩::l) s L H:=by
 refine RO.XY U 0 (kv:=aU op) (λa b=>h a ?_) rfl j rfl n rfl rfl rfl (by show findKey .int (aU op) _ 0=_;rw[A0,i];rfl);obtain⟨p,_⟩:=ae7.1 g;have e:lH.take (k+1)=lH.take k++[(op,r)]:=by rw[List.take_add_one,g];rfl
 have o:(lH.take k).length=k:=by rw[aeP];omega
 rw[e,Kd,o,aeL];exact b
theorem Yp(T:Tb ac){H:ai}{K:KT}(b:∀a q,al H a [tX q (.map (pu 0 lH) 23)]->K (.map q) a):YN ac Vq [] H K:=by
 refine YF.code T.Xw aC ?_;refine au ?_;refine RO.XX (al.bY H) λc q U=>?_;have U:al H c (tX q (.map (pu 0 (lH.take 0)) 0)::[]):=U;repeat first|refine RO.build ?_|refine RO.Yo U rfl (λ_ U=>?_)|(refine RO.cl (Yn T λ_ hg=>?_);have U:=U.bZ hg)|(refine RO.cl (A3 T λ_ hg=>?_);have U:=U.bZ hg)|refine RO.bw ?_|refine RO.nil ?_
 exact Ru.aP (b _ q U)
def mg(s:G.dI):Option lf:=
 if s.op=14 then(if 0<eM s.i7 then some ⟨true,eM s.i7,eM s.i7,1,0,0⟩else none)
 else if s.op=13 then(if s.m=1 then some ⟨true,0,6,1,0,0⟩else some ⟨true,1,7,0,0,0⟩)
 else(rU s.op lH 0).map (·.2)
theorem Yq(T:Tb ac){H:ai}{s:G.dI}{cs:List AV}(hs:nX H s cs){K:KT}(a:∀r,mg s=some r->∀j,aZ H j->K (.tuple [rT r,.bool true]) j)(d:mg s=none->∀j(b:Bool)(v:AV),v.db=true->v.bq=true->aZ H j->K (.tuple [.agg [.bool b,aI 0,aI 0,v,aI 0,aI 0],.bool false]) j):YN ac Vi [.agg cs] H K:=by
 have n:=hs.one;obtain⟨u,rfl,l⟩:=hs;have⟨hd,_,_,w⟩:=l.all;refine YF.code T.Xh aC ?_;refine au ?_;refine RO.cG (al.bY H) λx q U=>?_;refine aS ?_;refine RO.dM U λy g U=>?_;refine aS ?_;unfold mg at a d;refine Ru.cond (λf=>?_) (λf=>?_)
 .rw[aH f]at a d;by_cases h0:0<eM s.i7;case neg=>rw[ap h0]at d;clear a;refine aS ?_;refine RO.cl (Ym T (t:=s.i7) ab λk hg=>?_);have U:=U.bZ hg;refine aS ?_;refine RO.cl (A3 T λk hg=>?_);have U:=U.bZ hg;refine aS ?_;refine RO.eQ U 0 (λe U=>?_);refine aS ?_;exact Ru.iT (vs:=[_,_]) ⟨⟨g,0,rfl,U.agg 0⟩,rfl,rfl,trivial⟩ (d rfl _ _ _ rfl rfl U.gr)
  rw[aH h0]at a;clear d;have a:=a _ rfl;refine aS ?_;refine RO.cl (Yl T h0 λk hg=>?_);have U:=U.bZ hg;refine aS ?_;refine RO.cl (A3 T λk hg=>?_);have U:=U.bZ hg;refine aS ?_;refine RO.eQ U 0 (λe U=>?_);refine aS ?_;exact Ru.iT (vs:=[_,_]) ⟨⟨g,0,rfl,U.agg 0⟩,rfl,rfl,trivial⟩ (a _ U.gr)
 rw[ap f]at a d;refine aS ?_;refine RO.bT (λc=>?_) (λc=>?_)
 .rw[aH c]at a;clear d;refine aS ?_;refine Ru.cond (λ(h1:s.m=1)=>?_) (λ(h1:¬s.m=1)=>?_);·rw[aH h1]at a;have a:=a _ rfl;refine aS ?_;refine RO.cl (A3 T λk hg=>?_);have U:=U.bZ hg;refine RO.eQ U 0 (λe U=>?_);refine aS ?_;exact Ru.iT (vs:=[_,_]) ⟨⟨g,0,rfl,U.agg 0⟩,rfl,rfl,trivial⟩ (a _ U.gr)
  rw[ap h1]at a;have a:=a _ rfl;refine aS ?_;refine Ru.cond (λh=>?_) (λh=>absurd c h);refine aS ?_;refine RO.eQ U 0 (λe U=>?_);refine aS ?_;exact Ru.iT (vs:=[_,_]) ⟨⟨g,0,rfl,U.agg 0⟩,rfl,rfl,trivial⟩ (a _ U.gr)
 rw[ap c]at a d;refine aS ?_;refine Ru.cond (λh=>absurd h c) (λh=>?_);refine aS ?_;refine RO.XZ (Yp T λk z o=>?_);have U:=U.eK o;obtain⟨A,i⟩:=U.get 2 rfl;refine⟨tB.cell (v:=aU s.op) i rfl,?_⟩;cases i:rU s.op lH 0 with
 |none=>rw[i]at d;refine RO.J7 U 0 (r:=none) (by have:=A0 s.op lH 0 0;rw[i]at this;exact this) ?_;refine aS ?_;refine RO.eQ U 1 (λe U=>?_);refine aS ?_;refine RO.cr U 1 ?_;refine aS ?_;refine RO.eQ U 1 (λe U=>?_);refine aS ?_;exact Ru.iT (vs:=[_,_]) ⟨⟨g,0,rfl,U.agg 1⟩,rfl,rfl,trivial⟩ (d rfl _ _ _ rfl rfl U.gr)
 |some p=>
  have a:=a _ (by rw[i];rfl);have t:(tQ p.2.nm).db=true:=by unfold tQ;split<;>rfl
  refine RO.J7 U 0 (r:=some (p.1,rT p.2)) (by have:=A0 s.op lH 0 0;rw[i]at this;exact this) ?_;refine aS ?_;refine RO.eQ U 1 (λe U=>?_);refine aS ?_;refine RO.cr U 1 ?_;refine aS ?_;refine RO.eQ U 1 (λe U=>?_);refine aS ?_;exact Ru.iT (vs:=[_,_]) ⟨⟨g,0,rfl,U.agg 1⟩,rfl,rfl,trivial⟩ (a _ U.gr)
section
def fT(g:G.aY)(c:AV)(a b:af)(n:Nat)(s:List Bool):List Th:=[tB Ua a [.str g.i7,aI g.i4,aI g.aW,c,.slice b 0 n n true],tS 4 1 (s.map .bool) n true (.slice b 0 n n true)]
def A4:ai->Int->List AV->Prop:=λ_ v cs=>cs=[aI v]
theorem fx.r{H:ai}{l:List Int}{d:AV}(h:fx H l d):cK 1 A4 H l d:=⟨_,h,λk e=>by rw[af0,aeE (by simpa using e)];simp[A4]⟩
def ix(g:G.aY)(s:List Bool)(v:Int):Bool×List Bool:=
 if g.i4<=v/\v<=g.aW - 1 then(if s.getD v.toNat false then(false,s)else(true,s.set v.toNat true))else(false,s)
structure FV(g:G.aY)(n:Nat):Prop where
 h0:0<=g.i4
 h1:g.i4<=g.aW
 h2:g.aW<=6000
 h3:(n:Int)=g.aW
section
variable{g:G.aY}{c:AV}{a b:af}{n:Nat}{A H:ai}{us:List Th}
theorem Yr(T:Tb ac)(V:FV g n){s:List Bool}(U:al A H (fT g c a b n s++us)){v:Int}{K:KT}(d:K (.bool (decide (0<=v/\v<=g.aW - 1))) H):YF ac (.func Ee [.aD a 0] []) [aI v] H K:=by obtain⟨h0,h1,h2,h3⟩:=V;refine YF.code T.Xi aC ?_;refine au ?_;refine RO.nilCheck ?_;refine aS ?_;refine RO.sub (a:=g.aW) (b:=1) ?_;refine aS ?_;refine RO.cl (qD T ?_);refine aS ?_;exact Ru.aP d
theorem Ys(T:Tb ac)(V:FV g n)(d:List Int):mQ ac A (.func Ee [.aD a 0] []) A4 false (fT g c a b n) (λs=>s.length=n) (λs v=>(decide (0<=v/\v<=g.aW - 1),s)) d:=by rintro s v cs H us _ e rfl U;exact Yr T V U ⟨rfl,e,[],by simpa using U⟩
theorem El(T:Tb ac)(V:FV g n){s:List Bool}(hs:s.length=n)(U:al A H (fT g c a b n s++us)){v:Int}{K:KT}(d:∀e,al A e (fT g c a b n (ix g s v).2++us)->K (.bool (ix g s v).1) e):YF ac (.func Eb [.aD a 0] []) [aI v] H K:=by
 unfold ix at d;obtain⟨h0,h1,h2,h3⟩:=V;refine YF.code T.WX aC ?_;refine au ?_;refine RO.nilCheck ?_;refine aS ?_;refine RO.nilCheck ?_;refine aS ?_;refine RO.sub (a:=g.aW) (b:=1) ?_;refine aS ?_;refine RO.cl (qD T ?_);by_cases hv:g.i4<=v/\v<=g.aW - 1;·simp only[aH hv]at d;rw[decide_eq_true hv];obtain⟨k,rfl⟩:∃k:Nat,v=(k:Int):=⟨v.toNat,ab⟩;have f:k<s.length:=ab;simp only[aeA]at d;refine aS ?_;refine RO.nilCheck ?_;refine aS ?_;refine RO.dh U 1 ?_ (hv:=lE false f);refine aS ?_;cases hg:s.getD k false with|true=>simp only[hg,bc]at d;refine aS ?_;exact Ru.aP (d H U)|false=>simp only[hg,abu,bA]at d;refine aS ?_;refine RO.nilCheck ?_;refine aS ?_;refine RO.gF U 1 true hs (λh U=>?_);refine aS ?_;exact Ru.aP (d h U)
 simp only[ap hv]at d;rw[decide_eq_false hv];refine aS ?_;exact Ru.aP (d H U)
theorem Yt(T:Tb ac)(V:FV g n)(f:List Int):mQ ac A (.func Eb [.aD a 0] []) A4 false (fT g c a b n) (λs=>s.length=n) (ix g) f:=by
 rintro s v cs H us _ d rfl U;refine El T V d U λh e=>⟨rfl,?_,[],by simpa using e⟩;unfold ix;split
 .split;·exact d
  simpa using d
 exact d
end
end
section
def wx:Nat->List Nat->Prop
 |0,t=>t=[]
 |1,t=>jo t
 |_,t=>qE t
structure yE(g:G.aY)(x:G.dI)(r:lf):Prop where
 args:r.yC<=x.args.length/\x.args.length<=r.yD
 i7:wx r.nm x.i7
 num:r.wu<=x.n/\x.n<=r.ww
 lw:x.m=0\/x.op=13/\x.m=1
 iy:∀a∈x.args,0<=a/\a<=g.aW - 1
open Classical in noncomputable def stepG(g:G.aY)(s:List Bool)(x:G.dI):Bool×List Bool:=match mg x with|some r=>if yE g x r then(if r.tP then ix g s x.to else(decide (x.to= -1),s))else(false,s)|none=>(false,s)
theorem Yu(T:Tb ac){H:ai}{k:Nat}{t:List Nat}(hb:∀b∈t,b<256)(hl:t.length<=1000000){K:KT}(f:∀a(b:Bool),aZ H a->(b=true↔wx k t)->K (.bool b) a):YF ac (tQ k) [.str t] H K:=by match k with|0=>exact Yc T (f _ _ (aZ.refl H) (by simp[wx]))|1=>exact Ek T hb hl λa hg=>f _ _ hg (by simp[wx])|_+2=>exact Yb T hb hl λa hg=>f _ _ hg (by simp[wx])
theorem Em{b σ:Type}{p:b->Bool}:∀{la:List b}{s:σ},dC (λs a=>(p a,s)) s la=(la.all p,s)|[],_=>rfl|a::l,s=>by have:=Em (p:=p) (la:=l) (s:=s);cases h:p a<;>simp[dC,h,this]
section
variable{g:G.aY}{d:AV}{c e:af}{n:Nat}{A H:ai}{us:List Th}
theorem A5(T:Tb ac)(V:FV g n){s:List Bool}(hs:s.length=n){la:List Int}{k:AV}(l:fx A la k)(hl:la.length<=1000000)(U:al A H (fT g d c e n s++us)){K:KT}(m:∀i j(b:Bool),(b=true↔∀a∈la,0<=a/\a<=g.aW - 1)->al A i (fT g d c e n s++j++us)->K (.bool b) i):YN ac JG [k,.func Ee [.aD c 0] []] H K:=by have o:=Em (σ:=List Bool) (p:=λv=>decide (0<=v/\v<=g.aW - 1)) (la:=la) (s:=s);refine yt T.JV bK T.Eg bK T.Eh (size:=1) (agg:=false) bK (λ_=>rfl) rfl rfl rfl (Ej T.JW bK rfl (λa cs h=>by cases h;rfl) (Ys T V la)) (λa cs h=>by cases h;rfl) (fx.r l) hl hs U λi j _ f=>?_;rw[o]at f⊢;exact m i j _ aC f
theorem Yv(T:Tb ac)(V:FV g n){s:List Bool}(hs:s.length=n){x:G.dI}{cs:List AV}(z:nX A x cs)(hb:∀Y∈x.i7,Y<256)(C:x.i7.length<=1000000)(hl:x.args.length<=1000000)(U:al A H (fT g d c e n s++us)){K:KT}(p:∀i f,al A i (fT g d c e n (stepG g s x).2++f++us)->K (.bool (stepG g s x).1) i):YF ac (.func Ec [.aD c 0] []) [.agg cs] H K:=by
 have E:=z.one;have D:=z;obtain⟨R,rfl,o⟩:=z;have⟨hd,_,_,S⟩:=o.all;refine YF.code T.WZ aC ?_;refine au ?_;refine RO.cG U λW q U=>?_;refine au ?_;refine RO.cr U 0 ?_;refine au ?_;refine RO.cl (Yq T (b8.step U.gr D) (λr h1 I hg=>?_) (λh1 I b v P Q hg=>?_));rotate_left;·have U:=U.bZ hg;simp only[stepG,h1]at p;refine au ?_;refine RO.eR U (λJ L U=>?_);refine aS ?_;exact Ru.aP (p _ [_,_] (by have:=al.eC (xs:=[_,_]) U;simpa[fT]using this))
 have U:=U.bZ hg;have no:¬yE g x r->∀i f,al A i (fT g d c e n s++f++us)->K (.bool false) i:=λh i f U=>by have t:=p i f;simp only[stepG,h1,ap h]at t;exact t U
 have a:yE g x r->∀i f,al A i (fT g d c e n (if r.tP then ix g s x.to else(decide (x.to= -1),s)).2++f++us)->K (.bool (if r.tP then ix g s x.to else(decide (x.to= -1),s)).1) i:=λh i f U=>by have t:=p i f;simp only[stepG,h1,aH h]at t;exact t U
 clear p;have y:(tQ r.nm).db=true/\(tQ r.nm).bq=true:=by unfold tQ;split<;>exact⟨rfl,rfl⟩
 obtain⟨y,F⟩:=y;refine au ?_;refine RO.eR U (λJ L U=>?_);refine aS ?_;refine RO.cl (qD T (a:=r.yC) (b:=r.yD) (n:=x.args.length) ?_);by_cases h2:r.yC<=x.args.length/\(x.args.length:Int)<=r.yD;rotate_left;·rw[decide_eq_false h2];refine aS ?_;exact Ru.aP (no (λh=>h2 h.args) _ [_,_] (by have:=al.eC (xs:=[_,_]) U;simpa[fT]using this))
 rw[decide_eq_true h2];refine aS ?_;refine RO.cl (Yu T hb C λX M hg h3=>?_);have U:=U.bZ hg;cases M with
 |false=>refine aS ?_;exact Ru.aP (no (λh=>by have:=h3.2 h.i7;cases this) _ [_,_] (by have:=al.eC (xs:=[_,_]) U;simpa[fT]using this))
 |true=>
  have h3:=h3.1 rfl;refine aS ?_;refine RO.cl (qD T (a:=r.wu) (b:=r.ww) (n:=x.n) ?_);by_cases u:r.wu<=x.n/\x.n<=r.ww;rotate_left;·rw[decide_eq_false u];refine aS ?_;exact Ru.aP (no (λh=>u h.num) _ [_,_] (by have:=al.eC (xs:=[_,_]) U;simpa[fT]using this))
  rw[decide_eq_true u];refine aS ?_;refine RO.bT (λ(h:x.m≠0)=>?_) (λ(h:¬x.m≠0)=>?_)
  .refine aS ?_;refine RO.bT (λj=>?_) (λj=>?_);·refine aS ?_;exact Ru.aP (no (λl=>j (l.lw.resolve_left h).1) _ [_,_] (by have:=al.eC (xs:=[_,_]) U;simpa[fT]using this))
   have j:x.op=13:=afP.1 j;refine aS ?_;refine RO.bT (λk=>?_) (λk=>?_);·refine aS ?_;exact Ru.aP (no (λl=>k (l.lw.resolve_left h).2) _ [_,_] (by have:=al.eC (xs:=[_,_]) U;simpa[fT]using this))
   have k:x.m=1:=afP.1 k;refine aS ?_;refine RO.cl (A5 T V hs o hl (al.eC (xs:=[_,_]) U) λN f B w U=>?_);have U:=al.jU (xs:=[_,_]) U;cases B with
   |false=>refine aS ?_;exact Ru.aP (no (λl=>by have:=w.2 l.iy;cases this) _ (f++[_,_]) (by have:=al.eC (xs:=[_,_]) U;simpa[fT]using this))
   |true=>
    have a:=a ⟨h2,h3,u,.inr ⟨j,k⟩,w.1 rfl⟩;refine aS ?_;refine Ru.eh (λhg=>?_) (λhg=>?_);·simp only[afj]at hg;simp only[hg,abu,bA]at a;refine aS ?_;exact Ru.aP (a _ (f++[_,_]) (by have:=al.eC (xs:=[_,_]) U;simpa[fT]using this))
    simp only[Bool.not_eq_false']at hg;simp only[hg,bc]at a;refine aS ?_;refine RO.cl (YF.lS (El T V hs (us:=f++[_,_]++us) (by have:=al.eC (xs:=[_,_]) U;simpa[fT]using this) λO U=>?_));refine aS ?_;exact Ru.aP (a _ (f++[_,_]) (by simpa using U))
  have h:x.m=0:=afP.1 h;refine aS ?_;refine RO.cl (A5 T V hs o hl (al.eC (xs:=[_,_]) U) λN f B w U=>?_);have U:=al.jU (xs:=[_,_]) U;cases B with
  |false=>refine aS ?_;exact Ru.aP (no (λl=>by have:=w.2 l.iy;cases this) _ (f++[_,_]) (by have:=al.eC (xs:=[_,_]) U;simpa[fT]using this))
  |true=>
   have a:=a ⟨h2,h3,u,.inl h,w.1 rfl⟩;refine aS ?_;refine Ru.eh (λhg=>?_) (λhg=>?_);·simp only[afj]at hg;simp only[hg,abu,bA]at a;refine aS ?_;exact Ru.aP (a _ (f++[_,_]) (by have:=al.eC (xs:=[_,_]) U;simpa[fT]using this))
   simp only[Bool.not_eq_false']at hg;simp only[hg,bc]at a;refine aS ?_;refine RO.cl (YF.lS (El T V hs (us:=f++[_,_]++us) (by have:=al.eC (xs:=[_,_]) U;simpa[fT]using this) λO U=>?_));refine aS ?_;exact Ru.aP (a _ (f++[_,_]) (by simpa using U))
end
end
end
end Go.ak.R
end
