/- A part. No conditions. -/
import Derived.Test.YtodnahjlheaolaaGreatDoorA09
set_option linter.all false
set_option maxHeartbeats 16000000
open List renaming replicate->ab7
open Nat renaming beq->ahr
noncomputable section
namespace Go.al.R
section
variable{ac:Nat->aX}
end
variable{B E:ai}{b ks t:List Nat}{C:KT}{D Q:AV}{H:Option ah}{N:List SI}{O:List bD}{p:Nat->Bool}{S:Cx}{V:Kn}{P a:Int}{Z c:aJ}{A:List Unit}{F n:Nat}{J W:List AV}{L M:ah}{X:Bool}{Y:G.dY}{s:List Bool}{I:G.aM}
section
variable{ac:Nat->aX}
theorem se(T:Tb ac){b n:Int}(c:C (.bool (decide (a<=n/\n<=b))) B):YN ac Xn [aI a,aI b,aI n] B C:=by
 refine YF.code T.ZU aC (au ?_);refine RO.bP (λh=>?_) (λh=>?_);·refine aS ?_;refine Ru.aL ?_;simpa[h]using c
 refine aS ?_;refine Ru.aL ?_;simpa[h]using c
def Ld(ac:Nat->aX)(fv:AV)(p:Nat->Bool):Prop:=∀r,r<=2147483647->∀{H:ai},YF ac fv [.int 2 (.ofNat r)] H λv H'=>v=.bool (p r)/\H'=H
theorem aa3(T:Tb ac)(z:D.bk=true)(f:Ld ac D p)(hb:∀b∈t,b<256)(g:∀r,128<=r->p r=true)(c:∀l(i:Int),aR B l->decide (0<=i)=t.any p->C (aI i) l):YN ac XM [.str t,D,.bool true] B C:=by
 refine YF.code T.aaz aC (au ?_);refine RO.pV (ak.bM B) λE q U=>au ?_;refine Ru.nm λS M o m=>Ru.bH m (up (P:=λk=>∀d,(∀j(h:j<t.length),j<k->p t[j]=false)->ak B d [tX q (.kz t (t.drop k) k)]->Ru ac _ S ([]++pk M [p0,p1,p2,dS]) d) t.length (λk F s d n U=>?_) 0 aa _ (λj _ hj=>by omega) U);subst o;subst m;refine Ru.loop (au ?_);by_cases a:k<t.length
 .rw[ahp a]at U;have A:=hb _ (abO a);have aq:p t[k]=true->decide ((0:Int)<=(k:Int))=t.any p:=λh=>by rw[List.any_eq_true.2 ⟨_,abO a,h⟩];exact decide_eq_true aa
  by_cases h1:t[k]<128
  .refine RO.aaX U 0 h1 λu U=>au ?_;refine RO.cl ((f t[k] aa).mono ?_);rintro v w⟨rfl,rfl⟩;by_cases h2:p t[k]=true;·rw[h2];refine au ?_;refine RO.eq (t:=true) (au ?_);exact Ru.aL (c _ _ U.gr (aq h2))
   rw[Bool.not_eq_true]at h2;rw[h2];refine au ?_;refine RO.eq (t:=false) (au ?_);exact Ru.wk (s (k+1) aa aa _ (λj hj h=>by
    by_cases e:j=k;·subst e;exact h2
    exact n j hj aa) U)
  have hu:=aaZ hb a aa;have h2:=g _ hu.1;refine RO.aaY U 0 h1 λu U=>au ?_;refine RO.cl ((f _ hu.2).mono ?_);rintro v w⟨rfl,rfl⟩;rw[h2];refine au ?_;refine RO.eq (t:=true) (au ?_);exact Ru.aL (c _ _ U.gr (aq (g _ aa)))
 rw[List.drop_of_length_le aa]at U;refine RO.aaW U 0 (au ?_);refine Ru.exitTo ?_;refine au ?_;refine Ru.aL (c _ _ U.gr ?_);rw[decide_eq_false aa,eq_comm,List.any_eq_false];intro x y;obtain⟨i,hi,rfl⟩:=ahd y;rw[n i hi aa];simp
theorem Lf(T:Tb ac){fv:AV}(c:fv.bk=true)(d:Ld ac fv p)(hb:∀b∈t,b<256)(e:∀r,128<=r->p r=true)(f:∀a,aR B a->C (.bool (t.any p)) a):YN ac XA [.str t,fv] B C:=by
 refine YF.code T.aae aC (au ?_);have h2:YN ac XI [.str t,fv] B λv a=>∃i:Int,v=aI i/\decide (0<=i)=t.any p/\aR B a:=by refine YF.code T.aas aC (au ?_);refine RO.cl (aa3 T c d hb e λa i hg hi=>au ?_);exact Ru.aL ⟨i,rfl,hi,hg⟩
 refine RO.cl (h2.mono ?_);rintro v a⟨i,rfl,hi,hg⟩;refine RO.geq (a:=i) (b:=0) (au ?_);refine Ru.aL ?_;rw[hi];exact f _ hg
def jS(t:List Nat):Prop:=1<=t.length/\t.length<=40/\∀b∈t,33<=b/\b<=126/\b≠34
def sf(t:List Nat):Prop:=t.length<=200/\∀b∈t,(32<=b/\b<=126)\/b=10
instance{t:List Nat}:Decidable (jS t):=inferInstanceAs(Decidable (_/\_/\_))
instance{t:List Nat}:Decidable (sf t):=inferInstanceAs(Decidable (_/\_))
def zX(r:Nat):Bool:=decide (r<33)||decide (126<r)||decide (r=34)
def zY(r:Nat):Bool:=(decide (r<32)||decide (126<r))&&!decide (r=10)
theorem Fv(T:Tb ac)(hb:∀b∈t,b<256)(hl:t.length<=1000000)(c:∀d,aR B d->C (.bool (decide (jS t))) d):YN ac KJ [.str t] B C:=by
 refine YF.code T.ZT aC (au ?_);refine RO.mK (au ?_);refine RO.cl (se T (a:=1) (b:=40) (n:=t.length) ?_);by_cases h0:(1:Int)<=t.length/\(t.length:Int)<=40
 .rw[decide_eq_true h0];refine aS ?_;refine RO.cl (Lf T (fv:=.func Xz [] []) (p:=zX) rfl (λr f=>λ{B}=>?_) hb (λr f=>by simp[zX];omega) λg hg=>?_)
  .unfold zX;refine YF.code T.aad aC (au ?_);refine RO.bP (λh=>?_) (λh=>?_);·refine aS ?_;refine Ru.aL ⟨?_,rfl⟩;simp;omega
   refine aS ?_;refine RO.bP (λh=>?_) (λh=>?_);·refine aS ?_;refine Ru.aL ⟨?_,rfl⟩;simp;omega
   refine aS ?_;refine Ru.aL ⟨?_,rfl⟩;simp;omega
  refine aS ?_;have e:decide (jS t)=!t.any zX:=by
   rw[aiI,decide_eq_true_iff,ah3,List.any_eq_false];simp only[jS,zX];constructor;·intro h b a;have:=h.2.2 b a;simp;omega
   intro h;exact⟨aa,aa,λb a=>by have:=h b a;simp at this;omega⟩
  rw[e]at c;exact Ru.aL (c _ hg)
 rw[decide_eq_false h0];refine aS ?_;have e:decide (jS t)=false:=decide_eq_false λh=>h0 ⟨by have:=h.1;omega,by have:=h.2.1;omega⟩;rw[e]at c;exact Ru.aL (c _ (aR.refl B))
theorem aa4(T:Tb ac)(hb:∀b∈t,b<256)(hl:t.length<=1000000)(c:∀d,aR B d->C (.bool (decide (sf t))) d):YN ac KQ [.str t] B C:=by
 refine YF.code T.aaA aC (au ?_);refine RO.mK (au ?_);refine RO.bP (λh=>?_) (λh=>?_)
 .refine aS ?_;refine RO.cl (Lf T (fv:=.func XR [] []) (p:=zY) rfl (λr f=>λ{B}=>?_) hb (λr f=>by simp[zY];omega) λg hg=>?_)
  .unfold zY;refine YF.code T.aaG aC (au ?_);refine RO.bP (λh=>?_) (λh=>?_);·refine aS ?_;refine Ru.aL ⟨?_,rfl⟩;simp;omega
   refine aS ?_;refine RO.bP (λh=>?_) (λh=>?_);·refine aS ?_;refine Ru.aL ⟨?_,rfl⟩;simp;omega
   refine aS ?_;refine Ru.aL ⟨?_,rfl⟩;simp;omega
  refine aS ?_;have e:decide (sf t)=!t.any zY:=by
   rw[aiI,decide_eq_true_iff,ah3,List.any_eq_false];simp only[sf,zY];constructor;·intro h b a;have:=h.2 b a;simp;omega
   intro h;exact⟨by simp at*;omega,λb a=>by have:=h b a;simp at this;omega⟩
  rw[e]at c;exact Ru.aL (c _ hg)
 refine aS ?_;have e:decide (sf t)=false:=decide_eq_false λh2=>h (by have:=h2.1;simp;omega);rw[e]at c;exact Ru.aL (c _ (aR.refl B))
theorem sJ:∀{a b:List Nat},iG a b=true↔a=b
 |[],[]=>by simp[iG]
 |a::l,b::m=>by
  simp only[iG,ahl,sJ (a:=l) (b:=m),ahD];constructor;·exact λh=>⟨ahn h.1,h.2⟩
  exact λh=>⟨h.1▸ait a,h.2⟩
 |[],_::_=>by simp[iG]
 |_::_,[]=>by simp[iG]
theorem jT(a b:List Nat):iG a b=decide (a=b):=by
 cases h:iG a b;·symm;rw[decide_eq_false_iff_not];intro e;rw[sJ.2 e]at h;cases h
 symm;rw[decide_eq_true_eq];exact sJ.1 h
theorem RO.xz(h:RO ac S O N (bo V H (.bool (decide (t=b)))) B)(a:aT V Z=.str t:=by exact cw)(d:aT V c=.str b:=by exact cw):RO ac S (⟨H,.kw .eql Z c,none,[],[]⟩::O) N V B:=RO.kw (v:=.bool (decide (t=b))) h a rfl d rfl (by simp only[vY,jT])
theorem aa5(T:Tb ac)(a:C (.bool (decide (t=[]))) B):YN ac KO [.str t] B C:=by refine YF.code T.aav aC (au ?_);refine RO.xz (b:=[]) (au ?_);exact Ru.aL a
end
section
variable{ac:Nat->aX}
def zZ:List (List Nat):=[[110,101,103],[110,111,116],[115,105,122,101],[115,104,111,119],[114,101,97,100]]
def z6:List (List Nat):=[[97,100,100],[115,117,98],[109,117,108],[100,105,118],[109,111,100],[108,116],[108,101],[101,113],[106,111,105,110],[98,121,116,101],[115,97,109,101]]
def z7:List (List Nat):=[[99,117,116]]
def fB(t:List Nat):Nat:=if t∈zZ then 1 else if t∈z6 then 2 else if t∈z7 then 3 else 0
theorem Lg(T:Tb ac)(a:C (aN (fB t)) B):YN ac XO [.str t] B C:=by
 refine YF.code T.aaC aC (au ?_);repeat' first|refine RO.xz (RO.bP (λh=>?_) (λh=>?_))|refine RO.bf ?_|refine RO.nil ?_|refine Ru.region ?_|refine Ru.seq ?_|refine Ru.block ?_|refine Ru.skip ?_|refine Ru.aE ?_|refine Ru.mU ?_|refine Ru.lJ ?_|refine Ru.aL ?_
 all_goals
  first|(subst_vars;exact a)|
   (
    have e:fB t=0:=by simp[fB,zZ,z6,z7, *]
    rw[e]at a;exact a)
abbrev zv:List AV:=[aU 0,aI 0,.str []]
def tC:ai->Unit->List AV->Prop:=λ_ _ cs=>cs=zv
theorem aa6(T:Tb ac)(d:cQ 3 tC B A D)(f:E4 B ks Q)(i:0<A.length)(h0:∀k∈ks,k≠0)(g:∀h,aR B h->C (.bool false) h):YN ac KR [D,Q] B C:=by
 have⟨hd,_,_,hl⟩:=d.all;have⟨l,_,_,m⟩:=f.all;refine YF.code T.aaJ aC (au ?_);refine Ru.cond (λb=>?_) (λb=>?_);·refine au ?_;exact Ru.aL (g B (aR.refl B))
 refine au ?_;refine Ru.loop (au ?_);refine Ru.cond (λa=>au ?_) (λa=>absurd i a);refine RO.bL (aR.refl B) d λq o cs hj j p hat hrd=>?_;cases j;refine aS ?_;refine RO.dL (ak.bM B) λr s U=>aS ?_;refine RO.eT U 0 (λt U=>?_);refine aS ?_;refine RO.ic U.gr f (λu o2 c n=>?_) (hj:=by omega);refine aS ?_;refine Ru.cond (λa=>?_) (λa=>?_);·refine aS ?_;exact Ru.aL (g _ U.gr)
 exact(a λe=>h0 _ (abO c) e.symm).elim
theorem aa7(T:Tb ac)(b:∀a q,ak B a [tB BQ q zv]->C (.bool true) a):YN ac Fk [.agg zv] B C:=by refine YF.code T.aaE aC (au ?_);refine RO.bZ (ak.bM B) λc q U=>?_;refine aS ?_;refine RO.bT U 0 ?_;refine aS ?_;refine RO.eq (t:=true) (aS ?_);exact Ru.aL (b _ q U)
theorem aa8(T:Tb ac)(d:cQ 3 tC B A D)(j:A.length<=4)(f:∀b,aR B b->C (.bool true) b):YN ac XP [D,.func Fk [] []] B C:=by
 have g:oq ac B (.func Fk [] []) tC true (λ_:Unit=>[]) (λ_=>True) (λs _=>(true,s)) A:=by rintro s a cs B us _ _ rfl U;refine aa7 T λb q c=>⟨rfl,trivial,[tB BQ q zv],by simpa using U.cH c⟩
 have e:∀(l:List Unit)s,dM (λ(s:Unit)(_:Unit)=>(true,s)) s l=(true,s):=λl=>by induction l with|nil=>intro s;rfl|cons a l i=>intro s;simpa[dM]using i s
 refine zW T.aaD bt T.aaH bt T.aaK (size:=3) (agg:=true) bt (λh=>by cases h) (st:=λs _=>(true,s)) (T:=λ_:Unit=>[]) (I:=λ_=>True) (s:=()) (us:=[]) rfl rfl rfl (Lb T.aaI bt rfl (λa cs h=>by cases h;exact⟨rfl,rfl⟩) g) (λa cs h=>by cases h;rfl) d aa trivial (ak.bM B) λb k _ U=>?_;rw[e];exact f b U.gr
def nz:AV->Bool
 |.int 4 (.ofNat (_+1))=>true
 |_=>false
theorem Lh:∀{b:List AV},b.all nz=true->∃a:List Nat,b=a.map aU/\∀k∈a,k≠0
 |[],_=>⟨[],rfl,λ_ h=>by cases h⟩
 |w::b,h=>by
  simp only[List.all_cons,ahl]at h;have⟨a,e,h2⟩:=Lh h.2;have h1:=h.1;unfold nz at h1;split at h1;·rename_i k;exact⟨(k+1)::a,by rw[e];rfl,λj hj=>(ac2.1 hj).elim (λe=>by omega) (h2 j)⟩
  cases h1
theorem RO.bsK{b:List (Nat×Nat×aJ)}(d:aR E B)(h:∀v a,aR E a->Sl a 1 J J.length v->v.bk=true->RO ac S O N (bo V H v) a)(hl:nW V (dZ W n) b=some J:=by exact cw)(e:J.length=n:=by rfl)(h1:cU J=true:=by rfl):RO ac S (⟨H,.buildSlice F n W b,none,[],[]⟩::O) N V B:=by subst e;refine RO.buildSlice ?_ hl h1;have c:cO (B.new (.cells (cr J) (J.length*1) F true [] 0)) [B.next] F 1 J J.length true (.slice B.next 0 J.length J.length true):=cO.new (aiE _).symm true true;rw[aiE]at c;exact h _ _ (d.trans (aR.new B _)) c.sl rfl
theorem aba(T:Tb ac)(b:aR B E)(c:cQ 3 tC B A D)(d:0<A.length)(e:Sl E 1 J J.length Q)(h0:J.all nz=true)(f:∀a,aR B a->C (.bool false) a):YN ac KR [D,Q] E C:=by obtain⟨ks,rfl,h1⟩:=Lh h0;exact aa6 T (ks:=ks) (bV.gK (λ_ h=>h) b c) (by simpa using e) d h1 λa hg=>f a (b.trans hg)
theorem abb(T:Tb ac)(b:cQ 3 tC B A D)(d:0<A.length)(e:∀c,aR B c->C (.bool false) c):YN ac XQ [.str t,D] B C:=by
 have⟨hd,_,_,_⟩:=b.all;have a:=aR.refl B;refine YF.code T.aaF aC ?_;repeat' first|refine RO.xz (RO.bP (λ_=>?_) (λ_=>?_))|refine RO.bf ?_|refine RO.nil ?_|refine RO.bsK a (λ_ _ a hs _=>?_)|(refine RO.cl (aba T a b d hs rfl λ_ a=>?_))|refine Ru.region ?_|refine Ru.seq ?_|refine Ru.block ?_|refine Ru.skip ?_|refine Ru.aE ?_|refine Ru.mU ?_|refine Ru.lJ ?_|refine RO.rR ?_|refine RO.xy ?_|refine RO.zR ?_|refine RO.zS ?_|refine Ru.aL ?_
 all_goals exact e _ (by assumption)
theorem abc(T:Tb ac)(c:cQ 3 tC B A D)(hl:A.length<=fB t)(h0:0<fB t)(b:∀f,aR B f->C (.tuple [.agg zv,.str [],aN (if A.length=fB t then 11 else 2)]) f):YN ac KP [.str t,D] B C:=by
 have⟨hd,_,_,g⟩:=c.all;have h3:fB t<=3:=by unfold fB;split<;>(try split)<;>(try split)<;>omega
 refine YF.code T.K6 aC (au ?_);refine RO.dL (ak.bM B) λi q U=>aS ?_;refine RO.cl (Lg T (aS ?_));refine Ru.cond (λ(h:fB t=0)=>absurd h aa) (λ_=>aS ?_);refine Ru.cond (λh=>?_) (λh=>?_);·refine aS ?_;refine RO.bT U 0 ?_;refine RO.eT U 0 (λd U=>?_);refine aS ?_;have a:A.length≠fB t:=λe=>h (by rw[e]);rw[an a]at b;exact Ru.je (vs:=[_,_,_]) ⟨⟨q,0,rfl,U.agg 0⟩,rfl,rfl,rfl,rfl,trivial⟩ (b _ U.gr)
 have a:A.length=fB t:=aix.1 h;rw[aF a]at b;refine aS ?_;refine RO.cl (aa8 T (bV.gK (λ_ h=>h) U.gr c) aa λd hg=>?_);have U:=U.bN hg;refine aS ?_;refine RO.cl (abb T (bV.gK (λ_ h=>h) U.gr c) aa λd hg=>?_);have U:=U.bN hg;refine aS ?_;refine RO.bT U 0 ?_;refine RO.eT U 0 (λd U=>?_);refine aS ?_;exact Ru.je (vs:=[_,_,_]) ⟨⟨q,0,rfl,U.agg 0⟩,rfl,rfl,rfl,rfl,trivial⟩ (b _ U.gr)
theorem abd(T:Tb ac)(b:cQ 3 tC B A D)(h0:fB t=0)(c:∀a,aR B a->C (.tuple [.agg zv,.str [],aN 10]) a):YN ac KP [.str t,D] B C:=by have⟨hd,_,_,d⟩:=b.all;refine YF.code T.K6 aC (au ?_);refine RO.dL (ak.bM B) λe q U=>aS ?_;refine RO.cl (Lg T (aS ?_));refine Ru.cond (λ_=>aS ?_) (λh=>absurd h0 h);refine RO.bT U 0 ?_;refine RO.eT U 0 (λf U=>?_);refine aS ?_;exact Ru.je (vs:=[_,_,_]) ⟨⟨q,0,rfl,U.agg 0⟩,rfl,rfl,rfl,rfl,trivial⟩ (c _ U.gr)
theorem Li(a:F<=3)(h:Sl B 3 ((dZ zv 4).take (F*3)) F D):cQ 3 tC B (ab7 F ()) D:=by
 refine⟨_,by simpa using h,λj hj=>?_⟩;simp only[aif]at hj;match F,a with
  |0,_=>omega
  |1,_=>match j,hj with|0,_=>rfl
  |2,_=>match j,hj with|0,_=>rfl|1,_=>rfl
  |3,_=>match j,hj with|0,_=>rfl|1,_=>rfl|2,_=>rfl
theorem abe(T:Tb ac)(h0:0<fB t)(e:∀c,aR B c->C (.tuple [aN (fB t),.bool true]) c):YN ac KN [.str t] B C:=by
 have h3:fB t<=3:=by unfold fB;split<;>(try split)<;>(try split)<;>omega
 refine YF.code T.K5 aC (au ?_);refine RO.jq (ak.bM B) (n:=4) (λm q U=>au ?_) (hz:=rfl);refine Ru.nm λS M f d=>Ru.bH d (up (P:=λk=>∀b,ak B b [tS BQ 3 (dZ zv 4) 4 true (.slice q 0 4 4 true)]->Ru ac _ S ([(gQ,aN k)]++pk M [p0,p4,dS,eD]) b) (fB t) (λk g i b U=>?_) 0 aa _ U);subst f;subst d;refine Ru.loop (au ?_);refine Ru.cond (λ(j:k<4)=>au ?_) (λh=>absurd (show k<4 by omega) h);refine RO.J8 (U.sl 0) (λl hs=>?_);have hz:=Li aa hs;have hd:=hz.bk;refine au ?_;refine RO.cl (abc T hz (by simpa using g) h0 λn hg=>?_);have U:=U.bN hg;rw[aif];refine au ?_;refine RO.dD U (λo p U=>au ?_);by_cases a:k=fB t;·rw[aF a];refine aS ?_;refine Ru.ki ?_;rw[a];exact e _ U.gr
 rw[an a];refine aS ?_;exact Ru.wk (i (k+1) aa aa _ U.tail)
theorem abf(T:Tb ac)(h0:fB t=0)(d:∀b,aR B b->C (.tuple [aN 0,.bool false]) b):YN ac KN [.str t] B C:=by
 refine YF.code T.K5 aC (au ?_);refine RO.jq (ak.bM B) (n:=4) (λj q U=>au ?_) (hz:=rfl);refine Ru.nm λS M e c=>Ru.bH c (up (P:=λk=>∀a,ak B a [tS BQ 3 (dZ zv 4) 4 true (.slice q 0 4 4 true)]->Ru ac _ S ([(gQ,aN k)]++pk M [p0,p4,dS,eD]) a) 4 (λk l f a U=>?_) 0 aa _ U);subst e;subst c;refine Ru.loop (au ?_);refine Ru.cond (λ(g:k<4)=>?_) (λh=>?_);·refine au ?_;refine RO.J8 (U.sl 0) (λi hs=>?_);have hz:=Li aa hs;have hd:=hz.bk;refine au ?_;refine RO.cl (abd T hz h0 λm hg=>?_);have U:=U.bN hg;refine au ?_;refine RO.dD U (λn o U=>aS ?_);exact Ru.wk (f (k+1) aa aa _ U.tail)
 refine Ru.exitTo ?_;refine au ?_;refine Ru.ki ?_;exact d _ U.gr
structure lO where
 u9:Bool
 z8:Int
 z9:Int
 nm:Nat
 x9:Int
 ye:Int
def vf:Nat->AV
 |0=>.func KO [] []
 |1=>.func KJ [] []
 |_=>.func KQ [] []
def tD(r:lO):AV:=.agg [.bool r.u9,aI r.z8,aI r.z9,vf r.nm,aI r.x9,aI r.ye]
def mj:List (Nat×lO):=[(1,⟨true,0,0,0, -1000000000,1000000000⟩),(2,⟨true,0,0,0,0,1⟩),(3,⟨true,0,0,2,0,0⟩),(4,⟨true,0,0,0,0,0⟩),(11,⟨true,0,0,1,0,0⟩),(40,⟨true,0,1073741824,1,0,0⟩),(15,⟨true,0,6,1,0,0⟩),(18,⟨true,0,6,1,0,0⟩),(37,⟨true,0,0,1,0,0⟩),(38,⟨false,1,1,1,0,0⟩),(16,⟨true,1,1,1,0,5⟩),(17,⟨false,2,2,1,0,5⟩),(23,⟨false,1,1,0,0,0⟩),(24,⟨true,0,0,0,1,8⟩),(25,⟨false,2,2,0,0,0⟩),(26,⟨true,1,1,0,0,0⟩),(31,⟨false,0,0,0,0,0⟩),(32,⟨false,1,1,0,0,0⟩),(33,⟨true,0,0,0,0,0⟩),(34,⟨false,0,0,0,0,0⟩),(35,⟨true,1,1,0,0,0⟩),(39,⟨false,0,0,0,0,0⟩),(64,⟨true,1,1,0,0,3⟩)]
def qM:Nat->List (Nat×lO)->List aV
 |_,[]=>[]
 |b,p::l=>⟨aU p.1,tD p.2,b⟩::qM (b+1) l
def tE(op:Nat):List (Nat×lO)->Nat->Option (Nat×lO)
 |[],_=>none
 |p::l,i=>if op=p.1 then some (i,p.2)else tE op l (i+1)
theorem B0(op:Nat):∀l b i,findKey .int (aU op) (qM b l) i=some ((tE op l i).map λp=>(p.1,tD p.2))
 |[],_,_=>rfl
 |p::l,b,i=>by
  have e:db 64 .int (aU op) (aU p.1)=some (decide (op=p.1)):=by
   show(if(4:Nat)=4 then some (gz (.ofNat op) (.ofNat p.1))else none)=_;rw[aF rfl];congr 1;by_cases h:op=p.1;·simp[gz,h]
   simp only[gz,h,decide_false];cases hb:ahr op p.1 with|false=>rfl|true=>exact absurd (ahn hb) h
  simp only[qM,findKey,e,tE];by_cases h:op=p.1;·grind
  simp only[h,decide_false,bF];exact B0 op l (b+1) (i+1)
theorem abg(T:Tb ac)(b:∀a,aR B a->C (tD ⟨X,P,P,0,0,0⟩) a):YN ac XN [.bool X,aI P] B C:=by refine YF.code T.aaB aC (au ?_);refine RO.dL (ak.bM B) λc q U=>aS ?_;refine RO.eT U 0 (λd U=>aS ?_);exact Ru.je (vs:=[_]) ⟨⟨q,0,rfl,U.agg 0⟩,trivial⟩ (b _ U.gr)
theorem B3(T:Tb ac)(c:∀b,aR B b->C (tD ⟨X,P,a,1,0,0⟩) b):YN ac XJ [.bool X,aI P,aI a] B C:=by refine YF.code T.aau aC (au ?_);refine RO.dL (ak.bM B) λd q U=>aS ?_;refine RO.eT U 0 (λe U=>aS ?_);exact Ru.je (vs:=[_]) ⟨⟨q,0,rfl,U.agg 0⟩,trivial⟩ (c _ U.gr)
theorem Lj:∀(l:List (Nat×lO))(b:Nat)(p:Nat×lO),qM b (l++[p])=qM b l++[⟨aU p.1,tD p.2,b+l.length⟩]|[],_,_=>rfl|a::l,b,p=>by simp only[ah4,qM,Lj l (b+1) p,ahK,aiD,Nat.add_comm 1]
theorem RO.abh{b:List Th}{r:lO}(U:ak E B (tX L (.map (qM 0 (mj.take F)) F)::b))(d:mj[F]?=some (n,r))(h:∀a,ak E a (tX L (.map (qM 0 (mj.take (F+1))) (F+1))::b)->RO ac S O N (bo V H .ai8) a)(f:tE n (mj.take F) 0=none:=by rfl)(g:aT V Z=.map L:=by exact cw)(i:aT V c=tD r:=by exact cw):RO ac S (⟨H,.jK .int Z (.c (aU n)) c,none,[],[]⟩::O) N V B:=by
 refine RO.aa1 U 0 (kv:=aU n) (λa j=>h a ?_) rfl g rfl i rfl rfl rfl (by simp[f,B0]);have⟨k,_⟩:=ahY.1 d;have e:mj.take (F+1)=mj.take F++[(n,r)]:=by rw[List.take_add_one,d];rfl
 have l:(mj.take F).length=F:=by rw[ahU];omega
 simp_all[Lj,ahw]
theorem abi(T:Tb ac)(b:∀a q,ak B a [tX q (.map (qM 0 mj) 23)]->C (.map q) a):YN ac XK [] B C:=by
 refine YF.code T.aaw aC (au ?_);refine RO.aa0 (ak.bM B) λc q U=>?_;have U:ak B c (tX q (.map (qM 0 (mj.take 0)) 0)::[]):=U;repeat first|refine RO.build ?_|refine RO.abh U rfl (λ_ U=>?_)|(refine RO.cl (abg T λ_ hg=>?_);have U:=U.bN hg)|(refine RO.cl (B3 T λ_ hg=>?_);have U:=U.bN hg)|refine RO.bf ?_|refine RO.nil ?_
 exact Ru.aL (b _ q U)
def ng(s:G.dY):Option lO:=
 if s.op=14 then(if 0<fB s.i7 then some ⟨true,fB s.i7,fB s.i7,1,0,0⟩else none)
 else if s.op=13 then(if s.m=1 then some ⟨true,0,6,1,0,0⟩else some ⟨true,1,7,0,0,0⟩)
 else(tE s.op mj 0).map (·.2)
theorem abj(T:Tb ac)(hs:nY B Y J)(a:∀r,ng Y=some r->∀j,aR B j->C (.tuple [tD r,.bool true]) j)(d:ng Y=none->∀j(b:Bool)(v:AV),v.cY=true->v.bk=true->aR B j->C (.tuple [.agg [.bool b,aI 0,aI 0,v,aI 0,aI 0],.bool false]) j):YN ac XB [.agg J] B C:=by
 have n:=hs.one;obtain⟨t,rfl,l⟩:=hs;have⟨hd,_,_,u⟩:=l.all;refine YF.code T.aah aC (au ?_);refine RO.bZ (ak.bM B) λw q U=>aS ?_;refine RO.dL U λx g U=>aS ?_;unfold ng at a d;refine Ru.cond (λf=>?_) (λf=>?_)
 .rw[aF f]at a d;by_cases h0:0<fB Y.i7;case neg=>rw[an h0]at d;clear a;refine aS ?_;refine RO.cl (abf T (t:=Y.i7) aa λk hg=>?_);have U:=U.bN hg;refine aS ?_;refine RO.cl (B3 T λk hg=>?_);have U:=U.bN hg;refine aS ?_;refine RO.eT U 0 (λe U=>aS ?_);exact Ru.je (vs:=[_,_]) ⟨⟨g,0,rfl,U.agg 0⟩,rfl,rfl,trivial⟩ (d rfl _ _ _ rfl rfl U.gr)
  rw[aF h0]at a;clear d;have a:=a _ rfl;refine aS ?_;refine RO.cl (abe T h0 λk hg=>?_);have U:=U.bN hg;refine aS ?_;refine RO.cl (B3 T λk hg=>?_);have U:=U.bN hg;refine aS ?_;refine RO.eT U 0 (λe U=>aS ?_);exact Ru.je (vs:=[_,_]) ⟨⟨g,0,rfl,U.agg 0⟩,rfl,rfl,trivial⟩ (a _ U.gr)
 rw[an f]at a d;refine aS ?_;refine RO.bP (λc=>?_) (λc=>?_)
 .rw[aF c]at a;clear d;refine aS ?_;refine Ru.cond (λ(h1:Y.m=1)=>?_) (λ(h1:¬Y.m=1)=>?_);·rw[aF h1]at a;have a:=a _ rfl;refine aS ?_;refine RO.cl (B3 T λk hg=>?_);have U:=U.bN hg;refine RO.eT U 0 (λe U=>aS ?_);exact Ru.je (vs:=[_,_]) ⟨⟨g,0,rfl,U.agg 0⟩,rfl,rfl,trivial⟩ (a _ U.gr)
  rw[an h1]at a;have a:=a _ rfl;refine aS ?_;refine Ru.cond (λh=>aS ?_) (λh=>absurd c h);refine RO.eT U 0 (λe U=>aS ?_);exact Ru.je (vs:=[_,_]) ⟨⟨g,0,rfl,U.agg 0⟩,rfl,rfl,trivial⟩ (a _ U.gr)
 rw[an c]at a d;refine aS ?_;refine Ru.cond (λh=>absurd h c) (λh=>aS ?_);refine RO.BZ (abi T λk y o=>?_);have U:=U.cH o;have⟨z,i⟩:=U.get 2 rfl;refine⟨tB.cell (v:=aU Y.op) i rfl,?_⟩;cases i:tE Y.op mj 0 with
 |none=>rw[i]at d;refine RO.Lc U 0 (r:=none) (by have:=B0 Y.op mj 0 0;rw[i]at this;exact this) ?_;refine aS ?_;refine RO.eT U 1 (λe U=>aS ?_);refine RO.bT U 1 (aS ?_);refine RO.eT U 1 (λe U=>aS ?_);exact Ru.je (vs:=[_,_]) ⟨⟨g,0,rfl,U.agg 1⟩,rfl,rfl,trivial⟩ (d rfl _ _ _ rfl rfl U.gr)
 |some p=>
  have a:=a _ (by rw[i];rfl);have s:(vf p.2.nm).cY=true:=by unfold vf;split<;>rfl
  refine RO.Lc U 0 (r:=some (p.1,tD p.2)) (by have:=B0 Y.op mj 0 0;rw[i]at this;exact this) ?_;refine aS ?_;refine RO.eT U 1 (λe U=>aS ?_);refine RO.bT U 1 (aS ?_);refine RO.eT U 1 (λe U=>aS ?_);exact Ru.je (vs:=[_,_]) ⟨⟨g,0,rfl,U.agg 1⟩,rfl,rfl,trivial⟩ (a _ U.gr)
section
def fT(g:G.aM)(c:AV)(a b:ah)(n:Nat)(s:List Bool):List Th:=[tB V0 a [.str g.i7,aI g.i4,aI g.aO,c,.slice b 0 n n true],tS 4 1 (s.map .bool) n true (.slice b 0 n n true)]
def B4:ai->Int->List AV->Prop:=λ_ v cs=>cs=[aI v]
theorem dh.r{l:List Int}(h:dh B l D):cQ 1 B4 B l D:=⟨_,h,λk d=>by simp[d,aiE,ahp,B4]⟩
def iT(g:G.aM)(s:List Bool)(v:Int):Bool×List Bool:=
 if g.i4<=v/\v<=g.aO - 1 then(if s.getD v.toNat false then(false,s)else(true,s.set v.toNat true))else(false,s)
structure FV(g:G.aM)(n:Nat):Prop where
 h0:0<=g.i4
 h1:g.i4<=g.aO
 h2:g.aO<=6000
 h3:(n:Int)=g.aO
section
variable{us:List Th}
theorem abk(T:Tb ac)(V:FV I F)(U:ak E B (fT I D L M F s++us))(d:C (.bool (decide (0<=P/\P<=I.aO - 1))) B):YF ac (.func Fj [.aD L 0] []) [aI P] B C:=by obtain⟨h0,h1,h2,h3⟩:=V;refine YF.code T.aai aC (au ?_);refine RO.nilCheck ?_;refine aS ?_;refine RO.sub (a:=I.aO) (b:=1) ?_;refine aS ?_;refine RO.cl (se T (aS ?_));exact Ru.aL d
theorem abl(T:Tb ac)(V:FV I F)(d:List Int):oq ac B (.func Fj [.aD L 0] []) B4 false (fT I D L M F) (λs=>s.length=F) (λs v=>(decide (0<=v/\v<=I.aO - 1),s)) d:=by rintro s v cs E us _ e rfl U;exact abk T V U ⟨rfl,e,[],by grind⟩
theorem Fx(T:Tb ac)(V:FV I F)(hs:s.length=F)(U:ak E B (fT I D L M F s++us))(d:∀e,ak E e (fT I D L M F (iT I s P).2++us)->C (.bool (iT I s P).1) e):YF ac (.func Fg [.aD L 0] []) [aI P] B C:=by
 unfold iT at d;obtain⟨h0,h1,h2,h3⟩:=V;refine YF.code T.ZV aC (au ?_);refine RO.nilCheck ?_;refine aS ?_;refine RO.nilCheck ?_;refine aS ?_;refine RO.sub (a:=I.aO) (b:=1) (aS ?_);refine RO.cl (se T ?_);by_cases hv:I.i4<=P/\P<=I.aO - 1;·simp only[aF hv]at d;rw[decide_eq_true hv];obtain⟨k,rfl⟩:∃k:Nat,P=(k:Int):=⟨P.toNat,aa⟩;have f:k<s.length:=aa;simp only[aeY]at d;refine aS ?_;refine RO.nilCheck ?_;refine aS ?_;refine RO.cJ U 1 ?_ (hv:=nX false f);refine aS ?_;cases hg:s.getD k false with|true=>simp only[hg,bg]at d;refine aS ?_;exact Ru.aL (d B U)|false=>simp only[hg,abH,bF]at d;refine aS ?_;refine RO.nilCheck ?_;refine aS ?_;refine RO.fD U 1 true hs (λh U=>?_);refine aS ?_;exact Ru.aL (d h U)
 simp only[an hv]at d;rw[decide_eq_false hv];refine aS ?_;exact Ru.aL (d B U)
theorem abm(T:Tb ac)(V:FV I F)(d:List Int):oq ac B (.func Fg [.aD L 0] []) B4 false (fT I D L M F) (λs=>s.length=F) (iT I) d:=by rintro s v cs E us _ e rfl U;refine Fx T V e U λh f=>⟨rfl,?_,[],by grind⟩;grind[iT]
end
end
section
def yf:Nat->List Nat->Prop
 |0,t=>t=[]
 |1,t=>jS t
 |_,t=>sf t
structure Aa(g:G.aM)(x:G.dY)(r:lO):Prop where
 args:r.z8<=x.args.length/\x.args.length<=r.z9
 i7:yf r.nm x.i7
 num:r.x9<=x.n/\x.n<=r.ye
 l6:x.m=0\/x.op=13/\x.m=1
 iU:∀a∈x.args,0<=a/\a<=g.aO - 1
open Classical in noncomputable def stepG(g:G.aM)(s:List Bool)(x:G.dY):Bool×List Bool:=match ng x with|some r=>if Aa g x r then(if r.u9 then iT g s x.to else(decide (x.to= -1),s))else(false,s)|none=>(false,s)
theorem abn(T:Tb ac)(hb:∀b∈t,b<256)(hl:t.length<=1000000)(f:∀a(b:Bool),aR B a->(b=true↔yf F t)->C (.bool b) a):YF ac (vf F) [.str t] B C:=by match F with|0=>exact aa5 T (f _ _ (aR.refl B) (by simp[yf]))|1=>exact Fv T hb hl λa hg=>f _ _ hg (by simp[yf])|_+2=>exact aa4 T hb hl λa hg=>f _ _ hg (by simp[yf])
theorem Fy{b σ:Type}{p:b->Bool}:∀{la:List b}{s:σ},dM (λs a=>(p a,s)) s la=(la.all p,s)|[],_=>rfl|a::l,s=>by have:=Fy (p:=p) (la:=l) (s:=s);cases h:p a<;>simp[dM,h,this]
section
variable{us:List Th}
theorem B5(T:Tb ac)(V:FV I F)(hs:s.length=F){la:List Int}(k:dh B la D)(hl:la.length<=1000000)(U:ak B E (fT I Q L M F s++us))(l:∀i j(b:Bool),(b=true↔∀a∈la,0<=a/\a<=I.aO - 1)->ak B i (fT I Q L M F s++j++us)->C (.bool b) i):YN ac KK [D,.func Fj [.aD L 0] []] E C:=by have m:=Fy (σ:=List Bool) (p:=λv=>decide (0<=v/\v<=I.aO - 1)) (la:=la) (s:=s);refine zW T.K3 bt T.Fl bt T.Fm (size:=1) (agg:=false) bt (λ_=>rfl) rfl rfl rfl (Fu T.K4 bt rfl (λa cs h=>by cases h;rfl) (abl T V la)) (λa cs h=>by cases h;rfl) (dh.r k) hl hs U λi j _ f=>?_;rw[m]at f⊢;exact l i j _ aC f
theorem abo(T:Tb ac)(V:FV I n)(hs:s.length=n)(y:nY B Y J)(hb:∀av∈Y.i7,av<256)(C:Y.i7.length<=1000000)(hl:Y.args.length<=1000000)(U:ak B E (fT I D L M n s++us)){K:KT}(p:∀i f,ak B i (fT I D L M n (stepG I s Y).2++f++us)->K (.bool (stepG I s Y).1) i):YF ac (.func Fh [.aD L 0] []) [.agg J] E K:=by
 have N:=y.one;have F:=y;obtain⟨va,rfl,o⟩:=y;have⟨hd,_,_,hn⟩:=o.all;refine YF.code T.ZX aC (au ?_);refine RO.bZ U λH1 q U=>au ?_;refine RO.bT U 0 (au ?_);refine RO.cl (abj T (bV.step U.gr F) (λr h1 P hg=>?_) (λh1 P b v Z ag hg=>?_));rotate_left;·have U:=U.bN hg;simp only[stepG,h1]at p;refine au ?_;refine RO.dD U (λQ R U=>aS ?_);exact Ru.aL (p _ [_,_] (by have:=ak.dK (xs:=[_,_]) U;simpa[fT]using this))
 have U:=U.bN hg;have no:¬Aa I Y r->∀i f,ak B i (fT I D L M n s++f++us)->K (.bool false) i:=λh i f U=>by have t:=p i f;simp only[stepG,h1,an h]at t;exact t U
 have a:Aa I Y r->∀i f,ak B i (fT I D L M n (if r.u9 then iT I s Y.to else(decide (Y.to= -1),s)).2++f++us)->K (.bool (if r.u9 then iT I s Y.to else(decide (Y.to= -1),s)).1) i:=λh i f U=>by have t:=p i f;simp only[stepG,h1,aF h]at t;exact t U
 clear p;have x:(vf r.nm).cY=true/\(vf r.nm).bk=true:=by unfold vf;split<;>exact⟨rfl,rfl⟩
 obtain⟨x,O⟩:=x;refine au ?_;refine RO.dD U (λQ R U=>?_);refine aS ?_;refine RO.cl (se T (a:=r.z8) (b:=r.z9) (n:=Y.args.length) ?_);by_cases h2:r.z8<=Y.args.length/\(Y.args.length:Int)<=r.z9;rotate_left;·rw[decide_eq_false h2];refine aS ?_;exact Ru.aL (no (λh=>h2 h.args) _ [_,_] (by have:=ak.dK (xs:=[_,_]) U;simpa[fT]using this))
 rw[decide_eq_true h2];refine aS ?_;refine RO.cl (abn T hb C λH4 S hg h3=>?_);have U:=U.bN hg;cases S with
 |false=>refine aS ?_;exact Ru.aL (no (λh=>by have:=h3.2 h.i7;cases this) _ [_,_] (by have:=ak.dK (xs:=[_,_]) U;simpa[fT]using this))
 |true=>
  have h3:=h3.1 rfl;refine aS ?_;refine RO.cl (se T (a:=r.x9) (b:=r.ye) (n:=Y.n) ?_);by_cases u:r.x9<=Y.n/\Y.n<=r.ye;rotate_left;·rw[decide_eq_false u];refine aS ?_;exact Ru.aL (no (λh=>u h.num) _ [_,_] (by have:=ak.dK (xs:=[_,_]) U;simpa[fT]using this))
  rw[decide_eq_true u];refine aS ?_;refine RO.bP (λ(h:Y.m≠0)=>?_) (λ(h:¬Y.m≠0)=>?_)
  .refine aS ?_;refine RO.bP (λj=>?_) (λj=>?_);·refine aS ?_;exact Ru.aL (no (λl=>j (l.l6.resolve_left h).1) _ [_,_] (by have:=ak.dK (xs:=[_,_]) U;simpa[fT]using this))
   have j:Y.op=13:=aix.1 j;refine aS ?_;refine RO.bP (λk=>?_) (λk=>?_);·refine aS ?_;exact Ru.aL (no (λl=>k (l.l6.resolve_left h).2) _ [_,_] (by have:=ak.dK (xs:=[_,_]) U;simpa[fT]using this))
   have k:Y.m=1:=aix.1 k;refine aS ?_;refine RO.cl (B5 T V hs o hl (ak.dK (xs:=[_,_]) U) λW f z w U=>?_);have U:=ak.jd (xs:=[_,_]) U;cases z with
   |false=>refine aS ?_;exact Ru.aL (no (λl=>by have:=w.2 l.iU;cases this) _ (f++[_,_]) (by have:=ak.dK (xs:=[_,_]) U;simpa[fT]using this))
   |true=>
    have a:=a ⟨h2,h3,u,.inr ⟨j,k⟩,w.1 rfl⟩;refine aS ?_;refine Ru.d9 (λhg=>?_) (λhg=>?_);·simp only[ah3]at hg;simp only[hg,abH,bF]at a;refine aS ?_;exact Ru.aL (a _ (f++[_,_]) (by have:=ak.dK (xs:=[_,_]) U;simpa[fT]using this))
    simp only[Bool.not_eq_false']at hg;simp only[hg,bg]at a;refine aS ?_;refine RO.cl (YF.lF (Fx T V hs (us:=f++[_,_]++us) (by have:=ak.dK (xs:=[_,_]) U;simpa[fT]using this) λX U=>?_));refine aS ?_;exact Ru.aL (a _ (f++[_,_]) (by simpa using U))
  have h:Y.m=0:=aix.1 h;refine aS ?_;refine RO.cl (B5 T V hs o hl (ak.dK (xs:=[_,_]) U) λW f z w U=>?_);have U:=ak.jd (xs:=[_,_]) U;cases z with
  |false=>refine aS ?_;exact Ru.aL (no (λl=>by have:=w.2 l.iU;cases this) _ (f++[_,_]) (by have:=ak.dK (xs:=[_,_]) U;simpa[fT]using this))
  |true=>
   have a:=a ⟨h2,h3,u,.inl h,w.1 rfl⟩;refine aS ?_;refine Ru.d9 (λhg=>?_) (λhg=>?_);·simp only[ah3]at hg;simp only[hg,abH,bF]at a;refine aS ?_;exact Ru.aL (a _ (f++[_,_]) (by have:=ak.dK (xs:=[_,_]) U;simpa[fT]using this))
   simp only[Bool.not_eq_false']at hg;simp only[hg,bg]at a;refine aS ?_;refine RO.cl (YF.lF (Fx T V hs (us:=f++[_,_]++us) (by have:=ak.dK (xs:=[_,_]) U;simpa[fT]using this) λX U=>?_));refine aS ?_;exact Ru.aL (a _ (f++[_,_]) (by simpa using U))
end
end
end
end Go.al.R
end
