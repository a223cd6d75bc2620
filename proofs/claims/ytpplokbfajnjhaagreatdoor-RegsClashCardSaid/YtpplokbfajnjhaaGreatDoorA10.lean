/- A part. No conditions. -/
import Derived.Test.YtpplokbfajnjhaaGreatDoorA09
set_option linter.all false
set_option maxHeartbeats 16000000
open List renaming replicate->acJ
open Nat renaming beq->ah8
noncomputable section
namespace Go.al.R
section
variable{ab:Nat->aV}
theorem rT(T:Tb ab){H:ai}{a b n:Int}{K:KT}(c:K (.bool (decide (a<=n/\n<=b))) H):YN ab XZ [aI a,aI b,aI n] H K:=by
 refine YF.code T.aah aC (au ?_);refine RO.bW (λh=>?_) (λh=>?_);·refine aX ?_;refine Ru.aL ?_;simpa[h]using c
 refine aX ?_;refine Ru.aL ?_;simpa[h]using c
def Lr(ab:Nat->aV)(fv:AV)(p:Nat->Bool):Prop:=∀r,r<=2147483647->∀{H:ai},YF ab fv [.int 2 (.ofNat r)] H λv H'=>v=.bool (p r)/\H'=H
theorem abp(T:Tb ab){H:ai}{fv:AV}{t:List Nat}{p:Nat->Bool}(y:fv.br=true)(f:Lr ab fv p)(hb:∀b∈t,b<256)(g:∀r,128<=r->p r=true){K:KT}(c:∀H'(i:Int),aS H H'->decide (0<=i)=t.any p->K (aI i) H'):YN ab Yt [.str t,fv,.bool true] H K:=by
 refine YF.code T.aaW aC (au ?_);refine RO.pH (ak.bN H) λH1 q U=>au ?_;refine Ru.nm λS M n l=>Ru.bI l (up (P:=λk=>∀d,(∀j(h:j<t.length),j<k->p t[j]=false)->ak H d [tX q (.ky t (t.drop k) k)]->Ru ab _ S ([]++pk M [p0,p1,p2,eM]) d) t.length (λk A o d m U=>?_) 0 aa _ (λj _ hj=>by omega) U);subst n;subst l;refine Ru.loop (au ?_);by_cases a:k<t.length
 .rw[ah6 a]at U;have z:=hb _ (acm a);have aq:p t[k]=true->decide ((0:Int)<=(k:Int))=t.any p:=λh=>by rw[List.any_eq_true.2 ⟨_,acm a,h⟩];exact decide_eq_true aa
  by_cases h1:t[k]<128
  .refine RO.abj U 0 h1 λs U=>au ?_;refine RO.cl ((f t[k] aa).mono ?_);rintro v u⟨rfl,rfl⟩;by_cases h2:p t[k]=true;·rw[h2];refine au ?_;refine RO.eq (t:=true) (au ?_);exact Ru.aL (c _ _ U.gr (aq h2))
   rw[Bool.not_eq_true]at h2;rw[h2];refine au ?_;refine RO.eq (t:=false) (au ?_);exact Ru.wk (o (k+1) aa aa _ (λj hj h=>by
    by_cases e:j=k;·subst e;exact h2
    exact m j hj aa) U)
  have hu:=abl hb a aa;have h2:=g _ hu.1;refine RO.abk U 0 h1 λs U=>au ?_;refine RO.cl ((f _ hu.2).mono ?_);rintro v u⟨rfl,rfl⟩;rw[h2];refine au ?_;refine RO.eq (t:=true) (au ?_);exact Ru.aL (c _ _ U.gr (aq (g _ aa)))
 rw[List.drop_of_length_le aa]at U;refine RO.abi U 0 (au ?_);refine Ru.exitTo ?_;refine au ?_;refine Ru.aL (c _ _ U.gr ?_);rw[decide_eq_false aa,eq_comm,List.any_eq_false];intro x w;obtain⟨i,hi,rfl⟩:=ah0 w;rw[m i hi aa];simp
theorem Ls(T:Tb ab){H:ai}{fv:AV}{t:List Nat}{p:Nat->Bool}(a:fv.br=true)(c:Lr ab fv p)(hb:∀b∈t,b<256)(d:∀r,128<=r->p r=true){K:KT}(e:∀H',aS H H'->K (.bool (t.any p)) H'):YN ab Yh [.str t,fv] H K:=by
 refine YF.code T.aaB aC (au ?_);have h2:YN ab Yp [.str t,fv] H λv H'=>∃i:Int,v=aI i/\decide (0<=i)=t.any p/\aS H H':=by refine YF.code T.aaP aC (au ?_);refine RO.cl (abp T a c hb d λH' i hg hi=>au ?_);exact Ru.aL ⟨i,rfl,hi,hg⟩
 refine RO.cl (h2.mono ?_);rintro v H'⟨i,rfl,hi,hg⟩;refine RO.geq (a:=i) (b:=0) (au ?_);refine Ru.aL ?_;rw[hi];exact e _ hg
def jR(t:List Nat):Prop:=1<=t.length/\t.length<=40/\∀b∈t,33<=b/\b<=126/\b≠34
def rU(t:List Nat):Prop:=t.length<=200/\∀b∈t,(32<=b/\b<=126)\/b=10
instance{t:List Nat}:Decidable (jR t):=inferInstanceAs(Decidable (_/\_/\_))
instance{t:List Nat}:Decidable (rU t):=inferInstanceAs(Decidable (_/\_))
def zD(r:Nat):Bool:=decide (r<33)||decide (126<r)||decide (r=34)
def zE(r:Nat):Bool:=(decide (r<32)||decide (126<r))&&!decide (r=10)
theorem Fq(T:Tb ab){H:ai}{t:List Nat}(hb:∀b∈t,b<256)(hl:t.length<=1000000){K:KT}(c:∀H',aS H H'->K (.bool (decide (jR t))) H'):YN ab KS [.str t] H K:=by
 refine YF.code T.aag aC (au ?_);refine RO.mI (au ?_);refine RO.cl (rT T (a:=1) (b:=40) (n:=t.length) ?_);by_cases h0:(1:Int)<=t.length/\(t.length:Int)<=40
 .rw[decide_eq_true h0];refine aX ?_;refine RO.cl (Ls T (fv:=.func Yg [] []) (p:=zD) rfl (λr d=>λ{H}=>?_) hb (λr d=>by simp[zD];omega) λH1 hg=>?_)
  .unfold zD;refine YF.code T.aaA aC (au ?_);refine RO.bW (λh=>?_) (λh=>?_);·refine aX ?_;refine Ru.aL ⟨?_,rfl⟩;simp;omega
   refine aX ?_;refine RO.bW (λh=>?_) (λh=>?_);·refine aX ?_;refine Ru.aL ⟨?_,rfl⟩;simp;omega
   refine aX ?_;refine Ru.aL ⟨?_,rfl⟩;simp;omega
  refine aX ?_;have e:decide (jR t)=!t.any zD:=by
   rw[ajp,decide_eq_true_iff,aiM,List.any_eq_false];simp only[jR,zD];constructor;·intro h b a;have:=h.2.2 b a;simp;omega
   intro h;exact⟨aa,aa,λb a=>by have:=h b a;simp at this;omega⟩
  rw[e]at c;exact Ru.aL (c _ hg)
 rw[decide_eq_false h0];refine aX ?_;have e:decide (jR t)=false:=decide_eq_false λh=>h0 ⟨by have:=h.1;omega,by have:=h.2.1;omega⟩;rw[e]at c;exact Ru.aL (c _ (aS.refl H))
theorem abq(T:Tb ab){H:ai}{t:List Nat}(hb:∀b∈t,b<256)(hl:t.length<=1000000){K:KT}(c:∀H',aS H H'->K (.bool (decide (rU t))) H'):YN ab K2 [.str t] H K:=by
 refine YF.code T.aaX aC (au ?_);refine RO.mI (au ?_);refine RO.bW (λh=>?_) (λh=>?_)
 .refine aX ?_;refine RO.cl (Ls T (fv:=.func Yy [] []) (p:=zE) rfl (λr d=>λ{H}=>?_) hb (λr d=>by simp[zE];omega) λH1 hg=>?_)
  .unfold zE;refine YF.code T.aa3 aC (au ?_);refine RO.bW (λh=>?_) (λh=>?_);·refine aX ?_;refine Ru.aL ⟨?_,rfl⟩;simp;omega
   refine aX ?_;refine RO.bW (λh=>?_) (λh=>?_);·refine aX ?_;refine Ru.aL ⟨?_,rfl⟩;simp;omega
   refine aX ?_;refine Ru.aL ⟨?_,rfl⟩;simp;omega
  refine aX ?_;have e:decide (rU t)=!t.any zE:=by
   rw[ajp,decide_eq_true_iff,aiM,List.any_eq_false];simp only[rU,zE];constructor;·intro h b a;have:=h.2 b a;simp;omega
   intro h;exact⟨by simp at*;omega,λb a=>by have:=h b a;simp at this;omega⟩
  rw[e]at c;exact Ru.aL (c _ hg)
 refine aX ?_;have e:decide (rU t)=false:=decide_eq_false λh2=>h (by have:=h2.1;simp;omega);rw[e]at c;exact Ru.aL (c _ (aS.refl H))
theorem sy:∀{a b:List Nat},iG a b=true↔a=b
 |[],[]=>by simp[iG]
 |a::l,b::m=>by
  simp only[iG,ah4,sy (a:=l) (b:=m),aik];constructor;·exact λh=>⟨ah5 h.1,h.2⟩
  exact λh=>⟨h.1▸aje a,h.2⟩
 |[],_::_=>by simp[iG]
 |_::_,[]=>by simp[iG]
theorem jS(a b:List Nat):iG a b=decide (a=b):=by
 cases h:iG a b;·symm;rw[decide_eq_false_iff_not];intro e;rw[sy.2 e]at h;cases h
 symm;rw[decide_eq_true_eq];exact sy.1 h
theorem RO.xe{c:Cx}{s:List SI}{L:Kn}{H:ai}{d:Option ah}{l:List bD}{x y:aJ}{a b:List Nat}(h:RO ab c l s (bq L d (.bool (decide (a=b)))) H)(e:aT L x=.str a:=by exact cw)(f:aT L y=.str b:=by exact cw):RO ab c (⟨d,.kr .eql x y,none,[],[]⟩::l) s L H:=RO.kr (v:=.bool (decide (a=b))) h e rfl f rfl (by simp only[vL,jS])
theorem abr(T:Tb ab){H:ai}{t:List Nat}{K:KT}(a:K (.bool (decide (t=[]))) H):YN ab KZ [.str t] H K:=by refine YF.code T.aaS aC (au ?_);refine RO.xe (b:=[]) (au ?_);exact Ru.aL a
def zF:List (List Nat):=[[110,101,103],[110,111,116],[115,105,122,101],[115,104,111,119],[114,101,97,100]]
def zG:List (List Nat):=[[97,100,100],[115,117,98],[109,117,108],[100,105,118],[109,111,100],[108,116],[108,101],[101,113],[106,111,105,110],[98,121,116,101],[115,97,109,101]]
def zH:List (List Nat):=[[99,117,116]]
def ft(t:List Nat):Nat:=if t∈zF then 1 else if t∈zG then 2 else if t∈zH then 3 else 0
theorem Lt(T:Tb ab){H:ai}{t:List Nat}{K:KT}(a:K (aN (ft t)) H):YN ab Yv [.str t] H K:=by
 refine YF.code T.aaZ aC (au ?_);repeat' first|refine RO.xe (RO.bW (λh=>?_) (λh=>?_))|refine RO.bg ?_|refine RO.nil ?_|refine Ru.region ?_|refine Ru.seq ?_|refine Ru.block ?_|refine Ru.skip ?_|refine Ru.aE ?_|refine Ru.mT ?_|refine Ru.lO ?_|refine Ru.aL ?_
 all_goals
  first|(subst_vars;exact a)|
   (
    have e:ft t=0:=by simp[ft,zF,zG,zH, *]
    rw[e]at a;exact a)
abbrev zv:List AV:=[aU 0,aI 0,.str []]
def tn:ai->Unit->List AV->Prop:=λ_ _ cs=>cs=zv
theorem abs(T:Tb ab){H:ai}{d f:AV}{g:List Unit}{ks:List Nat}(h:cQ 3 tn H g d)(i:E2 H ks f)(l:0<g.length)(h0:∀k∈ks,k≠0){K:KT}(j:∀H',aS H H'->K (.bool false) H'):YN ab K3 [d,f] H K:=by
 have⟨hd,_,_,hl⟩:=h.all;have⟨n,_,_,p⟩:=i.all;refine YF.code T.aa6 aC (au ?_);refine Ru.cond (λb=>?_) (λb=>?_);·refine au ?_;exact Ru.aL (j H (aS.refl H))
 refine au ?_;refine Ru.loop (au ?_);refine Ru.cond (λa=>au ?_) (λa=>absurd l a);refine RO.bO (aS.refl H) h λq o cs hj m s hat hrd=>?_;cases m;refine aX ?_;refine RO.dN (ak.bN H) λH1 t U=>aX ?_;refine RO.eY U 0 (λu U=>?_);refine aX ?_;refine RO.iQ U.gr i (λv o2 c r=>?_) (hj:=by omega);refine aX ?_;refine Ru.cond (λa=>?_) (λa=>?_);·refine aX ?_;exact Ru.aL (j _ U.gr)
 exact(a λe=>h0 _ (acm c) e.symm).elim
theorem abt(T:Tb ab){H:ai}{K:KT}(a:∀H' q,ak H H' [tB BJ q zv]->K (.bool true) H'):YN ab Fh [.agg zv] H K:=by refine YF.code T.aa1 aC (au ?_);refine RO.ct (ak.bN H) λH1 q U=>?_;refine aX ?_;refine RO.co U 0 ?_;refine aX ?_;refine RO.eq (t:=true) (aX ?_);exact Ru.aL (a _ q U)
theorem abu(T:Tb ab){H:ai}{d:AV}{b:List Unit}(f:cQ 3 tn H b d)(k:b.length<=4){K:KT}(g:∀H',aS H H'->K (.bool true) H'):YN ab Yw [d,.func Fh [] []] H K:=by
 have i:n9 ab H (.func Fh [] []) tn true (λ_:Unit=>[]) (λ_=>True) (λs _=>(true,s)) b:=by rintro s a cs H us _ _ rfl U;refine abt T λH' q c=>⟨rfl,trivial,[tB BJ q zv],by simpa using U.dq c⟩
 have e:∀(l:List Unit)s,dO (λ(s:Unit)(_:Unit)=>(true,s)) s l=(true,s):=λl=>by induction l with|nil=>intro s;rfl|cons a l j=>intro s;simpa[dO]using j s
 refine zC T.aa0 bx T.aa4 bx T.aa7 (size:=3) (agg:=true) bx (λh=>by cases h) (st:=λs _=>(true,s)) (T:=λ_:Unit=>[]) (I:=λ_=>True) (s:=()) (us:=[]) rfl rfl rfl (Lo T.aa5 bx rfl (λa cs h=>by cases h;exact⟨rfl,rfl⟩) i) (λa cs h=>by cases h;rfl) f aa trivial (ak.bN H) λH' m _ U=>?_;rw[e];exact g H' U.gr
def nz:AV->Bool
 |.int 4 (.ofNat (_+1))=>true
 |_=>false
theorem Lu:∀{a:List AV},a.all nz=true->∃ks:List Nat,a=ks.map aU/\∀k∈ks,k≠0
 |[],_=>⟨[],rfl,λ_ h=>by cases h⟩
 |w::a,h=>by
  simp only[List.all_cons,ah4]at h;have⟨ks,e,h2⟩:=Lu h.2;have h1:=h.1;unfold nz at h1;split at h1;·rename_i k;exact⟨(k+1)::ks,by rw[e];rfl,λj hj=>(acT.1 hj).elim (λe=>by omega) (h2 j)⟩
  cases h1
theorem RO.bsK{B:ai}{c:Cx}{s:List SI}{L:Kn}{H:ai}{d:Option ah}{l:List bD}{e n:Nat}{b a:List AV}{f:List (Nat×Nat×aJ)}(i:aS B H)(h:∀v H',aS B H'->Sl H' 1 a a.length v->v.br=true->RO ab c l s (bq L d v) H')(hl:nU L (dY b n) f=some a:=by exact cw)(j:a.length=n:=by rfl)(h1:cU a=true:=by rfl):RO ab c (⟨d,.buildSlice e n b f,none,[],[]⟩::l) s L H:=by subst j;refine RO.buildSlice ?_ hl h1;have g:cP (H.new (.cells (cq a) (a.length*1) e true [] 0)) [H.next] e 1 a a.length true (.slice H.next 0 a.length a.length true):=cP.new (ajo _).symm true true;rw[ajo]at g;exact h _ _ (i.trans (aS.new H _)) g.sl rfl
theorem abw(T:Tb ab){B H:ai}{b c:AV}{d:List Unit}{a:List AV}(e:aS B H)(f:cQ 3 tn B d b)(g:0<d.length)(i:Sl H 1 a a.length c)(h0:a.all nz=true){K:KT}(j:∀H',aS B H'->K (.bool false) H'):YN ab K3 [b,c] H K:=by obtain⟨ks,rfl,h1⟩:=Lu h0;exact abs T (ks:=ks) (bX.gp (λ_ h=>h) e f) (by simpa using i) g h1 λH' hg=>j H' (e.trans hg)
theorem abx(T:Tb ab){H:ai}{t:List Nat}{b:AV}{c:List Unit}(d:cQ 3 tn H c b)(e:0<c.length){K:KT}(f:∀H',aS H H'->K (.bool false) H'):YN ab Yx [.str t,b] H K:=by
 have⟨hd,_,_,_⟩:=d.all;have a:=aS.refl H;refine YF.code T.aa2 aC ?_;repeat' first|refine RO.xe (RO.bW (λ_=>?_) (λ_=>?_))|refine RO.bg ?_|refine RO.nil ?_|refine RO.bsK a (λ_ _ a hs _=>?_)|(refine RO.cl (abw T a d e hs rfl λ_ a=>?_))|refine Ru.region ?_|refine Ru.seq ?_|refine Ru.block ?_|refine Ru.skip ?_|refine Ru.aE ?_|refine Ru.mT ?_|refine Ru.lO ?_|refine RO.rF ?_|refine RO.w8 ?_|refine RO.zr ?_|refine RO.zt ?_|refine Ru.aL ?_
 all_goals exact f _ (by assumption)
theorem aby(T:Tb ab){H:ai}{t:List Nat}{g:AV}{b:List Unit}(d:cQ 3 tn H b g)(hl:b.length<=ft t)(h0:0<ft t){K:KT}(c:∀H',aS H H'->K (.tuple [.agg zv,.str [],aN (if b.length=ft t then 11 else 2)]) H'):YN ab K0 [.str t,g] H K:=by
 have⟨hd,_,_,i⟩:=d.all;have h3:ft t<=3:=by unfold ft;split<;>(try split)<;>(try split)<;>omega
 refine YF.code T.Lj aC (au ?_);refine RO.dN (ak.bN H) λH1 q U=>aX ?_;refine RO.cl (Lt T (aX ?_));refine Ru.cond (λ(h:ft t=0)=>absurd h aa) (λ_=>aX ?_);refine Ru.cond (λh=>?_) (λh=>?_);·refine aX ?_;refine RO.co U 0 ?_;refine RO.eY U 0 (λf U=>?_);refine aX ?_;have a:b.length≠ft t:=λe=>h (by rw[e]);rw[an a]at c;exact Ru.i9 (vs:=[_,_,_]) ⟨⟨q,0,rfl,U.agg 0⟩,rfl,rfl,rfl,rfl,trivial⟩ (c _ U.gr)
 have a:b.length=ft t:=ajj.1 h;rw[aG a]at c;refine aX ?_;refine RO.cl (abu T (bX.gp (λ_ h=>h) U.gr d) aa λf hg=>?_);have U:=U.bR hg;refine aX ?_;refine RO.cl (abx T (bX.gp (λ_ h=>h) U.gr d) aa λf hg=>?_);have U:=U.bR hg;refine aX ?_;refine RO.co U 0 ?_;refine RO.eY U 0 (λf U=>?_);refine aX ?_;exact Ru.i9 (vs:=[_,_,_]) ⟨⟨q,0,rfl,U.agg 0⟩,rfl,rfl,rfl,rfl,trivial⟩ (c _ U.gr)
theorem abz(T:Tb ab){H:ai}{t:List Nat}{a:AV}{b:List Unit}(c:cQ 3 tn H b a)(h0:ft t=0){K:KT}(d:∀H',aS H H'->K (.tuple [.agg zv,.str [],aN 10]) H'):YN ab K0 [.str t,a] H K:=by have⟨hd,_,_,e⟩:=c.all;refine YF.code T.Lj aC (au ?_);refine RO.dN (ak.bN H) λH1 q U=>aX ?_;refine RO.cl (Lt T (aX ?_));refine Ru.cond (λ_=>aX ?_) (λh=>absurd h0 h);refine RO.co U 0 ?_;refine RO.eY U 0 (λf U=>?_);refine aX ?_;exact Ru.i9 (vs:=[_,_,_]) ⟨⟨q,0,rfl,U.agg 0⟩,rfl,rfl,rfl,rfl,trivial⟩ (d _ U.gr)
theorem Lw{H:ai}{k:Nat}{a:AV}(b:k<=3)(h:Sl H 3 ((dY zv 4).take (k*3)) k a):cQ 3 tn H (acJ k ()) a:=by
 refine⟨_,by simpa using h,λj hj=>?_⟩;simp only[aiZ]at hj;match k,b with
  |0,_=>omega
  |1,_=>match j,hj with|0,_=>rfl
  |2,_=>match j,hj with|0,_=>rfl|1,_=>rfl
  |3,_=>match j,hj with|0,_=>rfl|1,_=>rfl|2,_=>rfl
theorem abA(T:Tb ab){H:ai}{t:List Nat}(h0:0<ft t){K:KT}(d:∀H',aS H H'->K (.tuple [aN (ft t),.bool true]) H'):YN ab KY [.str t] H K:=by
 have h3:ft t<=3:=by unfold ft;split<;>(try split)<;>(try split)<;>omega
 refine YF.code T.Li aC (au ?_);refine RO.jy (ak.bN H) (n:=4) (λH1 q U=>au ?_) (hz:=rfl);refine Ru.nm λS M e c=>Ru.bI c (up (P:=λk=>∀b,ak H b [tS BJ 3 (dY zv 4) 4 true (.slice q 0 4 4 true)]->Ru ab _ S ([(ib,aN k)]++pk M [p0,p4,eM,eS]) b) (ft t) (λk f g b U=>?_) 0 aa _ U);subst e;subst c;refine Ru.loop (au ?_);refine Ru.cond (λ(i:k<4)=>au ?_) (λh=>absurd (show k<4 by omega) h);refine RO.Kd (U.sl 0) (λj hs=>?_);have hz:=Lw aa hs;have hd:=hz.br;refine au ?_;refine RO.cl (aby T hz (by simpa using f) h0 λl hg=>?_);have U:=U.bR hg;rw[aiZ];refine au ?_;refine RO.dS U (λm n U=>au ?_);by_cases a:k=ft t;·rw[aG a];refine aX ?_;refine Ru.kg ?_;rw[a];exact d _ U.gr
 rw[an a];refine aX ?_;exact Ru.wk (g (k+1) aa aa _ U.tail)
theorem abB(T:Tb ab){H:ai}{t:List Nat}(h0:ft t=0){K:KT}(c:∀H',aS H H'->K (.tuple [aN 0,.bool false]) H'):YN ab KY [.str t] H K:=by
 refine YF.code T.Li aC (au ?_);refine RO.jy (ak.bN H) (n:=4) (λH1 q U=>au ?_) (hz:=rfl);refine Ru.nm λS M d b=>Ru.bI b (up (P:=λk=>∀a,ak H a [tS BJ 3 (dY zv 4) 4 true (.slice q 0 4 4 true)]->Ru ab _ S ([(ib,aN k)]++pk M [p0,p4,eM,eS]) a) 4 (λk i e a U=>?_) 0 aa _ U);subst d;subst b;refine Ru.loop (au ?_);refine Ru.cond (λ(f:k<4)=>?_) (λh=>?_);·refine au ?_;refine RO.Kd (U.sl 0) (λg hs=>?_);have hz:=Lw aa hs;have hd:=hz.br;refine au ?_;refine RO.cl (abz T hz h0 λj hg=>?_);have U:=U.bR hg;refine au ?_;refine RO.dS U (λl m U=>aX ?_);exact Ru.wk (e (k+1) aa aa _ U.tail)
 refine Ru.exitTo ?_;refine au ?_;refine Ru.kg ?_;exact c _ U.gr
structure lR where
 uT:Bool
 zI:Int
 zJ:Int
 nm:Nat
 xB:Int
 xC:Int
def uU:Nat->AV
 |0=>.func KZ [] []
 |1=>.func KS [] []
 |_=>.func K2 [] []
def tp(r:lR):AV:=.agg [.bool r.uT,aI r.zI,aI r.zJ,uU r.nm,aI r.xB,aI r.xC]
def mr:List (Nat×lR):=[(1,⟨true,0,0,0, -1000000000,1000000000⟩),(2,⟨true,0,0,0,0,1⟩),(3,⟨true,0,0,2,0,0⟩),(4,⟨true,0,0,0,0,0⟩),(11,⟨true,0,0,1,0,0⟩),(40,⟨true,0,1073741824,1,0,0⟩),(15,⟨true,0,6,1,0,0⟩),(18,⟨true,0,6,1,0,0⟩),(37,⟨true,0,0,1,0,0⟩),(38,⟨false,1,1,1,0,0⟩),(16,⟨true,1,1,1,0,5⟩),(17,⟨false,2,2,1,0,5⟩),(23,⟨false,1,1,0,0,0⟩),(24,⟨true,0,0,0,1,8⟩),(25,⟨false,2,2,0,0,0⟩),(26,⟨true,1,1,0,0,0⟩),(31,⟨false,0,0,0,0,0⟩),(32,⟨false,1,1,0,0,0⟩),(33,⟨true,0,0,0,0,0⟩),(34,⟨false,0,0,0,0,0⟩),(35,⟨true,1,1,0,0,0⟩),(39,⟨false,0,0,0,0,0⟩),(64,⟨true,1,1,0,0,3⟩)]
def qA:Nat->List (Nat×lR)->List aW
 |_,[]=>[]
 |b,p::l=>⟨aU p.1,tp p.2,b⟩::qA (b+1) l
def tq(op:Nat):List (Nat×lR)->Nat->Option (Nat×lR)
 |[],_=>none
 |p::l,i=>if op=p.1 then some (i,p.2)else tq op l (i+1)
theorem B4(op:Nat):∀l b i,findKey .int (aU op) (qA b l) i=some ((tq op l i).map λp=>(p.1,tp p.2))
 |[],_,_=>rfl
 |p::l,b,i=>by
  have e:db 64 .int (aU op) (aU p.1)=some (decide (op=p.1)):=by
   show(if(4:Nat)=4 then some (gw (.ofNat op) (.ofNat p.1))else none)=_;rw[aG rfl];congr 1;by_cases h:op=p.1;·simp[gw,h]
   simp only[gw,h,decide_false];cases hb:ah8 op p.1 with|false=>rfl|true=>exact absurd (ah5 hb) h
  simp only[qA,findKey,e,tq];by_cases h:op=p.1;·grind
  simp only[h,decide_false,bF];exact B4 op l (b+1) (i+1)
theorem abC(T:Tb ab){H:ai}{b:Bool}{n:Int}{K:KT}(a:∀H',aS H H'->K (tp ⟨b,n,n,0,0,0⟩) H'):YN ab Yu [.bool b,aI n] H K:=by refine YF.code T.aaY aC (au ?_);refine RO.dN (ak.bN H) λH1 q U=>aX ?_;refine RO.eY U 0 (λc U=>aX ?_);exact Ru.i9 (vs:=[_]) ⟨⟨q,0,rfl,U.agg 0⟩,trivial⟩ (a _ U.gr)
theorem B5(T:Tb ab){H:ai}{b:Bool}{n m:Int}{K:KT}(a:∀H',aS H H'->K (tp ⟨b,n,m,1,0,0⟩) H'):YN ab Yq [.bool b,aI n,aI m] H K:=by refine YF.code T.aaR aC (au ?_);refine RO.dN (ak.bN H) λH1 q U=>aX ?_;refine RO.eY U 0 (λc U=>aX ?_);exact Ru.i9 (vs:=[_]) ⟨⟨q,0,rfl,U.agg 0⟩,trivial⟩ (a _ U.gr)
theorem Lx:∀(l:List (Nat×lR))(b:Nat)(p:Nat×lR),qA b (l++[p])=qA b l++[⟨aU p.1,tp p.2,b+l.length⟩]|[],_,_=>rfl|a::l,b,p=>by simp only[aiR,qA,Lx l (b+1) p,air,ajn,Nat.add_comm 1]
theorem RO.abD{c:Cx}{s:List SI}{L:Kn}{H A:ai}{d:Option ah}{l:List bD}{q:ah}{a:List Th}{k op:Nat}{r:lR}{m w:aJ}(U:ak A H (tX q (.map (qA 0 (mr.take k)) k)::a))(b:mr[k]?=some (op,r))(h:∀H',ak A H' (tX q (.map (qA 0 (mr.take (k+1))) (k+1))::a)->RO ab c l s (bq L d .ajS) H')(f:tq op (mr.take k) 0=none:=by rfl)(g:aT L m=.map q:=by exact cw)(i:aT L w=tp r:=by exact cw):RO ab c (⟨d,.jI .int m (.c (aU op)) w,none,[],[]⟩::l) s L H:=by
 refine RO.abn U 0 (kv:=aU op) (λH' j=>h H' ?_) rfl g rfl i rfl rfl rfl (by simp[f,B4]);have⟨n,_⟩:=aiF.1 b;have e:mr.take (k+1)=mr.take k++[(op,r)]:=by rw[List.take_add_one,b];rfl
 have e2:(mr.take k).length=k:=by rw[aiA];omega
 simp_all[Lx,aif]
theorem abE(T:Tb ab){H:ai}{K:KT}(a:∀H' q,ak H H' [tX q (.map (qA 0 mr) 23)]->K (.map q) H'):YN ab Yr [] H K:=by
 refine YF.code T.aaT aC (au ?_);refine RO.abm (ak.bN H) λH1 q U=>?_;have U:ak H H1 (tX q (.map (qA 0 (mr.take 0)) 0)::[]):=U;repeat first|refine RO.build ?_|refine RO.abD U rfl (λ_ U=>?_)|(refine RO.cl (abC T λ_ hg=>?_);have U:=U.bR hg)|(refine RO.cl (B5 T λ_ hg=>?_);have U:=U.bR hg)|refine RO.bg ?_|refine RO.nil ?_
 exact Ru.aL (a _ q U)
def nj(s:G.ee):Option lR:=
 if s.op=14 then(if 0<ft s.name then some ⟨true,ft s.name,ft s.name,1,0,0⟩else none)
 else if s.op=13 then(if s.m=1 then some ⟨true,0,6,1,0,0⟩else some ⟨true,1,7,0,0,0⟩)
 else(tq s.op mr 0).map (·.2)
theorem abF(T:Tb ab){H:ai}{s:G.ee}{cs:List AV}(hs:nW H s cs){K:KT}(a:∀r,nj s=some r->∀H',aS H H'->K (.tuple [tp r,.bool true]) H')(d:nj s=none->∀H'(b:Bool)(v:AV),v.cW=true->v.br=true->aS H H'->K (.tuple [.agg [.bool b,aI 0,aI 0,v,aI 0,aI 0],.bool false]) H'):YN ab Yi [.agg cs] H K:=by
 have l:=hs.one;obtain⟨t,rfl,k⟩:=hs;have⟨hd,_,_,u⟩:=k.all;refine YF.code T.aaE aC (au ?_);refine RO.ct (ak.bN H) λH1 q U=>aX ?_;refine RO.dN U λw g U=>aX ?_;unfold nj at a d;refine Ru.cond (λf=>?_) (λf=>?_)
 .rw[aG f]at a d;by_cases h0:0<ft s.name;case neg=>rw[an h0]at d;clear a;refine aX ?_;refine RO.cl (abB T (t:=s.name) aa λj hg=>?_);have U:=U.bR hg;refine aX ?_;refine RO.cl (B5 T λj hg=>?_);have U:=U.bR hg;refine aX ?_;refine RO.eY U 0 (λe U=>aX ?_);exact Ru.i9 (vs:=[_,_]) ⟨⟨g,0,rfl,U.agg 0⟩,rfl,rfl,trivial⟩ (d rfl _ _ _ rfl rfl U.gr)
  rw[aG h0]at a;clear d;have a:=a _ rfl;refine aX ?_;refine RO.cl (abA T h0 λj hg=>?_);have U:=U.bR hg;refine aX ?_;refine RO.cl (B5 T λj hg=>?_);have U:=U.bR hg;refine aX ?_;refine RO.eY U 0 (λe U=>aX ?_);exact Ru.i9 (vs:=[_,_]) ⟨⟨g,0,rfl,U.agg 0⟩,rfl,rfl,trivial⟩ (a _ U.gr)
 rw[an f]at a d;refine aX ?_;refine RO.bW (λc=>?_) (λc=>?_)
 .rw[aG c]at a;clear d;refine aX ?_;refine Ru.cond (λ(h1:s.m=1)=>?_) (λ(h1:¬s.m=1)=>?_);·rw[aG h1]at a;have a:=a _ rfl;refine aX ?_;refine RO.cl (B5 T λj hg=>?_);have U:=U.bR hg;refine RO.eY U 0 (λe U=>aX ?_);exact Ru.i9 (vs:=[_,_]) ⟨⟨g,0,rfl,U.agg 0⟩,rfl,rfl,trivial⟩ (a _ U.gr)
  rw[an h1]at a;have a:=a _ rfl;refine aX ?_;refine Ru.cond (λh=>aX ?_) (λh=>absurd c h);refine RO.eY U 0 (λe U=>aX ?_);exact Ru.i9 (vs:=[_,_]) ⟨⟨g,0,rfl,U.agg 0⟩,rfl,rfl,trivial⟩ (a _ U.gr)
 rw[an c]at a d;refine aX ?_;refine Ru.cond (λh=>absurd h c) (λh=>aX ?_);refine RO.B3 (abE T λj x n=>?_);have U:=U.dq n;have⟨y,i⟩:=U.get 2 rfl;refine⟨tB.cell (v:=aU s.op) i rfl,?_⟩;cases i:tq s.op mr 0 with
 |none=>rw[i]at d;refine RO.Lq U 0 (r:=none) (by have:=B4 s.op mr 0 0;rw[i]at this;exact this) ?_;refine aX ?_;refine RO.eY U 1 (λe U=>aX ?_);refine RO.co U 1 (aX ?_);refine RO.eY U 1 (λe U=>aX ?_);exact Ru.i9 (vs:=[_,_]) ⟨⟨g,0,rfl,U.agg 1⟩,rfl,rfl,trivial⟩ (d rfl _ _ _ rfl rfl U.gr)
 |some p=>
  have a:=a _ (by rw[i];rfl);have o:(uU p.2.nm).cW=true:=by unfold uU;split<;>rfl
  refine RO.Lq U 0 (r:=some (p.1,tp p.2)) (by have:=B4 s.op mr 0 0;rw[i]at this;exact this) ?_;refine aX ?_;refine RO.eY U 1 (λe U=>aX ?_);refine RO.co U 1 (aX ?_);refine RO.eY U 1 (λe U=>aX ?_);exact Ru.i9 (vs:=[_,_]) ⟨⟨g,0,rfl,U.agg 1⟩,rfl,rfl,trivial⟩ (a _ U.gr)
section
def fT(g:G.aP)(c:AV)(a b:ah)(n:Nat)(s:List Bool):List Th:=[tB WG a [.str g.name,aI g.params,aI g.aQ,c,.slice b 0 n n true],tS 4 1 (s.map .bool) n true (.slice b 0 n n true)]
def B6:ai->Int->List AV->Prop:=λ_ v cs=>cs=[aI v]
theorem eE.r{H:ai}{l:List Int}{d:AV}(h:eE H l d):cQ 1 B6 H l d:=⟨_,h,λk e=>by simp[e,ajo,ah6,B6]⟩
def iR(g:G.aP)(s:List Bool)(v:Int):Bool×List Bool:=
 if g.params<=v/\v<=g.aQ - 1 then(if s.getD v.toNat false then(false,s)else(true,s.set v.toNat true))else(false,s)
structure FV(g:G.aP)(n:Nat):Prop where
 h0:0<=g.params
 h1:g.params<=g.aQ
 h2:g.aQ<=6000
 h3:(n:Int)=g.aQ
section
variable{g:G.aP}{c:AV}{a b:ah}{n:Nat}{A H:ai}{us:List Th}
theorem abG(T:Tb ab)(V:FV g n){s:List Bool}(U:ak A H (fT g c a b n s++us)){v:Int}{K:KT}(d:K (.bool (decide (0<=v/\v<=g.aQ - 1))) H):YF ab (.func Fg [.aD a 0] []) [aI v] H K:=by obtain⟨h0,h1,h2,h3⟩:=V;refine YF.code T.aaF aC (au ?_);refine RO.nilCheck ?_;refine aX ?_;refine RO.sub (a:=g.aQ) (b:=1) ?_;refine aX ?_;refine RO.cl (rT T (aX ?_));exact Ru.aL d
theorem abH(T:Tb ab)(V:FV g n)(d:List Int):n9 ab A (.func Fg [.aD a 0] []) B6 false (fT g c a b n) (λs=>s.length=n) (λs v=>(decide (0<=v/\v<=g.aQ - 1),s)) d:=by rintro s v cs H us _ e rfl U;exact abG T V U ⟨rfl,e,[],by grind⟩
theorem Ft(T:Tb ab)(V:FV g n){s:List Bool}(hs:s.length=n)(U:ak A H (fT g c a b n s++us)){v:Int}{K:KT}(d:∀H',ak A H' (fT g c a b n (iR g s v).2++us)->K (.bool (iR g s v).1) H'):YF ab (.func Fc [.aD a 0] []) [aI v] H K:=by
 unfold iR at d;obtain⟨h0,h1,h2,h3⟩:=V;refine YF.code T.aai aC (au ?_);refine RO.nilCheck ?_;refine aX ?_;refine RO.nilCheck ?_;refine aX ?_;refine RO.sub (a:=g.aQ) (b:=1) (aX ?_);refine RO.cl (rT T ?_);by_cases hv:g.params<=v/\v<=g.aQ - 1;·simp only[aG hv]at d;rw[decide_eq_true hv];obtain⟨k,rfl⟩:∃k:Nat,v=(k:Int):=⟨v.toNat,aa⟩;have e:k<s.length:=aa;simp only[ahX]at d;refine aX ?_;refine RO.nilCheck ?_;refine aX ?_;refine RO.cZ U 1 ?_ (hv:=nV false e);refine aX ?_;cases hg:s.getD k false with|true=>simp only[hg,bi]at d;refine aX ?_;exact Ru.aL (d H U)|false=>simp only[hg,acg,bF]at d;refine aX ?_;refine RO.nilCheck ?_;refine aX ?_;refine RO.gk U 1 true hs (λH1 U=>?_);refine aX ?_;exact Ru.aL (d H1 U)
 simp only[an hv]at d;rw[decide_eq_false hv];refine aX ?_;exact Ru.aL (d H U)
theorem abI(T:Tb ab)(V:FV g n)(d:List Int):n9 ab A (.func Fc [.aD a 0] []) B6 false (fT g c a b n) (λs=>s.length=n) (iR g) d:=by rintro s v cs H us _ e rfl U;refine Ft T V e U λH' f=>⟨rfl,?_,[],by grind⟩;grind[iR]
end
end
section
def xD:Nat->List Nat->Prop
 |0,t=>t=[]
 |1,t=>jR t
 |_,t=>rU t
structure zK(g:G.aP)(x:G.ee)(r:lR):Prop where
 args:r.zI<=x.args.length/\x.args.length<=r.zJ
 name:xD r.nm x.name
 num:r.xB<=x.n/\x.n<=r.xC
 l8:x.m=0\/x.op=13/\x.m=1
 iS:∀a∈x.args,0<=a/\a<=g.aQ - 1
open Classical in noncomputable def stepG(g:G.aP)(s:List Bool)(x:G.ee):Bool×List Bool:=match nj x with|some r=>if zK g x r then(if r.uT then iR g s x.to else(decide (x.to= -1),s))else(false,s)|none=>(false,s)
theorem abJ(T:Tb ab){H:ai}{k:Nat}{t:List Nat}(hb:∀b∈t,b<256)(hl:t.length<=1000000){K:KT}(a:∀H'(b:Bool),aS H H'->(b=true↔xD k t)->K (.bool b) H'):YF ab (uU k) [.str t] H K:=by match k with|0=>exact abr T (a _ _ (aS.refl H) (by simp[xD]))|1=>exact Fq T hb hl λH' hg=>a _ _ hg (by simp[xD])|_+2=>exact abq T hb hl λH' hg=>a _ _ hg (by simp[xD])
theorem Fu{b σ:Type}{p:b->Bool}:∀{la:List b}{s:σ},dO (λs a=>(p a,s)) s la=(la.all p,s)|[],_=>rfl|a::l,s=>by have:=Fu (p:=p) (la:=l) (s:=s);cases c:p a<;>simp[dO,c,this]
section
variable{g:G.aP}{f:AV}{d h:ah}{n:Nat}{A H:ai}{us:List Th}
theorem B7(T:Tb ab)(V:FV g n){s:List Bool}(hs:s.length=n){la:List Int}{j:AV}(k:eE A la j)(hl:la.length<=1000000)(U:ak A H (fT g f d h n s++us)){K:KT}(l:∀H' i(b:Bool),(b=true↔∀a∈la,0<=a/\a<=g.aQ - 1)->ak A H' (fT g f d h n s++i++us)->K (.bool b) H'):YN ab KU [j,.func Fg [.aD d 0] []] H K:=by have e:=Fu (σ:=List Bool) (p:=λv=>decide (0<=v/\v<=g.aQ - 1)) (la:=la) (s:=s);refine zC T.Lg bx T.Fi bx T.Fj (size:=1) (agg:=false) bx (λ_=>rfl) rfl rfl rfl (Fm T.Lh bx rfl (λa cs m=>by cases m;rfl) (abH T V la)) (λa cs m=>by cases m;rfl) (eE.r k) hl hs U λH' i _ c=>?_;rw[e]at c⊢;exact l H' i _ aC c
theorem abK(T:Tb ab)(V:FV g n){s:List Bool}(hs:s.length=n){x:G.ee}{cs:List AV}(y:nW A x cs)(hb:∀c∈x.name,c<256)(B:x.name.length<=1000000)(hl:x.args.length<=1000000)(U:ak A H (fT g f d h n s++us)){K:KT}(o:∀H' e,ak A H' (fT g f d h n (stepG g s x).2++e++us)->K (.bool (stepG g s x).1) H'):YF ab (.func Fe [.aD d 0] []) [.agg cs] H K:=by
 have D:=y.one;have C:=y;obtain⟨Q,rfl,l⟩:=y;have⟨hd,_,_,R⟩:=l.all;refine YF.code T.aak aC (au ?_);refine RO.ct U λH1 q U=>au ?_;refine RO.co U 0 (au ?_);refine RO.cl (abF T (bX.step U.gr C) (λr h1 F hg=>?_) (λh1 F b v O P hg=>?_));rotate_left;·have U:=U.bR hg;simp only[stepG,h1]at o;refine au ?_;refine RO.dS U (λI J U=>aX ?_);exact Ru.aL (o _ [_,_] (by have:=ak.dR (xs:=[_,_]) U;simpa[fT]using this))
 have U:=U.bR hg;have no:¬zK g x r->∀H' e,ak A H' (fT g f d h n s++e++us)->K (.bool false) H':=λW H' e U=>by have p:=o H' e;simp only[stepG,h1,an W]at p;exact p U
 have a:zK g x r->∀H' e,ak A H' (fT g f d h n (if r.uT then iR g s x.to else(decide (x.to= -1),s)).2++e++us)->K (.bool (if r.uT then iR g s x.to else(decide (x.to= -1),s)).1) H':=λW H' e U=>by have p:=o H' e;simp only[stepG,h1,aG W]at p;exact p U
 clear o;have w:(uU r.nm).cW=true/\(uU r.nm).br=true:=by unfold uU;split<;>exact⟨rfl,rfl⟩
 obtain⟨w,E⟩:=w;refine au ?_;refine RO.dS U (λI J U=>?_);refine aX ?_;refine RO.cl (rT T (a:=r.zI) (b:=r.zJ) (n:=x.args.length) ?_);by_cases h2:r.zI<=x.args.length/\(x.args.length:Int)<=r.zJ;rotate_left;·rw[decide_eq_false h2];refine aX ?_;exact Ru.aL (no (λW=>h2 W.args) _ [_,_] (by have:=ak.dR (xs:=[_,_]) U;simpa[fT]using this))
 rw[decide_eq_true h2];refine aX ?_;refine RO.cl (abJ T hb B λS L hg h3=>?_);have U:=U.bR hg;cases L with
 |false=>refine aX ?_;exact Ru.aL (no (λW=>by have:=h3.2 W.name;cases this) _ [_,_] (by have:=ak.dR (xs:=[_,_]) U;simpa[fT]using this))
 |true=>
  have h3:=h3.1 rfl;refine aX ?_;refine RO.cl (rT T (a:=r.xB) (b:=r.xC) (n:=x.n) ?_);by_cases t:r.xB<=x.n/\x.n<=r.xC;rotate_left;·rw[decide_eq_false t];refine aX ?_;exact Ru.aL (no (λW=>t W.num) _ [_,_] (by have:=ak.dR (xs:=[_,_]) U;simpa[fT]using this))
  rw[decide_eq_true t];refine aX ?_;refine RO.bW (λ(W:x.m≠0)=>?_) (λ(W:¬x.m≠0)=>?_)
  .refine aX ?_;refine RO.bW (λi=>?_) (λi=>?_);·refine aX ?_;exact Ru.aL (no (λk=>i (k.l8.resolve_left W).1) _ [_,_] (by have:=ak.dR (xs:=[_,_]) U;simpa[fT]using this))
   have i:x.op=13:=ajj.1 i;refine aX ?_;refine RO.bW (λj=>?_) (λj=>?_);·refine aX ?_;exact Ru.aL (no (λk=>j (k.l8.resolve_left W).2) _ [_,_] (by have:=ak.dR (xs:=[_,_]) U;simpa[fT]using this))
   have j:x.m=1:=ajj.1 j;refine aX ?_;refine RO.cl (B7 T V hs l hl (ak.dR (xs:=[_,_]) U) λM e z u U=>?_);have U:=ak.jP (xs:=[_,_]) U;cases z with
   |false=>refine aX ?_;exact Ru.aL (no (λk=>by have:=u.2 k.iS;cases this) _ (e++[_,_]) (by have:=ak.dR (xs:=[_,_]) U;simpa[fT]using this))
   |true=>
    have a:=a ⟨h2,h3,t,.inr ⟨i,j⟩,u.1 rfl⟩;refine aX ?_;refine Ru.eC (λhg=>?_) (λhg=>?_);·simp only[aiM]at hg;simp only[hg,acg,bF]at a;refine aX ?_;exact Ru.aL (a _ (e++[_,_]) (by have:=ak.dR (xs:=[_,_]) U;simpa[fT]using this))
    simp only[Bool.not_eq_false']at hg;simp only[hg,bi]at a;refine aX ?_;refine RO.cl (YF.lL (Ft T V hs (us:=e++[_,_]++us) (by have:=ak.dR (xs:=[_,_]) U;simpa[fT]using this) λN U=>?_));refine aX ?_;exact Ru.aL (a _ (e++[_,_]) (by simpa using U))
  have W:x.m=0:=ajj.1 W;refine aX ?_;refine RO.cl (B7 T V hs l hl (ak.dR (xs:=[_,_]) U) λM e z u U=>?_);have U:=ak.jP (xs:=[_,_]) U;cases z with
  |false=>refine aX ?_;exact Ru.aL (no (λk=>by have:=u.2 k.iS;cases this) _ (e++[_,_]) (by have:=ak.dR (xs:=[_,_]) U;simpa[fT]using this))
  |true=>
   have a:=a ⟨h2,h3,t,.inl W,u.1 rfl⟩;refine aX ?_;refine Ru.eC (λhg=>?_) (λhg=>?_);·simp only[aiM]at hg;simp only[hg,acg,bF]at a;refine aX ?_;exact Ru.aL (a _ (e++[_,_]) (by have:=ak.dR (xs:=[_,_]) U;simpa[fT]using this))
   simp only[Bool.not_eq_false']at hg;simp only[hg,bi]at a;refine aX ?_;refine RO.cl (YF.lL (Ft T V hs (us:=e++[_,_]++us) (by have:=ak.dR (xs:=[_,_]) U;simpa[fT]using this) λN U=>?_));refine aX ?_;exact Ru.aL (a _ (e++[_,_]) (by simpa using U))
end
end
end
end Go.al.R
end
