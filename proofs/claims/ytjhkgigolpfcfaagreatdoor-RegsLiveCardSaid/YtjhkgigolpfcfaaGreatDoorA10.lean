/- A part of the proof. No conditions. -/
import Derived.Test.YtjhkgigolpfcfaaGreatDoorA09
set_option linter.all false
set_option maxHeartbeats 16000000
open List renaming replicate->ahr,length_cons->akA,length_take->akF
open Nat renaming eq_of_beq_eq_true->aj4,beq->akb,le_of_ble_eq_true->akc,add_assoc->alo
noncomputable section
namespace Go.am.R
section
variable{ac:Nat->aG}
theorem IY(T:Tb ac){H:ai}{a b n:Int}{K:KT}(c:K (.bool (decide (a<=n/\n<=b))) H):YN ac NY [aI a,aI b,aI n] H K:=by
 refine YF.code T.aco aB ?_;refine au ?_;refine RO.de (λh=>?_) (λh=>?_);·refine bD ?_;refine Ru.aV ?_;simpa[h]using c
 refine bD ?_;refine Ru.aV ?_;simpa[h]using c
def Lf(ac:Nat->aG)(fv:AV)(p:Nat->Bool):Prop:=∀r,r<=2147483647->∀{H:ai},YF ac fv [.int 2 (.ofNat r)] H λv a=>v=.bool (p r)/\a=H
theorem adz(T:Tb ac){H:ai}{fv:AV}{t:List Nat}{p:Nat->Bool}(z:fv.bB=true)(f:Lf ac fv p)(hb:∀b∈t,b<256)(g:∀r,128<=r->p r=true){K:KT}(c:∀l(i:Int),bm H l->decide (0<=i)=t.any p->K (aI i) l):YN ac XQ [.str t,fv,.bool true] H K:=by
 refine YF.code T.ac4 aB ?_;refine au ?_;refine RO.rF (aj.dc H) λH1 q U=>?_;refine au ?_;refine Ru.nm λS M o m=>?_;refine Ru.cC m (up (P:=λk=>∀d,(∀j(h:j<t.length),j<k->p t[j]=false)->aj H d [tX q (.pf t (t.drop k) k)]->Ru ac _ S ([]++pk M [p0,p1,p2,aO]) d) t.length (λk B s d n U=>?_) 0 af _ (λj _ hj=>by omega) U);subst o;subst m;refine Ru.loop ?_;refine au ?_;by_cases a:k<t.length
 .rw[aj9 a]at U;have A:=hb _ (agB a);have aA:p t[k]=true->decide ((0:Int)<=(k:Int))=t.any p:=λh=>by rw[List.any_eq_true.2 ⟨_,agB a,h⟩];exact decide_eq_true af
  by_cases h1:t[k]<128
  .refine RO.adu U 0 h1 λu U=>?_;refine au ?_;refine RO.cl ((f t[k] af).mono ?_);rintro v w⟨rfl,rfl⟩;by_cases h2:p t[k]=true;·rw[h2];refine au ?_;refine RO.eq (t:=true) ?_;refine au ?_;exact Ru.aV (c _ _ U.gr (aA h2))
   rw[Bool.not_eq_true]at h2;rw[h2];refine au ?_;refine RO.eq (t:=false) ?_;refine au ?_;exact Ru.wk (s (k+1) af af _ (λj hj h=>by
    by_cases e:j=k;·subst e;exact h2
    exact n j hj af) U)
  have hu:=Zy hb a af;have h2:=g _ hu.1;refine RO.Zx U 0 h1 λu U=>?_;refine au ?_;refine RO.cl ((f _ hu.2).mono ?_);rintro v w⟨rfl,rfl⟩;rw[h2];refine au ?_;refine RO.eq (t:=true) ?_;refine au ?_;exact Ru.aV (c _ _ U.gr (aA (g _ af)))
 rw[List.drop_of_length_le af]at U;refine RO.adt U 0 ?_;refine au ?_;refine Ru.exitTo ?_;refine au ?_;refine Ru.aV (c _ _ U.gr ?_);rw[decide_eq_false af,eq_comm,List.any_eq_false];intro x y;obtain⟨i,hi,rfl⟩:=aka y;rw[n i hi af];simp
theorem OG(T:Tb ac){H:ai}{fv:AV}{t:List Nat}{p:Nat->Bool}(c:fv.bB=true)(d:Lf ac fv p)(hb:∀b∈t,b<256)(e:∀r,128<=r->p r=true){K:KT}(f:∀a,bm H a->K (.bool (t.any p)) a):YN ac XD [.str t,fv] H K:=by
 refine YF.code T.acI aB ?_;refine au ?_;have h2:YN ac XL [.str t,fv] H λv a=>∃i:Int,v=aI i/\decide (0<=i)=t.any p/\bm H a:=by refine YF.code T.acW aB ?_;refine au ?_;refine RO.cl (adz T c d hb e λa i hg hi=>?_);refine au ?_;exact Ru.aV ⟨i,rfl,hi,hg⟩
 refine RO.cl (h2.mono ?_);rintro v a⟨i,rfl,hi,hg⟩;refine RO.geq (a:=i) (b:=0) ?_;refine au ?_;refine Ru.aV ?_;rw[hi];exact f _ hg
def su(t:List Nat):Prop:=1<=t.length/\t.length<=40/\∀b∈t,33<=b/\b<=126/\b≠34
def EO(t:List Nat):Prop:=t.length<=200/\∀b∈t,(32<=b/\b<=126)\/b=10
instance{t:List Nat}:Decidable (su t):=inferInstanceAs(Decidable (_/\_/\_))
instance{t:List Nat}:Decidable (EO t):=inferInstanceAs(Decidable (_/\_))
def ul(r:Nat):Bool:=decide (r<33)||decide (126<r)||decide (r=34)
def vm(r:Nat):Bool:=(decide (r<32)||decide (126<r))&&!decide (r=10)
theorem IZ(T:Tb ac){H:ai}{t:List Nat}(hb:∀b∈t,b<256)(hl:t.length<=1000000){K:KT}(c:∀d,bm H d->K (.bool (decide (su t))) d):YN ac NX [.str t] H K:=by
 refine YF.code T.acn aB ?_;refine au ?_;refine RO.kH ?_;refine au ?_;refine RO.cl (IY T (a:=1) (b:=40) (n:=t.length) ?_);by_cases h0:(1:Int)<=t.length/\(t.length:Int)<=40
 .rw[decide_eq_true h0];refine bD ?_;refine RO.cl (OG T (fv:=.func XC [] []) (p:=ul) rfl (λr f=>λ{H}=>?_) hb (λr f=>by simp[ul];omega) λH1 hg=>?_)
  .unfold ul;refine YF.code T.acH aB ?_;refine au ?_;refine RO.de (λh=>?_) (λh=>?_);·refine bD ?_;refine Ru.aV ⟨?_,rfl⟩;simp;omega
   refine bD ?_;refine RO.de (λh=>?_) (λh=>?_);·refine bD ?_;refine Ru.aV ⟨?_,rfl⟩;simp;omega
   refine bD ?_;refine Ru.aV ⟨?_,rfl⟩;simp;omega
  refine bD ?_;have e:decide (su t)=!t.any ul:=by
   rw[alE,decide_eq_true_iff,akU,List.any_eq_false];simp only[su,ul];constructor;·intro h b a;have:=h.2.2 b a;simp;omega
   intro h;exact⟨af,af,λb a=>by have:=h b a;simp at this;omega⟩
  rw[e]at c;exact Ru.aV (c _ hg)
 rw[decide_eq_false h0];refine bD ?_;have e:decide (su t)=false:=decide_eq_false λh=>h0 ⟨by have:=h.1;omega,by have:=h.2.1;omega⟩;rw[e]at c;exact Ru.aV (c _ (bm.refl H))
theorem adA(T:Tb ac){H:ai}{t:List Nat}(hb:∀b∈t,b<256)(hl:t.length<=1000000){K:KT}(c:∀d,bm H d->K (.bool (decide (EO t))) d):YN ac N4 [.str t] H K:=by
 refine YF.code T.ac6 aB ?_;refine au ?_;refine RO.kH ?_;refine au ?_;refine RO.de (λh=>?_) (λh=>?_)
 .refine bD ?_;refine RO.cl (OG T (fv:=.func XW [] []) (p:=vm) rfl (λr f=>λ{H}=>?_) hb (λr f=>by simp[vm];omega) λH1 hg=>?_)
  .unfold vm;refine YF.code T.adc aB ?_;refine au ?_;refine RO.de (λh=>?_) (λh=>?_);·refine bD ?_;refine Ru.aV ⟨?_,rfl⟩;simp;omega
   refine bD ?_;refine RO.de (λh=>?_) (λh=>?_);·refine bD ?_;refine Ru.aV ⟨?_,rfl⟩;simp;omega
   refine bD ?_;refine Ru.aV ⟨?_,rfl⟩;simp;omega
  refine bD ?_;have e:decide (EO t)=!t.any vm:=by
   rw[alE,decide_eq_true_iff,akU,List.any_eq_false];simp only[EO,vm];constructor;·intro h b a;have:=h.2 b a;simp;omega
   intro h;exact⟨by simp at*;omega,λb a=>by have:=h b a;simp at this;omega⟩
  rw[e]at c;exact Ru.aV (c _ hg)
 refine bD ?_;have e:decide (EO t)=false:=decide_eq_false λh2=>h (by have:=h2.1;simp;omega);rw[e]at c;exact Ru.aV (c _ (bm.refl H))
theorem vN:∀{a b:List Nat},j8 a b=true↔a=b
 |[],[]=>by simp[j8]
 |a::l,b::m=>by
  simp only[j8,aj6,vN (a:=l) (b:=m),akn];constructor;·exact λh=>⟨aj4 h.1,h.2⟩
  exact λh=>⟨h.1▸ald a,h.2⟩
 |[],_::_=>by simp[j8]
 |_::_,[]=>by simp[j8]
theorem qv(a b:List Nat):j8 a b=decide (a=b):=by
 cases h:j8 a b;·symm;rw[decide_eq_false_iff_not];intro e;rw[vN.2 e]at h;cases h
 symm;rw[decide_eq_true_eq];exact vN.1 h
theorem RO.Ca{c:Cx}{s:List SI}{L:Kn}{H:ai}{d:Option ab}{l:List be}{x y:aJ}{a b:List Nat}(h:RO ac c l s (bC L d (.bool (decide (a=b)))) H)(e:bf L x=.str a:=by exact cw)(f:bf L y=.str b:=by exact cw):RO ac c (⟨d,.iE .eql x y,none,[],[]⟩::l) s L H:=RO.iE (v:=.bool (decide (a=b))) h e rfl f rfl (by simp only[Ba,qv])
theorem adB(T:Tb ac){H:ai}{t:List Nat}{K:KT}(a:K (.bool (decide (t=[]))) H):YN ac N3 [.str t] H K:=by refine YF.code T.ac0 aB ?_;refine au ?_;refine RO.Ca (b:=[]) ?_;refine au ?_;exact Ru.aV a
def Cu:List (List Nat):=[[110,101,103],[110,111,116],[115,105,122,101],[115,104,111,119],[114,101,97,100]]
def Cv:List (List Nat):=[[97,100,100],[115,117,98],[109,117,108],[100,105,118],[109,111,100],[108,116],[108,101],[101,113],[106,111,105,110],[98,121,116,101],[115,97,109,101]]
def Cw:List (List Nat):=[[99,117,116]]
def iu(t:List Nat):Nat:=if t∈Cu then 1 else if t∈Cv then 2 else if t∈Cw then 3 else 0
theorem adC(T:Tb ac){H:ai}{t:List Nat}{K:KT}(a:K (aN (iu t)) H):YN ac XT [.str t] H K:=by
 refine YF.code T.ac8 aB ?_;refine au ?_;repeat' first|refine RO.Ca (RO.de (λh=>?_) (λh=>?_))|refine RO.bg ?_|refine RO.nil ?_|refine Ru.region ?_|refine Ru.seq ?_|refine Ru.block ?_|refine Ru.skip ?_|refine Ru.aH ?_|refine Ru.pp ?_|refine Ru.nI ?_|refine Ru.aV ?_
 all_goals
  first|(subst_vars;exact a)|
   (
    have e:iu t=0:=by simp[iu,Cu,Cv,Cw, *]
    rw[e]at a;exact a)
abbrev zv:List AV:=[aU 0,aI 0,.str []]
def yF:ai->Unit->List AV->Prop:=λ_ _ cs=>cs=zv
theorem adD(T:Tb ac){H:ai}{d f:AV}{g:List Unit}{ks:List Nat}(h:dV 3 yF H g d)(i:Ie H ks f)(m:0<g.length)(h0:∀k∈ks,k≠0){K:KT}(j:∀l,bm H l->K (.bool false) l):YN ac N5 [d,f] H K:=by
 have⟨hd,_,_,hl⟩:=h.all;have⟨p,_,_,r⟩:=i.all;refine YF.code T.adg aB ?_;refine au ?_;refine Ru.cond (λb=>?_) (λb=>?_);·refine au ?_;exact Ru.aV (j H (bm.refl H))
 refine au ?_;refine Ru.loop ?_;refine au ?_;refine Ru.cond (λa=>?_) (λa=>absurd m a);refine au ?_;refine RO.cZ (bm.refl H) h λq o cs hj n t hat hrd=>?_;cases n;refine bD ?_;refine RO.gI (aj.dc H) λH1 u U=>?_;refine bD ?_;refine RO.iT U 0 (λv U=>?_);refine bD ?_;refine RO.lg U.gr i (λw o2 c s=>?_) (hj:=by omega);refine bD ?_;refine Ru.cond (λa=>?_) (λa=>?_);·refine bD ?_;exact Ru.aV (j _ U.gr)
 exact(a λe=>h0 _ (agB c) e.symm).elim
theorem adE(T:Tb ac){H:ai}{K:KT}(b:∀a q,aj H a [tB Ih q zv]->K (.bool true) a):YN ac IB [.agg zv] H K:=by refine YF.code T.ada aB ?_;refine au ?_;refine RO.dL (aj.dc H) λH1 q U=>?_;refine bD ?_;refine RO.eQ U 0 ?_;refine bD ?_;refine RO.eq (t:=true) ?_;refine bD ?_;exact Ru.aV (b _ q U)
theorem adF(T:Tb ac){H:ai}{f:AV}{c:List Unit}(g:dV 3 yF H c f)(m:c.length<=4){K:KT}(i:∀b,bm H b->K (.bool true) b):YN ac XU [f,.func IB [] []] H K:=by
 have j:ri ac H (.func IB [] []) yF true (λ_:Unit=>[]) (λ_=>True) (λs _=>(true,s)) c:=by rintro s a cs H us _ _ rfl U;refine adE T λb q d=>⟨rfl,trivial,[tB Ih q zv],by simpa using U.fC d⟩
 have e:∀(l:List Unit)s,gW (λ(s:Unit)(_:Unit)=>(true,s)) s l=(true,s):=λl=>by induction l with|nil=>intro s;rfl|cons a l k=>intro s;simpa[gW]using k s
 refine Ct T.ac9 bA T.ade bA T.adh (size:=3) (agg:=true) bA (λh=>by cases h) (st:=λs _=>(true,s)) (T:=λ_:Unit=>[]) (I:=λ_=>True) (s:=()) (us:=[]) rfl rfl rfl (OE T.adf bA rfl (λa cs h=>by cases h;exact⟨rfl,rfl⟩) j) (λa cs h=>by cases h;rfl) g af trivial (aj.dc H) λb n _ U=>?_;rw[e];exact i b U.gr
def nz:AV->Bool
 |.int 4 (.ofNat (_+1))=>true
 |_=>false
theorem OH:∀{a:List AV},a.all nz=true->∃ks:List Nat,a=ks.map aU/\∀k∈ks,k≠0
 |[],_=>⟨[],rfl,λ_ h=>by cases h⟩
 |w::a,h=>by
  simp only[List.all_cons,aj6]at h;obtain⟨ks,e,h2⟩:=OH h.2;have h1:=h.1;unfold nz at h1;split at h1;·rename_i k;exact⟨(k+1)::ks,by rw[e];rfl,λj hj=>(aeV.1 hj).elim (λe=>by omega) (h2 j)⟩
  cases h1
theorem RO.bsK{B:ai}{c:Cx}{s:List SI}{L:Kn}{H:ai}{d:Option ab}{l:List be}{e n:Nat}{f a:List AV}{g:List (Nat×Nat×aJ)}(j:bm B H)(h:∀v b,bm B b->Sl b 1 a a.length v->v.bB=true->RO ac c l s (bC L d v) b)(hl:qO L (fO f n) g=some a:=by exact cw)(k:a.length=n:=by rfl)(h1:dS a=true:=by rfl):RO ac c (⟨d,.buildSlice e n f g,none,[],[]⟩::l) s L H:=by subst k;refine RO.buildSlice ?_ hl h1;have i:dU (H.new (.cells (db a) (a.length*1) e true [] 0)) [H.next] e 1 a a.length true (.slice H.next 0 a.length a.length true):=dU.new (alt _).symm true true;rw[alt]at i;exact h _ _ (j.trans (bm.new H _)) i.sl rfl
theorem adH(T:Tb ac){B H:ai}{c d:AV}{e:List Unit}{b:List AV}(f:bm B H)(g:dV 3 yF B e c)(i:0<e.length)(j:Sl H 1 b b.length d)(h0:b.all nz=true){K:KT}(k:∀a,bm B a->K (.bool false) a):YN ac N5 [c,d] H K:=by obtain⟨ks,rfl,h1⟩:=OH h0;exact adD T (ks:=ks) (dQ.jU (λ_ h=>h) f g) (by simpa using j) i h1 λa hg=>k a (f.trans hg)
theorem adI(T:Tb ac){H:ai}{t:List Nat}{b:AV}{c:List Unit}(d:dV 3 yF H c b)(f:0<c.length){K:KT}(g:∀e,bm H e->K (.bool false) e):YN ac XV [.str t,b] H K:=by
 have⟨hd,_,_,_⟩:=d.all;have a:=bm.refl H;refine YF.code T.adb aB ?_;repeat' first|refine RO.Ca (RO.de (λ_=>?_) (λ_=>?_))|refine RO.bg ?_|refine RO.nil ?_|refine RO.bsK a (λ_ _ a hs _=>?_)|(refine RO.cl (adH T a d f hs rfl λ_ a=>?_))|refine Ru.region ?_|refine Ru.seq ?_|refine Ru.block ?_|refine Ru.skip ?_|refine Ru.aH ?_|refine Ru.pp ?_|refine Ru.nI ?_|refine RO.tm ?_|refine RO.yg ?_|refine RO.Al ?_|refine RO.Am ?_|refine Ru.aV ?_
 all_goals exact g _ (by assumption)
theorem adJ(T:Tb ac){H:ai}{t:List Nat}{g:AV}{b:List Unit}(d:dV 3 yF H b g)(hl:b.length<=iu t)(h0:0<iu t){K:KT}(c:∀i,bm H i->K (.tuple [.agg zv,.str [],aN (if b.length=iu t then 11 else 2)]) i):YN ac XR [.str t,g] H K:=by
 have⟨hd,_,_,j⟩:=d.all;have h3:iu t<=3:=by unfold iu;split<;>(try split)<;>(try split)<;>omega
 refine YF.code T.ac5 aB ?_;refine au ?_;refine RO.gI (aj.dc H) λH1 q U=>?_;refine bD ?_;refine RO.cl (adC T ?_);refine bD ?_;refine Ru.cond (λ(h:iu t=0)=>absurd h af) (λ_=>?_);refine bD ?_;refine Ru.cond (λh=>?_) (λh=>?_);·refine bD ?_;refine RO.eQ U 0 ?_;refine RO.iT U 0 (λf U=>?_);refine bD ?_;have a:b.length≠iu t:=λe=>h (by rw[e]);rw[aq a]at c;exact Ru.lM (vs:=[_,_,_]) ⟨⟨q,0,rfl,U.agg 0⟩,rfl,rfl,rfl,rfl,trivial⟩ (c _ U.gr)
 have a:b.length=iu t:=Classical.not_not.1 h;rw[aK a]at c;refine bD ?_;refine RO.cl (adF T (dQ.jU (λ_ h=>h) U.gr d) af λf hg=>?_);have U:=U.cI hg;refine bD ?_;refine RO.cl (adI T (dQ.jU (λ_ h=>h) U.gr d) af λf hg=>?_);have U:=U.cI hg;refine bD ?_;refine RO.eQ U 0 ?_;refine RO.iT U 0 (λf U=>?_);refine bD ?_;exact Ru.lM (vs:=[_,_,_]) ⟨⟨q,0,rfl,U.agg 0⟩,rfl,rfl,rfl,rfl,trivial⟩ (c _ U.gr)
theorem Zz(T:Tb ac){H:ai}{t:List Nat}{a:AV}{c:List Unit}(d:dV 3 yF H c a)(h0:iu t=0){K:KT}(e:∀b,bm H b->K (.tuple [.agg zv,.str [],aN 10]) b):YN ac XR [.str t,a] H K:=by have⟨hd,_,_,f⟩:=d.all;refine YF.code T.ac5 aB ?_;refine au ?_;refine RO.gI (aj.dc H) λH1 q U=>?_;refine bD ?_;refine RO.cl (adC T ?_);refine bD ?_;refine Ru.cond (λ_=>?_) (λh=>absurd h0 h);refine bD ?_;refine RO.eQ U 0 ?_;refine RO.iT U 0 (λg U=>?_);refine bD ?_;exact Ru.lM (vs:=[_,_,_]) ⟨⟨q,0,rfl,U.agg 0⟩,rfl,rfl,rfl,rfl,trivial⟩ (e _ U.gr)
theorem adK{H:ai}{k:Nat}{a:AV}(b:k<=3)(h:Sl H 3 ((fO zv 4).take (k*3)) k a):dV 3 yF H (ahr k ()) a:=by
 refine⟨_,by simpa using h,λj hj=>?_⟩;simp only[ak9]at hj;match k,b with
  |0,_=>omega
  |1,_=>match j,hj with|0,_=>rfl
  |2,_=>match j,hj with|0,_=>rfl|1,_=>rfl
  |3,_=>match j,hj with|0,_=>rfl|1,_=>rfl|2,_=>rfl
theorem adL(T:Tb ac){H:ai}{t:List Nat}(h0:0<iu t){K:KT}(e:∀c,bm H c->K (.tuple [aN (iu t),.bool true]) c):YN ac XM [.str t] H K:=by
 have h3:iu t<=3:=by unfold iu;split<;>(try split)<;>(try split)<;>omega
 refine YF.code T.acY aB ?_;refine au ?_;refine RO.oT (aj.dc H) (n:=4) (λH1 q U=>?_) (hz:=rfl);refine au ?_;refine Ru.nm λS M f d=>?_;refine Ru.cC d (up (P:=λk=>∀b,aj H b [tS Ih 3 (fO zv 4) 4 true (.slice q 0 4 4 true)]->Ru ac _ S ([(aY,aN k)]++pk M [p0,p4,aO,aR]) b) (iu t) (λk g i b U=>?_) 0 af _ U);subst f;subst d;refine Ru.loop ?_;refine au ?_;refine Ru.cond (λ(j:k<4)=>?_) (λh=>absurd (show k<4 by omega) h);refine au ?_;refine RO.V2 (U.sl 0) (λl hs=>?_);have hz:=adK af hs;have hd:=hz.bB;refine au ?_;refine RO.cl (adJ T hz (by simpa using g) h0 λm hg=>?_);have U:=U.cI hg;rw[ak9];refine au ?_;refine RO.fx U (λn o U=>?_);refine au ?_;by_cases a:k=iu t;·rw[aK a];refine bD ?_;refine Ru.tk ?_;rw[a];exact e _ U.gr
 rw[aq a];refine bD ?_;exact Ru.wk (i (k+1) af af _ U.tail)
theorem ZA(T:Tb ac){H:ai}{t:List Nat}(h0:iu t=0){K:KT}(d:∀b,bm H b->K (.tuple [aN 0,.bool false]) b):YN ac XM [.str t] H K:=by
 refine YF.code T.acY aB ?_;refine au ?_;refine RO.oT (aj.dc H) (n:=4) (λH1 q U=>?_) (hz:=rfl);refine au ?_;refine Ru.nm λS M e c=>?_;refine Ru.cC c (up (P:=λk=>∀a,aj H a [tS Ih 3 (fO zv 4) 4 true (.slice q 0 4 4 true)]->Ru ac _ S ([(aY,aN k)]++pk M [p0,p4,aO,aR]) a) 4 (λk j f a U=>?_) 0 af _ U);subst e;subst c;refine Ru.loop ?_;refine au ?_;refine Ru.cond (λ(g:k<4)=>?_) (λh=>?_);·refine au ?_;refine RO.V2 (U.sl 0) (λi hs=>?_);have hz:=adK af hs;have hd:=hz.bB;refine au ?_;refine RO.cl (Zz T hz h0 λl hg=>?_);have U:=U.cI hg;refine au ?_;refine RO.fx U (λm n U=>?_);refine bD ?_;exact Ru.wk (f (k+1) af af _ U.tail)
 refine Ru.exitTo ?_;refine au ?_;refine Ru.tk ?_;exact d _ U.gr
structure qy where
 vq:Bool
 EP:Int
 EQ:Int
 nm:Nat
 ER:Int
 ES:Int
def yG:Nat->AV
 |0=>.func N3 [] []
 |1=>.func NX [] []
 |_=>.func N4 [] []
def wL(r:qy):AV:=.agg [.bool r.vq,aI r.EP,aI r.EQ,yG r.nm,aI r.ER,aI r.ES]
def sw:List (Nat×qy):=[(1,⟨true,0,0,0, -1000000000,1000000000⟩),(2,⟨true,0,0,0,0,1⟩),(3,⟨true,0,0,2,0,0⟩),(4,⟨true,0,0,0,0,0⟩),(11,⟨true,0,0,1,0,0⟩),(40,⟨true,0,1073741824,1,0,0⟩),(15,⟨true,0,6,1,0,0⟩),(18,⟨true,0,6,1,0,0⟩),(37,⟨true,0,0,1,0,0⟩),(38,⟨false,1,1,1,0,0⟩),(16,⟨true,1,1,1,0,5⟩),(17,⟨false,2,2,1,0,5⟩),(23,⟨false,1,1,0,0,0⟩),(24,⟨true,0,0,0,1,8⟩),(25,⟨false,2,2,0,0,0⟩),(26,⟨true,1,1,0,0,0⟩),(31,⟨false,0,0,0,0,0⟩),(32,⟨false,1,1,0,0,0⟩),(33,⟨true,0,0,0,0,0⟩),(34,⟨false,0,0,0,0,0⟩),(35,⟨true,1,1,0,0,0⟩),(39,⟨false,0,0,0,0,0⟩),(64,⟨true,1,1,0,0,3⟩)]
def tY:Nat->List (Nat×qy)->List aT
 |_,[]=>[]
 |b,p::l=>⟨aU p.1,wL p.2,b⟩::tY (b+1) l
def Cy(op:Nat):List (Nat×qy)->Nat->Option (Nat×qy)
 |[],_=>none
 |p::l,i=>if op=p.1 then some (i,p.2)else Cy op l (i+1)
theorem I0(op:Nat):∀l b i,findKey .int (aU op) (tY b l) i=some ((Cy op l i).map λp=>(p.1,wL p.2))
 |[],_,_=>rfl
 |p::l,b,i=>by
  have e:eA 64 .int (aU op) (aU p.1)=some (decide (op=p.1)):=by
   show(if(4:Nat)=4 then some (iQ (.ofNat op) (.ofNat p.1))else none)=_;rw[aK rfl];congr 1;by_cases h:op=p.1;·simp[iQ,h]
   simp only[iQ,h,decide_false];cases hb:akb op p.1 with|false=>rfl|true=>exact absurd (aj4 hb) h
  simp only[tY,findKey,e,Cy];by_cases h:op=p.1;·grind
  simp only[h,decide_false,bP];exact I0 op l (b+1) (i+1)
theorem adM(T:Tb ac){H:ai}{b:Bool}{n:Int}{K:KT}(c:∀a,bm H a->K (wL ⟨b,n,n,0,0,0⟩) a):YN ac XS [.bool b,aI n] H K:=by refine YF.code T.ac7 aB ?_;refine au ?_;refine RO.gI (aj.dc H) λH1 q U=>?_;refine bD ?_;refine RO.iT U 0 (λd U=>?_);refine bD ?_;exact Ru.lM (vs:=[_]) ⟨⟨q,0,rfl,U.agg 0⟩,trivial⟩ (c _ U.gr)
theorem I1(T:Tb ac){H:ai}{b:Bool}{n m:Int}{K:KT}(c:∀a,bm H a->K (wL ⟨b,n,m,1,0,0⟩) a):YN ac XN [.bool b,aI n,aI m] H K:=by refine YF.code T.acZ aB ?_;refine au ?_;refine RO.gI (aj.dc H) λH1 q U=>?_;refine bD ?_;refine RO.iT U 0 (λd U=>?_);refine bD ?_;exact Ru.lM (vs:=[_]) ⟨⟨q,0,rfl,U.agg 0⟩,trivial⟩ (c _ U.gr)
theorem OI:∀(l:List (Nat×qy))(b:Nat)(p:Nat×qy),tY b (l++[p])=tY b l++[⟨aU p.1,wL p.2,b+l.length⟩]|[],_,_=>rfl|a::l,b,p=>by simp only[akV,tY,OI l (b+1) p,akA,alo,Nat.add_comm 1]
theorem RO.adN{c:Cx}{s:List SI}{L:Kn}{H A:ai}{d:Option ab}{l:List be}{q:ab}{b:List Th}{k op:Nat}{r:qy}{m w:aJ}(U:aj A H (tX q (.map (tY 0 (sw.take k)) k)::b))(f:sw[k]?=some (op,r))(h:∀a,aj A a (tX q (.map (tY 0 (sw.take (k+1))) (k+1))::b)->RO ac c l s (bC L d .alR) a)(g:Cy op (sw.take k) 0=none:=by rfl)(i:bf L m=.map q:=by exact cw)(j:bf L w=wL r:=by exact cw):RO ac c (⟨d,.jy .int m (.c (aU op)) w,none,[],[]⟩::l) s L H:=by
 refine RO.adw U 0 (kv:=aU op) (λa n=>h a ?_) rfl i rfl j rfl rfl rfl (by simp[g,I0]);obtain⟨o,_⟩:=akR.1 f;have e:sw.take (k+1)=sw.take k++[(op,r)]:=by rw[List.take_add_one,f];rfl
 have e2:(sw.take k).length=k:=by rw[akF];omega
 simp_all[OI,akh]
theorem adO(T:Tb ac){H:ai}{K:KT}(b:∀a q,aj H a [tX q (.map (tY 0 sw) 23)]->K (.map q) a):YN ac XO [] H K:=by
 refine YF.code T.ac1 aB ?_;refine au ?_;refine RO.adv (aj.dc H) λH1 q U=>?_;have U:aj H H1 (tX q (.map (tY 0 (sw.take 0)) 0)::[]):=U;repeat first|refine RO.build ?_|refine RO.adN U rfl (λ_ U=>?_)|(refine RO.cl (adM T λ_ hg=>?_);have U:=U.cI hg)|(refine RO.cl (I1 T λ_ hg=>?_);have U:=U.cI hg)|refine RO.bg ?_|refine RO.nil ?_
 exact Ru.aV (b _ q U)
def yH(s:G.ic):Option qy:=
 if s.op=14 then(if 0<iu s.name then some ⟨true,iu s.name,iu s.name,1,0,0⟩else none)
 else if s.op=13 then(if s.m=1 then some ⟨true,0,6,1,0,0⟩else some ⟨true,1,7,0,0,0⟩)
 else(Cy s.op sw 0).map (·.2)
theorem adP(T:Tb ac){H:ai}{s:G.ic}{cs:List AV}(hs:qT H s cs){K:KT}(a:∀r,yH s=some r->∀j,bm H j->K (.tuple [wL r,.bool true]) j)(d:yH s=none->∀j(b:Bool)(v:AV),v.ee=true->v.bB=true->bm H j->K (.tuple [.agg [.bool b,aI 0,aI 0,v,aI 0,aI 0],.bool false]) j):YN ac XE [.agg cs] H K:=by
 have n:=hs.one;obtain⟨u,rfl,l⟩:=hs;have⟨hd,_,_,w⟩:=l.all;refine YF.code T.acL aB ?_;refine au ?_;refine RO.dL (aj.dc H) λH1 q U=>?_;refine bD ?_;refine RO.gI U λx g U=>?_;refine bD ?_;unfold yH at a d;refine Ru.cond (λf=>?_) (λf=>?_)
 .rw[aK f]at a d;by_cases h0:0<iu s.name;case neg=>rw[aq h0]at d;clear a;refine bD ?_;refine RO.cl (ZA T (t:=s.name) af λk hg=>?_);have U:=U.cI hg;refine bD ?_;refine RO.cl (I1 T λk hg=>?_);have U:=U.cI hg;refine bD ?_;refine RO.iT U 0 (λe U=>?_);refine bD ?_;exact Ru.lM (vs:=[_,_]) ⟨⟨g,0,rfl,U.agg 0⟩,rfl,rfl,trivial⟩ (d rfl _ _ _ rfl rfl U.gr)
  rw[aK h0]at a;clear d;have a:=a _ rfl;refine bD ?_;refine RO.cl (adL T h0 λk hg=>?_);have U:=U.cI hg;refine bD ?_;refine RO.cl (I1 T λk hg=>?_);have U:=U.cI hg;refine bD ?_;refine RO.iT U 0 (λe U=>?_);refine bD ?_;exact Ru.lM (vs:=[_,_]) ⟨⟨g,0,rfl,U.agg 0⟩,rfl,rfl,trivial⟩ (a _ U.gr)
 rw[aq f]at a d;refine bD ?_;refine RO.de (λc=>?_) (λc=>?_)
 .rw[aK c]at a;clear d;refine bD ?_;refine Ru.cond (λ(h1:s.m=1)=>?_) (λ(h1:¬s.m=1)=>?_);·rw[aK h1]at a;have a:=a _ rfl;refine bD ?_;refine RO.cl (I1 T λk hg=>?_);have U:=U.cI hg;refine RO.iT U 0 (λe U=>?_);refine bD ?_;exact Ru.lM (vs:=[_,_]) ⟨⟨g,0,rfl,U.agg 0⟩,rfl,rfl,trivial⟩ (a _ U.gr)
  rw[aq h1]at a;have a:=a _ rfl;refine bD ?_;refine Ru.cond (λh=>?_) (λh=>absurd c h);refine bD ?_;refine RO.iT U 0 (λe U=>?_);refine bD ?_;exact Ru.lM (vs:=[_,_]) ⟨⟨g,0,rfl,U.agg 0⟩,rfl,rfl,trivial⟩ (a _ U.gr)
 rw[aq c]at a d;refine bD ?_;refine Ru.cond (λh=>absurd h c) (λh=>?_);refine bD ?_;refine RO.EN (adO T λk y o=>?_);have U:=U.fC o;obtain⟨z,i⟩:=U.get 2 rfl;refine⟨tB.cell (v:=aU s.op) i rfl,?_⟩;cases i:Cy s.op sw 0 with
 |none=>rw[i]at d;refine RO.adx U 0 (r:=none) (by have:=I0 s.op sw 0 0;rw[i]at this;exact this) ?_;refine bD ?_;refine RO.iT U 1 (λe U=>?_);refine bD ?_;refine RO.eQ U 1 ?_;refine bD ?_;refine RO.iT U 1 (λe U=>?_);refine bD ?_;exact Ru.lM (vs:=[_,_]) ⟨⟨g,0,rfl,U.agg 1⟩,rfl,rfl,trivial⟩ (d rfl _ _ _ rfl rfl U.gr)
 |some p=>
  have a:=a _ (by rw[i];rfl);have t:(yG p.2.nm).ee=true:=by unfold yG;split<;>rfl
  refine RO.adx U 0 (r:=some (p.1,wL p.2)) (by have:=I0 s.op sw 0 0;rw[i]at this;exact this) ?_;refine bD ?_;refine RO.iT U 1 (λe U=>?_);refine bD ?_;refine RO.eQ U 1 ?_;refine bD ?_;refine RO.iT U 1 (λe U=>?_);refine bD ?_;exact Ru.lM (vs:=[_,_]) ⟨⟨g,0,rfl,U.agg 1⟩,rfl,rfl,trivial⟩ (a _ U.gr)
section
def fT(g:G.bu)(c:AV)(a b:ab)(n:Nat)(s:List Bool):List Th:=[tB V9 a [.str g.name,aI g.params,aI g.bp,c,.slice b 0 n n true],tS 4 1 (s.map .bool) n true (.slice b 0 n n true)]
def ET:ai->Int->List AV->Prop:=λ_ v cs=>cs=[aI v]
theorem fZ.r{H:ai}{l:List Int}{d:AV}(h:fZ H l d):dV 1 ET H l d:=⟨_,h,λk e=>by simp[e,alt,aj9,ET]⟩
def m8(g:G.bu)(s:List Bool)(v:Int):Bool×List Bool:=
 if g.params<=v/\v<=g.bp - 1 then(if s.getD v.toNat false then(false,s)else(true,s.set v.toNat true))else(false,s)
structure FV(g:G.bu)(n:Nat):Prop where
 h0:0<=g.params
 h1:g.params<=g.bp
 h2:g.bp<=6000
 h3:(n:Int)=g.bp
section
variable{g:G.bu}{c:AV}{a b:ab}{n:Nat}{A H:ai}{us:List Th}
theorem adQ(T:Tb ac)(V:FV g n){s:List Bool}(U:aj A H (fT g c a b n s++us)){v:Int}{K:KT}(d:K (.bool (decide (0<=v/\v<=g.bp - 1))) H):YF ac (.func IA [.az a 0] []) [aI v] H K:=by obtain⟨h0,h1,h2,h3⟩:=V;refine YF.code T.acM aB ?_;refine au ?_;refine RO.nilCheck ?_;refine bD ?_;refine RO.sub (a:=g.bp) (b:=1) ?_;refine bD ?_;refine RO.cl (IY T ?_);refine bD ?_;exact Ru.aV d
theorem adR(T:Tb ac)(V:FV g n)(d:List Int):ri ac A (.func IA [.az a 0] []) ET false (fT g c a b n) (λs=>s.length=n) (λs v=>(decide (0<=v/\v<=g.bp - 1),s)) d:=by rintro s v cs H us _ e rfl U;exact adQ T V U ⟨rfl,e,[],by grind⟩
theorem I3(T:Tb ac)(V:FV g n){s:List Bool}(hs:s.length=n)(U:aj A H (fT g c a b n s++us)){v:Int}{K:KT}(d:∀e,aj A e (fT g c a b n (m8 g s v).2++us)->K (.bool (m8 g s v).1) e):YF ac (.func Ix [.az a 0] []) [aI v] H K:=by
 unfold m8 at d;obtain⟨h0,h1,h2,h3⟩:=V;refine YF.code T.acp aB ?_;refine au ?_;refine RO.nilCheck ?_;refine bD ?_;refine RO.nilCheck ?_;refine bD ?_;refine RO.sub (a:=g.bp) (b:=1) ?_;refine bD ?_;refine RO.cl (IY T ?_);by_cases hv:g.params<=v/\v<=g.bp - 1;·simp only[aK hv]at d;rw[decide_eq_true hv];obtain⟨k,rfl⟩:∃k:Nat,v=(k:Int):=⟨v.toNat,af⟩;have f:k<s.length:=af;simp only[aj3]at d;refine bD ?_;refine RO.nilCheck ?_;refine bD ?_;refine RO.fD U 1 ?_ (hv:=qR false f);refine bD ?_;cases hg:s.getD k false with|true=>simp only[hg,bq]at d;refine bD ?_;exact Ru.aV (d H U)|false=>simp only[hg,aes,bP]at d;refine bD ?_;refine RO.nilCheck ?_;refine bD ?_;refine RO.lC U 1 true hs (λH1 U=>?_);refine bD ?_;exact Ru.aV (d H1 U)
 simp only[aq hv]at d;rw[decide_eq_false hv];refine bD ?_;exact Ru.aV (d H U)
theorem adS(T:Tb ac)(V:FV g n)(d:List Int):ri ac A (.func Ix [.az a 0] []) ET false (fT g c a b n) (λs=>s.length=n) (m8 g) d:=by rintro s v cs H us _ e rfl U;refine I3 T V e U λh f=>⟨rfl,?_,[],by grind⟩;grind[m8]
end
end
section
def I4:Nat->List Nat->Prop
 |0,t=>t=[]
 |1,t=>su t
 |_,t=>EO t
structure vI(g:G.bu)(x:G.ic)(r:qy):Prop where
 args:r.EP<=x.args.length/\x.args.length<=r.EQ
 name:I4 r.nm x.name
 num:r.ER<=x.n/\x.n<=r.ES
 xx:x.m=0\/x.op=13/\x.m=1
 pF:∀a∈x.args,0<=a/\a<=g.bp - 1
open Classical in noncomputable def stepG(g:G.bu)(s:List Bool)(x:G.ic):Bool×List Bool:=match yH x with|some r=>if vI g x r then(if r.vq then m8 g s x.to else(decide (x.to= -1),s))else(false,s)|none=>(false,s)
theorem adU(T:Tb ac){H:ai}{k:Nat}{t:List Nat}(hb:∀b∈t,b<256)(hl:t.length<=1000000){K:KT}(c:∀a(b:Bool),bm H a->(b=true↔I4 k t)->K (.bool b) a):YF ac (yG k) [.str t] H K:=by match k with|0=>exact adB T (c _ _ (bm.refl H) (by simp[I4]))|1=>exact IZ T hb hl λa hg=>c _ _ hg (by simp[I4])|_+2=>exact adA T hb hl λa hg=>c _ _ hg (by simp[I4])
theorem Cr{b σ:Type}{p:b->Bool}:∀{la:List b}{s:σ},gW (λs a=>(p a,s)) s la=(la.all p,s)|[],_=>rfl|a::l,s=>by have:=Cr (p:=p) (la:=l) (s:=s);cases c:p a<;>simp[gW,c,this]
section
variable{g:G.bu}{f:AV}{d h:ab}{n:Nat}{A H:ai}{us:List Th}
theorem EU(T:Tb ac)(V:FV g n){s:List Bool}(hs:s.length=n){la:List Int}{k:AV}(l:fZ A la k)(hl:la.length<=1000000)(U:aj A H (fT g f d h n s++us)){K:KT}(m:∀i j(b:Bool),(b=true↔∀a∈la,0<=a/\a<=g.bp - 1)->aj A i (fT g f d h n s++j++us)->K (.bool b) i):YN ac NZ [k,.func IA [.az d 0] []] H K:=by have e:=Cr (σ:=List Bool) (p:=λv=>decide (0<=v/\v<=g.bp - 1)) (la:=la) (s:=s);refine Ct T.Oy bA T.IT bA T.IU (size:=1) (agg:=false) bA (λ_=>rfl) rfl rfl rfl (IX T.Oz bA rfl (λa cs o=>by cases o;rfl) (adR T V la)) (λa cs o=>by cases o;rfl) (fZ.r l) hl hs U λi j _ c=>?_;rw[e]at c⊢;exact m i j _ aB c
theorem adV(T:Tb ac)(V:FV g n){s:List Bool}(hs:s.length=n){x:G.ic}{cs:List AV}(z:qT A x cs)(hb:∀c∈x.name,c<256)(C:x.name.length<=1000000)(hl:x.args.length<=1000000)(U:aj A H (fT g f d h n s++us)){K:KT}(p:∀i e,aj A i (fT g f d h n (stepG g s x).2++e++us)->K (.bool (stepG g s x).1) i):YF ac (.func Iy [.az d 0] []) [.agg cs] H K:=by
 have E:=z.one;have D:=z;obtain⟨R,rfl,o⟩:=z;have⟨hd,_,_,S⟩:=o.all;refine YF.code T.acr aB ?_;refine au ?_;refine RO.dL U λH1 q U=>?_;refine au ?_;refine RO.eQ U 0 ?_;refine au ?_;refine RO.cl (adP T (dQ.step U.gr D) (λr h1 I hg=>?_) (λh1 I b v P Q hg=>?_));rotate_left;·have U:=U.cI hg;simp only[stepG,h1]at p;refine au ?_;refine RO.fx U (λJ L U=>?_);refine bD ?_;exact Ru.aV (p _ [_,_] (by have:=aj.gF (xs:=[_,_]) U;simpa[fT]using this))
 have U:=U.cI hg;have no:¬vI g x r->∀i e,aj A i (fT g f d h n s++e++us)->K (.bool false) i:=λX i e U=>by have t:=p i e;simp only[stepG,h1,aq X]at t;exact t U
 have a:vI g x r->∀i e,aj A i (fT g f d h n (if r.vq then m8 g s x.to else(decide (x.to= -1),s)).2++e++us)->K (.bool (if r.vq then m8 g s x.to else(decide (x.to= -1),s)).1) i:=λX i e U=>by have t:=p i e;simp only[stepG,h1,aK X]at t;exact t U
 clear p;have y:(yG r.nm).ee=true/\(yG r.nm).bB=true:=by unfold yG;split<;>exact⟨rfl,rfl⟩
 obtain⟨y,F⟩:=y;refine au ?_;refine RO.fx U (λJ L U=>?_);refine bD ?_;refine RO.cl (IY T (a:=r.EP) (b:=r.EQ) (n:=x.args.length) ?_);by_cases h2:r.EP<=x.args.length/\(x.args.length:Int)<=r.EQ;rotate_left;·rw[decide_eq_false h2];refine bD ?_;exact Ru.aV (no (λX=>h2 X.args) _ [_,_] (by have:=aj.gF (xs:=[_,_]) U;simpa[fT]using this))
 rw[decide_eq_true h2];refine bD ?_;refine RO.cl (adU T hb C λW M hg h3=>?_);have U:=U.cI hg;cases M with
 |false=>refine bD ?_;exact Ru.aV (no (λX=>by have:=h3.2 X.name;cases this) _ [_,_] (by have:=aj.gF (xs:=[_,_]) U;simpa[fT]using this))
 |true=>
  have h3:=h3.1 rfl;refine bD ?_;refine RO.cl (IY T (a:=r.ER) (b:=r.ES) (n:=x.n) ?_);by_cases u:r.ER<=x.n/\x.n<=r.ES;rotate_left;·rw[decide_eq_false u];refine bD ?_;exact Ru.aV (no (λX=>u X.num) _ [_,_] (by have:=aj.gF (xs:=[_,_]) U;simpa[fT]using this))
  rw[decide_eq_true u];refine bD ?_;refine RO.de (λ(X:x.m≠0)=>?_) (λ(X:¬x.m≠0)=>?_)
  .refine bD ?_;refine RO.de (λj=>?_) (λj=>?_);·refine bD ?_;exact Ru.aV (no (λl=>j (l.xx.resolve_left X).1) _ [_,_] (by have:=aj.gF (xs:=[_,_]) U;simpa[fT]using this))
   have j:x.op=13:=Classical.not_not.1 j;refine bD ?_;refine RO.de (λk=>?_) (λk=>?_);·refine bD ?_;exact Ru.aV (no (λl=>k (l.xx.resolve_left X).2) _ [_,_] (by have:=aj.gF (xs:=[_,_]) U;simpa[fT]using this))
   have k:x.m=1:=Classical.not_not.1 k;refine bD ?_;refine RO.cl (EU T V hs o hl (aj.gF (xs:=[_,_]) U) λN e B w U=>?_);have U:=aj.kO (xs:=[_,_]) U;cases B with
   |false=>refine bD ?_;exact Ru.aV (no (λl=>by have:=w.2 l.pF;cases this) _ (e++[_,_]) (by have:=aj.gF (xs:=[_,_]) U;simpa[fT]using this))
   |true=>
    have a:=a ⟨h2,h3,u,.inr ⟨j,k⟩,w.1 rfl⟩;refine bD ?_;refine Ru.kN (λhg=>?_) (λhg=>?_);·simp only[akU]at hg;simp only[hg,aes,bP]at a;refine bD ?_;exact Ru.aV (a _ (e++[_,_]) (by have:=aj.gF (xs:=[_,_]) U;simpa[fT]using this))
    simp only[Bool.not_eq_false']at hg;simp only[hg,bq]at a;refine bD ?_;refine RO.cl (YF.oJ (I3 T V hs (us:=e++[_,_]++us) (by have:=aj.gF (xs:=[_,_]) U;simpa[fT]using this) λO U=>?_));refine bD ?_;exact Ru.aV (a _ (e++[_,_]) (by simpa using U))
  have X:x.m=0:=Classical.not_not.1 X;refine bD ?_;refine RO.cl (EU T V hs o hl (aj.gF (xs:=[_,_]) U) λN e B w U=>?_);have U:=aj.kO (xs:=[_,_]) U;cases B with
  |false=>refine bD ?_;exact Ru.aV (no (λl=>by have:=w.2 l.pF;cases this) _ (e++[_,_]) (by have:=aj.gF (xs:=[_,_]) U;simpa[fT]using this))
  |true=>
   have a:=a ⟨h2,h3,u,.inl X,w.1 rfl⟩;refine bD ?_;refine Ru.kN (λhg=>?_) (λhg=>?_);·simp only[akU]at hg;simp only[hg,aes,bP]at a;refine bD ?_;exact Ru.aV (a _ (e++[_,_]) (by have:=aj.gF (xs:=[_,_]) U;simpa[fT]using this))
   simp only[Bool.not_eq_false']at hg;simp only[hg,bq]at a;refine bD ?_;refine RO.cl (YF.oJ (I3 T V hs (us:=e++[_,_]++us) (by have:=aj.gF (xs:=[_,_]) U;simpa[fT]using this) λO U=>?_));refine bD ?_;exact Ru.aV (a _ (e++[_,_]) (by simpa using U))
end
end
end
end Go.am.R
end
