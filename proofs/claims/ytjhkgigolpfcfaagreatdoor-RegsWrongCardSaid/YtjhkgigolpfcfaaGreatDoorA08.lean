/- A part of the proof. No conditions. -/
import Derived.Test.YtjhkgigolpfcfaaGreatDoorA07
set_option linter.all false
set_option maxHeartbeats 16000000
open Option.some renaming injEq->adG
open List renaming mem_singleton->aep,mem_cons_of_mem->aey,mem_cons_self->aeU,replicate->ahr,range->ake,length_map->akg,nodup_cons->akz,length_cons->akA,length_singleton->akC,length_take->akF,nodup_append->akI,getElem?_cons_succ->ak6,nodup_nil->alD
open Nat renaming le_of_ble_eq_true->akc,blt_eq->akY,le_trans->alj
open List.Perm renaming cons->akO,swap->akS
open Eq renaming mpr->alN
open Prod renaming fst->alO
noncomputable section
namespace Go.am.R
section
variable{ac:Nat->aG}
structure CQ(g:G.bu):Prop where
 nm:∀c∈g.name,c<256
 st:∀b∈g.al,∀s∈b.aD,∀c∈s.name,c<256
 fn:∀b∈g.al,∀c∈b.aA.name,c<256
 kd:∀b∈g.al,∀c∈b.aA.b9,c<256
def eU(l:List G.ic):List Int:=(l.map (·.to)).filter λt=>decide (0<=t)
def gX(b:G.gV):List Int:=b.params++eU b.aD
structure ug(g:G.bu)(x:G.ic):Prop where
 op:x.op∉CM
 w:(sA x.op).w≠ []
 r:EZ x g.bp (ue x.op x.m)
structure yS(n np:Nat)(gs:List Bool)(hist:List Int):Prop where
 len:gs.length=n
 nd:hist.Nodup
 rg:∀v∈hist,(np:Int)<=v/\v<n
 bH:∀v:Nat,v<n->(gs.getD v false=true↔v<np\/(v:Int)∈hist)
structure sD(g:G.bu):Prop where
 name:su g.name
 p0:0<=g.params
 p1:g.params<=g.bp
 ne:0<g.al.length
 first:(g.al.getD 0 default).params=[]
 aD:∀b∈g.al,∀x∈b.aD,ug g x
 CD:∀b∈g.al,yO g b.aA
 nd:(g.al.flatMap gX).Nodup
 rg:∀v∈g.al.flatMap gX,g.params<=v/\v<g.bp
 all:∀v:Int,g.params<=v->v<g.bp->v∈g.al.flatMap gX
theorem Jt{l:List G.ic}{x:G.ic}:eU (l++[x])=eU l++if 0<=x.to then[x.to]else[]:=by simp only[eU,akE,List.filter_append];by_cases h:0<=x.to<;>simp[h]
theorem yS.add{n f:Nat}{g:List Bool}{c:List Int}(h:yS n f g c){v:Nat}(i:v<n)(hg:g.getD v false=false):yS n f (g.set v true) (c++[(v:Int)]):=by
 have hl:=h.len;have h1:¬(v<f\/(v:Int)∈c):=λe=>by rw[(h.bH v i).2 e]at hg;cases hg
 rw[not_or]at h1;refine⟨by simpa using hl,?_,λx d=>?_,λx d=>?_⟩;·rw[akI];refine⟨h.nd,aB,λa j b hb=>?_⟩;rw[aep]at hb;subst hb;exact λe=>h1.2 (e▸j)
 .rcases ahp.1 d with d|d;·exact h.rg x d
  rw[aep]at d;omega
 rw[fu af,ahp,aep];by_cases e:x=v;·subst e;simp
 rw[aq e,h.bH x d];have:¬(x:Int)=v:=af;simp[this]
section
variable{g:G.bu}{H:ai}{cs:List AV}
theorem aeM(T:Tb ac)(hg:iG H g cs)(hB:G.Sm g)(hY:CQ g)(d0:g.name.length<=60)(b3:g.bp<=6000){K:KT}(h1:∀H',bm H H'->sD g->K (.bool true) H')(h2:∀H',bm H H'->K (.bool false) H'):YN ac Wt [.agg cs] H K:=by
 have dx:=hg.one;have ax:=hg;obtain⟨V,rfl,cA⟩:=hg;have⟨d1,_,_,d2⟩:=cA.all;have d3:=hB.nb;refine YF.code T.abd aB ?_;refine Ru.seq ?_;refine Ru.region ?_;refine RO.dL (aj.dc H) λH1 q U=>?_;have U:aj H H1 [tB fI q [.str g.name,aI g.params,aI g.bp,V]]:=U;refine RO.bg ?_;refine RO.nil ?_;refine Ru.seq ?_;refine Ru.wP (P:=λM H'=>M=[(p1,.az q 0)]/\su g.name/\0<=g.params/\g.params<=g.bp/\0<g.al.length/\(g.al.getD 0 default).params=[]/\aj H H' [tB fI q [.str g.name,aI g.params,aI g.bp,V]]) (λM H2⟨Z,f1,f2,f3,f4,f5,U⟩=>?_) (λs' aw=>?_);rotate_left
 .refine ah ?_;refine RO.cl (EX T hY.nm af (λW=>?_) ?_);rotate_left;·refine ah ?_;exact Ru.aV (h2 _ U.gr)
  refine ah ?_;refine RO.cl (sx T (λg2 L=>?_) (λ_=>?_));rotate_left;·refine ah ?_;exact Ru.aV (h2 _ U.gr)
  have g2:0<=g.params:=g2;refine ah ?_;refine RO.de (λN=>?_) (λN=>?_);·refine ah ?_;exact Ru.aV (h2 _ U.gr)
  have ay:0<g.al.length:=af;refine ah ?_;refine RO.cZ U.gr cA (λq1 o1 c1 b4 O b5 hat hrd=>?_) (j:=0);obtain⟨vp,P,jc,rfl,Q,_⟩:=O;have⟨b6,_,_,b'⟩:=Q.all;refine ah ?_;refine Ru.cond (λg5=>?_) (λg5=>?_);·refine ah ?_;exact Ru.aV (h2 _ U.gr)
  refine ah ?_;exact aw _ _ _ ⟨rfl,W,g2,L,ay,by rw[bF ay];exact akM af,U⟩ fB
 subst Z;obtain⟨n,hn⟩:∃n:Nat,g.bp=n:=⟨g.bp.toNat,af⟩;obtain⟨I,w⟩:∃n:Nat,g.params=n:=⟨g.params.toNat,af⟩;rw[hn,w]at U ax;rw[hn]at b3 f3;rw[w]at f3;refine ah ?_;refine RO.oT U (n:=n) (λH3 qg U=>?_) (hz:=by rw[iZ];simp);have X:yS n 0 (ahr n false) []:=⟨aB,alD,λv hv=>(by cases hv),λv hv=>by simp[akm,ak8,hv]⟩;have U:aj H H3 [tS 4 1 ((ahr n false).map .bool) n true (.slice qg 0 n n true),tB fI q [.str g.name,aI I,aI n,V]]:=by rw[iZ]at U;rw[alz];exact U
 refine ah ?_;refine Ru.nm λS0 M hS Z=>?_;refine Ru.cC Z (up (P:=λk=>∀f c,yS n k c []->aj H f [tS 4 1 (c.map .bool) n true (.slice qg 0 n n true),tB fI q [.str g.name,aI I,aI n,V]]->Ru ac _ S0 ([(p4,aN k)]++pk M [p1,p3]) f) I (λk hk ih f c a U=>?_) 0 af _ _ X U);subst hS;subst Z;refine Ru.loop ?_;refine ah ?_;refine Ru.cond (λca=>?_) (λca=>?_)
 .refine ah ?_;refine RO.lC U 0 true a.len (λH4 U=>?_) (k:=k) (ho:=by rw[a.len];omega);refine ah ?_;exact Ru.wk (ih (k+1) af af H4 _ ⟨by simpa using a.len,alD,λv hv=>(by cases hv),λv hv=>by
   rw[fu (by rw[a.len];omega)];by_cases e:v=k;·subst e;simp
   rw[aq e,a.bH v hv];simp;omega⟩ U)
 refine Ru.exitTo ?_;obtain rfl:I=k:=af;refine ah ?_;clear X ih;refine Ru.nm λS0 M hS Z=>?_;refine Ru.cC Z (up (P:=λk=>∀f c,yS n I c ((g.al.take k).flatMap gX)->(∀x(h:x<g.al.length),x<k->(∀s∈g.al[x].aD,ug g s)/\yO g g.al[x].aA)->aj H f [tS 4 1 (c.map .bool) n true (.slice qg 0 n n true),tB fI q [.str g.name,aI I,aI n,V]]->Ru ac _ S0 ([(p5,aN k)]++pk M [p1,p3]) f) g.al.length (λk hk ih f c a y U=>?_) 0 af _ c a (λx _ o=>by omega) U);subst hS;subst Z;refine Ru.loop ?_;refine ah ?_;refine Ru.cond (λD=>?_) (λD=>?_)
 .have r:=agB D;have d4:=hB.bl _ r;have cd:=hB.st _ r;have cf:=hB.ed _ r;have cn:=hY.st _ r;have cp:=hY.fn _ r;have cv:=hY.kd _ r;have a1:g.al.take (k+1)=g.al.take k++[g.al[k]]:=(akd D).symm;have ih:=ih (k+1) af af;rw[a1,akD,akK]at ih;have y:(∀s∈g.al[k].aD,ug g s)/\yO g g.al[k].aA->∀x(h:x<g.al.length),x<k+1->(∀s∈g.al[x].aD,ug g s)/\yO g g.al[x].aA:=λhb x o h=>by
   by_cases e:x=k;·subst e;exact hb
   exact y x o af
  clear a1;generalize(g.al.take k).flatMap gX=Y at*;refine ah ?_;refine RO.cZ U.gr cA (λq1 o1 c1 b4 O b5 hat hrd=>?_) (j:=k);have dy:=O.one;generalize g.al[k]=B at*;obtain⟨vp,P,jc,rfl,Q,R,a2⟩:=O;have bc:=a2;obtain⟨va,vk,vg,rfl,_⟩:=a2;have⟨b6,_,_,b'⟩:=Q.all;have⟨d5,_,_,d6⟩:=R.all;refine ah ?_;refine RO.fx U λH5 q6 U=>?_;refine ah ?_;refine RO.qS U 1 λH6 v0 U=>?_;have⟨d7,_,_,_⟩:=(U.sl (e:=3) (size:=1) (sv:=v0) (vs:=[]) (n:=0) (full:=true) 0).all;refine ah ?_;refine RO.pZ U 0 (U.gr.sl Q) (λH7 v1 U=>?_) (h1:=qP _);have U:aj H H7 [tS 3 1 ((B.params++eU (B.aD.take 0)).map aI) (B.params++eU (B.aD.take 0)).length true v1,tB dW q6 [vp,P,aU B.aA.op,va,.str B.aA.name,vk,vg],tS 4 1 (c.map .bool) n true (.slice qg 0 n n true),tB fI q [.str g.name,aI I,aI n,V]]:=by rw[alm,show eU []=[]from rfl,akT];rw[akh]at U;exact U
  have⟨d',_,_,_⟩:=(U.sl (e:=3) (size:=1) (sv:=v1) (vs:=(B.params++eU (B.aD.take 0)).map aI) (n:=(B.params++eU (B.aD.take 0)).length) (full:=true) 0).all;refine ah ?_;refine Ru.nm λS1 M1 A d=>?_;refine Ru.cC d (up (P:=λj=>∀f lv,(∀x(h:x<B.aD.length),x<j->ug g B.aD[x])->aj H f [tS 3 1 ((B.params++eU (B.aD.take j)).map aI) (B.params++eU (B.aD.take j)).length true lv,tB dW q6 [vp,P,aU B.aA.op,va,.str B.aA.name,vk,vg],tS 4 1 (c.map .bool) n true (.slice qg 0 n n true),tB fI q [.str g.name,aI I,aI n,V]]->Ru ac _ S1 ([(p8,aN j),(p7,lv)]++pk M1 [p1,p3,p5,p6]) f) B.aD.length (λj hj l f lv eh U=>?_) 0 af _ _ (λx _ o=>by omega) U);subst A;subst d;have⟨ea,_,_,a6⟩:=(U.sl (e:=3) (size:=1) (sv:=lv) (vs:=(B.params++eU (B.aD.take j)).map aI) (n:=(B.params++eU (B.aD.take j)).length) (full:=true) 0).all;refine Ru.loop ?_;refine ah ?_;refine Ru.cond (λE=>?_) (λE=>?_)
  .have a8:=agB E;have eb:=cd _ a8;have cx:=cn _ a8;have l:=l (j+1) af af;rw[(akd E).symm,Jt,<-aj2]at l;have eh:ug g B.aD[j]->∀x(h:x<B.aD.length),x<j+1->ug g B.aD[x]:=λhb x o h=>by
    by_cases e:x=j;·subst e;exact hb
    exact eh x o af
   have cy:(B.params++eU (B.aD.take j)).length<=100:=by
    have:(eU (B.aD.take j)).length<=(B.aD.take j).length:=by unfold eU;exact alj (List.length_filter_le _ _) aB
    rw[aj8];rw[akF]at this;omega
   generalize B.params++eU (B.aD.take j)=J at*;refine ah ?_;refine RO.cZ U.gr R (λq9 o9 et ag a' ec hat hrd=>?_) (j:=j);have bd:=a';generalize o:B.aD[j]=x at*;obtain⟨ei,rfl,dz⟩:=a';refine ah ?_;refine RO.cl (aeq T (v:=(n:Int)) (dQ.step U.gr bd) cx af af af af (λH8 hg W g2 L=>?_) (λH8 hg=>?_));rotate_left;·have U:=U.cI hg;refine ah ?_;exact Ru.aV (h2 _ U.gr)
   have U:=U.cI hg;have ba:ug g x:=⟨W,g2,by rw[hn];exact L⟩;refine ah ?_;refine RO.cZ U.gr R (λq7 o7 c7 cE C c8 F bv=>?_) (j:=j);rw[o]at C;obtain⟨c9,rfl,b0⟩:=C;refine ah ?_;refine RO.aW (v:=aI x.to) ?_ (hc:=F 1 _ rfl);refine ah ?_;refine Ru.cond (λN=>?_) (λN=>?_);·have N:0<=x.to:=N;rw[aK N]at l;refine ah ?_;refine RO.cZ U.gr R (λq7 o7 c7 cE C c8 F bv=>?_) (j:=j);rw[o]at C;obtain⟨c9,rfl,b0⟩:=C;refine ah ?_;refine RO.aW (v:=aI x.to) ?_ (hc:=F 1 _ rfl);refine RO.push U 0 (λw0 H9 v2 U=>?_) (ws:=[aI x.to]);have⟨ej,ek,el,_⟩:=(U.sl (e:=3) (size:=1) (n:=J.length+1) (full:=true) (sv:=v2) 0).all;refine ah ?_;exact Ru.wk (l _ v2 (eh ba) (by rw[akE,aj8];exact U))
   have N:¬0<=x.to:=N;rw[aq N,akT]at l;refine ah ?_;exact Ru.wk (l _ lv (eh ba) U)
  refine Ru.exitTo ?_;have eh:∀s∈B.aD,ug g s:=λs hs=>by obtain⟨x,o,rfl⟩:=aka hs;exact eh x o af
  rw[akl af]at U a6;have c':B.params++eU B.aD=gX B:=rfl;rw[c']at U a6;have cy:(gX B).length<=100:=by have:=List.length_filter_le (λt=>decide (0<=t)) (B.aD.map (·.to));rw[akg]at this;rw[gX,eU,aj8];omega
  generalize er:gX B=J at*;refine ah ?_;refine Ru.nm λS1 M1 A d=>?_;refine Ru.cC d (up (P:=λm=>∀f c,yS n I c (Y++J.take m)->aj H f [tS 3 1 (J.map aI) J.length true lv,tB dW q6 [vp,P,aU B.aA.op,va,.str B.aA.name,vk,vg],tS 4 1 (c.map .bool) n true (.slice qg 0 n n true),tB fI q [.str g.name,aI I,aI n,V]]->Ru ac _ S1 ([(p9,aN m)]++pk M1 [p1,p3,p5,p6,p7]) f) J.length (λm hm u f c a U=>?_) 0 af _ c (by rw[alm,akT];exact a) U);subst A;subst d;have ar:=U.sl (e:=3) (size:=1) (sv:=lv) (vs:=J.map aI) (n:=J.length) (full:=true) 0;refine Ru.loop ?_;refine ah ?_;refine Ru.cond (λp=>?_) (λp=>?_)
  .have u:=u (m+1) af af;rw[(akd p).symm,<-aj2]at u;generalize Y++J.take m=h0 at*;refine ah ?_;refine RO.lg (bm.refl _) ar (λq9 o9 ag S=>?_) (j:=m);generalize hz:J[m]=z at*;refine ah ?_;refine RO.sub ?_ (a:=(n:Int)) (b:=1);refine RO.cl (sx T (λW g2=>?_) (λ_=>?_));rotate_left;·refine ah ?_;exact Ru.aV (h2 _ U.gr)
   have W:0<=z:=W;obtain⟨v,rfl⟩:∃v:Nat,z=v:=⟨z.toNat,af⟩;have dm:v<n:=af;refine ah ?_;refine RO.lg (bm.refl _) ar (λq9 o9 ag S=>?_) (j:=m);rw[hz]at S;have bb:=a.len;have av:(c.map AV.bool)[0+v*1]?=some (.bool (c.getD v false)):=by rw[show 0+v*1=v by omega,aks,getElem?_pos c v af,bF af];rfl
   refine ah ?_;refine RO.fD U 2 (hv:=av) ?_;refine ah ?_;refine Ru.kN (λL=>?_) (λL=>?_);·refine ah ?_;exact Ru.aV (h2 _ U.gr)
   refine ah ?_;refine RO.lg (bm.refl _) ar (λq9 o9 ag S=>?_) (j:=m);rw[hz]at S;refine ah ?_;refine RO.lC U 2 true bb (λH9 U=>?_) (k:=v) (ho:=by omega);refine ah ?_;exact Ru.wk (u _ _ (a.add dm L) U)
  refine Ru.exitTo ?_;rw[akl af]at a;refine ah ?_;refine RO.eQ U 3 ?_;refine ah ?_;refine RO.eQ U 1 (m:=5) (o:=2) ?_;refine RO.cl (aer T (dQ.nM U.gr ax) (j:=B.aA) (dQ.Ig U.gr bc) hB af af cp cv ⟨af,af,af,af⟩ cf (λH8 hg W=>?_) (λH8 hg=>?_));rotate_left;·have U:=U.cI hg;refine ah ?_;exact Ru.aV (h2 _ U.gr)
  have U:=U.cI hg;refine ah ?_;exact Ru.wk (ih _ _ a (y ⟨eh,W⟩) U.tail.tail)
 refine Ru.exitTo ?_;rw[akl af]at a;have bb:=a.len;refine ah ?_;refine Ru.nm λS1 M1 A d=>?_;refine Ru.cC d (up (P:=λm=>(∀x,x<m->c.getD x false=true)->Ru ac _ S1 ([(aO,aN m)]++pk M1 [p1,p3]) f) n (λm hm u eZ=>?_) 0 af (λx o=>by omega));subst A;subst d;refine Ru.loop ?_;refine ah ?_;refine Ru.cond (λp=>?_) (λp=>?_)
 .have av:(c.map AV.bool)[0+m*1]?=some (.bool (c.getD m false)):=by rw[show 0+m*1=m by omega,aks,getElem?_pos c m af,bF af];rfl
  refine ah ?_;refine RO.fD U 0 (hv:=av) ?_;refine ah ?_;refine Ru.kN (λL=>?_) (λL=>?_);·refine ah ?_;exact Ru.aV (h2 _ U.gr)
  refine ah ?_;exact Ru.wk (u (m+1) af af λx o=>by
   by_cases e:x=m;·subst e;simpa using L
   exact eZ x af)
 refine Ru.exitTo ?_;refine ah ?_;exact Ru.aV (h1 _ U.gr ⟨f1,f2,by rw[hn,w];exact f3,f4,f5,λb hb x o=>by obtain⟨i,hi,rfl⟩:=aka hb;exact(y i hi af).1 x o,λb hb=>by obtain⟨i,hi,rfl⟩:=aka hb;exact(y i hi af).2,a.nd,λv hv=>by rw[hn,w];exact a.rg v hv,λv dr ds=>by rw[w]at dr;rw[hn]at ds;have dv:v.toNat<n:=af;have:=(a.bH _ dv).1 (eZ _ af);rw[Int.toNat_of_nonneg af]at this;exact this.resolve_left af⟩)
end
end
section
theorem Pr{op:Nat}:∀{l:List (Nat×rm)},(ud op l).w≠ []->op∈l.map (·.1)
 |[],h=>absurd rfl h
 |p::l,h=>by
  unfold ud at h;split at h;·grind
  exact aey _ (Pr h)
theorem aeN{t:List Nat}(h:iu t≠0):su t:=by
 unfold iu at h;split at h;·rename_i a;simp only[Cu,aeV,aki,or_false]at a;rcases a with rfl|rfl|rfl|rfl|rfl<;>exact⟨bA,bA,bA⟩
 split at h;·rename_i a;simp only[Cv,aeV,aki,or_false]at a;rcases a with rfl|rfl|rfl|rfl|rfl|rfl|rfl|rfl|rfl|rfl|rfl<;>exact⟨bA,bA,bA⟩
 split at h;·rename_i a;simp only[Cw,aeV,aki,or_false]at a;subst a;exact⟨bA,bA,bA⟩
 exact absurd rfl h
section
variable{g:G.bu}
theorem CR{x:G.ic}{r:qy}{f:rm}(h:EZ x g.bp f)(j:yH x=some r)(hg:r.vq=f.to)(a:r.ER=if f.n then f.lo else 0)(b:r.ES=if f.n then f.hi else 0)(c:yN f.nm x.name->I4 r.nm x.name)(d:r.EP<=x.args.length/\x.args.length<=r.EQ):wM g x r/\r.vq=decide (0<=x.to):=by
 have e:=h.to;have h0:=h.t0;refine⟨⟨j,d,c h.name,?_,h.xx,h.pF,λk=>?_⟩,by grind⟩;·rw[a,b];cases i:f.n with|true=>simpa using h.num i|false=>have:=h.nun i;grind
 grind
theorem aeO{x:G.ic}(h:ug g x)(hl:x.args.length<=12):∃r,wM g x r/\r.vq=decide (0<=x.to):=by
 have d:=Pr h.w;have h1:=h.op;have a:=h.r;have h0:=a.name;have h2:=a.mn;have h3:=a.mo;obtain⟨op,to,args,n,m,name⟩:=x;simp only[EY,yM,akV,ak0,aj7,ali,aeV,aki,or_false]at d;simp only at hl d h1 h0 h2 h3;rcases d with rfl|rfl|rfl|rfl|rfl|rfl|rfl|rfl|rfl|rfl|rfl|rfl|rfl|rfl|rfl|rfl|rfl|rfl|rfl|rfl|rfl|rfl|rfl|rfl|rfl|rfl|rfl|rfl|rfl|rfl|rfl|rfl|rfl|rfl|rfl|rfl;all_goals
  first|exact absurd bA h1|exact⟨_,CR a rfl rfl rfl rfl (λh=>h) (by simp[sB,OY,ue,sA,EY,yM,ud]at h2 h3⊢;omega)⟩|
   exact⟨_,CR a rfl rfl rfl rfl (λh=>h) (by
    have e:sB 0 args.length:=h3 bA bA;have c:args.length=0:=by unfold sB at e;omega
    show(0:Int)<=(args.length:Int)/\(args.length:Int)<=0;omega)⟩|skip
 .have c:sB (iu name) args.length:=h3 bA bA;have f:iu name≠0:=h0;have j:args.length=iu name:=by unfold sB at c;omega
  refine⟨⟨true,iu name,iu name,1,0,0⟩,CR a ?_ rfl rfl rfl (λ_=>aeN f) ?_⟩;all_goals simp_all[yH,bq,aK,iu]
 by_cases b:m=1;·subst b;have c:sB (-3) args.length:=h3 bA bA;refine⟨⟨true,0,6,1,0,0⟩,CR a rfl rfl rfl rfl (λh=>h) ?_⟩;grind[sB]
 have i:ue 13 m=⟨[99,97,108,108],true, -2,false,0,0,0,0⟩:=by rw[ue,aq λh=>b h.2];rfl
 rw[i]at a h3;have c:sB (-2) args.length:=h3 bA bA;refine⟨⟨true,1,7,0,0,0⟩,CR a ?_ rfl rfl rfl (λh=>h) ?_⟩;all_goals grind[yH,sB]
theorem wQ.ok{j:G.lD}{k:Nat}{e:G.Edge}(h:wQ g j k e)(a:¬(j.op=67/\k=2)):wN g e (ko j k):=⟨h.lo,by have:=h.hi;omega,h.aM a,h.pF⟩
theorem Ju{j:G.lD}(hj:∀k(h:k<j.go.length),wQ g j k j.go[k])(hl:∀e∈j.go,e.args.length<=12)(c:j.op≠67){b:List Nat}(a:j.go.length=b.length)(d:∀k(h:k<b.length),b[k]=ko j k):ua g j.go b:=⟨a,λk h=>⟨by rw[d];exact(hj k h).ok λh=>c h.1,by have:=hl _ (agB h);omega⟩⟩
theorem aeP{j:G.lD}(h:yO g j)(hl:∀e∈j.go,e.args.length<=12):I6 g j:=by
 have d:=h.ae;have b:=h.E0;refine⟨h.pF,h.name,h.b9,?_⟩;have n:∀a,a=j.args.length->a=0->j.args=[]:=λa h1 h2=>akM af;have l:∀a,a=j.go.length->a=0->j.go=[]:=λa h1 h2=>akM af;have one:j.go.length=1->j.op≠67->ko j 0=0->ua g j.go [0]:=λh1 h2 h3=>Ju b hl h2 h1 λk f=>by
  obtain rfl:k=0:=by simpa using f
  rw[h3];rfl
 have mC:∀x,j.go.length=2->j.op≠67->ko j 0=x->ko j 1=0->ua g j.go [x,0]:=λx h1 h2 h3 o=>Ju b hl h2 h1 λk f=>by match k,f with|0,_=>exact h3.symm|1,_=>exact o.symm
 generalize c:j.args.length=a at d;generalize hg:j.go.length=e at d;cases d with
 |go h1=>exact .go h1 (n _ c.symm rfl) (one hg af (by simp[ko,h1]))
 |Cz h1=>exact .Cz h1 c (mC 0 hg af (by simp[ko,h1]) (by simp[ko,h1]))
 |is h1=>exact .is h1 c (h.nm (h.name.1 h1)) (mC 0 hg af (by simp[ko,h1]) (by simp[ko,h1]))
 |gE h1=>exact .gE h1 c (mC 1 hg af (by simp[ko,h1]) (by simp[ko,h1]))
 |AR h1 f h2 o=>refine .AR h1 f h2 o c (Ju b hl af (by grind) λk u=>?_);grind[akg,vr,ko,bF]
 |CB h1=>
  match i:j.go,hg with
   |[r,s,t],_=>
    rw[i]at b;have a0:=b 0 aB;have p:=b 1 aB;have m:=b 2 aB;have q:=a0.ok af;have b1:=p.ok af;have i0:ko j 0=0:=by simp[ko,h1]
    have i1:ko j 1=1:=by simp[ko,h1]
    rw[i0]at q;rw[i1]at b1;exact .CB h1 (n _ c.symm rfl) r s t i q b1 ⟨(a0.tr h1).1,(p.tr h1).1,(m.tr h1).1⟩ ⟨m.lo,by have:=m.hi;grind⟩ (Nat.pos_of_ne_zero ((m.tr h1).2 rfl))
 |CC h1=>exact .CC h1 af (l _ hg.symm rfl)
 |ret h1=>exact .ret (.inl h1) c (l _ hg.symm rfl)
 |sC h1=>exact .ret (.inr h1) c (l _ hg.symm rfl)
 |stuck h1=>exact .stuck h1 (n _ c.symm rfl) (l _ hg.symm rfl)
end
end
end Go.am.R
namespace Go.am
section
def tM(ex:Bool)(q:ab)(S:Int->Prop):Th where
 P H a:=q∈a/\(∀j∈a,j=q)/\(∃ks,ib (H.get q) ks/\∀x,x∈ks↔S x)/\(ex=true->∃es c,H.get q=.map es c)/\q.an<H.next.an
 fr h b hg:=⟨h.1,h.2.1,by rw[hg _ h.1];exact h.2.2.1,by rw[hg _ h.1];exact h.2.2.2.1,ako h.2.2.2.2 b⟩
 lt h:=by intro j hj;rw[h.2.1 j hj];exact h.2.2.2.2
def ik(p:Int×Int):AV×AV:=(.int 3 p.1,.int 3 p.2)
def tI(q:ab)(pl:List (Int×Int)):Th where
 P H a:=q∈a/\(∀j∈a,j=q)/\(∃es c,H.get q=.map es c/\es.map aT.kv=pl.map ik)/\(pl.map alO).Nodup/\q.an<H.next.an
 fr h b hg:=⟨h.1,h.2.1,by rw[hg _ h.1];exact h.2.2.1,h.2.2.2.1,ako h.2.2.2.2 b⟩
 lt h:=by intro j hj;rw[h.2.1 j hj];exact h.2.2.2.2
section
variable{A H:ai}{ts:List Th}{q:ab}{S S':Int->Prop}{ex:Bool}{pl:List (Int×Int)}{z y:Int}
variable{ac:Nat->aG}{c:Cx}{s:List SI}{L:Kn}{d:Option ab}{l:List be}
theorem aj.uh{t t':Th}(U:aj A H ts)(i:Nat)(hi:ts[i]?=some t){H':ai}(b:H'.next=H.next)(hg:∀j,j≠q->H'.get j=H.get j)(h1:∀a,t.P H a->q∈a)(h2:t'.P H' [q]):aj A H' (ts.set i t'):=by obtain⟨a,c,_,hu⟩:=U.ki i hi;refine hu (fp':=[q]) ⟨Nat.le_of_eq (by grind),λj hj=>?_,λj hj b=>?_⟩ h2;all_goals grind
theorem aj.nf(U:aj A H ts)(i:Nat)(hi:ts[i]?=some (tM ex q S):=by rfl):(∃ks,ib (H.get q) ks/\∀x,x∈ks↔S x)/\(ex=true->∃es c,H.get q=.map es c)/\q.an<H.next.an:=by obtain⟨b,a⟩:=U.get i hi;exact a.2.2
theorem aj.Fe(U:aj A H ts)(i:Nat)(hi:ts[i]?=some (tI q pl):=by rfl):(∃es c,H.get q=.map es c/\es.map aT.kv=pl.map ik)/\(pl.map alO).Nodup/\q.an<H.next.an:=by obtain⟨b,a⟩:=U.get i hi;exact a.2.2
theorem aj.CT(U:aj A H ts)(i:Nat)(hi:ts[i]?=some (tM ex q S))(h:∀x,S x↔S' x):aj A H (ts.set i (tM ex q S')):=U.as i hi λb a=>⟨a.1,a.2.1,a.2.2.1.imp λks h2=>⟨h2.1,λx=>(h2.2 x).trans (h x)⟩,a.2.2.2⟩
theorem aj.PJ(U:aj A H ts){o:cq}{S:Int->Prop}{ks:List Int}(hs:ib o ks)(a:∀x,x∈ks↔S x)(b:ex=true->∃es c,o=.map es c):aj A (H.new o) (tM ex H.next S::ts):=U.push (fp:=[H.next]) (bm.new H o) ⟨aep.2 rfl,λj hj=>aep.1 hj,⟨ks,by rw[ai.dJ,aK rfl];exact hs,a⟩,λh=>by rw[ai.dJ,aK rfl];exact b h,by rw[ai.nK];omega⟩ (uU H)
theorem RO.Ff(U:aj A H ts)(h:∀H' q,aj A H' (tM true q (λ_=>False)::ts)->RO ac c l s (bC L d (.map q)) H'):RO ac c (⟨d,.jK,none,[],[]⟩::l) s L H:=RO.jK (h _ _ (U.PJ (ks:=[]) ⟨alD,[],rfl,rfl⟩ (λx=>by simp) λ_=>⟨[],0,rfl⟩))
theorem RO.PK(U:aj A H ts)(i:Nat){x y:aJ}(h:∀H',aj A H' (ts.set i (tM ex q λx=>x=z\/S x))->RO ac c l s (bC L d .alR) H')(hi:ts[i]?=some (tM ex q S):=by rfl)(g:bf L x=.map q:=by exact cw)(k:bf L y=.int 3 z:=by exact cw):RO ac c (⟨d,.jy .int x y (.c (.bool true)),none,[],[]⟩::l) s L H:=λaa a=>by
 obtain⟨⟨ks,hs,m⟩,he,b⟩:=U.nf i hi;obtain⟨H',o,f,p,r,v⟩:=Hu (a.gv g rfl) (a.gv k rfl) hs;have e:=U.uh (q:=q) i hi (t':=tM ex q λx=>x=z\/S x) f p (λw t=>t.1) ⟨aep.2 rfl,λj hj=>aep.1 hj,⟨_,r,λx=>by rw[BV,m]⟩,λh=>?_,by rw[f];exact b⟩;·obtain⟨n,u⟩:=h H' e _ (a.set d .alR);exact⟨n+1,Xo.op o u⟩
 grind
theorem RO.CU(U:aj A H ts)(i:Nat){x y:aJ}(h:∀t:Bool,(t=true↔S z)->RO ac c l s (bC L d (.bool t)) H)(hi:ts[i]?=some (tM ex q S):=by rfl)(b:bf L x=.map q:=by exact cw)(e:bf L y=.int 3 z:=by exact cw):RO ac c (⟨d,.lookup .int (.bool false) false x y,none,[],[]⟩::l) s L H:=by obtain⟨⟨ks,hs,g⟩,he,f⟩:=U.nf i hi;exact RO.op (λaa a=>MX (a.gv b rfl) (a.gv e rfl) hs) (h (iA z ks) (by grind[ta]))
theorem PL{k:Int}:∀{es:List aT}{pl:List (Int×Int)},es.map aT.kv=pl.map ik->k∉pl.map alO->∀i0,findKey .int (.int 3 k) es i0=some none
 |[],_,_,_,_=>rfl
 |e::es,[],h,_,_=>by grind
 |e::es,p::pl,h,a,i0=>by
  simp only[aj7,akn,aT.kv,ik,aj1]at h;simp only[aj7,aeV,not_or]at a;have c:iQ k p.1=false:=by rw[fQ];simpa using a.1
  have b:eA 64 .int (.int 3 k) (.int 3 p.1)=some (iQ k p.1):=by simp[eA]
  simp only[findKey,h.1.1,b,c];exact PL h.2 a.2 _
theorem RO.ae8(U:aj A H ts)(h:∀H' q,aj A H' (tI q []::ts)->RO ac c l s (bC L d (.map q)) H'):RO ac c (⟨d,.jK,none,[],[]⟩::l) s L H:=RO.jK (h _ _ (U.push (fp:=[H.next]) (bm.new H _) ⟨aep.2 rfl,λj hj=>aep.1 hj,⟨[],0,by rw[ai.dJ,aK rfl],rfl⟩,alD,by rw[ai.nK];omega⟩ (uU H)))
theorem RO.ae9(U:aj A H ts)(i:Nat){x w:aJ}(k:z∉pl.map alO)(h:∀H',aj A H' (ts.set i (tI q (pl++[(z,y)])))->RO ac c l s (bC L d .alR) H')(hi:ts[i]?=some (tI q pl):=by rfl)(o:bf L x=.map q:=by exact cw){m:aJ}(p:bf L m=.int 3 z:=by exact cw)(r:bf L w=.int 3 y:=by exact cw):RO ac c (⟨d,.jy .int x m w,none,[],[]⟩::l) s L H:=by
 obtain⟨⟨es,cc,he,n⟩,t,g⟩:=U.Fe i hi;refine RO.op (λaa f=>?_) (h (H.set q (.map (es++[⟨.int 3 z,.int 3 y,cc⟩]) (cc+1))) (U.uh (q:=q) i hi rfl (λj hj=>by rw[ai.aF,aq hj]) (λB u=>u.1) ⟨aep.2 rfl,λj hj=>aep.1 hj,⟨_,_,by rw[ai.aF,aK rfl],by simp[n,aT.kv,ik]⟩,?_,by rw[ai.gD];exact g⟩));·simp only[aE,jA,aku,aes,bP,f.gv o rfl,f.gv p rfl,f.gv r rfl,he,PL n k 0]
 simp only[akE,aj7,ali];rw[akI];exact⟨t,aB,λa v b hb=>by simp only[aep]at hb;subst hb;exact λe=>k (e▸v)⟩
theorem PM:∀{es:List aT}{pl:List (Int×Int)},es.map aT.kv=pl.map ik->lA.go es=some pl/\jR es=some (pl.map alO)|[],[],_=>⟨rfl,rfl⟩|[],_::_,h=>by grind|_::_,[],h=>by grind|e::es,p::pl,h=>by simp only[aj7,akn,aT.kv,ik,aj1]at h;obtain⟨h1,h2⟩:=PM h.2;simp[h,h1,h2,lA.go,jR,aj7,and_self]
theorem aj.uf(U:aj A H ts)(i:Nat)(hi:ts[i]?=some (tI q pl):=by rfl):lA H q=some pl/\jT H q=some (pl.map alO):=by obtain⟨⟨es,cc,he,a⟩,b,c⟩:=U.Fe i hi;obtain⟨h1,h2⟩:=PM a;simp[he,h1,h2,b,lA,jT,eS,xL,bq,and_self]
theorem PN:∀{es:List aT}{ks:List Int},es.map aT.kv=ks.map sk->uN es=some ks/\jR es=some ks|[],[],_=>⟨rfl,rfl⟩|[],_::_,h=>by grind|_::_,[],h=>by grind|e::es,p::pl,h=>by simp only[aj7,akn,aT.kv,sk,aj1]at h;obtain⟨h1,h2⟩:=PN h.2;simp[h,h1,h2,uN,jR,and_self]
theorem yV{ks:List Int}(h:ib (H.get q) ks):jS H q=some ks/\jT H q=some ks:=by obtain⟨a,es,he,b⟩:=h;obtain⟨h1,h2⟩:=PN b;simp[he,h1,h2,a,jS,jT,xL,bq,and_self]
theorem PO{k:Int}:∀{es:List aT}{ks:List Int},es.map aT.kv=ks.map sk->ks.Nodup->∀i0,findKey .int (.int 3 k) es i0=some none/\k∉ks\/∃i,findKey .int (.int 3 k) es i0=some (some (i0+i,.bool true))/\∃a:List Int,(pN es i).map aT.kv=a.map sk/\a.Nodup/\∀x,x∈a↔x∈ks/\x≠k
 |[],[],_,_,_=>.inl ⟨rfl,aB⟩
 |[],_::_,h,_,_=>by grind
 |_::_,[],h,_,_=>by grind
 |e::es,x::ks,h,j,i0=>by
  simp only[aj7,akn,aT.kv,sk,aj1]at h;obtain⟨⟨h1,h2⟩,h3⟩:=h;obtain⟨m,c⟩:=akz.1 j;have d:eA 64 .int (.int 3 k) (.int 3 x)=some (iQ k x):=by simp[eA]
  by_cases b:k=x
  .subst b;refine .inr ⟨0,?_,ks,by trivial,c,λy=>?_⟩;·simp[h1,d,h2,findKey,fQ,beq_self_eq_true,alG]
   grind
  have l:iQ k x=false:=by rw[fQ];simpa using b
  rcases PO (k:=k) h3 c (i0+1)with⟨f,g⟩|⟨i,f,a,g,n,o⟩;·simp[b,g,h1,d,l,f,findKey]
  refine .inr ⟨i+1,?_,x::a,?_,?_,λy=>?_⟩;all_goals grind[findKey,pN,aT.kv,sk,akz]
theorem RO.afa(U:aj A H ts)(i:Nat){x y:aJ}(h:∀H',aj A H' (ts.set i (tM true q λx=>S x/\x≠z))->RO ac c l s (bC L d .alR) H')(hi:ts[i]?=some (tM true q S):=by rfl)(p:bf L x=.map q:=by exact cw)(r:bf L y=.int 3 z:=by exact cw):RO ac c (⟨d,.delete .int x y,none,[],[]⟩::l) s L H:=by
 obtain⟨⟨ks,hs,k⟩,he,f⟩:=U.nf i hi;obtain⟨es,cc,e⟩:=he rfl;obtain⟨t,C,b,u⟩:=hs;rw[e]at b;simp only[eS,adG]at b;subst b;rcases PO (k:=z) u t 0 with⟨g,m⟩|⟨j,g,o,m,v,w⟩
 .refine RO.op (λaa a=>?_) (h (H.set q (.map es cc)) (U.uh (q:=q) i hi rfl (λj hj=>by rw[ai.aF,aq hj]) (λB n=>n.1) ⟨aep.2 rfl,λj hj=>aep.1 hj,⟨ks,by rw[ai.aF,aK rfl];exact⟨t,es,rfl,u⟩,λx=>?_⟩,λ_=>⟨es,cc,by rw[ai.aF,aK rfl]⟩,by rw[ai.gD];exact f⟩));·simp only[aE,jA,aku,aes,bP,a.gv p rfl,a.gv r rfl,e,g]
  rw[k];exact⟨λh=>⟨h,λe=>m (by rw[<-e,k];exact h)⟩,λh=>h.1⟩
 rw[akh]at g;refine RO.op (λaa a=>?_) (h (H.set q (.map (pN es j) cc)) (U.uh (q:=q) i hi rfl (λj hj=>by rw[ai.aF,aq hj]) (λB n=>n.1) ⟨aep.2 rfl,λj hj=>aep.1 hj,⟨o,by rw[ai.aF,aK rfl];exact⟨v,_,rfl,m⟩,λx=>?_⟩,λ_=>⟨_,cc,by rw[ai.aF,aK rfl]⟩,by rw[ai.gD];exact f⟩));·simp only[aE,jA,aku,aes,bP,a.gv p rfl,a.gv r rfl,e,g]
 rw[w,k]
def CV(cQ:List ab):Kn->Kn->Prop
 |[],_=>True
 |(p,v)::l,m=>zY p cQ=false/\lk m p=v/\CV cQ l m
theorem CV.le{cQ:List ab}{aa:ap AV}(b:Le L aa):∀{M:Kn},CV cQ M L->Le M (kL aa cQ)|[],_=>λp v h=>.inl h.symm|(q,w)::M,h=>λp v a=>by simp only[lk]at a;cases hb:ab.beq q p with|true=>rw[hb]at a;obtain rfl:=ab.ip.1 hb;rw[B0,aq λc=>by have h0:=h.1;grind[HI]];exact b q v (h.2.1.trans a)|false=>rw[hb]at a;exact CV.le b h.2.2 p v a
theorem Ru.ez{t:Nat}{g:ap AV->ai->Option (ap AV×ai)}{cQ:List ab}{M:Kn}{H':ai}(b:ac t=.ez g)(hg:∀aa,Le L aa->g aa H=some (kL aa cQ,H'))(h:Ru ac c s M H')(hl:CV cQ M L:=by repeat'(first|exact trivial|refine⟨rfl,rfl,?_⟩)):Ru ac c (.code (.ez t)::s) L H:=λaa a=>by refine⟨1,?_⟩;simp only[Xc,exec,b,hg aa a];exact h _ (hl.le a)
end
end
end Go.am
namespace Go.am.R
section
variable{ac:Nat->aG}
theorem PP{g:G.bu}{o:List bV}(b:∀j(hj:o.length - 1 - j<o.length),j<o.length->o[o.length - 1 - j].2≠0):oD g o=none:=by
 unfold oD;rw[List.find?_eq_none.2];·rfl
 intro x a;obtain⟨i,hi,rfl⟩:=aka (List.mem_reverse.1 a);have:=b (o.length - 1 - i) af af;simp only[show o.length - 1 - (o.length - 1 - i)=i by omega]at this;simpa using this
theorem PQ{g:G.bu}{o:List bV}{k:Nat}(b:o.length - 1 - k<o.length)(a:k<o.length)(e:∀j(hj:o.length - 1 - j<o.length),j<k->o[o.length - 1 - j].2≠0)(h0:o[o.length - 1 - k].2=0):oD g o=some ((aH g o[o.length - 1 - k].1.toNat).aA.go.getD 1 default).block:=by
 unfold oD;rw[(List.find?_eq_some_iff_getElem (b:=o[o.length - 1 - k])).2];·rfl
 refine⟨by simpa using h0,k,by simpa using a,by rw[List.getElem_reverse],λj hj=>?_⟩;rw[List.getElem_reverse];simpa using e j af hj
abbrev OpR:bV->List AV->Prop:=λo cs=>cs=[aI o.1,aU o.2]
section
variable{g:G.bu}{f h:AV}{c:ab}{H:ai}{come:List Bool}{os:List (List bV)}{d:List AV}
theorem afc(T:Tb ac)(hB:G.Sm g)(hE:jm g)(o:GX g H c f h come os d)(D:cX g come os){b:Nat}(hb:come.getD b false=true){K:KT}(bd:∀H',bm H H'->K (match oD g (os.getD b [])with|some t=>.tuple [aI t,.bool true]|none=>.tuple [aI (-1),.bool false]) H'):YN ac Xr [.az c 0,aN b] H K:=by
 have av:=hB.nb;have I:=D.lt hb;have p:b<os.length:=by rw[D.ol];exact I
 have⟨Y,J⟩:=hE.jY (D.dO b hb);have L:os.getD b []=os[b]:=bF p _;rw[L]at bd Y J;have hs:=o.kS.bH b p;have⟨M,N,O,aw⟩:=hs.all;have s:=o.kS.lt;have P:=o.kS.aH;obtain⟨ov,Q,u⟩:=o.kS.jY;have⟨ax,_,_,_⟩:=u.all;have⟨ay,_,_,_⟩:=o.bl.all;refine YF.code T.acl aB ?_;refine au ?_;refine RO.dL (aj.dc H) λH1 z U=>?_;refine RO.gI U λH2 A U=>?_;refine RO.gI U λH3 B U=>?_;refine ah ?_;refine RO.aW ?_ (v:=ov) (hc:=by rw[U.gr.bh s];exact Q);refine ah ?_;refine RO.vu U.gr u (λq8 o8 a1 _=>?_) (j:=b);refine ah ?_;refine RO.cl (Fc T.acG bA M N O λH4 q hl=>?_);have U:=U.fC hl;refine ah ?_;refine Ru.wk (L:=[(bk,.func XK [] [.az q 0]),(p2,.az z 0),(p4,.az A 0),(p5,.az B 0)]) ?_;have U:aj H H4 ([tB Ij q [d.getD b .co]]++[tB 4 B [.bool false],tB 3 A [aI 0],tB mE z [.az c 0]]++[]):=U;refine Ru.pG (J:=λk ts=>ts=[tB 4 B [.bool false],tB 3 A [aI 0],tB mE z [.az c 0]]/\∀j(hj:os[b].length - 1 - j<os[b].length),j<k->os[b][os[b].length - 1 - j].2≠0) (Dn:=λj ts=>j=.ret/\∃t,oD g os[b]=some t/\ts=[tB 4 B [.bool true],tB 3 A [aI t],tB mE z [.az c 0]]) U (Fb (R:=OpR) (agg:=true) (size:=2) (la:=os[b]) (sv:=d.getD b .co) (e:=Ij) (nt:=19) T.acV bA af (λbd=>by cases bd) (λa cs bd=>by cases bd;rfl)) (λH2 hg=>mh.r ((U.gr.trans hg).sl hs)) ⟨rfl,λj _ hj=>absurd hj af⟩ (λk args ws bd=>by obtain⟨_,_,_,_,rfl⟩:=bd;rfl) (λk ts us H' C U=>mh.r (U.gr.sl hs)) (λk args ws ts us l o1 o2 H' hk R C U=>?_) (λH' S E C U=>?_) (λj H' S E hj hD U=>?_)
 .obtain⟨rfl,v,cs,V,rfl⟩:=R;obtain⟨rfl,eZ⟩:=C;have W:=agB v;generalize i:os[b][os[b].length - 1 - k]=oo at*;obtain⟨Z,m⟩:=oo;subst V;refine ah ?_;refine RO.fx U λH5 q7 U=>?_;refine ah ?_;refine Ru.dN (xs:=[_,_,_,_]) U λH6 U=>?_;refine ah ?_;refine Ru.cond (λ(h0:m=0)=>?_) (λ(h0:¬m=0)=>?_)
  .obtain⟨g1,g2,F⟩:=Y.ok _ W;simp only at g1 g2 F;obtain⟨t,rfl⟩:∃t:Nat,Z=(t:Int):=⟨Z.toNat,af⟩;rw[aj3]at F;have w:t<g.al.length:=af;have g4:g.al[t].aA.go.length=3:=by rw[<-F,bF w]
   refine ah ?_;refine RO.aW ?_ (v:=f) (hc:=by rw[U.gr.bh s];exact P);refine ah ?_;refine RO.cZ U.gr o.bl (λq9 o9 c9 a2 X a6 hat _=>?_) (j:=t);obtain⟨vp,vs,jc,rfl,_,_,va,vk,vg,rfl,_,_,x⟩:=X;have⟨a8,_,_,_⟩:=x.all;refine ah ?_;refine RO.aW (v:=vg) ?_ (hc:=hat 6 _ rfl);refine RO.cZ U.gr x (λa' ba bb ag y ar n _=>?_) (j:=1) (hj:=by omega);obtain⟨ve,rfl,_⟩:=y;refine ah ?_;refine RO.aW ?_ (hc:=n 0 _ rfl);refine RO.gG U 2 (λH7 U=>?_);refine RO.gG U 1 (λH8 U=>?_);refine ah ?_;have U:=U.tail (t:=tB Ii q7 [aN t,aU m]);refine Ru.OL (ts:=[_,_,_]) U ⟨rfl,_,PQ v hk eZ (by rw[i];exact h0),?_⟩;rw[i];simp only[aH,aj3,bF w];rw[bF af];rfl
  refine ah ?_;refine Ru.bG (ts:=[_,_,_]) U.tail ⟨rfl,λj hj bc=>?_⟩;by_cases e:j=k;·subst e;rw[i];exact h0
  exact eZ j hj af
 .obtain⟨rfl,eZ⟩:=C;refine ah ?_;refine RO.gG U 1 (λH5 U=>?_);refine RO.gG U 0 (λH6 U=>?_);refine ah ?_;rw[PP eZ]at bd;refine Ru.mI (M:=[E]) (ts:=[_,_,_]) (U.cM (akj (l₁:=[_,_,_]))) λH' U=>⟨[aI (-1),.bool false],⟨⟨_,_,rfl,U.one 1⟩,⟨_,_,rfl,U.one 0⟩,trivial⟩,bd H' U.gr⟩
 obtain⟨rfl,t,ht,rfl⟩:=hD;rw[ht]at bd;exact RJ.wp (RJ.mI (M:=[E]) (ts:=[_,_,_]) (.inr rfl) (U.cM (akj (l₁:=[_,_,_]))) λH' U=>⟨[aI t,.bool true],⟨⟨_,_,rfl,U.one 1⟩,⟨_,_,rfl,U.one 0⟩,trivial⟩,bd H' U.gr⟩)
structure Vd(g:G.bu):Prop where
 sm:G.Sm g
 fm:I7 g g.bp.toNat
 jx:uc g=false
 dO:jm g
 gv:vC g
 sG:∀come os,cX g come os->yT g come os
theorem Vd.qA(V:Vd g):∀b∈g.al,∀p∈dC b,0<=p.1/\p.1<g.bp:=λb hb p a=>by have:=V.gv.qA b hb p a;have:=V.gv.p0;omega
theorem PR(T:Tb ac)(V:Vd g){cs:List AV}(hg:iG H g cs){K:KT}(o:∀H' c f h come os d,bm H H'->GX g H' c f h come os d->cX g come os->K (.tuple [.az c 0,aI 0]) H'):YN ac W8 [.agg cs] H K:=by have n:=hg.one;have i:=V.jx;obtain⟨a,rfl,cA⟩:=hg;refine YF.code T.ab1 aB ?_;refine au ?_;refine RO.dL (aj.dc H) λH1 q U=>?_;refine ah ?_;refine RO.eQ U 0 ?_;refine RO.cl (aei T (cs:=[.str g.name,aI g.params,aI g.bp,a]) ⟨a,rfl,dQ.block.jU U.gr cA⟩ V.sm λs j=>?_);have U:=U.cI j;rw[i];refine ah ?_;refine RO.eQ U 0 ?_;refine RO.cl (aeb T (cs:=[.str g.name,aI g.params,aI g.bp,a]) V.fm V.sm ⟨a,rfl,dQ.block.jU U.gr cA⟩ λt k=>?_);have U:=U.cI k;refine ah ?_;refine RO.eQ U 0 ?_;refine RO.cl (aeC T V.sm V.dO V.fm.ne (cs:=[.str g.name,aI g.params,aI g.bp,a]) ⟨a,rfl,dQ.block.jU U.gr cA⟩ λu c f h come os d l m b=>?_);refine ah ?_;have p:=V.fm.fv;refine RO.cl (aeY T V.sm V.dO m b (V.sG come os b) V.gv.v0 p.h2 V.qA λr e=>?_);refine ah ?_;exact Ru.tk (o r c f h come os d ((U.gr.trans l).trans e) (m.cI e) b)
theorem afd(T:Tb ac)(V:Vd g){cs:List AV}(hg:iG H g cs){fv:AV}(m:fv.bB=true){K:KT}(k:∀H' c f h come os d,bm H H'->GX g H' c f h come os d->cX g come os->YF ac fv [.az c 0] H' λv b=>v.bB=true/\K (.tuple [v,aI 0]) b):YN ac WS [.agg cs,fv] H K:=by have j:=hg.one;obtain⟨a,rfl,cA⟩:=hg;refine YF.code T.abH aB ?_;refine au ?_;refine RO.dL (aj.dc H) λH1 q U=>?_;refine ah ?_;refine RO.eQ U 0 ?_;refine RO.cl (PR T V (cs:=[.str g.name,aI g.params,aI g.bp,a]) ⟨a,rfl,dQ.block.jU U.gr cA⟩ λb c f h come os d e l i=>?_);refine ah ?_;refine RO.cl ((k b c f h come os d (U.gr.trans e) l i).mono λv o p=>?_);obtain⟨n,p⟩:=p;refine ah ?_;exact Ru.tk p
theorem afe(T:Tb ac)(V:Vd g){cs:List AV}(hg:iG H g cs){fv:AV}(m:fv.bB=true){K:KT}(k:∀H' c f h come os d,bm H H'->GX g H' c f h come os d->cX g come os->YF ac fv [.az c 0] H' λv b=>v.bB=true/\K (.tuple [v,aI 0]) b):YN ac WU [.agg cs,fv] H K:=by have j:=hg.one;obtain⟨a,rfl,cA⟩:=hg;refine YF.code T.abJ aB ?_;refine au ?_;refine RO.dL (aj.dc H) λH1 q U=>?_;refine ah ?_;refine RO.eQ U 0 ?_;refine RO.cl (PR T V (cs:=[.str g.name,aI g.params,aI g.bp,a]) ⟨a,rfl,dQ.block.jU U.gr cA⟩ λb c f h come os d e l i=>?_);refine ah ?_;refine RO.cl ((k b c f h come os d (U.gr.trans e) l i).mono λv o p=>?_);obtain⟨n,p⟩:=p;refine ah ?_;exact Ru.tk p
theorem aff(T:Tb ac)(V:Vd g){cs:List AV}(hg:iG H g cs){K:KT}(k:∀H' v come os ak,cX g come os->e9 g come os ak->aj H H' [tS 3 1 (ak.map aN) ak.length true v]->K (.tuple [v,aI 0]) H'):YN ac WG [.agg cs] H K:=by have j:=hg.one;obtain⟨a,rfl,cA⟩:=hg;refine YF.code T.abr aB ?_;refine au ?_;refine RO.dL (aj.dc H) λH1 q U=>?_;refine ah ?_;refine RO.eQ U 0 ?_;refine RO.cl (afd T V (cs:=[.str g.name,aI g.params,aI g.bp,a]) ⟨a,rfl,dQ.block.jU U.gr cA⟩ rfl λo c f h come os d e l b=>Jq T V.sm V.dO l b λm v ak n hl=>?_);have⟨i,_,_,_⟩:=(hl.sl (e:=3) (size:=1) (sv:=v) (vs:=ak.map aN) (n:=ak.length) (full:=true) 0).all;refine⟨i,?_⟩;refine ah ?_;exact Ru.tk (k m v come os ak b n (hl.Nz (U.gr.trans e)))
end
end
section
structure PI(n:Nat)(s:List Bool)(hist:List Int):Prop where
 len:s.length=n
 bH:∀v:Nat,v<n->(s.getD v false=true↔(v:Int)∈hist)
section
variable{g:G.bu}{n:Nat}
theorem Fg{e:Type}{st:List Bool->e->Bool×List Bool}{f:e->List Int}{R:Int->Prop}:∀{la:List e},(∀s c a,a∈la->PI n s c->(c++f a).Nodup->(∀v∈f a,R v)->(st s a).1=true/\PI n (st s a).2 (c++f a))->∀s c,PI n s c->(c++la.flatMap f).Nodup->(∀v∈la.flatMap f,R v)->(gW st s la).1=true/\PI n (gW st s la).2 (c++la.flatMap f)|[],_,s,c,g,_,_=>by simp[g,gW]|a::la,h,s,c,g,d,j=>by rw[alp,<-aj2]at d⊢;obtain⟨h1,h2⟩:=h s c a (aeU ..) g (akI.1 d).1 λv i=>j v (akf _ i);rw[gW,aK h1];exact Fg (λs c b hb=>h s c b (aey _ hb)) _ _ h2 d λv i=>j v (akq _ i)
theorem PS(m:g.bp=n)(o:0<=g.params){s:List Bool}{a:List Int}{v:Int}(c:PI n s a)(d:(a++[v]).Nodup)(i:g.params<=v/\v<n):(m8 g s v).1=true/\PI n (m8 g s v).2 (a++[v]):=by
 have hl:=c.len;obtain⟨v,rfl⟩:∃k:Nat,v=k:=⟨v.toNat,af⟩;have f:v<n:=af;have b:(v:Int)∉a:=λh=>(akI.1 d).2.2 _ h _ (aep.2 rfl) rfl;have j:s.getD v false=false:=by cases h:s.getD v false with|false=>rfl|true=>exact absurd ((c.bH v f).1 h) b
 unfold m8;rw[aK ⟨i.1,af⟩,aj3,j,aq aB];refine⟨rfl,by simpa using hl,λx l=>?_⟩;rw[fu af,ahp,aep];by_cases e:x=v;·subst e;simp
 rw[aq e,c.bH x l];have:¬(x:Int)=v:=af;simp[this]
theorem PT(l:List Int):l.flatMap (λv=>[v])=l:=by simp
theorem CW:∀l:List G.ic,eU l=l.flatMap λx=>if 0<=x.to then[x.to]else[]|[]=>rfl|x::l=>by rw[alp,<-CW l,eU,eU,aj7];by_cases h:0<=x.to<;>simp[h]
theorem afg(i:g.bp=n)(j:0<=g.params){b:G.gV}(hs:∀x∈b.aD,∃r,wM g x r/\r.vq=decide (0<=x.to)){s:List Bool}{c:List Int}(f:PI n s c)(d:(c++gX b).Nodup)(e:∀v∈gX b,g.params<=v/\v<n):(ub g s b).1=true/\PI n (ub g s b).2 (c++gX b):=by
 unfold gX at d e⊢;rw[<-aj2]at d⊢;obtain⟨h1,h2⟩:=Fg (st:=m8 g) (f:=λv=>[v]) (R:=λv=>g.params<=v/\v<n) (la:=b.params) (λs c a _ f d e=>PS i j f d (e a (aep.2 rfl))) s c f (by simp_all[PT,akI]) (by grind);rw[PT]at h2;rw[CW]at d e⊢;obtain⟨h3,m⟩:=Fg (st:=ow g) (f:=λx:G.ic=>if 0<=x.to then[x.to]else[]) (R:=λv=>g.params<=v/\v<n) (la:=b.aD) (λs c x k f d e=>by
  obtain⟨r,ia,hg⟩:=hs x k;unfold ow;rw[ia.adT];simp only[hg];by_cases h:0<=x.to;·simp only[h,decide_true,bq]at d e⊢;exact PS i j f d (e _ (aep.2 rfl))
  grind) _ _ h2 d (λv l=>e v (akq _ l));simp_all[ub]
theorem afh(h:sD g)(j:G.Sm g)(a:g.bp<=6000):I7 g g.bp.toNat:=by have c:=h.p0;have e:=h.p1;obtain⟨n,l⟩:∃n:Nat,g.bp=n:=⟨g.bp.toNat,af⟩;have hs:∀b∈g.al,∀x∈b.aD,∃r,wM g x r/\r.vq=decide (0<=x.to):=λb hb x d=>aeO (h.aD b hb x d) (j.st b hb x d).1;have key:=Fg (n:=n) (st:=ub g) (f:=gX) (R:=λv=>g.params<=v/\v<n) (la:=g.al) (λs m b hb o f p=>afg l c (hs b hb) o f p) (ahr n false) [] ⟨aB,λv a=>by simp[akm,ak8,a]⟩ (by simpa using h.nd) (λv a=>by have:=h.rg v a;omega);have q:g.bp.toNat=n:=af;rw[q];refine⟨⟨c,e,a,l.symm⟩,h.name,h.ne,h.first,λb hb x d=>(hs b hb x d).imp λr h=>h.1,λb hb=>aeP (h.CD b hb) (j.ed b hb),key.1,λk u t=>?_⟩;have hl:=key.2.len;have i:k<n:=af;have:=(key.2.bH k i).2 (h.all k af af);grind
theorem PU:∀(l:List G.ic)(i:Nat),(∀x∈l, -1<=x.to)->(ja l i).map (·.1)=eU l
 |[],_,_=>rfl
 |x::l,i,h=>by
  have h1:=h x (aeU ..);have a:=PU l (i+1) λy b=>h y (aey _ b);rw[CW,alp,<-CW,ja,akE,a];by_cases e:x.to= -1;·rw[aK e,aq af];rfl
  rw[aq e,aK af];rfl
theorem PV{b:G.gV}(h:∀x∈b.aD, -1<=x.to):(dC b).map (·.1)=gX b:=by rw[dC,akE,PU _ _ h,gX,alx];congr 1;exact List.map_id _
theorem afi(h:sD g):vC g:=by
 have f:=h.p0;have n:=h.p1;have hb:∀b∈g.al,(dC b).map (·.1)=gX b:=λb hb=>PV λx l=>(h.aD b hb x l).r.t0;have e:∀b∈g.al,∀p∈dC b,p.1∈gX b:=λb a p d=>by rw[<-hb b a];exact akp d
 have c:=h.nd;refine⟨af,f,λb a p d=>h.rg _ (akZ.2 ⟨b,a,e b a p d⟩),λb a=>?_,λi j hi hj v p q d m=>?_,λv h0 h1=>?_⟩;·rw[hb b a];obtain⟨i,hi,rfl⟩:=aka a;rw[<-ala i g.al,aj9 hi,akD,alp]at c;exact(akI.1 (akI.1 c).2.1).1
 .have h1:v∈gX g.al[i]:=by have:=e _ (oC hi) _ d;rwa[aH,bF hi]at this
  have h2:v∈gX g.al[j]:=by have:=e _ (oC hj) _ m;rwa[aH,bF hj]at this
  have key:∀i j(hi:i<g.al.length)(hj:j<g.al.length),i<j->v∈gX g.al[i]->v∈gX g.al[j]->False:=λi j hi hj o h1 h2=>by rw[<-ala j g.al,aj9 hj,akD,alp]at c;refine(akI.1 c).2.2 v ?_ v (akf _ h2) rfl;exact akZ.2 ⟨g.al[i],by rw[List.mem_take_iff_getElem];exact⟨i,af,rfl⟩,h1⟩
  rcases Nat.lt_trichotomy i j with h3|h3|h3;·exact(key i j hi hj h3 h1 h2).elim
  .exact h3
  exact(key j i hj hi h3 h2 h1).elim
 obtain⟨b,a,k⟩:=akZ.1 (h.all v h0 h1);rw[<-hb b a]at k;obtain⟨p,d,rfl⟩:=akk.1 k;obtain⟨i,hi,rfl⟩:=aka a;exact⟨i,p.2,hi,by rw[aH,bF hi];exact d⟩
end
end
section
variable{ac:Nat->aG}
section
def lP(h:ab)(n:Nat)(vs:List AV)(ids:Nat->ab)(ak:List Nat)(S:Nat->Int->Prop):List Th:=tS NF 1 vs n true (.slice h 0 n n true)::ak.map λb=>tM false (ids b) (S b)
structure AZ(n:Nat)(vs:List AV)(ids:Nat->ab)(ak:List Nat):Prop where
 len:vs.length=n
 nd:ak.Nodup
 bH:∀b∈ak,b<n/\vs.getD b .co=.map (ids b)
def fh(S:Nat->Int->Prop)(b:Nat)(P:Int->Prop):Nat->Int->Prop:=λx=>if x=b then P else S x
section
variable{n:Nat}{vs:List AV}{ids:Nat->ab}{ak:List Nat}{S:Nat->Int->Prop}{P:Int->Prop}{h:ab}{b:Nat}{xs us:List Th}
theorem afj{l:List Nat}(a:l.Nodup){i b:Nat}(hi:i<l.length)(hb:b∈l):l.idxOf b=i↔l[i]=b:=by grind
theorem afk(a:ak.Nodup)(hb:b∈ak):(lP h n vs ids ak S).set (ak.idxOf b+1) (tM false (ids b) P)=lP h n vs ids ak (fh S b P):=by simp only[lP,List.set_cons_succ];congr 1;apply alg aB;intro i h1 h2;rw[akg]at h2;rw[List.getElem_set,akN,akN];by_cases e:ak.idxOf b=i;all_goals simp_all[aK,afj,fh,aq]
theorem Fh(hb:b∈ak):(lP h n vs ids ak S)[ak.idxOf b+1]?=some (tM false (ids b) (S b)):=by simp[hb,List.idxOf_lt_length_of_mem,lP,ak6,aks,akP,List.getElem_idxOf,akt]
theorem rr{l m:List Th}{i:Nat}{t:Th}(a:l[i]?=some t):(xs++(l++m))[xs.length+i]?=some t:=by grind
theorem PW{l m:List Th}{i:Nat}{t:Th}(a:i<l.length):(xs++(l++m)).set (xs.length+i) t=xs++(l.set i t++m):=by grind
theorem afl(hb:b∈ak):ak.idxOf b+1<(lP h n vs ids ak S).length:=by simp[hb,List.idxOf_lt_length_of_mem,lP,akA,akg]
theorem JG{H:ai}{q:ab}{n j:Nat}{vs:List AV}{v:AV}(c:Sl H 1 vs n (.slice q 0 n n true))(hj:j<n)(a:vs.getD j .co=v):l6 H (.slice q 0 n n true) (.ofNat j)=some v:=by have hl:=c.length;obtain⟨i,o,cap,ex,e,_,_,b,_⟩:=c.at af;simp_all[l6,alN,akY,bq,bF]
end
theorem PX{pl:List (Int×Int)}{bH v:Int}(b:(pl.map alO).Nodup):fR.rY pl bH v=true↔∀i,(v,i)∈pl->bH<=i:=by
 induction pl with
 |nil=>simp[fR.rY]
 |cons a pl e=>
  obtain⟨k,g⟩:=a;simp only[aj7,akz]at b;simp only[fR.rY];by_cases c:v=k
  .subst c;rw[aK (by simp[fQ])];have f:(!lV g bH)=true↔bH<=g:=by rw[nG];simp
   grind
  simp[c,e,b,aq,fQ,aeV,absurd,aey]
def iv(s p d u pm h:ab)(n b:Nat)(pl:List (Int×Int))(w:Bool)(vs:List AV)(ids:Nat->ab)(ak:List Nat)(S:Nat->Int->Prop):List Th:=[tB 4 d [.bool w],tB 3 s [aN b],tB wB p [.slice h 0 n n true],tB Ek u [.map pm],tI pm pl]++lP h n vs ids ak S
abbrev eD(s p d u:ab):AV:=.func Iw [] [.az u 0,.az p 0,.az s 0,.az d 0]
section
variable{A H:ai}{n b:Nat}{vs:List AV}{ids:Nat->ab}{ak:List Nat}{S:Nat->Int->Prop}{s p d u pm h:ab}{pl:List (Int×Int)}{w:Bool}{us:List Th}
theorem tB.JH{H:ai}{q:ab}{e:Nat}{vs:List AV}{f:List ab}(a:(tB e q vs).P H f):∃c,H.get q=.cells c vs.length e true [] 0/\(∀j(a:j<vs.length),c.bw .alR j=vs[j])/\q.an<H.next.an:=a.2.2
theorem aj.mC(o:AZ n vs ids ak)(hb:b∈ak)(U:aj A H (iv s p d u pm h n b pl w vs ids ak S++us)){H2:ai}{ks:List Int}{c:ap AV}{nw2:Bool}{P:Int->Prop}(q:H.next.an<=H2.next.an)(hg:∀j,j≠ids b->j≠d->H2.get j=H.get j)(h1:ib (H2.get (ids b)) ks)(r:∀x,x∈ks↔P x)(h2:H2.get d=.cells c 1 4 true [] 0)(h3:c.bw .alR 0=.bool nw2):aj A H2 (iv s p d u pm h n b pl nw2 vs ids ak (fh S b P)++us):=by
 have hat:(iv s p d u pm h n b pl w vs ids ak S++us)[5+(ak.idxOf b+1)]?=some (tM false (ids b) (S b)):=by simp only[iv,aj2];exact rr (xs:=[_,_,_,_,_]) (Fh hb)
 obtain⟨_,_,g⟩:=U.nf _ hat;have i:d.an<H.next.an:=by obtain⟨_,a⟩:=U.get 0 rfl;obtain⟨_,_,_,_,_,v⟩:=a;exact v
 let f:ai:=H.set (ids b) (H2.get (ids b));have ga:∀j,f.get j=if j=ids b then H2.get (ids b)else H.get j:=λj=>ai.aF .. ;have e:aj A f ((iv s p d u pm h n b pl w vs ids ak S++us).set (5+(ak.idxOf b+1)) (tM false (ids b) P)):=by refine U.uh (q:=ids b) _ hat rfl (λj hj=>by rw[ga,aq hj]) (λt a=>a.1) ⟨aep.2 rfl,λj hj=>aep.1 hj,⟨ks,?_,r⟩,(λv=>by cases v),g⟩;rw[ga,aK rfl];exact h1
 have e1:(iv s p d u pm h n b pl w vs ids ak S++us).set (5+(ak.idxOf b+1)) (tM false (ids b) P)=iv s p d u pm h n b pl w vs ids ak (fh S b P)++us:=by simp only[iv,aj2];refine(PW (xs:=[_,_,_,_,_]) (afl hb)).trans ?_;rw[afk o.nd hb]
 rw[e1]at e;let l:ai:=f.set d (H2.get d);have m:∀j,l.get j=if j=d then H2.get d else f.get j:=λj=>ai.aF .. ;have k:aj A l (iv s p d u pm h n b pl nw2 vs ids ak (fh S b P)++us):=by
  refine e.uh (q:=d) 0 rfl (t':=tB 4 d [.bool nw2]) rfl (λj hj=>by rw[m,aq hj]) (λt a=>a.1) ⟨aep.2 rfl,λj hj=>aep.1 hj,c,?_,λj hj=>?_,i⟩;·rw[m,aK rfl];exact h2
  simp only[akC]at hj;obtain rfl:j=0:=af;exact h3
 refine k.cI ⟨q,λj _=>?_⟩;grind
theorem afm(T:Tb ac)(D:AZ n vs ids ak)(hb:b∈ak)(U:aj A H (iv s p d u pm h n b pl w vs ids ak S++us)){v bH:Int}{K:KT}(E:∀r H' P g,(∀x,P x↔S b x\/x=v/\∀Y,(v,Y)∈pl->bH<=Y)->(g=true↔w=true\/∃x,P x/\¬S b x)->aj A H' (iv s p d u pm h n b pl g vs ids ak (fh S b P)++us)->K r H'):YF ac (eD s p d u) [aI v,aI bH] H K:=by
 have hat:(iv s p d u pm h n b pl w vs ids ak S++us)[5+(ak.idxOf b+1)]?=some (tM false (ids b) (S b)):=by simp only[iv,aj2];exact rr (xs:=[_,_,_,_,_]) (Fh hb)
 obtain⟨⟨ks,l,f⟩,_,V⟩:=U.nf _ hat;obtain⟨⟨_,_,_,_⟩,m,_⟩:=U.Fe 4 rfl;obtain⟨o,t⟩:=U.uf 4 rfl;obtain⟨y,z⟩:=D.bH b hb;have j:∀(i:Nat){e:Nat}{q:ab}{v:AV},(iv s p d u pm h n b pl w vs ids ak S++us)[i]?=some (tB e q [v])->pq H (.az q 0)=some v:=λi _ _ _ hi=>by obtain⟨_,F⟩:=U.get i hi;exact tB.cell F rfl
 obtain⟨W,B⟩:=U.get 0 rfl;obtain⟨c,G,I,_⟩:=tB.JH B;refine⟨80,M9 (pm:=pm) (s2:=.slice h 0 n n true) (kb:=3) (b:=.ofNat b) (N:=ids b) (ks:=ks) (q:=w) (fz:=0) T.aci T.acj (j 3 rfl) (j 2 rfl) (j 1 rfl) o t (JG (U.sl 5) y z) G (Nat.zero_le _) aB (I 0 aB) l λr J C c2 L M N k O _ Q _=>?_⟩;have a:=PX (bH:=bH) (v:=v) m;refine E r J (λx=>x∈C) _ (λx=>?_) ?_ (aj.mC D hb U (by rw[L];exact afb _) M N (λx=>Iff.rfl) O Q);·rw[k,f,a]
 rw[alf,aj6,a,akU];have R:iA v ks=false↔¬S b v:=by rw[<-f,<-ta];simp
 rw[R];constructor
 .rintro(X|⟨h1,h2⟩);·exact .inl X
  exact .inr ⟨v,(k v).2 (.inr ⟨rfl,a.2 h1⟩),h2⟩
 rintro(X|⟨x,h1,h2⟩);·exact .inl X
 rcases(k x).1 h1 with X|⟨rfl,X⟩;·exact absurd ((f x).1 X) h2
 exact .inr ⟨a.1 X,h2⟩
theorem wU{i j:ab}(a:i≠j):ab.beq i j=false:=by grind[ab.beq,absurd,ab.ip]
theorem afn{H:ai}{i q:ab}{o:Nat}{v:AV}(b:i≠q)(a:bh H i o=some v):mB H q (.az i o)=some v:=by simp[b,a,mB,wU,aes,bP]
theorem PY(y:AZ n vs ids ak)(hb:b∈ak){to:Nat}(g:to∈ak){a:ab}(U:aj A H (tB nP a [eD s p d u]::(iv s p d u pm h n b pl w vs ids ak S++us))){bH:Int}{tos:Nat}{cQ:List ab}:∃H' P m,(∀aa k,aa.get .alR (sl 11)=.az a 0->aa.get .alR (sl 5)=.az p 0->aa.get .alR (sl tos)=aN to->k d=some bH->zZ Iw k tos cQ aa H=some (kL aa cQ,H'))/\(∀x,P x↔S b x\/S to x/\∀ar,(x,ar)∈pl->bH<=ar)/\(m=true↔w=true\/∃x,P x/\¬S b x)/\aj A H' (tB nP a [eD s p d u]::(iv s p d u pm h n b pl m vs ids ak (fh S b P)++us)):=by
 have hat:∀x,x∈ak->(tB nP a [eD s p d u]::(iv s p d u pm h n b pl w vs ids ak S++us))[6+(ak.idxOf x+1)]?=some (tM false (ids x) (S x)):=λx l=>by simp only[iv,aj2];exact rr (xs:=[_,_,_,_,_,_]) (Fh l)
 obtain⟨⟨t0,o,r⟩,_,_⟩:=U.nf _ (hat b hb);obtain⟨⟨ks,z,B⟩,_,_⟩:=U.nf _ (hat to g);obtain⟨_,C,_⟩:=U.Fe 5 rfl;obtain⟨D,E⟩:=U.uf 5 rfl;obtain⟨F,G⟩:=y.bH b hb;obtain⟨I,J⟩:=y.bH to g;obtain⟨k1,Z⟩:=yV z;obtain⟨s1,s2⟩:=yV o;have X:∀(i:Nat){e:Nat}{q:ab}{v:AV},(tB nP a [eD s p d u]::(iv s p d u pm h n b pl w vs ids ak S++us))[i]?=some (tB e q [v])->bh H q 0=some v:=λi _ _ _ hi=>by obtain⟨_,hp⟩:=U.get i hi;exact tB.cell hp rfl
 have l:∀(i:Nat){e:Nat}{q:ab}{v:AV},(tB nP a [eD s p d u]::(iv s p d u pm h n b pl w vs ids ak S++us))[i]?=some (tB e q [v])->i≠1->mB H d (.az q 0)=some v:=λi _ _ _ hi K=>afn (U.ne i 1 hi rfl K (λf ag=>ag.1) (λf ag=>ag.1)) (X i hi);have L:h≠d:=U.ne 6 1 rfl rfl af (λf ag=>tS.wT ag) (λf ag=>ag.1);have M:pm≠ids b:=U.ne 5 _ rfl (hat b hb) af (λf ag=>ag.1) (λf ag=>ag.1);have N:ids to≠pm:=U.ne _ 5 (hat to g) rfl af (λf ag=>ag.1) (λf ag=>ag.1);have O:ids b≠d:=U.ne _ 1 (hat b hb) rfl af (λf ag=>ag.1) (λf ag=>ag.1);have he:∀x,x<n->∀v,vs.getD x .co=v->uR H d (.slice h 0 n n true) (.ofNat x)=some v:=λx h1 v h2=>by simp only[uR,wU L,aes,bP];exact JG (U.sl 6) h1 h2
 obtain⟨f6,Q⟩:=U.get 1 rfl;obtain⟨c,h6,h7,_⟩:=tB.JH Q;have R:c.bw .alR 0=.bool w:=h7 0 aB;have Y:([AV.bool w]:List AV).length=1:=rfl;refine⟨((H.set (ids b) (.dI (eG (gT (fR pl bH ks) t0)))).set d (.cells (fX c 0 [.bool (w||mA t0 (fR pl bH ks))]) 1 4 true [] 0)).skip,λx=>x∈gT (fR pl bH ks) t0,w||mA t0 (fR pl bH ks),λaa k T e5 et ea=>?_,λx=>?_,?_,?_⟩;·unfold zZ;rw[T,e5,et];have V:pq H (.az a 0)=some (.func Iw [] [.az u 0,.az p 0,.az s 0,.az d 0]):=X 0 rfl;rw[V];simp only[ald,bq,l 3 rfl aB,l 0 rfl aB,l 4 rfl aB,l 2 rfl aB,ea,he to I _ J,he b F _ G,h6,wU M,wU N,Z,D,E,s1,R];rfl
 .simp[r,B,C,gT,fR,oQ,B6,PX,or_comm]
 .rw[alf,Hz];constructor
  .rintro(ag|⟨x,h1,h2⟩);·grind
   exact .inr ⟨x,(oQ ..).2 (.inl h1),λag=>h2 ((r x).2 ag)⟩
  rintro(ag|⟨x,h1,h2⟩);all_goals grind[oQ,absurd]
 have W:aj A H (iv s p d u pm h n b pl w vs ids ak S++(us++[tB nP a [eD s p d u]])):=by rw[<-aj2];exact U.cM (akH (l₁:=[_]))
 have t:=aj.mC (c:=fX c 0 [.bool (w||mA t0 (fR pl bH ks))]) (nw2:=w||mA t0 (fR pl bH ks)) (P:=λx=>x∈gT (fR pl bH ks) t0) (ks:=gT (fR pl bH ks) t0) (H2:=((H.set (ids b) (.dI (eG (gT (fR pl bH ks) t0)))).set d (.cells (fX c 0 [.bool (w||mA t0 (fR pl bH ks))]) 1 4 true [] 0)).skip) y hb W (by show H.next.an<=H.next.succ.an;rw[ab.gK];omega) (λj h1 h2=>by show((H.set (ids b) _).set d _).get j=_;rw[ai.aF,aq h2,ai.aF,aq h1]) (by show ib (((H.set (ids b) _).set d _).get (ids b)) _;rw[ai.aF,aq O,ai.aF,aK rfl];exact wc (qK _ o.1)) (λx=>Iff.rfl) (by show((H.set (ids b) _).set d _).get d=_;rw[ai.aF,aK rfl]) (by rw[nD];simp);rw[<-aj2]at t;exact t.cM (akH (l₂:=[_]))
end
end
section
def yW(g:G.bu)(os:List (List bV))(S:Nat->Int->Prop)(b:Nat)(v:Int):Prop:=
 (∃bH,(v,bH)∈kF (aH g b)/\rq g b v bH)\/(∃w∈wW g os b,S w v/\rq g b v (aH g b).aD.length)\/∃t,oD g (os.getD b [])=some t/\S t.toNat v/\rq g b v 0
theorem JI{c P e:Int->Prop}{u b:Bool}(h0:∀x,c x->P x)(h1:∀x,P x->e x)(g:u=true↔∃x,P x/\¬c x)(f:b=true↔u=true\/∃x,e x/\¬P x):b=true↔∃x,e x/\¬c x:=by grind
theorem JJ(S:Nat->Int->Prop)(b:Nat)(P Q:Int->Prop):fh (fh S b P) b Q=fh S b Q:=by grind[fh]
theorem afo{l:List (Int×Int)}(b:(l.map (·.1)).Nodup){i j:Nat}(hi:i<l.length)(hj:j<l.length)(e:l[i].1=l[j].1):i=j:=(List.getElem_inj (h₀:=by grind) (h₁:=by grind) b).1 (by grind)
theorem afp{v:AV}{n:Nat}(b:lenOf v=some n):(∃i o c e,v=.slice i o n c e)\/v=.aS/\n=0:=by unfold lenOf at b;grind
theorem afq(S:Nat->Int->Prop)(b:Nat):fh S b (S b)=S:=by grind[fh]
theorem Fi(S:Nat->Int->Prop)(b:Nat)(P:Int->Prop):fh S b P b=P:=by simp[fh]
section
variable{A H:ai}{n b:Nat}{vs:List AV}{ids:Nat->ab}{ak:List Nat}{S:Nat->Int->Prop}{h m a d pm y:ab}{pl:List (Int×Int)}{u:Bool}{us:List Th}
theorem afr{t:Th}(T:Tb ac)(g:AZ n vs ids ak)(hb:b∈ak)(U:aj A H (t::(iv h m a d pm y n b pl u vs ids ak S++us))){v bH:Int}{K:KT}(i:∀r H' P c,(∀x,P x↔S b x\/x=v/\∀p,(v,p)∈pl->bH<=p)->(c=true↔u=true\/∃x,P x/\¬S b x)->aj A H' (t::(iv h m a d pm y n b pl c vs ids ak (fh S b P)++us))->K r H'):YF ac (eD h m a d) [aI v,aI bH] H K:=by
 have f:aj A H (iv h m a d pm y n b pl u vs ids ak S++(us++[t])):=by rw[<-aj2];exact U.cM (akH (l₁:=[_]))
 refine afm T g hb f λr H' P c h1 h2 e=>i r H' P c h1 h2 ?_;rw[<-aj2]at e;exact e.cM (akH (l₂:=[_]))
theorem aj.afs{xs ys:List Th}{e:Nat}{q:ab}{cs:List AV}(U:aj A H (xs++tB e q cs::ys)){o:Nat}{v:AV}(b:cs[o]?=some v):bh H q o=some v:=by obtain⟨_,c⟩:=(U.wy).get 0 rfl;grind[tB.cell]
end
section
variable{g:G.bu}{B C:AV}{z:ab}{A H:ai}{come:List Bool}{os:List (List bV)}{D:List AV}{n b:Nat}{vs:List AV}{ids:Nat->ab}{ak:List Nat}{S:Nat->Int->Prop}{y:ab}{us:List Th}
theorem afu(T:Tb ac)(V:Vd g)(hX:GX g A z B C come os D)(hK:cX g come os)(hO:AZ n vs ids ak)(hm:∀x,x∈ak↔come.getD x false=true)(hb:come.getD b false=true)(U:aj A H (lP y n vs ids ak S++us)){K:KT}(ei:∀H' P u,(∀v,P v↔S b v\/yW g os S b v)->(u=true↔∃v,P v/\¬S b v)->aj A H' (lP y n vs ids ak (fh S b P)++us)->K (.bool u) H'):YN ac Xd [.az z 0,aN b,.slice y 0 n n true] H K:=by
 have hB:=V.sm;have dx:=hB.nb;have a':=hK.lt hb;have ba:=(hm b).2 hb;have ag:=hX.kS.lt;have cf:=hX.kS.aH;have⟨dy,_,_,_⟩:=hX.bl.all;have aw:=oC a';have dz:=hB.bl _ aw;have eh:=hB.st _ aw;have cn:=hB.ed _ aw;have cp:=V.gv.nd _ aw;have cv:g.al[b]=aH g b:=(bF a' _).symm;have ds:(wW g os b).length<=12:=by have:=E4 (now:=os.getD b []) hB a';simpa[wW,mK]using this
 refine YF.code T.ab5 aB ?_;refine au ?_;refine RO.dL U λH1 h U=>?_;refine RO.dL U λH2 m U=>?_;refine RO.gI U λH3 a U=>?_;refine ah ?_;refine RO.aW ?_ (v:=B) (hc:=by rw[U.gr.bh ag];exact cf);refine ah ?_;refine RO.cZ U.gr hX.bl (λq9 o9 ec d0 ax d1 hat hrd=>?_) (j:=b);rw[cv]at ax;generalize J:aH g b=ej at*;have a6:=ax.one;have bd:=ax;obtain⟨vp,F,jc,rfl,d2,cx,va,vk,vg,rfl,_,_,_⟩:=ax;have⟨_,_,_,b6⟩:=cx.all;refine ah ?_;refine RO.fx U λH4 W U=>?_;refine ah ?_;refine RO.ae8 U λH5 pm U=>?_;refine RO.fx U λH6 d U=>?_;refine ah ?_;refine RO.eQ U 2 ?_;refine RO.cl (Pu T (cs:=[vp,F,aU ej.aA.op,va,.str ej.aA.name,vk,vg]) a6 rfl λH7 q hl=>?_);have U:=U.fC hl;refine ah ?_;refine Ru.wk (L:=[(b7,.func EA [] [.az q 0]),(p0,.az z 0),(p4,.az h 0),(p5,.az m 0),(p6,.az a 0),(p7,.az W 0),(p8,.az d 0)]) ?_;have U:aj A H7 ([tB dW q [vp,F,aU ej.aA.op,va,.str ej.aA.name,vk,vg]]++[tB Ek d [.map pm],tI pm ((dC ej).take 0)]++(tB dW W [vp,F,aU ej.aA.op,va,.str ej.aA.name,vk,vg]::tB 4 a [.bool false]::tB wB m [.slice y 0 n n true]::tB 3 h [aN b]::(lP y n vs ids ak S++us))):=U;refine Ru.pG (J:=λk ts=>ts=[tB Ek d [.map pm],tI pm ((dC ej).take k)]) (Dn:=λ_ _=>False) U (Pv T bd af af) (λ_ _=>trivial) rfl (λk args ws ei=>by obtain⟨rfl,_,rfl⟩:=ei;rfl) (λ_ _ _ _ _ _=>trivial) (λk args ws ts us l o1 o2 H' hk bb hJ U=>?_) (λH' bc Z hJ U=>?_) (λj H' bc Z _ ei=>ei.elim)
 .obtain⟨rfl,ay,rfl⟩:=bb;subst hJ;have b':((dC ej)[k]).1∉((dC ej).take k).map alO:=λI=>by obtain⟨p,hp,e⟩:=akk.1 I;obtain⟨i,hi,rfl⟩:=aka hp;rw[akF]at hi;rw[List.getElem_take]at e;have:=afo cp af ay e;omega
  refine au ?_;refine Ru.dN (xs:=[_,_]) U λH2 U=>?_;refine ah ?_;refine RO.ae9 U 1 b' (λH3 U=>?_);refine ah ?_;refine Ru.bG (ts:=[_,_]) U ?_;rw[<-akd ay]
 subst hJ;rw[ak7]at U;refine ah ?_;refine RO.fx (xv:=eD h m a d) U λH8 E U=>?_;refine ah ?_;refine RO.eQ U 4 ?_;refine RO.cl (Pz T (cs:=[vp,F,aU ej.aA.op,va,.str ej.aA.name,vk,vg]) a6 λH9 qr hl=>?_);have U:=U.fC hl;refine ah ?_;refine Ru.wk (L:=[(dh,.func EB [] [.az qr 0]),(p0,.az z 0),(p4,.az h 0),(p5,.az m 0),(p6,.az a 0),(p7,.az W 0),(p8,.az d 0),(aR,.az E 0)]) ?_;have U:=((((((U.gk 3 rfl).gk 3 rfl).gk 7 rfl).gk 8 rfl).gk 8 rfl).gk 6 rfl).gk 6 rfl;have U:aj A H9 ([tB dW qr [vp,F,aU ej.aA.op,va,.str ej.aA.name,vk,vg]]++(tB nP E [eD h m a d]::iv h m a d pm y n b (dC ej) false vs ids ak S)++(tX Z (.deferred false)::tB dW W [vp,F,aU ej.aA.op,va,.str ej.aA.name,vk,vg]::us)):=by rw[aj2];exact U.cM (List.Perm.append_left [_,_,_,_,_,_,_] (List.perm_append_comm_assoc [_,_] _ _))
 refine Ru.pG (J:=λk ts=>∃P u,(∀x,P x↔S b x\/∃q∈(kF ej).take k,q.1=x/\∀p,(x,p)∈dC ej->q.2<=p)/\(u=true↔∃x,P x/\¬S b x)/\ts=tB nP E [eD h m a d]::iv h m a d pm y n b (dC ej) u vs ids ak (fh S b P)) (Dn:=λ_ _=>False) U (PA T bd af (λs hs=>by have:=(eh s hs).1;omega) af af (λe he=>by have:=cn e he;omega)) (λ_ _=>trivial) ⟨S b,false,aB,aB,by rw[afq]⟩ (λk args ws ei=>by obtain⟨rfl,_,rfl⟩:=ei;rfl) (λ_ _ _ _ _ _=>trivial) (λk args ws ts us l o1 o2 H' hk bb hJ U=>?_) (λH' bc L hJ U=>?_) (λj H' bc Z _ ei=>ei.elim)
 .obtain⟨rfl,ay,rfl⟩:=bb;obtain⟨P,u,Q,hn,rfl⟩:=hJ;refine au ?_;refine Ru.dN (xs:=tB nP E [eD h m a d]::iv h m a d pm y n b (dC ej) u vs ids ak (fh S b P)) U λH2 U=>?_;refine ah ?_;refine RO.cl (afr T hO ba (us:=tX l o2::us) U λr H3 P2 N h1 h2 U=>?_);rw[Fi]at h1 h2;rw[JJ]at U;refine ah ?_;refine Ru.bG (ts:=tB nP E [eD h m a d]::iv h m a d pm y n b (dC ej) N vs ids ak (fh S b P2)) U ⟨P2,N,λx=>?_,JI (λx I=>(Q x).2 (.inl I)) (λx I=>(h1 x).2 (.inl I)) hn h2,rfl⟩;rw[h1,Q,<-akd ay,or_assoc];refine or_congr Iff.rfl ⟨?_,?_⟩
  .rintro(⟨q,X,ei⟩|⟨rfl,ei⟩);·exact⟨q,akf _ X,ei⟩
   exact⟨_,akq _ (aep.2 rfl),rfl,ei⟩
  rintro⟨q,X,e,ei⟩;rcases ahp.1 X with X|X;·exact .inl ⟨q,X,e,ei⟩
  rw[aep]at X;subst X;exact .inr ⟨e.symm,by rw[e];exact ei⟩
 obtain⟨P0,bv,R,cy,rfl⟩:=hJ;rw[ak7]at R;refine ah ?_;refine RO.cl (Jp T V.sm V.dO (hX.cI U.gr) hK hb λd3 v hl=>?_);have U:=(U.fC hl).cM (akj (l₁:=tB nP E [eD h m a d]::iv h m a d pm y n b (dC ej) bv vs ids ak (fh S b P0))).symm;have⟨d4,_,_,d5⟩:=(hl.sl (e:=3) (size:=1) (sv:=v) (vs:=(wW g os b).map aN) (n:=(wW g os b).length) (full:=true) 0).all;refine ah ?_;refine Ru.nm λS0 M hS hM=>?_;refine Ru.cC hM (up (P:=λk=>∀HX P u,(∀x,P x↔P0 x\/∃w∈(wW g os b).take k,S w x/\∀p,(x,p)∈dC ej->(ej.aD.length:Int)<=p)->(u=true↔∃x,P x/\¬S b x)->aj A HX (tB nP E [eD h m a d]::iv h m a d pm y n b (dC ej) u vs ids ak (fh S b P)++tS 3 1 ((wW g os b).map aN) (wW g os b).length true v::(tX L (.deferred false)::tX Z (.deferred false)::tB dW W [vp,F,aU ej.aA.op,va,.str ej.aA.name,vk,vg]::us))->Ru ac _ S0 ([(dH,aN k)]++pk M [p0,p4,p5,p6,p7,p8,aR,cJ,dB]) HX) (wW g os b).length (λk hk ih HX P u Q hn U=>?_) 0 af _ P0 bv aB cy U);subst hS;subst hM;refine Ru.loop ?_;refine au ?_;refine Ru.cond (λag=>?_) (λag=>?_)
 .refine ah ?_;have cE:=(U.wy).sl (e:=3) (size:=1) (sv:=v) (vs:=(wW g os b).map aN) (n:=(wW g os b).length) (full:=true) 0;refine RO.lg (bm.refl _) cE (λd6 d7 dv d'=>?_) (j:=k);refine ah ?_;have c8:(wW g os b)[k]∈wW g os b:=agB ag;have a1:=(hm _).2 (hK.ls hb c8);have b0:(wW g os b).take (k+1)=(wW g os b).take k++[(wW g os b)[k]]:=(akd ag).symm;have ih:=ih (k+1) af af;rw[b0]at ih;clear b0;generalize(wW g os b)[k]=to at*;obtain⟨H',P2,N,hg,h1,h2,ar⟩:=PY hO ba a1 U (bH:=.ofNat ej.aD.length) (tos:=15) (cQ:=BW);have c9:W≠a:=λe=>by have h8:=U.cM (akj (l₁:=tB nP E [eD h m a d]::iv h m a d pm y n b (dC ej) u vs ids ak (fh S b P)++[tS 3 1 ((wW g os b).map aN) (wW g os b).length true v,tX L (.deferred false),tX Z (.deferred false)]) (l₂:=us) (a:=tB dW W [vp,F,aU ej.aA.op,va,.str ej.aA.name,vk,vg])|>λei=>by simpa using ei);exact h8.ne 0 2 rfl rfl af (λf ei=>ei.1) (λf ei=>ei.1) e
  have c':bh HX W 1=some F:=by refine aj.afs (xs:=tB nP E [eD h m a d]::iv h m a d pm y n b (dC ej) u vs ids ak (fh S b P)++[tS 3 1 ((wW g os b).map aN) (wW g os b).length true v,tX L (.deferred false),tX Z (.deferred false)]) (ys:=us) (by simpa using U) rfl
  refine Ru.ez (cQ:=BW) (H':=H') T.adl (M:=[(p0,.az z 0),(p4,.az h 0),(p5,.az m 0),(p6,.az a 0),(p7,.az W 0),(p8,.az d 0),(aR,.az E 0),(cJ,v),(dB,aN (wW g os b).length),(dH,aN k)]) (λaa O=>?_) ?_
  .refine hg aa _ (O.get (p:=sl 11) rfl rfl) (O.get (p:=sl 5) rfl rfl) (O.get (p:=sl 15) rfl rfl) ?_;simp only[O.get (p:=sl 7) (v:=.az W 0) rfl rfl,wU c9,aes,bP,c',akh];rcases afp b6 with⟨i,o,c,e,rfl⟩|⟨rfl,h0⟩;·rfl
   rw[h0]
  rw[Fi]at h1 h2;rw[JJ]at ar;have key:∀x,P2 x↔P0 x\/∃w∈(wW g os b).take k++[to],S w x/\∀p,(x,p)∈dC ej->(ej.aD.length:Int)<=p:=λx=>by
   have ca:∀x,S b x->P x:=λx I=>(Q x).2 (.inl ((R x).2 (.inl I)));have b3:P x->P0 x\/∃w∈(wW g os b).take k++[to],S w x/\∀p,(x,p)∈dC ej->(ej.aD.length:Int)<=p:=λei=>by
    rcases(Q x).1 ei with ei|⟨w,Y,ei⟩;·exact .inl ei
    exact .inr ⟨w,akf _ Y,ei⟩
   rw[h1];constructor
   .rintro(ei|⟨ei,a2⟩);·exact b3 ei
    simp only[fh]at ei;split at ei;·exact b3 ei
    exact .inr ⟨to,akq _ (aep.2 rfl),ei,a2⟩
   rintro(ei|⟨w,Y,hs,a2⟩);·exact .inl ((Q x).2 (.inl ei))
   rcases ahp.1 Y with Y|Y;·exact .inl ((Q x).2 (.inr ⟨w,Y,hs,a2⟩))
   rw[aep]at Y;subst Y;by_cases e:w=b;·subst e;exact .inl (ca x hs)
   refine .inr ⟨?_,a2⟩;simp only[fh,aq e];exact hs
  refine ah ?_;exact Ru.wk (ih H' P2 N key (JI (λx I=>(Q x).2 (.inl ((R x).2 (.inl I)))) (λx I=>(h1 x).2 (.inl I)) hn h2) ar)
 refine Ru.exitTo ?_;rw[akl af]at Q;refine ah ?_;have hR:∀x,(P x->S b x\/yW g os S b x)/\((∃q∈kF ej,q.1=x/\∀p,(x,p)∈dC ej->q.2<=p)\/(∃w∈wW g os b,S w x/\∀p,(x,p)∈dC ej->(ej.aD.length:Int)<=p)->P x)/\(S b x->P x):=λx=>by
  refine⟨λei=>?_,λei=>?_,λei=>(Q x).2 (.inl ((R x).2 (.inl ei)))⟩
  .rcases(Q x).1 ei with ei|⟨w,Y,h1,h2⟩
   .rcases(R x).1 ei with ei|⟨q,X,rfl,h2⟩;·exact .inl ei
    refine .inr (.inl ⟨q.2,?_,?_⟩);·rw[J];exact X
    simp only[rq,J];exact h2
   refine .inr (.inr (.inl ⟨w,Y,h1,?_⟩));simp only[rq,J];exact h2
  rcases ei with⟨q,X,ei⟩|⟨w,Y,ei⟩;·exact(Q x).2 (.inl ((R x).2 (.inr ⟨q,X,ei⟩)))
  exact(Q x).2 (.inr ⟨w,Y,ei⟩)
 have b4:∀x,yW g os S b x->P x\/∃t,oD g (os.getD b [])=some t/\S t.toNat x/\∀p,(x,p)∈dC ej->0<=p:=λx ei=>by
  rcases ei with⟨bH,h1,h2⟩|⟨w,h1,h2,h3⟩|⟨t,h1,h2,h3⟩
  .refine .inl ((hR x).2.1 (.inl ⟨(x,bH),?_,rfl,?_⟩));·rw[<-J];exact h1
   simp only[rq,J]at h2;exact h2
  .refine .inl ((hR x).2.1 (.inr ⟨w,h1,h2,?_⟩));simp only[rq,J]at h3;exact h3
  refine .inr ⟨t,h1,h2,?_⟩;simp only[rq,J]at h3;exact h3
 refine RO.cl (afc T hB V.dO (hX.cI U.gr) hK hb λea cd=>?_);have U:=U.cI cd;have a8:∀HX P u,aj A HX (tB nP E [eD h m a d]::iv h m a d pm y n b (dC ej) u vs ids ak (fh S b P)++tS 3 1 ((wW g os b).map aN) (wW g os b).length true v::(tX L (.deferred false)::tX Z (.deferred false)::tB dW W [vp,F,aU ej.aA.op,va,.str ej.aA.name,vk,vg]::us))->aj A HX (i9 [L,Z]++(tB 4 a [.bool u]::(lP y n vs ids ak (fh S b P)++us))):=λHX P u U=>by
  have h1:aj A HX (tB nP E [eD h m a d]::tB 4 a [.bool u]::tB 3 h [aN b]::tB wB m [.slice y 0 n n true]::tB Ek d [.map pm]::tI pm (dC ej)::(lP y n vs ids ak (fh S b P)++(tS 3 1 ((wW g os b).map aN) (wW g os b).length true v::(tX L (.deferred false)::tX Z (.deferred false)::tB dW W [vp,F,aU ej.aA.op,va,.str ej.aA.name,vk,vg]::us)))):=by simpa only[iv,akV,ak0,aj2]using U
  have h2:=h1.sub (.cons _ (.cons_cons _ (.cons _ (.cons _ (.cons _ (.cons _ ((akL (lP y n vs ids ak (fh S b P))).append (.cons _ (.cons_cons _ (.cons_cons _ (.cons _ (akL us))))))))))));exact h2.cM (List.perm_append_comm_assoc (tB 4 a [.bool u]::lP y n vs ids ak (fh S b P)) [_,_] us)
 cases ht:oD g (os.getD b [])with
 |none=>
  refine ah ?_;refine RO.gG U 1 (λdm U=>?_);refine ah ?_;refine Ru.mI (M:=[L,Z]) (a8 _ P u U) λH' U=>⟨[.bool u],⟨⟨_,_,rfl,U.one 0⟩,trivial⟩,ei H' P u (λx=>⟨(hR x).1,λI=>?_⟩) hn U.tail⟩;rcases I with I|I;·exact(hR x).2.2 I
  rcases b4 x I with G|⟨t,G,_⟩;·exact G
  rw[ht]at G;cases G
 |some t=>
  obtain⟨_,_,_,_,b5,eb⟩:=vD V.dO hK hb ht;have a1:=(hm _).2 b5;obtain⟨to,rfl⟩:∃to:Nat,t=(to:Int):=⟨t.toNat,af⟩;rw[aj3]at a1 b5;obtain⟨H',P2,N,hg,h1,h2,ar⟩:=PY hO ba a1 U (bH:=.ofNat 0) (tos:=17) (cQ:=BX);rw[Fi]at h1 h2;rw[JJ]at ar;refine ah ?_;refine Ru.ez (cQ:=BX) (H':=H') T.adm (M:=[(p6,.az a 0)]) (λaa O=>?_) ?_;·exact hg aa _ (O.get (p:=sl 11) rfl rfl) (O.get (p:=sl 5) rfl rfl) (O.get (p:=sl 17) rfl rfl) rfl
  refine ah ?_;have U:=ar;refine RO.gU U 1 ?_;refine RO.gG U 1 (λdm U=>?_);refine ah ?_;refine Ru.mI (M:=[L,Z]) (a8 _ P2 N U) λH' U=>⟨[.bool N],⟨⟨_,_,rfl,U.one 0⟩,trivial⟩,ei H' P2 N (λx=>?_) (JI (λx I=>(hR x).2.2 I) (λx I=>(h1 x).2 (.inl I)) hn h2) U.tail⟩;rw[h1];constructor
  .rintro(G|⟨G,av⟩);·exact(hR x).1 G
   simp only[fh]at G;split at G;·exact(hR x).1 G
   refine .inr (.inr (.inr ⟨_,ht,by rw[aj3];exact G,?_⟩));simp only[rq,J];exact av
  rintro(G|G);·exact .inl ((hR x).2.2 G)
  rcases b4 x G with G|⟨t,G,av,dr⟩;·exact .inl G
  rw[ht]at G;injection G with G;subst G;rw[aj3]at av;by_cases e:to=b;·subst e;exact .inl ((hR x).2.2 av)
  refine .inr ⟨?_,dr⟩;simp only[fh,aq e];exact av
end
end
theorem RO.afv{c:Cx}{s:List SI}{L:Kn}{H:ai}{d:Option ab}{l:List be}{z:Int}{x y:aJ}(h:RO ac c l s (bC L d (.bool false)) H)(b:bf L x=.cY:=by exact cw)(e:bf L y=.int 3 z:=by exact cw):RO ac c (⟨d,.lookup .int (.bool false) false x y,none,[],[]⟩::l) s L H:=RO.op (λaa a=>by simp only[aE,jA,aku,aes,bP,a.gv b rfl,a.gv e rfl]) h
def cb(p:Prop):Bool:= @decide p (Classical.propDecidable p)
theorem JK{p:Prop}:cb p=true↔p:= @decide_eq_true_iff p (Classical.propDecidable p)
def Fj(nv:Nat)(ak:List Nat)(S:Nat->Int->Prop):Nat:=(ak.map λb=>((ake nv).filter λ(v:Nat)=>cb (¬S b (v:Int))).length).sum
theorem JL{b:Type}{p q:b->Bool}(h:∀x,p x=true->q x=true):∀l:List b,(l.filter p).length<=(l.filter q).length|[]=>afb _|a::l=>by have c:=JL h l;grind
theorem PZ{d:Type}{p q:d->Bool}(h:∀x,p x=true->q x=true){y:d}(f:q y=true)(g:p y=false):∀l:List d,y∈l->(l.filter p).length<(l.filter q).length
 |[],c=>by grind
 |a::l,c=>by
  rcases aeV.1 c with rfl|c;·have:=JL h l;grind
  have i:=PZ h f g l c;cases b:p a with|true=>simp only[List.filter_cons,b,h a b,bq,akA];omega|false=>cases e:q a<;>simp only[List.filter_cons,b,e,bq,aes,bP,akA]<;>omega
theorem P1{b:Type}{f g:b->Nat}:∀l:List b,(∀x∈l,f x<=g x)->(l.map f).sum<=(l.map g).sum|[],_=>afb _|a::l,h=>by have:=P1 l λx c=>h x (aey _ c);grind
theorem P3{c:Type}{f g:c->Nat}{y:c}(e:f y<g y):∀l:List c,(∀x∈l,f x<=g x)->y∈l->(l.map f).sum<(l.map g).sum
 |[],_,b=>by grind
 |a::l,h,b=>by
  have h1:=h a (aeU ..);simp only[aj7,List.sum_cons];rcases aeV.1 b with rfl|b;·have:=P1 l λx d=>h x (aey _ d);omega
  have:=P3 e l (λx d=>h x (aey _ d)) b;omega
theorem afw{nv:Nat}{ak:List Nat}{S c:Nat->Int->Prop}(h:∀b∈ak,∀v,S b v->c b v){b:Nat}(hb:b∈ak){v:Nat}(f:v<nv)(h1:c b v)(h2:¬S b v):Fj nv ak c<Fj nv ak S:=by
 have a:∀x∈ak,∀w:Nat,cb (¬c x (w:Int))=true->cb (¬S x (w:Int))=true:=λx d w e=>by rw[JK]at e⊢;exact λhs=>e (h x d _ hs)
 refine P3 (y:=b) ?_ ak (λx d=>JL (a x d) _) hb;refine PZ (a b hb) (y:=v) (JK.2 h2) ?_ _ (ak3.2 f);simp[h1,cb,absurd,JK]
def JM(g:G.bu)(os:List (List bV))(ak:List Nat)(S:Nat->Int->Prop):Prop:=∀b∈ak,∀v,yW g os S b v->S b v
def A0(g:G.bu)(os:List (List bV))(S:Nat->Int->Prop):Prop:=∀b v,S b v->Lv g os b v
theorem A0.ki{g:G.bu}{os:List (List bV)}{S:Nat->Int->Prop}{b:Nat}{P:Int->Prop}(h:A0 g os S)(c:∀v,P v->S b v\/yW g os S b v):A0 g os (fh S b P):=λx v a=>by
 simp only[fh]at a;split at a
 .rename_i e;subst e;rcases c v a with h1|⟨bH,h1,h2⟩|⟨w,h1,h2,h3⟩|⟨t,h1,h2,h3⟩;·exact h _ _ h1
  .exact .qQ h1 h2
  .exact .ls h1 (h _ _ h2) h3
  exact .sC h1 (h _ _ h2) h3
 exact h _ _ a
theorem JM.all{g:G.bu}{a:List Bool}{os:List (List bV)}{ak:List Nat}{S:Nat->Int->Prop}(k:jm g)(f:cX g a os)(c:∀x,x∈ak↔a.getD x false=true)(h:JM g os ak S){b:Nat}{v:Int}(hl:Lv g os b v):b∈ak->S b v:=by induction hl with| @qQ b v bH h1 h2=>intro hb;exact h b hb v (.inl ⟨bH,h1,h2⟩)| @ls b w v i _ d e=>intro hb;exact h b hb v (.inr (.inl ⟨w,i,e ((c w).2 (f.ls ((c b).1 hb) i)),d⟩))| @sC b t v j _ d e=>intro hb;obtain⟨_,_,_,_,l,_⟩:=vD k f ((c b).1 hb) j;exact h b hb v (.inr (.inr ⟨t,j,e ((c _).2 l),d⟩))
section
def P4:ai->List Int->List AV->Prop:=λH l cs=>∃v,cs=[v]/\fZ H l v
abbrev CX(H:ai)(a:List (List Int))(v:AV):Prop:=dV 1 P4 H a v
theorem dQ.P5:dQ P4:=λhg⟨v,h1,h2⟩=>⟨v,h1,hg.sl h2⟩
structure gP(g:G.bu)(come:List Bool)(os:List (List bV))(lv:List (List Int)):Prop where
 len:lv.length=g.al.length
 mem:∀b,come.getD b false=true->∀v,v∈lv.getD b []↔Lv g os b v
 JN:∀b,come.getD b false=false->lv.getD b []=[]
 jx:∀b,(lv.getD b []).length<=6000
structure lQ(lv:List (List Int))(vsl:List AV)(F:List Th):Prop where
 len:vsl.length=lv.length
 mem:∀b,b<lv.length->tR 1 ((lv.getD b []).map aI) (lv.getD b []).length (vsl.getD b .co)∈F
theorem lQ.sl{e:List (List Int)}{a:List AV}{F:List Th}(k:lQ e a F){A H:ai}{g:List Th}(U:aj A H g)(i:Nat)(hi:g[i]?=some (tZ F)){v:AV}(hs:Sl H 1 a a.length v):CX H e v:=by have hl:=k.len;refine⟨a,by rw[<-hl];exact hs,λb hb=>?_⟩;obtain⟨f,j,_⟩:=U.mf i hi (k.mem b hb);refine⟨a.getD b .co,?_,by rw[<-bF hb []];exact j⟩;rw[alt,aj9 af,bF af];rfl
abbrev P6:Nat->List AV->Prop:=λb cs=>cs=[aN b]
theorem P7{H:ai}{l:List Nat}{v:AV}(b:Sl H 1 (l.map aN) l.length v):dV 1 (λ_=>P6) H l v:=⟨_,b,λk a=>by simp[a,alt,aj9]⟩
section
variable{g:G.bu}{d h:AV}{c:ab}{H:ai}{come:List Bool}{os:List (List bV)}{o:List AV}
def oE(e f g b c:ab)(n:Nat)(i:AV)(j:Bool)(k:List AV)(a:Nat->ab)(ak:List Nat)(S:Nat->Int->Prop):List Th:=[tB 4 g [.bool j],tB wB f [.slice b 0 n n true],tB mE e [.az c 0],tS 3 1 (ak.map aN) ak.length true i]++lP b n k a ak S
theorem afx(T:Tb ac)(V:Vd g)(hX:GX g H c d h come os o)(Q:cX g come os){K:KT}(e0:∀H' v R r F,gP g come os R->lQ R r F->aj H H' [tZ F,tS eH 1 r r.length true v]->K v H'):YN ac WV [.az c 0] H K:=by
 have hB:=V.sm;have ar:=hB.nb;have⟨d5,_,_,d6⟩:=hX.bl.all;have bd:=hX.kS.aH;have a2:=hX.kS.lt;have d7:=Q.lt Q.c0;refine YF.code T.abK aB ?_;refine au ?_;refine RO.dL (aj.dc H) λH1 G U=>?_;refine ah ?_;refine RO.aW ?_ (v:=d) (hc:=by rw[U.gr.bh a2];exact bd);refine ah ?_;refine RO.oT U (n:=g.al.length) (λH2 B U=>?_) (hz:=by rw[iZ];simp);rw[iZ]at U;refine RO.fx U λH3 I U=>?_;refine ah ?_;refine RO.cl (Jq T V.sm V.dO (hX.cI U.gr) Q λH4 u ak N hl=>?_);have U:=U.fC hl;have⟨cf,cn,cp,d'⟩:=(hl.sl (e:=3) (size:=1) (sv:=u) (vs:=ak.map aN) (n:=ak.length) (full:=true) 0).all;have ea:ak.length<=g.al.length:=vB _ _ N.nd λx hx=>Q.lt ((N.mem x).1 hx);refine ah ?_;have U:aj H H4 ([tS 3 1 (ak.map aN) ak.length true u,tB wB I [.slice B 0 g.al.length g.al.length true],tB mE G [.az c 0]]++lP B g.al.length (ahr g.al.length .cY) (λ_=>.xH) (ak.take 0) (λ_ _=>False)):=U.cM (akO _ (akO _ (akS ..)));refine Ru.nm λS0 M hS W=>?_;refine Ru.cC W (up (P:=λk=>∀A vs f,vs.length=g.al.length->(∀b∈ak.take k,vs.getD b .co=.map (f b))->(∀b,b<g.al.length->b∉ak.take k->vs.getD b .co=.cY)->aj H A ([tS 3 1 (ak.map aN) ak.length true u,tB wB I [.slice B 0 g.al.length g.al.length true],tB mE G [.az c 0]]++lP B g.al.length vs f (ak.take k) (λ_ _=>False))->Ru ac _ S0 ([(bT,aN k)]++pk M [p1,p3,p4,bL,bK]) A) ak.length (λk hk ih A vs f L X a6 U=>?_) 0 af _ _ (λ_=>.xH) aB aB (λb hb _=>by rw[bF (by simpa using hb)];simp) U);subst hS;subst W;refine Ru.loop ?_;refine au ?_;refine Ru.cond (λy=>?_) (λy=>?_)
 .refine ah ?_;refine RO.lg (bm.refl _) (U.sl (e:=3) (size:=1) (sv:=u) (vs:=ak.map aN) (n:=ak.length) (full:=true) 0) (λq5 o5 eb ec=>?_) (j:=k);have ei:ak[k]<g.al.length:=Q.lt ((N.mem _).1 (agB y));refine ah ?_;refine RO.Ff U λH5 qm U=>?_;refine ah ?_;refine RO.yK U 4 L (λH6 U=>?_) (k:=ak[k]);refine ah ?_;have a8:ak.take (k+1)=ak.take k++[ak[k]]:=(akd y).symm;have cv:ak[k]∉ak.take k:=λhx=>by obtain⟨i,hi,e⟩:=aka hx;rw[akF]at hi;rw[List.getElem_take]at e;have:=Pq N.nd af y e;omega
  refine Ru.wk (ih (k+1) af af H6 (vs.set ak[k] (.map qm)) (λx=>if x=ak[k]then qm else f x) (by simpa using L) (λb hb=>?_) (λb hb ar=>?_) ?_)
  .rw[a8]at hb;rw[fu af];by_cases e:b=ak[k];·rw[aK e,aK e]
   rw[aq e,aq e];exact X b ((ahp.1 hb).resolve_right λe0=>e (aep.1 e0))
  .rw[a8]at ar;rw[fu af,aq λe=>ar (by rw[e];exact akq _ (aep.2 rfl))];exact a6 b hb λe0=>ar (akf _ e0)
  have U:=U.as (t':=tM false qm λ_=>False) 0 rfl λfp hp=>⟨hp.1,hp.2.1,hp.2.2.1,(λe0=>by cases e0),hp.2.2.2.2⟩;have U:=U.cM (akH (l₁:=[_]));have e:lP B g.al.length (vs.set ak[k] (.map qm)) (λx=>if x=ak[k]then qm else f x) (ak.take (k+1)) (λ_ _=>False)=tS NF 1 (vs.set ak[k] (.map qm)) g.al.length true (.slice B 0 g.al.length g.al.length true)::((ak.take k).map (λb=>tM false (f b) λ_=>False)++[tM false qm λ_=>False]):=by
   rw[lP,a8,akE];congr 2;·exact alk λb hb=>by rw[aq λe=>cv (by rw[<-e];exact hb)]
   simp
  rw[e];exact U
 refine Ru.exitTo ?_;rw[akl af]at X a6 U;have b6:=X;have b':=a6;have cx:AZ g.al.length vs f ak:=⟨L,N.nd,λb hb=>⟨Q.lt ((N.mem b).1 hb),X b hb⟩⟩;refine ah ?_;refine RO.fx U λH5 D U=>?_;have U:aj H H5 (oE G I D B c g.al.length u true vs f ak (λ_ _=>False)++i9 []):=by rw[show i9 []=[]from rfl,akT];exact((U.gk 3 rfl).gk 3 rfl).gk 2 rfl
 refine ah ?_;refine Ru.nm λS0 M hS W=>?_;refine Ru.cC W (dn (P:=λm=>∀A O S ca D,(if ca=true then Fj g.bp.toNat ak S+1 else 0)=m->(ca=false->JM g os ak S)->A0 g os S->aj H A (oE G I D B c g.al.length u ca vs f ak S++i9 O)->Ru ac ⟨pu [.tmp p2] K,O,none⟩ S0 ([(p7,.az D 0)]++pk M [p1,p3,p4]) A) (λm ih A O S ca D cy Y a' U=>?_) _ _ [] (λ_ _=>False) true D rfl (λe0=>by cases e0) (λ_ _ e0=>e0.elim) U);subst hS;subst W;refine Ru.loop ?_;refine ah ?_;refine Ru.kN (λC=>?_) (λC=>?_)
 .subst C;refine ah ?_;refine RO.gG U 0 (λH6 U=>?_);refine ah ?_;refine RO.cl (Fc T.ab4 bA cf cn cp λH7 q hl=>?_);have U:=U.fC hl;refine ah ?_;refine Ru.wk (L:=[(bZ,.func Xn [] [.az q 0]),(p1,.az G 0),(p3,.az I 0),(p4,u),(p7,.az D 0)]) ?_;have U:aj H H7 ([tB eH q [u]]++oE G I D B c g.al.length u false vs f ak S++i9 O):=U;refine Ru.pG (J:=λk ts=>∃E s,(∀b∈ak,∀v,S b v->E b v)/\(s=true->∃b∈ak,∃v,E b v/\¬S b v)/\(s=false->E=S/\∀j,j<k->∀(hj:ak.length - 1 - j<ak.length),∀v,yW g os S ak[ak.length - 1 - j] v->S ak[ak.length - 1 - j] v)/\A0 g os E/\ts=oE G I D B c g.al.length u s vs f ak E) (Dn:=λ_ _=>False) U (Fb (R:=P6) (agg:=false) (size:=1) (la:=ak) (sv:=u) (e:=eH) (nt:=19) T.acg bA af (λ_=>rfl) (λa cs e0=>by cases e0;rfl)) (λH2 hg=>P7 ((U.cI hg).sl (e:=3) (size:=1) (sv:=u) (vs:=ak.map aN) (n:=ak.length) (full:=true) 4)) ⟨S,false,λ_ _ _ e0=>e0,(λe0=>by cases e0),λ_=>⟨rfl,λj hj=>absurd hj af⟩,a',rfl⟩ (λk args ws e0=>by obtain⟨_,_,_,_,rfl⟩:=e0;rfl) (λk ts us H' hJ U=>by obtain⟨E,s,_,_,_,_,rfl⟩:=hJ;exact P7 (U.sl (e:=3) (size:=1) (sv:=u) (vs:=ak.map aN) (n:=ak.length) (full:=true) 3)) (λk args ws ts us l o1 o2 H' hk cE hJ U=>?_) (λH' c8 dm hJ U=>?_) (λj H' c8 dm hj hD U=>hD.elim)
  .obtain⟨rfl,ba,cs,rfl,rfl⟩:=cE;obtain⟨E,s,h1,h2,h3,h4,rfl⟩:=hJ;have bb:=agB ba;have c9:=(N.mem _).1 bb;generalize c':ak[ak.length - 1 - k]=b at*;refine au ?_;refine Ru.dN (xs:=oE G I D B c g.al.length u s vs f ak E) U λH8 U=>?_;refine ah ?_;have U:=aj.gF (xs:=[tB 4 D [.bool s],tB wB I [.slice B 0 g.al.length g.al.length true],tB mE G [.az c 0],tS 3 1 (ak.map aN) ak.length true u]) U;refine RO.cl (afu T V hX Q cx N.mem c9 U λH9 P nw hP bv U=>?_);have U:=aj.kO (xs:=[tB 4 D [.bool s],tB wB I [.slice B 0 g.al.length g.al.length true],tB mE G [.az c 0],tS 3 1 (ak.map aN) ak.length true u]) U;have ax:∀A,aj H A (oE G I D B c g.al.length u (nw||s) vs f ak (fh E b P)++tX l o2::us)->Ru ac (CE H l o2 us (λts=>∃E s,(∀b∈ak,∀v,S b v->E b v)/\(s=true->∃b∈ak,∃v,E b v/\¬S b v)/\(s=false->E=S/\∀j,j<k+1->∀(hj:ak.length - 1 - j<ak.length),∀v,yW g os S ak[ak.length - 1 - j] v->S ak[ak.length - 1 - j] v)/\A0 g os E/\ts=oE G I D B c g.al.length u s vs f ak E) (λ_ _=>False)) [] [] A:=λA U=>by
    refine Ru.bG (ts:=oE G I D B c g.al.length u (nw||s) vs f ak (fh E b P)) U ⟨_,_,λx hx v hv=>?_,λC=>?_,λC=>?_,h4.ki λv hv=>(hP v).1 hv,rfl⟩
    .simp only[fh];split;·rename_i e;subst e;exact(hP v).2 (.inl (h1 x hx v hv))
     exact h1 x hx v hv
    .cases nw with
     |true=>obtain⟨v,hv,hn⟩:=bv.1 rfl;exact⟨b,bb,v,by simp only[Fi];exact hv,λe0=>hn (h1 b bb v e0)⟩
     |false=>
      obtain⟨x,hx,v,hv,hn⟩:=h2 C;refine⟨x,hx,v,?_,hn⟩;simp only[fh];split;·rename_i e;subst e;exact(hP v).2 (.inl hv)
      exact hv
    simp only[Bool.or_eq_false_iff]at C;obtain⟨e,Y⟩:=h3 C.2;have b0:∀v,P v->E b v:=λv hv=>akx λhn=>by have:=bv.2 ⟨v,hv,hn⟩;rw[C.1]at this;cases this
    refine⟨?_,λj hj dr v hv=>?_⟩
    .rw[<-e];funext x v;simp only[fh];split;·rename_i e2;subst e2;exact propext ⟨b0 v,λe0=>(hP v).2 (.inl e0)⟩
     rfl
    by_cases ds:j=k;·subst ds;rw[c']at hv⊢;rw[<-e]at hv⊢;exact b0 v ((hP v).2 (.inr hv))
    exact Y j af dr v hv
   cases nw with|true=>refine ah ?_;refine RO.gG U 0 (λdv U=>?_);refine ah ?_;exact Ru.wk (ax _ U)|false=>refine ah ?_;refine RO.gG U 0 (λdv U=>?_);refine ah ?_;exact Ru.wk (ax _ U)
  obtain⟨E,s,h1,h2,h3,h4,rfl⟩:=hJ;refine ah ?_;refine RO.fx U λH8 b3 U=>?_;refine ah ?_;have U:aj H H8 (oE G I b3 B c g.al.length u s vs f ak E++i9 (dm::O)):=U.sub (.cons_cons _ (.cons _ (akL _)));have Z:(if s=true then Fj g.bp.toNat ak E+1 else 0)<m:=by rw[<-cy,aK rfl];cases s with|false=>simp|true=>obtain⟨b,hb,v,hv,hn⟩:=h2 rfl;have hf:=(h4 b v hv).CS V.dO Q (V.sG come os Q) V.gv N ((N.mem b).1 hb);obtain⟨t,rfl⟩:∃t:Nat,v=(t:Int):=⟨v.toNat,by have:=hf.1;omega⟩;have:=afw (nv:=g.bp.toNat) h1 hb (v:=t) (by have:=hf.2.1;omega) hv hn;rw[aK rfl];omega
  exact Ru.wk (ih _ Z H8 (dm::O) E s b3 rfl (λC b hb v hv=>by obtain⟨rfl,Y⟩:=h3 C;obtain⟨i,hi,rfl⟩:=aka hb;have:=Y (ak.length - 1 - i) af af;simp only[show ak.length - 1 - (ak.length - 1 - i)=i by omega]at this;exact this v hv) h4 U)
 subst C;refine Ru.exitTo ?_;have eZ:∀b,come.getD b false=true->∀v,S b v↔Lv g os b v:=λb hb v=>⟨a' b v,λe0=>(Y rfl).all V.dO Q N.mem e0 ((N.mem b).2 hb)⟩;have dx:=hX.c2;have ej:=V.gv.v0;have X:=V.fm.fv.h2;obtain⟨nv,dy⟩:∃n:Nat,g.bp=(n:Int):=⟨g.bp.toNat,af⟩;refine ah ?_;refine RO.aW ?_ (v:=d) (hc:=by rw[U.gr.bh a2];exact bd);refine ah ?_;refine RO.oT U (n:=g.al.length) (λH6 qo U=>?_) (hz:=by rw[iZ];simp);rw[iZ]at U;refine ah ?_;have U:=U.rl;refine Ru.nm λS0 M hS W=>?_;refine Ru.cC W (up (P:=λk=>∀A r R F,r.length=g.al.length->(∀b,b<k->tR 1 ((R b).map aI) (R b).length (r.getD b .co)∈F)->(∀b:Nat,b<k->(R b).length<=nv/\∀v:Int,v∈R b↔come.getD b false=true/\S b v)->(∀b,k<=b->b<g.al.length->r.getD b .co=.aS)->aj H A (tZ F::tS eH 1 r g.al.length true (.slice qo 0 g.al.length g.al.length true)::(oE G I D B c g.al.length u false vs f ak S++i9 O))->Ru ac ⟨pu [.tmp p2] K,O,none⟩ S0 ([(dR,aN k)]++pk M [p1,p3,aO,dY,dZ]) A) g.al.length (λk hk ih A r R F L hF av ay U=>?_) 0 af _ _ (λ_=>[]) [] aB (λb hb=>absurd hb af) (λb hb=>absurd hb af) (λb _ hb=>by rw[bF (by simpa using hb)];simp) U);subst hS;subst W;refine Ru.loop ?_;refine au ?_;refine Ru.cond (λy=>?_) (λy=>?_)
 .refine ah ?_;have dz:vs[0+k*1]?=some (vs.getD k .co):=by rw[show 0+k*1=k by omega,bF af];simp
  have bc:vs.getD k .co=.map (f k)/\k∈ak\/vs.getD k .co=.cY/\k∉ak:=by
   by_cases J:k∈ak;·exact .inl ⟨b6 k J,J⟩
   exact .inr ⟨b' k y J,J⟩
  have d0:(vs.getD k .co).bB=true:=by rcases bc with⟨e,_⟩|⟨e,_⟩<;>rw[e]<;>rfl
  refine RO.fD U 6 (hv:=dz) ?_;generalize vs.getD k .co=mv at bc d0;refine ah ?_;refine RO.aW ?_ (v:=aN nv) (hc:=by rw[U.gr.bh a2,dx,dy];rfl);refine ah ?_;have U:=U.py 3 1;have d1:r.set k .aS=r:=by have:=ay k (afb _) y;rw[bF af]at this;rw[<-this];exact List.set_getElem_self _
  rw[<-d1]at U;refine Ru.nm λS0 M hS W=>?_;refine Ru.cC W (up (P:=λj=>∀A(p:List Int)w,p.length<=j->(∀v:Int,v∈p↔0<=v/\v<j/\come.getD k false=true/\S k v)->aj H A (tS 3 1 (p.map aI) p.length true w::tZ F::tS eH 1 (r.set k w) g.al.length true (.slice qo 0 g.al.length g.al.length true)::(oE G I D B c g.al.length u false vs f ak S++i9 O))->Ru ac ⟨pu [.tmp p2] K,O,none⟩ S0 ([(eO,aN j)]++pk M [p1,p3,aO,aR,aY,dY,dZ,dR,fg]) A) nv (λj hj b4 A p w d2 ag U=>?_) 0 af _ [] .aS aB (λv=>by simp;omega) U);subst hS;subst W;have⟨ek,el,er,_⟩:=(U.sl (e:=3) (size:=1) (sv:=w) (vs:=p.map aI) (n:=p.length) (full:=true) 0).all;have ba:(r.set k w)[0+k*1]?=some w:=by rw[show 0+k*1=k by omega,List.getElem?_set_self af]
  refine Ru.loop ?_;refine au ?_;refine Ru.cond (λZ=>?_) (λZ=>?_)
  .have b5:∀A,¬(come.getD k false=true/\S k j)->aj H A (tS 3 1 (p.map aI) p.length true w::tZ F::tS eH 1 (r.set k w) g.al.length true (.slice qo 0 g.al.length g.al.length true)::(oE G I D B c g.al.length u false vs f ak S++i9 O))->_:=λA hn U=>b4 (j+1) af af A p w af (λv=>by
    rw[ag];constructor;·rintro⟨a1,cd,a3⟩;exact⟨a1,af,a3⟩
    rintro⟨a1,cd,a3⟩;refine⟨a1,?_,a3⟩;rcases akW v.toNat j with e0|e0;·omega
    obtain rfl:v=(j:Int):=af;exact absurd a3 hn) U;refine ah ?_;rcases bc with⟨rfl,J⟩|⟨rfl,J⟩
   .have hat:(tS 3 1 (p.map aI) p.length true w::tZ F::tS eH 1 (r.set k w) g.al.length true (.slice qo 0 g.al.length g.al.length true)::(oE G I D B c g.al.length u false vs f ak S++i9 O))[7+(ak.idxOf k+1)]?=some (tM false (f k) (S k)):=by simp only[oE,aj2];exact rr (xs:=[_,_,_,_,_,_,_]) (Fh J)
    have d3:=(N.mem k).1 J;refine RO.CU U _ (λt ht=>?_) (hi:=hat) (z:=(j:Int));refine ah ?_;refine Ru.kN (λaw=>?_) (λaw=>?_)
    .have d4:=ht.1 aw;refine ah ?_;refine RO.fD U 2 (hv:=ba) ?_;refine ah ?_;refine RO.push U 0 (λw0 H7 v2 U=>?_) (ws:=[aN j]);have⟨et,ev,ew,_⟩:=(U.sl (e:=3) (size:=1) (n:=p.length+1) (full:=true) (sv:=v2) 0).all;refine ah ?_;refine RO.yK (vs:=r.set k w) (n:=g.al.length) U 2 (by rw[ak4];exact L) (λH8 U=>?_) (k:=k) (ho:=by rw[ak4];omega);refine ah ?_;have e1:(p++[(j:Int)]).map aI=p.map aI++[aN j]:=aB;have e2:(p++[(j:Int)]).length=p.length+1:=aB;have U:aj H H8 (tS 3 1 ((p++[(j:Int)]).map aI) (p++[(j:Int)]).length true v2::tZ F::tS eH 1 (r.set k v2) g.al.length true (.slice qo 0 g.al.length g.al.length true)::(oE G I D B c g.al.length u false vs f ak S++i9 O)):=by rw[e1,e2,<-List.set_set (a:=w)];exact U
     exact Ru.wk (b4 (j+1) af af H8 _ v2 (by rw[e2];omega) (λv=>by
      rw[ahp,aep,ag];constructor
      .rintro(⟨a1,cd,a3⟩|rfl);·exact⟨a1,af,a3⟩
       exact⟨af,af,d3,d4⟩
      rintro⟨a1,cd,a3⟩;by_cases e:v=(j:Int);·exact .inr e
      exact .inl ⟨a1,af,a3⟩) U)
    refine ah ?_;exact Ru.wk (b5 _ (λe0=>by rw[ht.2 e0.2]at aw;cases aw) U)
   refine RO.afv (z:=(j:Int)) ?_;refine ah ?_;exact Ru.wk (b5 _ (λe0=>J ((N.mem k).2 e0.1)) U)
  refine Ru.exitTo ?_;obtain rfl:j=nv:=af;refine ah ?_;have U:=(U.as 0 rfl λfp hp=>tS.mg hp).lq;exact Ru.wk (ih (k+1) af af A (r.set k w) (λb=>if b=k then p else R b) _ (by simpa using L) (λb hb=>by
   rw[fu af];by_cases e:b=k;·rw[aK e,aK e];exact aeU ..
   rw[aq e,aq e];exact aey _ (hF b af)) (λb hb=>by
   by_cases e:b=k;·subst e;rw[aK rfl];refine⟨d2,λv=>?_⟩;rw[ag];refine⟨λe0=>e0.2.2,λe0=>?_⟩;have hf:=((a' b v e0.2).CS V.dO Q (V.sG come os Q) V.gv N e0.1);exact⟨hf.1,by have:=hf.2.1;omega,e0⟩
   rw[aq e];exact av b af) (λb hb z=>by rw[fu af,aq af];exact ay b af z) U)
 refine Ru.exitTo ?_;obtain rfl:k=g.al.length:=af;refine ah ?_;refine Ru.mI (M:=O) (U.cM (akH (l₁:=_::_::oE G I D B c g.al.length u false vs f ak S))) λH' U=>⟨[.slice qo 0 g.al.length g.al.length true],⟨rfl,rfl,trivial⟩,e0 H' _ ((ake g.al.length).map R) r F ?_ ?_ ?_⟩
 .have e:∀b,b<g.al.length->((ake g.al.length).map R).getD b []=R b:=λb hb=>by rw[bF (by simpa using hb)];simp
  refine⟨aB,λb hb v=>?_,λb hb=>?_,λb=>?_⟩;·have z:=Q.lt hb;rw[e b z,(av b z).2,eZ b hb];exact⟨λe0=>e0.2,λe0=>⟨hb,e0⟩⟩
  .by_cases z:b<g.al.length;·rw[e b z];refine List.eq_nil_iff_forall_not_mem.2 λv hv=>?_;have:=((av b z).2 v).1 hv;rw[hb]at this;cases this.1
   rw[akm,List.getElem?_eq_none (by simpa using z)];rfl
  by_cases z:b<g.al.length;·rw[e b z];have:=(av b z).1;omega
  rw[akm,List.getElem?_eq_none (by simpa using z)];exact Nat.zero_le _
 .refine⟨by simpa using L,λb hb=>?_⟩;simp only[akg,List.length_range]at hb;rw[bF (by simpa using hb)];simp only[akN,alA];exact hF b hb
 rw[L];exact U.sub (.cons_cons _ (.cons_cons _ (List.nil_sublist _)))
end
end
section
section
variable{g:G.bu}{H:ai}
theorem afy(T:Tb ac)(V:Vd g){cs:List AV}(hg:iG H g cs){K:KT}(p:∀H' v b os j a F,cX g b os->gP g b os j->lQ j a F->aj H H' [tZ F,tS eH 1 a a.length true v]->K (.tuple [v,aI 0]) H'):YN ac WH [.agg cs] H K:=by have o:=hg.one;obtain⟨h,rfl,cA⟩:=hg;refine YF.code T.abs aB ?_;refine au ?_;refine RO.dL (aj.dc H) λH1 q U=>?_;refine ah ?_;refine RO.eQ U 0 ?_;refine RO.cl (afe T V (cs:=[.str g.name,aI g.params,aI g.bp,h]) ⟨h,rfl,dQ.block.jU U.gr cA⟩ rfl λt u d w b os c k r i=>afx T V r i λs v j a F l m hl=>?_);have⟨n,_,_,_⟩:=(hl.sl (e:=eH) (size:=1) (sv:=v) (vs:=a) (n:=a.length) (full:=true) 1).all;refine⟨n,?_⟩;refine ah ?_;exact Ru.tk (p s v b os j a F i l m (hl.Nz (U.gr.trans k)))
end
def jn:List bV->List AV
 |[]=>[]
 |o::l=>aI o.1:: .bool (o.2==0)::jn l
theorem P8:∀{l:List bV}{k:Nat}(h:k<l.length),((jn l).drop (k*2)).take 2=[aI l[k].1,.bool (l[k].2==0)]|o::l,0,_=>rfl|o::l,k+1,h=>by have:=P8 (l:=l) (k:=k) (by simpa using h);grind[jn]
theorem JO:∀(a b:List bV),jn (a++b)=jn a++jn b|[],b=>rfl|o::a,b=>by simp only[akV,jn,JO a b]
theorem P9:∀(l:List bV)(b:Nat),(jn l).take (b*2)=jn (l.take b)|[],b=>by simp[jn]|o::l,0=>by rfl|o::l,b+1=>by rw[show(b+1)*2=b*2+2 by omega];simp only[jn,als,P9 l b]
abbrev pJ(H:ai)(l:List bV)(v:AV):Prop:=Sl H 2 (jn l) l.length v
abbrev Qa:bV->List AV->Prop:=λo cs=>cs=[aI o.1,.bool (o.2==0)]
theorem pJ.r{H:ai}{l:List bV}{v:AV}(h:pJ H l v):dV 2 (λ_=>Qa) H l v:=⟨_,h,λk a=>P8 a⟩
structure yX(H:ai)(fq:ab)(vb ov:AV)(svs:List AV)(n:Nat):Prop where
 lt:fq.an<H.next.an
 aH:bh H fq 3=some vb
 jY:bh H fq 5=some ov
 sl:Sl H 1 svs n ov
theorem yX.cI{H H':ai}{f:ab}{d e:AV}{c:List AV}{n:Nat}(h:yX H f d e c n)(g:bm H H'):yX H' f d e c n:=⟨ako h.lt g.nx,by rw[g.bh h.lt];exact h.aH,by rw[g.bh h.lt];exact h.jY,g.sl h.sl⟩
section
variable{g:G.bu}{d e:AV}{f:ab}{A H:ai}{us:List Th}{c:List AV}{now:List bV}
theorem afz(T:Tb ac)(a:yX H f d e c g.al.length){b:Nat}(hb:b<g.al.length)(hs:pJ H now (c.getD b .co))(h0:now≠ [])(m:now.length<=1000){K:KT}(j:∀H' o,now.getLast?=some o->bm H H'->K (.agg [aI o.1,.bool (o.2==0)]) H'):YN ac Xe [.az f 0,aN b] H K:=by
 have⟨n,_,_,p⟩:=hs.all;have h:=a.jY;have i:0<now.length:=by cases now with|nil=>exact absurd rfl h0|cons _ _=>simp
 refine YF.code T.ab6 aB ?_;refine au ?_;refine RO.gI (aj.dc H) λH1 w U=>?_;refine ah ?_;refine RO.aW ?_ (v:=e) (hc:=by rw[U.gr.bh a.lt];exact h);refine ah ?_;refine RO.vu U.gr a.sl (λx y q _=>?_) (j:=b);refine ah ?_;refine RO.aW ?_ (v:=e) (hc:=by rw[U.gr.bh a.lt];exact h);refine ah ?_;refine RO.vu U.gr a.sl (λz A s _=>?_) (j:=b);refine ah ?_;refine RO.arith (v:=aN (now.length - 1)) ?_ (hv:=px af af);refine RO.cZ U.gr (pJ.r hs) (λt u v hj k _ _ hrd=>?_) (j:=now.length - 1);subst k;refine ah ?_;refine RO.iT U 0 (λl U=>?_);refine ah ?_;refine Ru.lM (vs:=[.agg [aI (now[now.length - 1]).1,.bool ((now[now.length - 1]).2==0)]]) ⟨⟨_,_,rfl,U.agg 0⟩,trivial⟩ (j l _ ?_ U.gr);rw[List.getLast?_eq_getElem?,akP hj]
theorem afA(T:Tb ac)(D:G.Sm g)(hb:dV 7 kj A g.al d)(r:bm A H)(j:yX H f d e c g.al.length){b:Nat}(k:b<g.al.length)(hs:pJ H now (c.getD b .co))(v:CO g now)(h0:now≠ [])(l:now.length<=1000){K:KT}(h:∀H' o,now.getLast?=some o->bm H H'->K (aI (na g o)) H'):YN ac WX [.az f 0,aN b] H K:=by have⟨y,_,_,_⟩:=hb.all;have m:=j.aH;refine YF.code T.abN aB ?_;refine ah ?_;refine RO.EN (afz T j k hs h0 l λH1 o s a=>⟨by rw[a.bh j.lt];exact m,?_⟩) (hvs:=hb.bX);obtain⟨h1,h2,h3⟩:=v.ok o (List.mem_of_getLast? s);obtain⟨t,u⟩:∃t:Nat,o.1=(t:Int):=⟨o.1.toNat,af⟩;have h:=h H1 o s a;simp only[na,u,aj3]at h3 h;have n:t<g.al.length:=af;rw[bF n]at h3 h;rw[u];refine ah ?_;refine RO.cZ (r.trans a) hb (λw o2 c2 z p _ hat _=>?_) (j:=t);obtain⟨E,F,I,rfl,_,_,J,L,x,rfl,_,_,i⟩:=p;have⟨B,_,_,_⟩:=i.all;refine ah ?_;refine RO.aW (i:=w) (o:=o2+2+4) (v:=x) ?_ (hc:=hat 6 _ rfl);refine RO.cZ (r.trans a) i (λM o3 c3 C q _ hat _=>?_) (hj:=by omega);obtain⟨v3,rfl,_⟩:=q;refine ah ?_;refine Ru.aV ?_;rw[bF af]at h;exact h
end
end
section
theorem Qb(T:Tb ac){B H:ai}{size n:Nat}{d:List AV}{v:AV}(hs:Sl B size d n v):YN ac WW [v] H λe H'=>e=wR v n/\H'=H:=by
 have⟨hd,_,_,g⟩:=hs.all;refine YF.code T.abM aB ?_;refine au ?_;rcases hs with⟨rfl,rfl,rfl⟩|⟨i,o,cap,ex,h,m,j,f,aM,fz,rfl,hg,k,hl,l,hi,b⟩;·refine RO.Cb (m:=0) (b:=0) (a:=0) rfl rfl rfl rfl ?_;refine au ?_;exact Ru.aV ⟨rfl,rfl⟩
 refine RO.HW (m:=n) (b:=n) (a:=0) (v:=.slice i o n n true) rfl (by show oJ (aN n) cap=_;exact tu b) (by show oJ (aN n) n=_;exact tu (afb n)) rfl aB aB ?_;refine au ?_;exact Ru.aV ⟨rfl,rfl⟩
def afB(W:List (Int×List bV))(b:List bV)(nv:AV)(k:Nat)(args:List AV)(d:List Th):Prop:=
 ∃(h:k<W.length)(v:AV),args=[aI W[k].1,v]/\v.bB=true/\v.ee=true/\v.cells=[v]/\((d=[]/\∀H,pJ H b nv->pJ H W[k].2 v)\/d=[tS NE 2 (jn W[k].2) W[k].2.length true v])
section
variable{g:G.bu}{c:AV}{a:ab}{A H:ai}{us:List Th}
theorem Qc(T:Tb ac){b:Nat}{K:KT}(f:∀H' d e,aj H H' [tB 3 e [aN b],tB iH d [.az a 0]]->K (.func Ex [] [.az d 0,.az e 0]) H'):YN ac WI [.az a 0,aN b] H K:=by refine YF.code T.abt aB ?_;refine au ?_;refine RO.dL (aj.dc H) λH1 d U=>?_;refine RO.dL U λg e U=>?_;refine au ?_;exact Ru.aV (f _ d e U)
theorem Qd(T:Tb ac)(hB:G.Sm g)(hb:dV 7 kj A g.al c){b:Nat}{now:List bV}{nv:AV}{q1 N:ab}(hE:Jj g b)(hO:CO g now)(bd:now.length<=1000)(ar:(g.al.getD b default).aA.op=68->now≠ []):yI ac A (.func Ex [] [.az q1 0,.az N 0]) (cS g b now).length (afB (cS g b now) now nv) [tB 3 N [aN b],tB iH q1 [.az a 0]] (λH=>∃ov Q,yX H a c ov Q g.al.length/\Q.getD b .co=nv/\pJ H now nv) (λH=>pJ H now nv):=by
 intro y J D t us H K dr ds dv B i s U hR l;obtain⟨ov,Q,O,av,hs⟩:=hR;have hA:=U.gr;have⟨bv,_,_,dx⟩:=O.sl.all;have⟨aw,b0,b3,dy⟩:=hs.all;have⟨dz,d0,_,d1⟩:=hb.all;have d2:=O.aH;have b4:=O.jY;have b5:bh H q1 0=some (.az a 0):=by obtain⟨_,m⟩:=U.get 1 rfl;exact tB.cell m rfl
 have b6:bh H N 0=some (aN b):=by obtain⟨_,m⟩:=U.get 0 rfl;exact tB.cell m rfl
 have b':q1.an<H.next.an:=by obtain⟨_,m⟩:=U.get 1 rfl;obtain⟨_,_,_,_,_,h⟩:=m;exact h
 have ca:N.an<H.next.an:=by obtain⟨_,m⟩:=U.get 0 rfl;obtain⟨_,_,_,_,_,h⟩:=m;exact h
 obtain⟨q,I⟩:=hE;rw[bF q]at I ar;refine YF.code T.abL aB ?_;refine ah ?_;refine RO.cZ hA hb (λq3 o3 c3 d3 ax _ hat hrd=>?_) (j:=b);have c9:=ax.one;obtain⟨vp,vs,jc,rfl,_,_,hj⟩:=ax;have d4:=hj.one;obtain⟨va,vk,vg,rfl,d5,d6,n⟩:=hj;have⟨C,_,_,d7⟩:=n.all;refine ah ?_;refine RO.gw ?_ (hc:=I' (k:=2) (m:=5) hrd bA);refine ah ?_;refine RO.vu (bm.refl H) O.sl (λq4 o4 ay cd=>?_) (j:=b);rw[av]at ay;refine ah ?_;refine RO.gI (aj.dc H) λH1 q5 hl=>?_;refine RO.Ja hl 0 (λH2 hl=>⟨λaa d=>?_,?_⟩);·have hg:=hl.gr;refine il d rfl rfl aw hs.bX (by rw[hg.bh cd];exact ay) (il (v:=aN b) d rfl rfl rfl (by simp[iy,gz,fQ]) (by rw[hg.bh ca];exact b6) (il d rfl rfl bv O.sl.bX (by rw[hg.bh O.lt];exact b4) (il (v:=.az a 0) d rfl rfl rfl (by simp[iy,gz,ab.ip]) (by rw[hg.bh b'];exact b5) rfl)))
 have a1:=hl.gr;have U:=U.fC hl;refine ah ?_;have E:(g.al.getD b default).aA=(g.al[b]).aA:=by rw[bF q]
 refine Ru.cond (λ(r:(g.al[b]).aA.op=67)=>?_) (λ(r:¬(g.al[b]).aA.op=67)=>?_)
 .have h3:=I r;have a2:∀k(h:k<2),∃h':k<(cS g b now).length,(cS g b now)[k]=(((g.al[b]).aA.go[k]'af).block,now++[((b:Int),k)]):=λk h=>by
   have u:cS g b now=[(((g.al[b]).aA.go[0]'af).block,now++[((b:Int),0)]),(((g.al[b]).aA.go[1]'af).block,now++[((b:Int),1)])]:=by simp only[cS,E,aK r];rw[bF af,bF af]
   refine⟨by rw[u];simpa using h,?_⟩;simp only[u];match k,h with|0,_=>rfl|1,_=>rfl
  have cf:(cS g b now).length=2:=by simp only[cS,E,aK r];rfl
  obtain⟨a6,a8⟩:=a2 0 af;obtain⟨a',ba⟩:=a2 1 af;have cn:=B 0 t _ H2 s (aj.gF (xs:=[_,_,_]) U);refine ah ?_;refine RO.Jd U.gr n (λq8 o8 dm cp he _ f=>?_) (j:=0) (hj:=by omega);obtain⟨v8,rfl,_⟩:=he;refine ah ?_;refine RO.aW ?_ (hc:=f 0 _ rfl U.gr);refine ah ?_;refine RO.lf U 2 (ws:=[aN b,.bool true]) (λH4 q9 U=>?_);refine RO.Jb (v:=wR nv now.length) (λH0 _ _=>Qb T hs) (λP p R=>?_);have U:=U.bX R p;have V:=B 0 t _ P s (aj.gF (xs:=[_,_,_,_]) U);have w:bh P N 0=some (aN b):=by obtain⟨_,m⟩:=U.get 2 rfl;exact tB.cell m rfl
  have x:bh P q5 4=some vg:=by obtain⟨_,m⟩:=U.get 1 rfl;exact tB.cell m rfl
  refine⟨λaa d=>il (v:=aN b) d rfl rfl rfl (by simp[iy,gz,fQ]) w (il (v:=aI ((g.al[b]).aA.go[0]'af).block) d rfl rfl rfl (by simp[iy,gz,fQ]) (f 0 _ rfl U.gr) (il d rfl rfl C (n.bX) x rfl)),?_⟩;refine RO.Jc U (Jk V) (U.sl 0) (λH5 v5 _ U=>?_);have z:bh H5 q5 4=some vg:=by obtain⟨_,m⟩:=U.get 2 rfl;exact tB.cell m rfl
  refine⟨λaa d=>il (v:=aI ((g.al[b]).aA.go[0]'af).block) d rfl rfl rfl (by simp[iy,gz,fQ]) (f 0 _ rfl U.gr) (il d rfl rfl C (n.bX) z rfl),?_⟩;have W:Sl H5 2 (jn now++[aN b,.bool true]) (now.length+1) v5:=U.sl 0;have⟨X,Y,Z,_⟩:=W.all;have e5:jn (now++[((b:Int),0)])=jn now++[aN b,.bool true]:=JO _ _;have e6:(now++[((b:Int),0)]).length=now.length+1:=aB;rw[<-e5,<-e6]at U;refine ah ?_;refine RO.cl ((i 0 [aI ((g.al[b]).aA.go[0]'af).block,v5] [_] t _ _ a6 ⟨a6,v5,by rw[a8],X,Y,Z,.inr (by rw[a8])⟩ s (U.cM (akO _ (vt (xs:=[_,_,_,_]))))).mono ?_);rintro v H3⟨j,U,hc⟩;rcases hc with⟨rfl,s⟩|⟨rfl,h⟩
  .have U:=aj.kO (xs:=[_,_,_,_]) U;have cn:=B 1 j _ _ s (aj.gF (xs:=[_,_,_,_]) U);refine ah ?_;refine RO.Jd U.gr n (λq8 o8 dm cp he _ f=>?_) (j:=1) (hj:=by omega);obtain⟨v8,rfl,_⟩:=he;refine ah ?_;refine RO.aW ?_ (hc:=f 0 _ rfl U.gr);refine ah ?_;refine RO.lf U 2 (ws:=[aN b,.bool false]) (λH4 q9 U=>?_);refine RO.Jb (v:=wR nv now.length) (λH0 _ _=>Qb T hs) (λP p R=>?_);have U:=U.bX R p;have V:=B 1 j _ P s (aj.gF (xs:=[_,_,_,_,_]) U);have w:bh P N 0=some (aN b):=by obtain⟨_,m⟩:=U.get 3 rfl;exact tB.cell m rfl
   have x:bh P q5 4=some vg:=by obtain⟨_,m⟩:=U.get 2 rfl;exact tB.cell m rfl
   refine⟨λaa d=>il (v:=aN b) d rfl rfl rfl (by simp[iy,gz,fQ]) w (il (v:=aI ((g.al[b]).aA.go[1]'af).block) d rfl rfl rfl (by simp[iy,gz,fQ]) (f 0 _ rfl U.gr) (il d rfl rfl C (n.bX) x rfl)),?_⟩;refine RO.Jc U (Jk V) (U.sl 0) (λH5 v5 _ U=>?_);have z:bh H5 q5 4=some vg:=by obtain⟨_,m⟩:=U.get 3 rfl;exact tB.cell m rfl
   refine⟨λaa d=>il (v:=aI ((g.al[b]).aA.go[1]'af).block) d rfl rfl rfl (by simp[iy,gz,fQ]) (f 0 _ rfl U.gr) (il d rfl rfl C (n.bX) z rfl),?_⟩;have W:Sl H5 2 (jn now++[aN b,.bool false]) (now.length+1) v5:=U.sl 0;have⟨X,Y,Z,_⟩:=W.all;have e5:jn (now++[((b:Int),1)])=jn now++[aN b,.bool false]:=JO _ _;have e6:(now++[((b:Int),1)]).length=now.length+1:=aB;rw[<-e5,<-e6]at U;refine ah ?_;refine RO.cl ((i 1 [aI ((g.al[b]).aA.go[1]'af).block,v5] [_] j _ _ a' ⟨a',v5,by rw[ba],X,Y,Z,.inr (by rw[ba])⟩ s (U.cM (akO _ (vt (xs:=[_,_,_,_,_]))))).mono ?_);rintro v H3⟨j,U,hc⟩;refine ah ?_;refine Ru.aA (vs:=[]) trivial (l _ j _ (by rw[<-aj2]at U;exact U.skip) ?_);rcases hc with⟨_,h⟩|⟨_,h⟩;·left;rw[cf];exact h
   exact .inr h
  refine ah ?_;exact Ru.aA (vs:=[]) trivial (l _ j _ (by rw[<-aj2]at U;exact U.skip) (.inr h))
 refine ah ?_;refine Ru.cond (λ(F:(g.al[b]).aA.op=68)=>?_) (λ(F:¬(g.al[b]).aA.op=68)=>?_)
 .have h0:=ar F;have c':0<now.length:=by cases now with|nil=>exact absurd rfl h0|cons _ _=>simp
  have u:cS g b now=match now.getLast? with|some o=>[(na g o,now.take (now.length - 1))]|none=>[]:=by simp only[cS,E,aq r,aK F]<;>rfl
  refine ah ?_;refine RO.arith (v:=aN (now.length - 1)) ?_ (hv:=px af af);refine ah ?_;refine RO.pc hs (b:=now.length - 1) ?_;have L:∀H',pJ H' now nv->pJ H' (now.take (now.length - 1)) (pc nv (now.length - 1)):=λH' h=>by
   have e:(now.take (now.length - 1)).length=now.length - 1:=by rw[akF];omega
   show Sl H' 2 (jn _) _ _;rw[e,<-P9];exact CF h af
  have⟨cv,cx,cy,_⟩:=(L _ hs).all;refine RO.cl (afA T hB hb U.gr (O.cI a1) q (by rw[av];exact a1.sl hs) hO h0 bd λH3 o ag cE=>?_);have U:=U.cI cE;rw[ag]at u;simp only at u;rw[u]at i l;refine RO.cl ((i 0 [aI (na g o),pc nv (now.length - 1)] [] t _ _ aB ⟨aB,_,rfl,cv,cx,cy,.inl ⟨rfl,L⟩⟩ s (aj.gF (xs:=[_,_,_]) U)).mono ?_);rintro v H3⟨j,U,hc⟩;refine ah ?_;refine Ru.aA (vs:=[]) trivial (l _ j _ (by rw[<-aj2]at U;exact U.skip) ?_);rcases hc with⟨_,h⟩|⟨_,h⟩;·exact .inl h
  exact .inr h
 have u:cS g b now=(g.al[b]).aA.go.map λe=>(e.block,now):=by simp only[cS,E,aq r,aq F]
 have d':=hB.bl _ (agB q);refine ah ?_;refine Ru.nm λS M hS hM=>?_;refine Ru.cC hM (up (P:=λk=>∀HX t,J k t->aj A HX (tB tx q5 _::([tB 3 N [aN b],tB iH q1 [.az a 0]]++t++us))->Ru ac _ S ([(b7,aN k)]++pk M [p0,p5,ct,cz]) HX) (g.al[b]).aA.go.length (λk hk ih HX t s U=>?_) 0 af _ t s U);subst hS;subst hM;refine Ru.loop ?_;refine au ?_;refine Ru.cond (λbb=>?_) (λbb=>?_)
 .refine au ?_;refine RO.cZ U.gr n λq6 o6 c6 ea he _ hat hrd=>?_;have c8:=he.one;obtain⟨v6,rfl,_⟩:=he;refine ah ?_;refine RO.fx U λH5 q7 U=>?_;refine ah ?_;have bc:k<(cS g b now).length:=by rw[u,akg];exact bb
  refine RO.cl ((i k [aI ((g.al[b]).aA.go[k]).block,nv] [] t _ _ bc ⟨bc,nv,by simp only[u,akN],aw,b0,b3,.inl ⟨rfl,λH' h=>by simp only[u,akN];exact h⟩⟩ s (aj.gF (xs:=[_,_,_,_]) U)).mono ?_);rintro v H3⟨j,U,hc⟩;rcases hc with⟨rfl,h⟩|⟨rfl,h⟩;·refine ah ?_;exact Ru.wk (ih (k+1) af af _ _ h (aj.kO (xs:=[_,_,_,_]) U).tail)
  refine ah ?_;exact Ru.mD (vs:=[]) trivial (l _ j _ (by rw[<-aj2]at U;exact U.skip) (.inr h))
 refine Ru.exitTo ?_;refine ah ?_;refine Ru.aA (vs:=[]) trivial (l _ t _ U.tail.tail.tail (.inl ?_));rw[u,akg,show(g.al[b]).aA.go.length=k by omega];exact s
end
end
section
structure FX(g:G.bu)(H:ai)(fq:ab)(vb ov av lvv:AV)(svs:List AV)(come:List Bool)(os:List (List bV))(ak:List Nat)(lv:List (List Int)):Prop where
 ro:yX H fq vb av svs g.al.length
 bl:dV 7 kj H g.al vb
 c1:bh H fq 1=some (aI g.params)
 c2:bh H fq 2=some (aI g.bp)
 c4:bh H fq 4=some ov
 od:Sl H 1 (ak.map aN) ak.length ov
 c6:bh H fq 6=some lvv
 sl:CX H lv lvv
 op:∀b,come.getD b false=true->pJ H (os.getD b []) (svs.getD b .co)
theorem FX.cI{g:G.bu}{H H':ai}{d:ab}{a h e p:AV}{c:List AV}{come:List Bool}{os:List (List bV)}{ak:List Nat}{f:List (List Int)}(o:FX g H d a h e p c come os ak f)(hg:bm H H'):FX g H' d a h e p c come os ak f:=by have hl:=o.ro.lt;obtain⟨h1,h2,h3,i,j,k,l,m,n⟩:=o;exact⟨h1.cI hg,dQ.block.jU hg h2,by rw[hg.bh hl];exact h3,by rw[hg.bh hl];exact i,by rw[hg.bh hl];exact j,hg.sl k,by rw[hg.bh hl];exact l,dQ.P5.jU hg m,λb hb=>hg.sl (n b hb)⟩
section
variable{g:G.bu}{come z:List Bool}{os u:List (List bV)}
theorem cX.bX(c:jm g)(f:cX g come os)(e:cX g z u){b:Nat}(hb:come.getD b false=true):z.getD b false=true/\u.getD b []=os.getD b []:=e.sF c (f.dO b hb)
theorem Lv.bX(c:jm g)(n:cX g come os)(j:cX g z u){b:Nat}{v:Int}(hl:Lv g os b v):come.getD b false=true->Lv g u b v:=by
 induction hl with
 |qQ h1 h2=>intro _;exact .qQ h1 h2
 | @ls b w v k _ f i=>
  intro hb;have e:wW g u b=wW g os b:=by simp only[wW,(n.bX c j hb).2]
  exact .ls (by rw[e];exact k) (i (n.ls hb k)) f
 | @sC b t v l _ f i=>intro hb;obtain⟨_,_,_,_,m,_⟩:=vD c n hb l;exact .sC (by rw[(n.bX c j hb).2];exact l) (i m) f
theorem gP.bX{i:List (List Int)}(e:jm g)(k:cX g come os)(f:cX g z u)(hl:gP g come os i):gP g z u i:=by
 refine⟨hl.len,λb hb v=>?_,λb hb=>hl.JN b ?_,hl.jx⟩;·have c:=(f.bX e k hb).1;rw[hl.mem b c];exact⟨λx=>x.bX e k f c,λx=>x.bX e f k hb⟩
 cases j:come.getD b false with|false=>rfl|true=>rw[(k.bX e f j).1]at hb;cases hb
end
theorem kG{L:Kn}{e c cs r:List AV}{off size:Nat}{x:aJ}{v:AV}{b:List (Nat×Nat×aJ)}(f:bf L x=v)(hd:v.bB=true)(g:v.cells=cs)(hs:cs.length=size)(hl:uq e off cs=some c)(i:qO L c b=some r):qO L e ((off,size,x)::b)=some r:=by simp[f,hd,g,hs,hl,i,qO,decide_true,alK,bq]
theorem Qe{size:Nat}{l w:List AV}{n m:Nat}{nv v:AV}(g:∀H,Sl H size l n nv->Sl H size w m v){H:ai}{f:List ab}(F:(tR size l n nv).P H f):(tR size w m v).P H f:=by
 obtain⟨h1,h2,h3⟩:=F;refine⟨g H h1,λi o m c e D=>?_,h3⟩;apply akx;intro hi;have E:Sl (H.set i .none) size l n nv:=by
  rcases h1 with F|⟨r,x,cap,ex,y,A,B,j,aM,fz,b,k,C⟩;·exact .inl F
  have t:r≠i:=λe=>hi (e▸h2 _ _ _ _ _ b);exact .inr ⟨r,x,cap,ex,y,A,B,j,aM,fz,b,by rw[ai.aF,aq t];exact k,C⟩
 have b:=g _ E;subst D;rcases b with⟨F,_⟩|⟨r,x,cap,ex,y,A,B,j,aM,fz,b,k,C⟩;·cases F
 injection b with b;subst b;rw[ai.aF,aK rfl]at k;cases k
section
variable{g:G.bu}{a h p:AV}{d s q:ab}{A H:ai}{us:List Th}
def wV(g:G.bu)(a h p:AV)(d s q:ab)(ak:List Nat)(b:List AV)(F:List Th):List Th:=[tB Wc d [.str g.name,aI g.params,aI g.bp,a,h,.slice q 0 g.al.length g.al.length true,p],tS Ik 1 b g.al.length true (.slice q 0 g.al.length g.al.length true),tB iH s [.az d 0],tZ F,tS 3 1 (ak.map aN) ak.length true h]
theorem Qf(T:Tb ac)(V:Vd g){cs:List AV}(hg:iG H g cs){K:KT}(hK:∀H' d a h c8 p i come os ak lv,cX g come os->e9 g come os ak->gP g come os lv->bm H H'->FX g H' d a h c8 p i come os ak lv->K (.tuple [.az d 0,aI 0]) H'):YN ac NU [.agg cs] H K:=by
 have cy:=hg.one;have hB:=V.sm;have c9:=hB.nb;obtain⟨a,rfl,cA⟩:=hg;have⟨c',dr,ds,a2⟩:=cA.all;refine YF.code T.aa9 aB ?_;refine au ?_;refine RO.dL (aj.dc H) λH1 q1 U=>?_;refine ah ?_;refine RO.eQ U 0 ?_;refine RO.cl (aff T V (cs:=[.str g.name,aI g.params,aI g.bp,a]) ⟨a,rfl,dQ.block.jU U.gr cA⟩ λH2 h come os ak n P hl=>?_);have U:=U.fC hl;have⟨a6,dv,a8,dx⟩:=(hl.sl (e:=3) (size:=1) (sv:=h) (vs:=ak.map aN) (n:=ak.length) (full:=true) 0).all;have dy:ak.length<=g.al.length:=vB _ _ P.nd λx L=>n.lt ((P.mem x).1 L);refine ah ?_;refine RO.eQ U 1 ?_;refine ah ?_;refine RO.oT U (n:=g.al.length) (λH3 q U=>?_) (hz:=by rw[iZ];simp);rw[iZ]at U;refine ah ?_;refine RO.build (vs:=[.str g.name,aI g.params,aI g.bp,a,h,.slice q 0 g.al.length g.al.length true,.aS]) ?_ (hl:=kG rfl rfl rfl rfl rfl (kG rfl a6 a8 rfl rfl (kG rfl rfl rfl rfl rfl rfl)));refine RO.dL U (λH4 d U=>?_) (v:=.agg [.str g.name,aI g.params,aI g.bp,a,h,.slice q 0 g.al.length g.al.length true,.aS]);refine RO.fx U λH5 s U=>?_;refine ah ?_;refine RO.eQ U 4 ?_;have dz:d.an<H5.next.an:=by obtain⟨_,A⟩:=U.get 1 rfl;obtain⟨_,_,_,_,_,d7⟩:=A;exact d7
 have a':s.an<H5.next.an:=by obtain⟨_,A⟩:=U.get 0 rfl;obtain⟨_,_,_,_,_,d7⟩:=A;exact d7
 have ba:bh H5 s 0=some (.az d 0):=by obtain⟨_,A⟩:=U.get 0 rfl;exact tB.cell A rfl
 refine RO.EN (afy T V (cs:=[.str g.name,aI g.params,aI g.bp,a]) ⟨a,rfl,dQ.block.jU U.gr cA⟩ λH6 p cx d0 lv r F2 bb Q bc R=>⟨by rw[R.gr.bh a'];exact ba,?_⟩) (hvs:=by simp[iy,gz,ab.ip]);have Q:=Q.bX V.dO bb n;have⟨bd,bv,b0,_⟩:=(R.sl (e:=eH) (size:=1) (sv:=p) (vs:=r) (n:=r.length) (full:=true) 1).all;have U:aj H H6 ([_,_,_,_,_]++[tZ F2,tS eH 1 r r.length true p]):=(U.fC R).cM akH;refine ah ?_;refine RO.gG U 1 (λH7 U=>?_);refine ah ?_;have U:=(((((U.py 222 2).as 0 rfl λfp A=>tS.mg A).rl.cM (akS ..)).lq.gk 1 rfl).gk 3 rfl).gk 3 rfl;have U:aj H H7 (wV g a h p d s q ak (ahr g.al.length .aS) [tR 2 (jn []) 0 .aS]++(i9 []++[tB fI q1 [.str g.name,aI g.params,aI g.bp,a],tZ F2,tS eH 1 r r.length true p])):=U;refine Ru.nm λS0 M hS hM=>?_;refine Ru.cC hM (up (P:=λk=>∀HX W i F,i.length=g.al.length->(∀x,come.getD x false=true->(x=0\/∃y∈ak.take k,x∈wW g os y)->tR 2 (jn (os.getD x [])) (os.getD x []).length (i.getD x .co)∈F)->aj H HX (wV g a h p d s q ak i F++(i9 W++[tB fI q1 [.str g.name,aI g.params,aI g.bp,a],tZ F2,tS eH 1 r r.length true p]))->Ru ac ⟨pu [.tmp p2,.tmp p3] K,W,none⟩ S0 ([(dl,aN k)]++pk M [p6,cD,bZ]) HX) ak.length (λk hk ih HX W i F b3 hF U=>?_) 0 af _ [] _ _ aB (λx L d7=>?_) U);rotate_left
 .rcases d7 with rfl|⟨y,E,_⟩;·have b4:=n.lt n.c0;rw[(n.sF V.dO .zero).2,bF (by simpa using b4)];simp
  simp at E
 subst hS;subst hM;refine Ru.loop ?_;refine au ?_;refine Ru.cond (λC=>?_) (λC=>?_)
 .have b5:=agB C;have J:=(P.mem _).1 b5;have Z:ak.take (k+1)=ak.take k++[ak[k]]:=(akd C).symm;have N:=P.aM (ak.take k) ak[k] (ak.drop (k+1)) (by conv=>lhs;rw[<-ala k ak,aj9 C]);have ag:=hF _ J N;refine ah ?_;refine RO.lg (bm.refl _) (U.sl (e:=3) (size:=1) (sv:=h) (vs:=ak.map aN) (n:=ak.length) (full:=true) 4) (λq5 o5 d1 d2=>?_) (j:=k);have ih:=ih (k+1) af af;rw[Z]at ih;clear Z N;generalize ak[k]=b at*;have B:=n.dO b J;have a2:=n.lt J;have b6:(g.al.getD b default).aA.op=68->os.getD b []≠ []:=λb' e=>by obtain⟨o,ho,_⟩:=(V.sG come os n).en b J b';rw[e]at ho;cases ho
  generalize ay:os.getD b []=now at*;generalize ca:i.getD b .co=nv at*;refine ah ?_;refine RO.cl (Qc T λH8 ar av hl=>?_);have U:aj H H8 ([tB 3 av [aN b],tB iH ar [.az d 0]]++wV g a h p d s q ak i F++(i9 W++[tB fI q1 [.str g.name,aI g.params,aI g.bp,a],tZ F2,tS eH 1 r r.length true p])):=U.fC hl;refine ah ?_;refine Ru.wk (L:=[(dj,.func Ex [] [.az ar 0,.az av 0]),(p6,.az s 0),(cD,h),(bZ,aN ak.length),(dl,aN k)]) ?_;refine Ru.pG (J:=λm ts=>∃c G,c.length=g.al.length/\tR 2 (jn now) now.length nv∈G/\(∀x,come.getD x false=true->(x=0\/(∃y∈ak.take k,x∈wW g os y)\/∃w∈(cS g b now).take m,x=w.1.toNat)->tR 2 (jn (os.getD x [])) (os.getD x []).length (c.getD x .co)∈G)/\ts=wV g a h p d s q ak c G) (Dn:=λ_ _=>False) U (Qd T hB cA (b:=b) (now:=now) (nv:=nv) (V.dO.aH B) (V.dO.jY B).1 (by have:=(V.dO.jY B).2;omega) b6) (λH2 hg=>?_) ⟨i,F,b3,ag,λx L d7=>hF x L (by rcases d7 with d7|d7|⟨w,D,_⟩;exact .inl d7;exact .inr d7;simp at D),rfl⟩ (λk args ws d7=>by obtain⟨_,v,rfl,_⟩:=d7;rfl) (λm ts us H' X U=>?_) (λm args ws ts us l o1 o2 H' hm cd X U=>?_) (λH' cf dm X U=>?_) (λj H' cf dm _ d7=>d7.elim)
  .have U:=U.cI hg;have I:∀(o:Nat)(v:AV),([.str g.name,aI g.params,aI g.bp,a,h,.slice q 0 g.al.length g.al.length true,p]:List AV)[o]?=some v->bh H2 d o=some v:=λo v d7=>by obtain⟨_,A⟩:=U.get 2 rfl;exact tB.cell A d7
   have S:d.an<H2.next.an:=by obtain⟨_,A⟩:=U.get 2 rfl;obtain⟨_,_,_,_,_,d7⟩:=A;exact d7
   obtain⟨f,Y,_⟩:=U.mf 5 rfl ag;exact⟨_,i,⟨S,I 3 _ rfl,I 5 _ rfl,U.sl 3⟩,ca,Y⟩
  .obtain⟨c,G,_,h2,_,rfl⟩:=X;obtain⟨f,Y,_⟩:=U.mf 3 rfl h2;exact Y
  .obtain⟨c,G,g1,g2,g3,rfl⟩:=X;obtain⟨aw,v,rfl,bd,bv,b0,cn⟩:=cd;have U:aj H H' (wV g a h p d s q ak c (tR 2 (jn (cS g b now)[m].2) (cS g b now)[m].2.length v::G)++tX l o1::us):=by
    rcases cn with⟨rfl,a1⟩|rfl;·exact((U.gk 3 rfl).OO g2 (t':=tR 2 (jn (cS g b now)[m].2) (cS g b now)[m].2.length v) λf d7=>Qe a1 d7).cM (akj (l₁:=[_,_,_])).symm
    have h5:=U.as 0 rfl λfp A=>tS.mg A;have h6:=h5.cM (akO _ (akj (l₁:=[_,_,_])));exact(aj.lq h6).cM (akj (l₁:=[_,_,_])).symm
   have ax:(cS g b now)[m]∈cS g b now:=agB aw;obtain⟨d3,d4⟩:=V.dO.CP B _ ax;have cp:=lN.step B ax;obtain⟨t,ht⟩:∃t:Nat,(cS g b now)[m].1=(t:Int):=⟨(cS g b now)[m].1.toNat,af⟩;have d5:t<g.al.length:=af;have cv:(cS g b now).take (m+1)=(cS g b now).take m++[(cS g b now)[m]]:=(akd aw).symm;have O:=(n.sF V.dO cp).2;rw[ht,aj3]at O;rw[ht];refine au ?_;refine Ru.dN (xs:=wV g a h p d s q ak c (tR 2 (jn (cS g b now)[m].2) (cS g b now)[m].2.length v::G)) U λH9 U=>?_;refine ah ?_;refine RO.yK U 1 g1 (λd6 U=>?_) (k:=t);refine ah ?_;refine Ru.bG (ts:=wV g a h p d s q ak (c.set t v) (tR 2 (jn (cS g b now)[m].2) (cS g b now)[m].2.length v::G)) U ⟨_,_,by simpa using g1,aey _ g2,λx L d7=>?_,rfl⟩;rw[fu af];by_cases e:x=t;·rw[aK e,e,O];exact aeU ..
   rw[aq e];refine aey _ (g3 x L ?_);rcases d7 with d7|d7|⟨w,D,d7⟩;·exact .inl d7
   .exact .inr (.inl d7)
   rw[cv]at D;rcases ahp.1 D with D|D;·exact .inr (.inr ⟨w,D,d7⟩)
   rw[aep]at D;subst D;rw[ht,aj3]at d7;exact absurd d7 e
  obtain⟨c,G,g1,g2,g3,rfl⟩:=X;rw[ak7]at g3;refine ah ?_;exact Ru.wk (ih H' (dm::W) c G g1 (λx L d7=>g3 x L (by
   rcases d7 with d7|⟨y,E,d7⟩;·exact .inl d7
   rcases ahp.1 E with E|E;·exact .inr (.inl ⟨y,E,d7⟩)
   rw[aep]at E;subst E;simp only[wW,mK,ay,akk]at d7;obtain⟨w,D,d7⟩:=d7;exact .inr (.inr ⟨w,D,d7.symm⟩))) U)
 refine Ru.exitTo ?_;rw[akl af]at hF;refine ah ?_;have U:=aj.gF (xs:=wV g a h p d s q ak i F) (by rw[aj2];exact U);refine Ru.mI (M:=W) U λH' U=>⟨[.az d 0,aI 0],⟨rfl,rfl,rfl,rfl,trivial⟩,?_⟩;have I:∀(o:Nat)(v:AV),([.str g.name,aI g.params,aI g.bp,a,h,.slice q 0 g.al.length g.al.length true,p]:List AV)[o]?=some v->bh H' d o=some v:=λo v d7=>by obtain⟨_,A⟩:=U.get 0 rfl;exact tB.cell A d7
 have S:d.an<H'.next.an:=by obtain⟨_,A⟩:=U.get 0 rfl;obtain⟨_,_,_,_,_,d7⟩:=A;exact d7
 refine hK H' d a h _ p i come os ak lv n P Q U.gr ⟨⟨S,I 3 _ rfl,I 5 _ rfl,U.sl 1⟩,dQ.block.jU U.gr cA,I 1 _ rfl,I 2 _ rfl,I 4 _ rfl,U.sl 4,I 6 _ rfl,bc.sl U 6 rfl (U.sl (e:=eH) (size:=1) (full:=true) 7),λb hb=>?_⟩;have:b=0\/∃y∈ak,b∈wW g os y:=by
  obtain⟨cO,cE,e⟩:=List.append_of_mem ((P.mem b).2 hb);rcases P.aM _ _ _ e with d7|⟨y,E,d7⟩;·exact .inl d7
  exact .inr ⟨y,by rw[e];exact akf _ E,d7⟩
 obtain⟨f,Y,_⟩:=U.mf 3 rfl (hF b hb this);exact Y
end
end
end
end Go.am.R
end
