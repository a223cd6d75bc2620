/- A part of the proof. No conditions. -/
import Derived.Test.YtjhkgigolpfcfaaGreatDoorA13
import Derived.Test.YtjhkgigolpfcfaaGreatDoorA16
set_option linter.all false
set_option maxHeartbeats 16000000
open List renaming mem_singleton->aep,mem_cons_of_mem->aey,mem_cons_self->aeU,replicate->ahr,length_map->akg,length_take->akF,nodup_append->akI,nodup_nil->alD
open Nat renaming le_of_ble_eq_true->akc,le_trans->alj
noncomputable section
namespace Go.am.R
section
variable{ac:Nat->aG}
structure CQ(g:G.bu):Prop where
 nm:∀c∈g.name,c<256
 st:∀b∈g.al,∀s∈b.aD,∀c∈s.name,c<256
 fn:∀b∈g.al,∀c∈b.aA.name,c<256
 kd:∀b∈g.al,∀c∈b.aA.b9,c<256
def eU(l:List G.ic):List Int:=(l.map (·.to)).filter λt=>decide (0<=t)
def gX(b:G.gV):List Int:=b.params++eU b.aD
structure ug(g:G.bu)(x:G.ic):Prop where
 op:x.op∉CM
 w:(sA x.op).w≠ []
 r:EZ x g.bp (ue x.op x.m)
structure yS(n np:Nat)(gs:List Bool)(hist:List Int):Prop where
 len:gs.length=n
 nd:hist.Nodup
 rg:∀v∈hist,(np:Int)<=v/\v<n
 bH:∀v:Nat,v<n->(gs.getD v false=true↔v<np\/(v:Int)∈hist)
structure sD(g:G.bu):Prop where
 name:su g.name
 p0:0<=g.params
 p1:g.params<=g.bp
 ne:0<g.al.length
 first:(g.al.getD 0 default).params=[]
 aD:∀b∈g.al,∀x∈b.aD,ug g x
 CD:∀b∈g.al,yO g b.aA
 nd:(g.al.flatMap gX).Nodup
 rg:∀v∈g.al.flatMap gX,g.params<=v/\v<g.bp
 all:∀v:Int,g.params<=v->v<g.bp->v∈g.al.flatMap gX
theorem Jt{l:List G.ic}{x:G.ic}:eU (l++[x])=eU l++if 0<=x.to then[x.to]else[]:=by simp only[eU,akE,List.filter_append];by_cases h:0<=x.to<;>simp[h]
theorem yS.add{n f:Nat}{g:List Bool}{c:List Int}(h:yS n f g c){v:Nat}(i:v<n)(hg:g.getD v false=false):yS n f (g.set v true) (c++[(v:Int)]):=by
 have hl:=h.len;have h1:¬(v<f\/(v:Int)∈c):=λe=>by rw[(h.bH v i).2 e]at hg;cases hg
 rw[not_or]at h1;refine⟨by simpa using hl,?_,λx d=>?_,λx d=>?_⟩;·rw[akI];refine⟨h.nd,aB,λa j b hb=>?_⟩;rw[aep]at hb;subst hb;exact λe=>h1.2 (e▸j)
 .rcases ahp.1 d with d|d;·exact h.rg x d
  rw[aep]at d;omega
 rw[fu af,ahp,aep];by_cases e:x=v;·subst e;simp
 rw[aq e,h.bH x d];have:¬(x:Int)=v:=af;simp[this]
section
variable{g:G.bu}{H:ai}{cs:List AV}
theorem aeM(T:Tb ac)(hg:iG H g cs)(hB:G.Sm g)(hY:CQ g)(c9:g.name.length<=60)(bb:g.bp<=6000){K:KT}(h1:∀H',bm H H'->sD g->K (.bool true) H')(h2:∀H',bm H H'->K (.bool false) H'):YN ac Wt [.agg cs] H K:=by
 have c3:=hg.one;have ax:=hg;obtain⟨V,rfl,cA⟩:=hg;have⟨c',_,_,dm⟩:=cA.all;have dr:=hB.nb;refine YF.code T.abd aB ?_;refine Ru.seq ?_;refine Ru.region ?_;refine RO.dL (aj.dc H) λH1 q U=>?_;have U:aj H H1 [tB fI q [.str g.name,aI g.params,aI g.bp,V]]:=U;refine RO.bg ?_;refine RO.nil ?_;refine Ru.seq ?_;refine Ru.wP (P:=λM H'=>M=[(p1,.az q 0)]/\su g.name/\0<=g.params/\g.params<=g.bp/\0<g.al.length/\(g.al.getD 0 default).params=[]/\aj H H' [tB fI q [.str g.name,aI g.params,aI g.bp,V]]) (λM H2⟨Z,f1,f2,f3,f4,f5,U⟩=>?_) (λs' aw=>?_);rotate_left
 .refine ah ?_;refine RO.cl (EX T hY.nm af (λW=>?_) ?_);rotate_left;·refine ah ?_;exact Ru.aV (h2 _ U.gr)
  refine ah ?_;refine RO.cl (sx T (λg2 L=>?_) (λ_=>?_));rotate_left;·refine ah ?_;exact Ru.aV (h2 _ U.gr)
  have g2:0<=g.params:=g2;refine ah ?_;refine RO.de (λN=>?_) (λN=>?_);·refine ah ?_;exact Ru.aV (h2 _ U.gr)
  have ay:0<g.al.length:=af;refine ah ?_;refine RO.cZ U.gr cA (λq1 o1 c1 bc O bd hat hrd=>?_) (j:=0);obtain⟨vp,P,jc,rfl,Q,_⟩:=O;have⟨bv,_,_,bS⟩:=Q.all;refine ah ?_;refine Ru.cond (λg5=>?_) (λg5=>?_);·refine ah ?_;exact Ru.aV (h2 _ U.gr)
  refine ah ?_;exact aw _ _ _ ⟨rfl,W,g2,L,ay,by rw[bF ay];exact akM af,U⟩ fB
 subst Z;obtain⟨n,hn⟩:∃n:Nat,g.bp=n:=⟨g.bp.toNat,af⟩;obtain⟨I,w⟩:∃n:Nat,g.params=n:=⟨g.params.toNat,af⟩;rw[hn,w]at U ax;rw[hn]at bb f3;rw[w]at f3;refine ah ?_;refine RO.oT U (n:=n) (λH3 qg U=>?_) (hz:=by rw[iZ];simp);have X:yS n 0 (ahr n false) []:=⟨aB,alD,λv hv=>(by cases hv),λv hv=>by simp[akm,ak8,hv]⟩;have U:aj H H3 [tS 4 1 ((ahr n false).map .bool) n true (.slice qg 0 n n true),tB fI q [.str g.name,aI I,aI n,V]]:=by rw[iZ]at U;rw[alz];exact U
 refine ah ?_;refine Ru.nm λS0 M hS Z=>?_;refine Ru.cC Z (up (P:=λk=>∀f c,yS n k c []->aj H f [tS 4 1 (c.map .bool) n true (.slice qg 0 n n true),tB fI q [.str g.name,aI I,aI n,V]]->Ru ac _ S0 ([(p4,aN k)]++pk M [p1,p3]) f) I (λk hk ih f c a U=>?_) 0 af _ _ X U);subst hS;subst Z;refine Ru.loop ?_;refine ah ?_;refine Ru.cond (λb0=>?_) (λb0=>?_)
 .refine ah ?_;refine RO.lC U 0 true a.len (λH4 U=>?_) (k:=k) (ho:=by rw[a.len];omega);refine ah ?_;exact Ru.wk (ih (k+1) af af H4 _ ⟨by simpa using a.len,alD,λv hv=>(by cases hv),λv hv=>by
   rw[fu (by rw[a.len];omega)];by_cases e:v=k;·subst e;simp
   rw[aq e,a.bH v hv];simp;omega⟩ U)
 refine Ru.exitTo ?_;obtain rfl:I=k:=af;refine ah ?_;clear X ih;refine Ru.nm λS0 M hS Z=>?_;refine Ru.cC Z (up (P:=λk=>∀f c,yS n I c ((g.al.take k).flatMap gX)->(∀x(h:x<g.al.length),x<k->(∀s∈g.al[x].aD,ug g s)/\yO g g.al[x].aA)->aj H f [tS 4 1 (c.map .bool) n true (.slice qg 0 n n true),tB fI q [.str g.name,aI I,aI n,V]]->Ru ac _ S0 ([(p5,aN k)]++pk M [p1,p3]) f) g.al.length (λk hk ih f c a y U=>?_) 0 af _ c a (λx _ o=>by omega) U);subst hS;subst Z;refine Ru.loop ?_;refine ah ?_;refine Ru.cond (λD=>?_) (λD=>?_)
 .have r:=agB D;have ds:=hB.bl _ r;have b3:=hB.st _ r;have b4:=hB.ed _ r;have b5:=hY.st _ r;have b6:=hY.fn _ r;have b':=hY.kd _ r;have a0:g.al.take (k+1)=g.al.take k++[g.al[k]]:=(akd D).symm;have ih:=ih (k+1) af af;rw[a0,akD,akK]at ih;have y:(∀s∈g.al[k].aD,ug g s)/\yO g g.al[k].aA->∀x(h:x<g.al.length),x<k+1->(∀s∈g.al[x].aD,ug g s)/\yO g g.al[x].aA:=λhb x o h=>by
   by_cases e:x=k;·subst e;exact hb
   exact y x o af
  clear a0;generalize(g.al.take k).flatMap gX=Y at*;refine ah ?_;refine RO.cZ U.gr cA (λq1 o1 c1 bc O bd hat hrd=>?_) (j:=k);have c5:=O.one;generalize g.al[k]=B at*;obtain⟨vp,P,jc,rfl,Q,R,a1⟩:=O;have a8:=a1;obtain⟨va,vk,vg,rfl,_⟩:=a1;have⟨bv,_,_,bS⟩:=Q.all;have⟨dv,_,_,dx⟩:=R.all;refine ah ?_;refine RO.fx U λH5 q6 U=>?_;refine ah ?_;refine RO.qS U 1 λH6 v0 U=>?_;have⟨dy,_,_,_⟩:=(U.sl (e:=3) (size:=1) (sv:=v0) (vs:=[]) (n:=0) (full:=true) 0).all;refine ah ?_;refine RO.pZ U 0 (U.gr.sl Q) (λH7 v1 U=>?_) (h1:=qP _);have U:aj H H7 [tS 3 1 ((B.params++eU (B.aD.take 0)).map aI) (B.params++eU (B.aD.take 0)).length true v1,tB dW q6 [vp,P,aU B.aA.op,va,.str B.aA.name,vk,vg],tS 4 1 (c.map .bool) n true (.slice qg 0 n n true),tB fI q [.str g.name,aI I,aI n,V]]:=by rw[alm,show eU []=[]from rfl,akT];rw[akh]at U;exact U
  have⟨dz,_,_,_⟩:=(U.sl (e:=3) (size:=1) (sv:=v1) (vs:=(B.params++eU (B.aD.take 0)).map aI) (n:=(B.params++eU (B.aD.take 0)).length) (full:=true) 0).all;refine ah ?_;refine Ru.nm λS1 M1 A d=>?_;refine Ru.cC d (up (P:=λj=>∀f lv,(∀x(h:x<B.aD.length),x<j->ug g B.aD[x])->aj H f [tS 3 1 ((B.params++eU (B.aD.take j)).map aI) (B.params++eU (B.aD.take j)).length true lv,tB dW q6 [vp,P,aU B.aA.op,va,.str B.aA.name,vk,vg],tS 4 1 (c.map .bool) n true (.slice qg 0 n n true),tB fI q [.str g.name,aI I,aI n,V]]->Ru ac _ S1 ([(p8,aN j),(p7,lv)]++pk M1 [p1,p3,p5,p6]) f) B.aD.length (λj hj l f lv eh U=>?_) 0 af _ _ (λx _ o=>by omega) U);subst A;subst d;have⟨dD,_,_,a2⟩:=(U.sl (e:=3) (size:=1) (sv:=lv) (vs:=(B.params++eU (B.aD.take j)).map aI) (n:=(B.params++eU (B.aD.take j)).length) (full:=true) 0).all;refine Ru.loop ?_;refine ah ?_;refine Ru.cond (λE=>?_) (λE=>?_)
  .have a3:=agB E;have dE:=b3 _ a3;have ca:=b5 _ a3;have l:=l (j+1) af af;rw[(akd E).symm,Jt,<-aj2]at l;have eh:ug g B.aD[j]->∀x(h:x<B.aD.length),x<j+1->ug g B.aD[x]:=λhb x o h=>by
    by_cases e:x=j;·subst e;exact hb
    exact eh x o af
   have cd:(B.params++eU (B.aD.take j)).length<=100:=by
    have:(eU (B.aD.take j)).length<=(B.aD.take j).length:=by unfold eU;exact alj (List.length_filter_le _ _) aB
    rw[aj8];rw[akF]at this;omega
   generalize B.params++eU (B.aD.take j)=J at*;refine ah ?_;refine RO.cZ U.gr R (λq9 o9 d6 ag a4 d0 hat hrd=>?_) (j:=j);have a9:=a4;generalize o:B.aD[j]=x at*;obtain⟨d1,rfl,c8⟩:=a4;refine ah ?_;refine RO.cl (aeq T (v:=(n:Int)) (dQ.step U.gr a9) ca af af af af (λH8 hg W g2 L=>?_) (λH8 hg=>?_));rotate_left;·have U:=U.cI hg;refine ah ?_;exact Ru.aV (h2 _ U.gr)
   have U:=U.cI hg;have a5:ug g x:=⟨W,g2,by rw[hn];exact L⟩;refine ah ?_;refine RO.cZ U.gr R (λq7 o7 c7 cf C cn F a'=>?_) (j:=j);rw[o]at C;obtain⟨cp,rfl,ba⟩:=C;refine ah ?_;refine RO.aW (v:=aI x.to) ?_ (hc:=F 1 _ rfl);refine ah ?_;refine Ru.cond (λN=>?_) (λN=>?_);·have N:0<=x.to:=N;rw[aK N]at l;refine ah ?_;refine RO.cZ U.gr R (λq7 o7 c7 cf C cn F a'=>?_) (j:=j);rw[o]at C;obtain⟨cp,rfl,ba⟩:=C;refine ah ?_;refine RO.aW (v:=aI x.to) ?_ (hc:=F 1 _ rfl);refine RO.push U 0 (λw0 H9 v2 U=>?_) (ws:=[aI x.to]);have⟨d2,d3,d4,_⟩:=(U.sl (e:=3) (size:=1) (n:=J.length+1) (full:=true) (sv:=v2) 0).all;refine ah ?_;exact Ru.wk (l _ v2 (eh a5) (by rw[akE,aj8];exact U))
   have N:¬0<=x.to:=N;rw[aq N,akT]at l;refine ah ?_;exact Ru.wk (l _ lv (eh a5) U)
  refine Ru.exitTo ?_;have eh:∀s∈B.aD,ug g s:=λs hs=>by obtain⟨x,o,rfl⟩:=aka hs;exact eh x o af
  rw[akl af]at U a2;have cv:B.params++eU B.aD=gX B:=rfl;rw[cv]at U a2;have cd:(gX B).length<=100:=by have:=List.length_filter_le (λt=>decide (0<=t)) (B.aD.map (·.to));rw[akg]at this;rw[gX,eU,aj8];omega
  generalize d5:gX B=J at*;refine ah ?_;refine Ru.nm λS1 M1 A d=>?_;refine Ru.cC d (up (P:=λm=>∀f c,yS n I c (Y++J.take m)->aj H f [tS 3 1 (J.map aI) J.length true lv,tB dW q6 [vp,P,aU B.aA.op,va,.str B.aA.name,vk,vg],tS 4 1 (c.map .bool) n true (.slice qg 0 n n true),tB fI q [.str g.name,aI I,aI n,V]]->Ru ac _ S1 ([(p9,aN m)]++pk M1 [p1,p3,p5,p6,p7]) f) J.length (λm hm u f c a U=>?_) 0 af _ c (by rw[alm,akT];exact a) U);subst A;subst d;have ar:=U.sl (e:=3) (size:=1) (sv:=lv) (vs:=J.map aI) (n:=J.length) (full:=true) 0;refine Ru.loop ?_;refine ah ?_;refine Ru.cond (λp=>?_) (λp=>?_)
  .have u:=u (m+1) af af;rw[(akd p).symm,<-aj2]at u;generalize Y++J.take m=h0 at*;refine ah ?_;refine RO.lg (bm.refl _) ar (λq9 o9 ag S=>?_) (j:=m);generalize hz:J[m]=z at*;refine ah ?_;refine RO.sub ?_ (a:=(n:Int)) (b:=1);refine RO.cl (sx T (λW g2=>?_) (λ_=>?_));rotate_left;·refine ah ?_;exact Ru.aV (h2 _ U.gr)
   have W:0<=z:=W;obtain⟨v,rfl⟩:∃v:Nat,z=v:=⟨z.toNat,af⟩;have cx:v<n:=af;refine ah ?_;refine RO.lg (bm.refl _) ar (λq9 o9 ag S=>?_) (j:=m);rw[hz]at S;have a6:=a.len;have av:(c.map AV.bool)[0+v*1]?=some (.bool (c.getD v false)):=by rw[show 0+v*1=v by omega,aks,getElem?_pos c v af,bF af];rfl
   refine ah ?_;refine RO.fD U 2 (hv:=av) ?_;refine ah ?_;refine Ru.kN (λL=>?_) (λL=>?_);·refine ah ?_;exact Ru.aV (h2 _ U.gr)
   refine ah ?_;refine RO.lg (bm.refl _) ar (λq9 o9 ag S=>?_) (j:=m);rw[hz]at S;refine ah ?_;refine RO.lC U 2 true a6 (λH9 U=>?_) (k:=v) (ho:=by omega);refine ah ?_;exact Ru.wk (u _ _ (a.add cx L) U)
  refine Ru.exitTo ?_;rw[akl af]at a;refine ah ?_;refine RO.eQ U 3 ?_;refine ah ?_;refine RO.eQ U 1 (m:=5) (o:=2) ?_;refine RO.cl (aer T (dQ.nM U.gr ax) (j:=B.aA) (dQ.Ig U.gr a8) hB af af b6 b' ⟨af,af,af,af⟩ b4 (λH8 hg W=>?_) (λH8 hg=>?_));rotate_left;·have U:=U.cI hg;refine ah ?_;exact Ru.aV (h2 _ U.gr)
  have U:=U.cI hg;refine ah ?_;exact Ru.wk (ih _ _ a (y ⟨eh,W⟩) U.tail.tail)
 refine Ru.exitTo ?_;rw[akl af]at a;have a6:=a.len;refine ah ?_;refine Ru.nm λS1 M1 A d=>?_;refine Ru.cC d (up (P:=λm=>(∀x,x<m->c.getD x false=true)->Ru ac _ S1 ([(aO,aN m)]++pk M1 [p1,p3]) f) n (λm hm u eZ=>?_) 0 af (λx o=>by omega));subst A;subst d;refine Ru.loop ?_;refine ah ?_;refine Ru.cond (λp=>?_) (λp=>?_)
 .have av:(c.map AV.bool)[0+m*1]?=some (.bool (c.getD m false)):=by rw[show 0+m*1=m by omega,aks,getElem?_pos c m af,bF af];rfl
  refine ah ?_;refine RO.fD U 0 (hv:=av) ?_;refine ah ?_;refine Ru.kN (λL=>?_) (λL=>?_);·refine ah ?_;exact Ru.aV (h2 _ U.gr)
  refine ah ?_;exact Ru.wk (u (m+1) af af λx o=>by
   by_cases e:x=m;·subst e;simpa using L
   exact eZ x af)
 refine Ru.exitTo ?_;refine ah ?_;exact Ru.aV (h1 _ U.gr ⟨f1,f2,by rw[hn,w];exact f3,f4,f5,λb hb x o=>by obtain⟨i,hi,rfl⟩:=aka hb;exact(y i hi af).1 x o,λb hb=>by obtain⟨i,hi,rfl⟩:=aka hb;exact(y i hi af).2,a.nd,λv hv=>by rw[hn,w];exact a.rg v hv,λv cy cE=>by rw[w]at cy;rw[hn]at cE;have cK:v.toNat<n:=af;have:=(a.bH _ cK).1 (eZ _ af);rw[Int.toNat_of_nonneg af]at this;exact this.resolve_left af⟩)
end
end
section
theorem Pr{op:Nat}:∀{l:List (Nat×rm)},(ud op l).w≠ []->op∈l.map (·.1)
 |[],h=>absurd rfl h
 |p::l,h=>by
  unfold ud at h;split at h;·grind
  exact aey _ (Pr h)
theorem aeN{t:List Nat}(h:iu t≠0):su t:=by
 unfold iu at h;split at h;·rename_i a;simp only[Cu,aeV,aki,or_false]at a;rcases a with rfl|rfl|rfl|rfl|rfl<;>exact⟨bA,bA,bA⟩
 split at h;·rename_i a;simp only[Cv,aeV,aki,or_false]at a;rcases a with rfl|rfl|rfl|rfl|rfl|rfl|rfl|rfl|rfl|rfl|rfl<;>exact⟨bA,bA,bA⟩
 split at h;·rename_i a;simp only[Cw,aeV,aki,or_false]at a;subst a;exact⟨bA,bA,bA⟩
 exact absurd rfl h
section
variable{g:G.bu}
theorem CR{x:G.ic}{r:qy}{f:rm}(h:EZ x g.bp f)(j:yH x=some r)(hg:r.vq=f.to)(a:r.ER=if f.n then f.lo else 0)(b:r.ES=if f.n then f.hi else 0)(c:yN f.nm x.name->I4 r.nm x.name)(d:r.EP<=x.args.length/\x.args.length<=r.EQ):wM g x r/\r.vq=decide (0<=x.to):=by
 have e:=h.to;have h0:=h.t0;refine⟨⟨j,d,c h.name,?_,h.xx,h.pF,λk=>?_⟩,by grind⟩;·rw[a,b];cases i:f.n with|true=>simpa using h.num i|false=>have:=h.nun i;grind
 grind
theorem aeO{x:G.ic}(h:ug g x)(hl:x.args.length<=12):∃r,wM g x r/\r.vq=decide (0<=x.to):=by
 have d:=Pr h.w;have h1:=h.op;have a:=h.r;have h0:=a.name;have h2:=a.mn;have h3:=a.mo;obtain⟨op,to,args,n,m,name⟩:=x;simp only[EY,yM,akV,ak0,aj7,ali,aeV,aki,or_false]at d;simp only at hl d h1 h0 h2 h3;rcases d with rfl|rfl|rfl|rfl|rfl|rfl|rfl|rfl|rfl|rfl|rfl|rfl|rfl|rfl|rfl|rfl|rfl|rfl|rfl|rfl|rfl|rfl|rfl|rfl|rfl|rfl|rfl|rfl|rfl|rfl|rfl|rfl|rfl|rfl|rfl|rfl;all_goals
  first|exact absurd bA h1|exact⟨_,CR a rfl rfl rfl rfl (λh=>h) (by simp[sB,OY,ue,sA,EY,yM,ud]at h2 h3⊢;omega)⟩|
   exact⟨_,CR a rfl rfl rfl rfl (λh=>h) (by
    have e:sB 0 args.length:=h3 bA bA;have c:args.length=0:=by unfold sB at e;omega
    show(0:Int)<=(args.length:Int)/\(args.length:Int)<=0;omega)⟩|skip
 .have c:sB (iu name) args.length:=h3 bA bA;have f:iu name≠0:=h0;have j:args.length=iu name:=by unfold sB at c;omega
  refine⟨⟨true,iu name,iu name,1,0,0⟩,CR a ?_ rfl rfl rfl (λ_=>aeN f) ?_⟩;all_goals simp_all[yH,bq,aK,iu]
 by_cases b:m=1;·subst b;have c:sB (-3) args.length:=h3 bA bA;refine⟨⟨true,0,6,1,0,0⟩,CR a rfl rfl rfl rfl (λh=>h) ?_⟩;grind[sB]
 have i:ue 13 m=⟨[99,97,108,108],true, -2,false,0,0,0,0⟩:=by rw[ue,aq λh=>b h.2];rfl
 rw[i]at a h3;have c:sB (-2) args.length:=h3 bA bA;refine⟨⟨true,1,7,0,0,0⟩,CR a ?_ rfl rfl rfl (λh=>h) ?_⟩;all_goals grind[yH,sB]
theorem wQ.ok{j:G.lD}{k:Nat}{e:G.Edge}(h:wQ g j k e)(a:¬(j.op=67/\k=2)):wN g e (ko j k):=⟨h.lo,by have:=h.hi;omega,h.aM a,h.pF⟩
theorem Ju{j:G.lD}(hj:∀k(h:k<j.go.length),wQ g j k j.go[k])(hl:∀e∈j.go,e.args.length<=12)(c:j.op≠67){b:List Nat}(a:j.go.length=b.length)(d:∀k(h:k<b.length),b[k]=ko j k):ua g j.go b:=⟨a,λk h=>⟨by rw[d];exact(hj k h).ok λh=>c h.1,by have:=hl _ (agB h);omega⟩⟩
theorem aeP{j:G.lD}(h:yO g j)(hl:∀e∈j.go,e.args.length<=12):I6 g j:=by
 have d:=h.ae;have b:=h.E0;refine⟨h.pF,h.name,h.b9,?_⟩;have n:∀a,a=j.args.length->a=0->j.args=[]:=λa h1 h2=>akM af;have l:∀a,a=j.go.length->a=0->j.go=[]:=λa h1 h2=>akM af;have one:j.go.length=1->j.op≠67->ko j 0=0->ua g j.go [0]:=λh1 h2 h3=>Ju b hl h2 h1 λk f=>by
  obtain rfl:k=0:=by simpa using f
  rw[h3];rfl
 have mC:∀x,j.go.length=2->j.op≠67->ko j 0=x->ko j 1=0->ua g j.go [x,0]:=λx h1 h2 h3 o=>Ju b hl h2 h1 λk f=>by match k,f with|0,_=>exact h3.symm|1,_=>exact o.symm
 generalize c:j.args.length=a at d;generalize hg:j.go.length=e at d;cases d with
 |go h1=>exact .go h1 (n _ c.symm rfl) (one hg af (by simp[ko,h1]))
 |Cz h1=>exact .Cz h1 c (mC 0 hg af (by simp[ko,h1]) (by simp[ko,h1]))
 |is h1=>exact .is h1 c (h.nm (h.name.1 h1)) (mC 0 hg af (by simp[ko,h1]) (by simp[ko,h1]))
 |gE h1=>exact .gE h1 c (mC 1 hg af (by simp[ko,h1]) (by simp[ko,h1]))
 |AR h1 f h2 o=>refine .AR h1 f h2 o c (Ju b hl af (by grind) λk v=>?_);grind[akg,vr,ko,bF]
 |CB h1=>
  match i:j.go,hg with
   |[s,t,u],_=>
    rw[i]at b;have p:=b 0 aB;have q:=b 1 aB;have m:=b 2 aB;have r:=p.ok af;have b1:=q.ok af;have i0:ko j 0=0:=by simp[ko,h1]
    have i1:ko j 1=1:=by simp[ko,h1]
    rw[i0]at r;rw[i1]at b1;exact .CB h1 (n _ c.symm rfl) s t u i r b1 ⟨(p.tr h1).1,(q.tr h1).1,(m.tr h1).1⟩ ⟨m.lo,by have:=m.hi;grind⟩ (Nat.pos_of_ne_zero ((m.tr h1).2 rfl))
 |CC h1=>exact .CC h1 af (l _ hg.symm rfl)
 |ret h1=>exact .ret (.inl h1) c (l _ hg.symm rfl)
 |sC h1=>exact .ret (.inr h1) c (l _ hg.symm rfl)
 |stuck h1=>exact .stuck h1 (n _ c.symm rfl) (l _ hg.symm rfl)
end
end
section
structure PI(n:Nat)(s:List Bool)(hist:List Int):Prop where
 len:s.length=n
 bH:∀v:Nat,v<n->(s.getD v false=true↔(v:Int)∈hist)
section
variable{g:G.bu}{n:Nat}
theorem Fg{e:Type}{st:List Bool->e->Bool×List Bool}{f:e->List Int}{R:Int->Prop}:∀{la:List e},(∀s c a,a∈la->PI n s c->(c++f a).Nodup->(∀v∈f a,R v)->(st s a).1=true/\PI n (st s a).2 (c++f a))->∀s c,PI n s c->(c++la.flatMap f).Nodup->(∀v∈la.flatMap f,R v)->(gW st s la).1=true/\PI n (gW st s la).2 (c++la.flatMap f)|[],_,s,c,g,_,_=>by simp[g,gW]|a::la,h,s,c,g,d,j=>by rw[alp,<-aj2]at d⊢;obtain⟨h1,h2⟩:=h s c a (aeU ..) g (akI.1 d).1 λv i=>j v (akf _ i);rw[gW,aK h1];exact Fg (λs c b hb=>h s c b (aey _ hb)) _ _ h2 d λv i=>j v (akq _ i)
theorem PS(m:g.bp=n)(o:0<=g.params){s:List Bool}{a:List Int}{v:Int}(c:PI n s a)(d:(a++[v]).Nodup)(i:g.params<=v/\v<n):(m8 g s v).1=true/\PI n (m8 g s v).2 (a++[v]):=by
 have hl:=c.len;obtain⟨v,rfl⟩:∃k:Nat,v=k:=⟨v.toNat,af⟩;have f:v<n:=af;have b:(v:Int)∉a:=λh=>(akI.1 d).2.2 _ h _ (aep.2 rfl) rfl;have j:s.getD v false=false:=by cases h:s.getD v false with|false=>rfl|true=>exact absurd ((c.bH v f).1 h) b
 unfold m8;rw[aK ⟨i.1,af⟩,aj3,j,aq aB];refine⟨rfl,by simpa using hl,λx l=>?_⟩;rw[fu af,ahp,aep];by_cases e:x=v;·subst e;simp
 rw[aq e,c.bH x l];have:¬(x:Int)=v:=af;simp[this]
theorem PT(l:List Int):l.flatMap (λv=>[v])=l:=by simp
theorem CW:∀l:List G.ic,eU l=l.flatMap λx=>if 0<=x.to then[x.to]else[]|[]=>rfl|x::l=>by rw[alp,<-CW l,eU,eU,aj7];by_cases h:0<=x.to<;>simp[h]
theorem afg(i:g.bp=n)(j:0<=g.params){b:G.gV}(hs:∀x∈b.aD,∃r,wM g x r/\r.vq=decide (0<=x.to)){s:List Bool}{c:List Int}(f:PI n s c)(d:(c++gX b).Nodup)(e:∀v∈gX b,g.params<=v/\v<n):(ub g s b).1=true/\PI n (ub g s b).2 (c++gX b):=by
 unfold gX at d e⊢;rw[<-aj2]at d⊢;obtain⟨h1,h2⟩:=Fg (st:=m8 g) (f:=λv=>[v]) (R:=λv=>g.params<=v/\v<n) (la:=b.params) (λs c a _ f d e=>PS i j f d (e a (aep.2 rfl))) s c f (by simp_all[PT,akI]) (by grind);rw[PT]at h2;rw[CW]at d e⊢;obtain⟨h3,m⟩:=Fg (st:=ow g) (f:=λx:G.ic=>if 0<=x.to then[x.to]else[]) (R:=λv=>g.params<=v/\v<n) (la:=b.aD) (λs c x k f d e=>by
  obtain⟨r,ia,hg⟩:=hs x k;unfold ow;rw[ia.adT];simp only[hg];by_cases h:0<=x.to;·simp only[h,decide_true,bq]at d e⊢;exact PS i j f d (e _ (aep.2 rfl))
  grind) _ _ h2 d (λv l=>e v (akq _ l));simp_all[ub]
theorem afh(h:sD g)(j:G.Sm g)(a:g.bp<=6000):I7 g g.bp.toNat:=by have c:=h.p0;have e:=h.p1;obtain⟨n,l⟩:∃n:Nat,g.bp=n:=⟨g.bp.toNat,af⟩;have hs:∀b∈g.al,∀x∈b.aD,∃r,wM g x r/\r.vq=decide (0<=x.to):=λb hb x d=>aeO (h.aD b hb x d) (j.st b hb x d).1;have key:=Fg (n:=n) (st:=ub g) (f:=gX) (R:=λv=>g.params<=v/\v<n) (la:=g.al) (λs m b hb o f p=>afg l c (hs b hb) o f p) (ahr n false) [] ⟨aB,λv a=>by simp[akm,ak8,a]⟩ (by simpa using h.nd) (λv a=>by have:=h.rg v a;omega);have q:g.bp.toNat=n:=af;rw[q];refine⟨⟨c,e,a,l.symm⟩,h.name,h.ne,h.first,λb hb x d=>(hs b hb x d).imp λr h=>h.1,λb hb=>aeP (h.CD b hb) (j.ed b hb),key.1,λk u t=>?_⟩;have hl:=key.2.len;have i:k<n:=af;have:=(key.2.bH k i).2 (h.all k af af);grind
theorem PU:∀(l:List G.ic)(i:Nat),(∀x∈l, -1<=x.to)->(ja l i).map (·.1)=eU l
 |[],_,_=>rfl
 |x::l,i,h=>by
  have h1:=h x (aeU ..);have a:=PU l (i+1) λy b=>h y (aey _ b);rw[CW,alp,<-CW,ja,akE,a];by_cases e:x.to= -1;·rw[aK e,aq af];rfl
  rw[aq e,aK af];rfl
theorem PV{b:G.gV}(h:∀x∈b.aD, -1<=x.to):(dC b).map (·.1)=gX b:=by rw[dC,akE,PU _ _ h,gX,alx];congr 1;exact List.map_id _
theorem afi(h:sD g):vC g:=by
 have f:=h.p0;have n:=h.p1;have hb:∀b∈g.al,(dC b).map (·.1)=gX b:=λb hb=>PV λx l=>(h.aD b hb x l).r.t0;have e:∀b∈g.al,∀p∈dC b,p.1∈gX b:=λb a p d=>by rw[<-hb b a];exact akp d
 have c:=h.nd;refine⟨af,f,λb a p d=>h.rg _ (akZ.2 ⟨b,a,e b a p d⟩),λb a=>?_,λi j hi hj v p q d m=>?_,λv h0 h1=>?_⟩;·rw[hb b a];obtain⟨i,hi,rfl⟩:=aka a;rw[<-ala i g.al,aj9 hi,akD,alp]at c;exact(akI.1 (akI.1 c).2.1).1
 .have h1:v∈gX g.al[i]:=by have:=e _ (oC hi) _ d;rwa[aH,bF hi]at this
  have h2:v∈gX g.al[j]:=by have:=e _ (oC hj) _ m;rwa[aH,bF hj]at this
  have key:∀i j(hi:i<g.al.length)(hj:j<g.al.length),i<j->v∈gX g.al[i]->v∈gX g.al[j]->False:=λi j hi hj o h1 h2=>by rw[<-ala j g.al,aj9 hj,akD,alp]at c;refine(akI.1 c).2.2 v ?_ v (akf _ h2) rfl;exact akZ.2 ⟨g.al[i],by rw[List.mem_take_iff_getElem];exact⟨i,af,rfl⟩,h1⟩
  rcases Nat.lt_trichotomy i j with h3|h3|h3;·exact(key i j hi hj h3 h1 h2).elim
  .exact h3
  exact(key j i hj hi h3 h2 h1).elim
 obtain⟨b,a,k⟩:=akZ.1 (h.all v h0 h1);rw[<-hb b a]at k;obtain⟨p,d,rfl⟩:=akk.1 k;obtain⟨i,hi,rfl⟩:=aka a;exact⟨i,p.2,hi,by rw[aH,bF hi];exact d⟩
end
end
end Go.am.R
end
