/- A part of the proof. No conditions. -/
import Derived.Test.YtjhkgigolpfcfaaGreatDoorA25
set_option linter.all false
set_option maxHeartbeats 16000000
open Option.some renaming injEq->adG
open List renaming mem_singleton->aep,mem_cons_of_mem->aey,mem_cons_self->aeU,replicate->ahr,length_map->akg,nodup_cons->akz,length_take->akF,nodup_append->akI,nodup_nil->alD
open Nat renaming le_of_ble_eq_true->akc
open Prod renaming fst->alO
noncomputable section
namespace Go.am.R
section
variable{ac:Nat->aG}
def Cn(g:G.bu)(a:List Bool)(aC:List (List Int))(M:List (List Bool))(n b:Nat)(pl:List (List Int)):Prop:=
 a.getD b false=true/\pl.length=(aH g b).aD.length+1/\(∀k,k<=(aH g b).aD.length->(pl.getD k []).Pairwise (·<·)/\∀x,x∈pl.getD k []↔∃v:Nat,x=v/\v<n/\dD (aH g b) (mY g aC M b) (mZ g aC M b) ((aH g b).aD.length - k+1) v)\/a.getD b false=false/\pl=[]
theorem lQ.cons{c:List (List Int)}{a:List AV}{F:List Th}(h:lQ c a F){l:List Int}{v:AV}:lQ (l::c) (v::a) (tR 1 (l.map aI) l.length v::F):=by have hl:=h.len;refine⟨by simp[hl],λb hb=>?_⟩;cases b with|zero=>exact aeU .. |succ b=>rw[List.getD_cons_succ,List.getD_cons_succ];exact aey _ (h.mem b (by simpa using hb))
section
variable{g:G.bu}{H:ai}{cs:List AV}
theorem Rj{A H:ai}{F:List Th}{a:List Th}{pl:List (List Int)}{vsl:List AV}{v:AV}(U:aj A H a)(i:Nat)(hi:a[i]?=some (tZ F))(b:lQ pl vsl F)(c:tR 1 vsl pl.length v∈F):CX H pl v:=by obtain⟨_,d,_,_⟩:=U.mf i hi c;have hl:=b.len;exact b.sl U i hi (by rw[hl];exact d)
theorem Z3{A H:ai}{F G:List Th}{a:List Th}(U:aj A H (tZ F::a))(h:∀t∈G,t∈F):aj A H (tZ G::a):=U.as 0 rfl λ_ b=>⟨λt c=>b.1 t (h t c),b.2⟩
theorem Z4(T:Tb ac)(hg:iG H g cs)(hB:G.Sm g)(hR:sD g)(a0:g.al.length<=30){n:Nat}(hn:g.bp=n)(ca:n<=6000){b:Nat}(hb:b<g.al.length){K:KT}(h0:∀H' v a aC m F,fN g (-1) a aC m->(∀b,oF g (-1) a aC m b)->a.getD b false=false->aj H H' [tZ F]->tR 1 [] 0 v∈F->K v H')(h:∀H' v pl d F a aC m M c2 o2 A,fN g (-1) a aC m->(∀b,oF g (-1) a aC m b)->fN g (-1) c2 o2 A->(∀b,oF g (-1) c2 o2 A b)->nq g c2 o2 n M->Cn g a aC M n b pl->lQ pl d F->tR 1 d pl.length v∈F->aj H H' [tZ F]->K v H'):YN ac Y7 [.agg cs,aN b] H K:=by
 have f7:=hg.one;have ec:=hg;obtain⟨vb,rfl,cA⟩:=hg;have⟨gH,_,_,gL⟩:=cA.all;have f8:iy vb vb=true:=cA.bX;have ds:gz vb vb=true:=by obtain⟨_,hw,_⟩:=cA;exact Sl.gz hw
 have hS:=hR.sh;have L:=agB hb;have cd:=hB.bl _ L;have ei:=hB.st _ L;have cf:=hB.ed _ L;have dv:∀{k:Nat}{x:Int},x∈kU g.al[b] k->0<=x/\x<n:=λhx=>by have:=sr hR L hx;omega
 have ej:∀{k:Nat}(hk:k<g.al[b].aD.length), -1<=g.al[b].aD[k].to/\g.al[b].aD[k].to<n:=λhk=>by have:=(hR.aD _ L _ (agB hk)).r;have h1:=this.t0;have h2:=this.t1;omega
 have a9:∀{c},bm H c->iG c g [.str g.name,aI g.params,aN n,vb]:=λhg=>by have:=dQ.nM hg ec;rw[hn]at this;exact this
 unfold Cn at h;rw[show aH g b=g.al[b]from bF hb _]at h;refine YF.code T.Zm aB ?_;refine au ?_;refine RO.dL (aj.dc H) λH1 q2 U=>?_;have U:aj H H1 [tB fI q2 [.str g.name,aI g.params,aI g.bp,vb]]:=U;rw[hn]at U;refine ah ?_;refine RO.eQ U 0 ?_;refine RO.cl (JQ T (a9 U.gr) hB hS a0 (wo:= -1) λH2 qc qs ek Fo a aC m E cn cp hl=>?_);have U:=U.fC hl;have el:=E.lc;have cv:=E.lo;have et:=cp.len;refine RO.qS U 1 λH3 N U=>?_;have⟨dx,_,_,_⟩:=(U.sl (e:=eH) (size:=1) (sv:=N) (vs:=[]) (n:=0) (full:=true) 0).all;refine ah ?_;refine RO.fx U λH4 q5 U=>?_;refine ah ?_;have ew:=iD (l:=a) (k:=b) el hb;refine RO.fD U 4 (hv:=ew) ?_;refine ah ?_;refine Ru.kN (λo=>?_) (λo=>?_)
 .have o:a.getD b false=false:=by simpa using o
  refine ah ?_;have U:=(((U.gk 1 rfl).as 0 rfl (t':=tR 1 [] 0 N) λf6 J=>tS.mg J).sub (.cons_cons _ (List.nil_sublist _))).Qg;exact Ru.aV (h0 _ N a aC m _ E cn o U (aep.2 rfl))
 have o:a.getD b false=true:=by simpa using o
 obtain⟨eY,e0⟩:=(E.snd b o).ok hS;have f9:=E.jx b o;refine ah ?_;refine RO.gU U 5 ?_;refine ah ?_;refine RO.lL U.gr cA (λgQ gY g0 f' a2 gb dy=>?_) (j:=b);have gd:=a2.one;refine RO.gw ?_ (hc:=(dy U.gr).2);generalize g.al[b]=B at*;obtain⟨vp,O,jc,rfl,g1,a',va,vk,vg,rfl,e1,e2,e3⟩:=a2;have⟨g2,_,_,g3⟩:=a'.all;refine RO.fx U λH5 q7 U=>?_;refine ah ?_;refine RO.eQ U 6 ?_;refine RO.eQ U 1 ?_;refine RO.eQ U 6 ?_;refine ah ?_;refine RO.Qi (Z2 T (a9 U.gr) hB hR a0 hn ca λH6 iv c2 o2 A M g4 dz d0 cx hl=>⟨λaa cy=>?_,?_⟩);·have U:=U.cI hl.gr;obtain⟨_,e4⟩:=U.get 1 rfl;obtain⟨_,ba⟩:=U.get 6 rfl;refine Qj (i:=q5) (o:=0) (vs:=[.slice qc 0 g.al.length g.al.length true,.slice qs 0 g.al.length g.al.length true,.bool m]) cy (by(conv=>lhs;whnf)<;>rfl) (by(conv=>lhs;whnf)<;>rfl) (by simp[pg,gz,ab.ip]) (tB.qQ e4 (m:=3) (by show 0+3<=3;omega)) ?_;exact Qj (i:=q2) (o:=0) (vs:=[.str g.name,aI g.params,aN n,vb]) cy (by(conv=>lhs;whnf)<;>rfl) (by(conv=>lhs;whnf)<;>rfl) (afO ds) (tB.qQ ba (m:=4) (by show 0+4<=4;omega)) rfl
 have bb:=cx.Kv;have e5:=bb.len;have cE:IR H6 M iv:=Ri hl 0 (by rw[e5];rfl) λb hb=>bb.row b af;have⟨gg,_,_,_⟩:=cE.all;have U:=U.cI hl.gr;refine RO.cl (O4 T (a9 U.gr) hB hS hn ca rfl rfl (cp.sl U 3 rfl (by rw[et,cv];exact U.sl (e:=Il) (size:=1) (sv:=.slice qs 0 g.al.length g.al.length true) (vs:=ek) (n:=g.al.length) (full:=true) 4)) cv cE bb eY af e0 λI qo vh Y hr e6 e7 d1 e8 bc e'=>?_);have U:=U.fC e';have⟨gi,_,_,_⟩:=bc.all;have b6:=U.sl (e:=eH) (size:=1) (sv:=N) (vs:=[]) (n:=0) (full:=true) 3;have d2:=U.sl (e:=4) (size:=1) (sv:=.slice qo 0 n n true) (vs:=Y.map .bool) (n:=n) (full:=true) 0;obtain⟨_,c3⟩:=U.get 1 rfl;obtain⟨_,ba⟩:=U.get 7 rfl;have a3:=(U.AU 1).2;have d3:=(U.AU 7).2;have C:∀{c},bm I c->bh c q7 1=some O:=λhg=>by rw[hg.bh a3];exact tB.cell c3 rfl
 have d4:∀{c},bm I c->fE c q7 2 5=some [aU B.aA.op,va,.str B.aA.name,vk,vg]:=λhg=>by simp only[fE,hg.dT q7 a3];exact tB.qQ (m:=5) c3 (by show 2+5<=7;omega)
 have d5:∀{c},bm I c->bh c q2 2=some (aN n):=λhg=>by rw[hg.bh d3];exact tB.cell ba rfl
 have q:=U.gr;have fa:=O6 (λs hs=>(ei s hs).1) cd.2.2.1 cd.2.2.2.2.1 cf;have U:=aj.dc I;refine ah ?_;refine RO.qS U 1 λH8 fb U=>?_;have⟨gn,_,_,_⟩:=(U.sl (e:=4) (size:=1) (sv:=fb) (vs:=[]) (n:=0) (full:=true) 0).all;refine ah ?_;refine RO.pZ U 0 (U.gr.sl d2) (λH9 S U=>?_) (h1:=O0 _);have U:aj I H9 [tS 4 1 (Y.map .bool) n true S]:=by rw[akh]at U;exact U
 have⟨g5,_,_,g6⟩:=(U.sl (e:=4) (size:=1) (sv:=S) (vs:=Y.map .bool) (n:=n) (full:=true) 0).all;have U:=U.rl;refine ah ?_;refine RO.aW (v:=O) ?_ (hc:=C U.gr);refine ah ?_;refine Ru.nm λS1 M1 fd c5=>?_;refine Ru.cC c5 (up (P:=λi=>∀c lv v6(cl:List (List Int))d F,lv.length=n->(∀v,v<n->(bS lv v↔dD B (mY g aC M b) (mZ g aC M b) i v))->v6.bB=true->cl.length=i->(∀j,j<i->(cl.getD j []).Pairwise (·<·)/\∀x,x∈cl.getD j []↔∃v:Nat,x=v/\v<n/\dD B (mY g aC M b) (mZ g aC M b) (i - j) v)->lQ cl d F->(∀c W,aj I c (tZ F::W)->Sl c 1 d i v6)->(i≠0->tR 1 d i v6∈F)->aj I c [tZ F,tS 4 1 (lv.map .bool) n true S]->Ru ac _ S1 ([(aO,aI ((B.aD.length:Int) - i)),(p6,v6)]++pk M1 [p2,p7,p8,p9]) c) (B.aD.length+1) (λi hi ih c lv v6 cl d F Z bd g7 bv a4 p d6 d7 U=>?_) 0 af _ Y N [] [] [] e6 d1 dx rfl (λj hj=>by omega) ⟨rfl,λb hb=>absurd hb aB⟩ (λc W hl=>hl.gr.sl b6) (λV=>absurd rfl V) U) (by simp;exact⟨rfl,rfl,trivial⟩);subst fd;subst c5;refine Ru.loop ?_;refine ah ?_;refine Ru.cond (λ(fe:(0:Int)<=(B.aD.length:Int) - i)=>?_) (λ(fe:¬(0:Int)<=(B.aD.length:Int) - i)=>?_)
 .have ih:=ih (i+1) af af;obtain⟨k,hk⟩:∃k:Nat,(B.aD.length:Int) - i=(k:Int):=⟨B.aD.length - i,af⟩;have fk:B.aD.length - i=k:=af;have b':dS d=true:=HS.2 λv hv=>by obtain⟨j,hj,rfl⟩:=aka hv;have hm:=p.mem j (by have:=p.len;omega);rw[bF hj]at hm;obtain⟨_,J,_,_⟩:=U.mf 0 rfl hm;exact J.ee
  rw[hk];refine ah ?_;refine RO.gw ?_ (hc:=d4 U.gr);refine RO.cl (afL T (dQ.Ig (q.trans U.gr) ⟨va,vk,vg,rfl,e1,e2,e3⟩) ⟨af,af⟩ cf λg8 P hl=>?_);have U:=U.fC hl;have⟨d8,_,_,d'⟩:=(U.sl (e:=3) (size:=1) (sv:=P) (vs:=(ui B.aA).map aI) (n:=(ui B.aA).length) (full:=true) 0).all;refine RO.bg ?_;refine RO.nil ?_;refine Ru.seq ?_;refine Ru.wP (P:=λM' H'=>∃rv l2,M'=[(aR,rv),(p2,.az q2 0),(p6,v6),(p7,.az q7 0),(p8,S),(p9,vh),(aO,aN k)]/\rv.bB=true/\lenOf rv=some (kU B k).length/\(∀c W,aj I c (tS 3 1 ((ui B.aA).map aI) (ui B.aA).length true P::W)->fZ c (kU B k) rv)/\l2.length=n/\(∀v,v<n->(bS l2 v↔dD B (mY g aC M b) (mZ g aC M b) i v/\¬(k<B.aD.length/\(B.aD.getD k default).to=(v:Int))))/\aj I H' [tS 3 1 ((ui B.aA).map aI) (ui B.aA).length true P,tZ F,tS 4 1 (l2.map .bool) n true S]) (λM' HC hP=>?_) (λs' y=>?_);rotate_left
  .refine ah ?_;refine RO.aW (v:=O) ?_ (hc:=C U.gr);refine ah ?_;refine Ru.cond (λa1=>?_) (λa1=>?_)
   .obtain⟨t0,t1⟩:=ej a1;refine ah ?_;refine RO.aW (v:=O) ?_ (hc:=C U.gr);refine ah ?_;refine RO.lL (q.trans U.gr) a' (λq8 o8 gA fl b0 fo b3=>?_) (j:=k);obtain⟨ag,rfl,a5⟩:=b0;have⟨a6,_,_,a8⟩:=a5.all;refine ah ?_;refine RO.aW (v:=ag) ?_ (hc:=(b3 (q.trans U.gr)).1 2 _ rfl);refine ah ?_;refine RO.aW (v:=O) ?_ (hc:=C U.gr);refine ah ?_;refine RO.lL (q.trans U.gr) a' (λq8 o8 gA fl b0 fo b3=>?_) (j:=k);obtain⟨g9,rfl,gq⟩:=b0;refine ah ?_;refine RO.aW (v:=aI B.aD[k].to) ?_ (hc:=(b3 (q.trans U.gr)).1 1 _ rfl);have hrd:kU B k=B.aD[k].args:=by rw[kU,aK a1,bF a1]
    have D:∀c W,aj I c (tS 3 1 ((ui B.aA).map aI) (ui B.aA).length true P::W)->fZ c (kU B k) ag:=λc W U=>by rw[hrd];exact(q.trans U.gr).sl a5
    have c8:B.aD.getD k default=B.aD[k]:=bF a1 _;refine ah ?_;refine Ru.cond (λ(gB:0<=B.aD[k].to)=>?_) (λ(gB:¬0<=B.aD[k].to)=>?_)
    .obtain⟨t,ht⟩:∃t:Nat,B.aD[k].to=t:=⟨B.aD[k].to.toNat,af⟩;have g':t<n:=af;obtain⟨c9,cap,ex,rfl⟩:=U.uT (e:=4) (size:=1) (n:=n) (full:=true) (sv:=S) 2 rfl af;rw[ht];refine ah ?_;refine RO.lC (f:=.bool) (zs:=lv) U 2 false Z (λH9 U=>?_);refine ah ?_;refine y _ _ _ ⟨ag,lv.set t false,rfl,a6,by rw[hrd];exact a8,D,by simpa using Z,λv hv=>?_,U⟩ fB;rw[m9 af,c8,ht];by_cases e:v=t;·subst e;simp[a1]
     rw[aq e,bd v hv];have:¬((t:Int)=(v:Int)):=af;simp[this]
    refine ah ?_;refine y _ _ _ ⟨ag,lv,rfl,a6,by rw[hrd];exact a8,D,Z,λv hv=>?_,U⟩ fB;rw[bd v hv,c8];have:¬(B.aD[k].to=(v:Int)):=af;simp[this]
   have hrd:kU B k=ui B.aA:=by rw[kU,aq a1]
   refine ah ?_;refine y _ _ _ ⟨_,lv,rfl,d8,by rw[hrd];exact d',λc W U=>by rw[hrd];exact U.sl (e:=3) (size:=1) (vs:=(ui B.aA).map aI) (n:=(ui B.aA).length) (full:=true) 0,Z,λv hv=>?_,U⟩ fB;rw[bd v hv];simp[a1]
  obtain⟨rv,l2,hM,hrd,ha,fp,fq,ea,U⟩:=hP;subst hM;have hc:=fa k;refine ah ?_;refine Ru.nm λS2 M2 fs c'=>?_;refine Ru.cC c' (up (P:=λj=>∀c X,X.length=n->(∀v,v<n->(bS X v↔(v:Int)∈(kU B k).take j\/bS l2 v))->aj I c [tS 3 1 ((ui B.aA).map aI) (ui B.aA).length true P,tZ F,tS 4 1 (X.map .bool) n true S]->Ru ac _ S2 ([(aX,aN j)]++pk M2 [p2,p6,p7,p8,p9,aO,aR]) c) (kU B k).length (λj hj b4 c X b5 Q U=>?_) 0 af _ l2 fq (λv hv=>by simp) U);subst fs;subst c';refine Ru.loop ?_;refine ah ?_;refine Ru.cond (λR=>?_) (λR=>?_)
  .have b4:=b4 (j+1) af af;obtain⟨z0,z1⟩:=dv (agB R);obtain⟨z,hz⟩:∃z:Nat,(kU B k)[j]=z:=⟨(kU B k)[j].toNat,af⟩;have hf:z<n:=af;obtain⟨c9,cap,ex,rfl⟩:=U.uT (e:=4) (size:=1) (n:=n) (full:=true) (sv:=S) 2 rfl af;refine ah ?_;refine RO.kz (bm.refl _) (fp _ _ U) (λq9 o9 dm av=>?_) (j:=j);rw[hz]at av;refine RO.aW (v:=aN z) ?_ (hc:=av);refine ah ?_;refine RO.lC (f:=.bool) (zs:=X) U 2 true b5 (λH9 U=>?_);refine ah ?_;exact Ru.wk (b4 _ (X.set z true) (by simpa using b5) (λv hv=>by
    rw[m9 af,(akd R).symm,ahp,aep,hz];by_cases e:v=z;·subst e;simp
    rw[aq e,Q v hv];have:¬((v:Int)=(z:Int)):=af;simp[this]) U)
  refine Ru.exitTo ?_;rw[akl af]at Q;have U:=U.tail;refine ah ?_;refine Ru.nm λS3 M3 f0 dr=>?_;refine Ru.cC dr (up (P:=λx=>∀c l,l.length=n->(∀v,v<n->(bS l v↔bS X v\/v<x/\bS hr v))->aj I c [tZ F,tS 4 1 (l.map .bool) n true S]->Ru ac _ S3 ([(bi,aN x)]++pk M3 [p2,p6,p7,p8,p9,aO]) c) n (λx hx aw c l u f U=>?_) 0 af _ X b5 (λv hv=>by simp) U);subst f0;subst dr;refine Ru.loop ?_;refine ah ?_;refine RO.aW (v:=aN n) ?_ (hc:=d5 U.gr);refine ah ?_;refine Ru.cond (λeb=>?_) (λeb=>?_)
  .have aw:=aw (x+1) af af;obtain⟨c9,cap,ex,rfl⟩:=U.uT (e:=4) (size:=1) (n:=n) (full:=true) (sv:=S) 1 rfl af;have ax:=iD (l:=l) (k:=x) u af;have aA:∀z:Bool,(z=true↔bS l x\/bS hr x)->∀v,v<n->(bS (l.set x z) v↔bS X v\/v<x+1/\bS hr v):=λz hz v hv=>by
    rw[m9 af];by_cases e:v=x;·subst e;rw[aK rfl,hz,f v hv];simp
    rw[aq e,f v hv];have:v<x+1↔v<x:=af;rw[this]
   refine ah ?_;cases ay:l.getD x false with|true=>rw[ay]at ax;refine RO.fD U 1 (hv:=ax) ?_;refine ah ?_;refine RO.lC (f:=.bool) (zs:=l) U 1 true u (λH9 U=>?_);refine ah ?_;exact Ru.wk (aw _ _ (by simpa using u) (aA true ⟨λ_=>.inl ay,λ_=>rfl⟩) U)|false=>rw[ay]at ax;refine RO.fD U 1 (hv:=ax) ?_;refine ah ?_;refine RO.lg U.gr (by rw[<-e7]at bc;exact bc) (λq9 o9 dm av=>?_) (j:=x) (hj:=by omega);rw[show hr[x]'dm=hr.getD x false from(bF _ _).symm]at av;refine ah ?_;refine RO.lC (f:=.bool) (zs:=l) U 1 (hr.getD x false) u (λH9 U=>?_);refine ah ?_;exact Ru.wk (aw _ _ (by simpa using u) (aA _ ⟨λV=>.inr V,λV=>V.resolve_left (by rw[bS,ay];simp)⟩) U)
  refine Ru.exitTo ?_;have f:∀v,v<n->(bS l v↔dD B (mY g aC M b) (mZ g aC M b) (i+1) v):=λv hv=>by rw[f v hv,dD,fk,Q v hv,ea v hv,e8 v hv];have:v<x:=af;simp[this]
  refine ah ?_;refine RO.cl (O3 T (l:=l) (by rw[u];exact U.sl (e:=4) (size:=1) (vs:=l.map .bool) (n:=n) (full:=true) 1) af λf1 w hl=>?_);have U:=((U.fC hl).as 0 rfl (t':=tR 1 ((ev l).map aI) (ev l).length w) λf6 J=>tS.mg J).lq;have⟨f2,hh,f3,_⟩:=(show Sl f1 1 ((ev l).map aI) (ev l).length w by obtain⟨_,J⟩:=hl.get 0 rfl;exact dU.sl J).all;refine RO.lf U 1 (ws:=[w]) (n:=1) (λho gx U=>?_) (hl:=kG rfl f2 f3 rfl rfl rfl);have f4:=d6 _ _ (Z3 (G:=F) (U.gk 1 rfl) λt ht=>aey _ ht);refine ah ?_;refine RO.pZ U 0 f4 (λhp v9 U=>?_) (h1:=b');have⟨f5,_,_,_⟩:=(U.sl (e:=eH) (size:=1) (n:=1+i) (full:=true) (sv:=v9) (vs:=[w]++d) 0).all;have U:=(U.as 0 rfl (t':=tR 1 ([w]++d) (1+i) v9) λf6 J=>tS.mg J).lq;refine ah ?_;refine RO.sub (a:=(k:Int)) (b:=1) ?_;refine ah ?_;rw[show((k:Int) - 1)=(B.aD.length:Int) - (i+1:Nat)by omega];refine Ru.wk (ih _ l v9 (ev l::cl) (w::d) _ u f f5 (by simp[bv]) (λj hj=>?_) (p.cons.Jo λt ht=>aey _ ht) (λc W hl=>?_) (λ_=>by rw[show i+1=1+i by omega];exact aeU ..) U)
  .cases j with
   |zero=>
    rw[List.getD_cons_zero];refine⟨ZJ _,λx=>?_⟩;rw[zb];constructor
    .rintro⟨v,e,V⟩;have hv:v<n:=by have:=E2 V aB;omega
     exact⟨v,e,hv,(f v hv).1 V⟩
    rintro⟨v,e,hv,V⟩;exact⟨v,e,(f v hv).2 V⟩
   |succ j=>rw[List.getD_cons_succ];have:=a4 j af;rw[show i+1 - (j+1)=i - j by omega];exact this
  obtain⟨_,J,_⟩:=hl.mf 0 rfl (aeU ..);rw[show i+1=1+i by omega];exact J
 refine Ru.exitTo ?_;obtain rfl:i=B.aD.length+1:=af;refine ah ?_;have gy:=p.len;refine Ru.aV (h _ v6 cl d F a aC m M c2 o2 A E cn dz d0 cx (.inl ⟨o,bv,λj hj=>?_⟩) p (by rw[bv];exact d7 af) ((U.sub (.cons_cons _ (List.nil_sublist _))).Nz q));have:=a4 j af;rw[show B.aD.length+1 - j=B.aD.length - j+1 by omega]at this;exact this
end
end
section
variable{ac:Nat->aG}{b:Type}
def ae6(size:Nat)(ld:bW):bt:=(.seq (.region [O p4 (.aW (T p1)),O p5 (.j7 (T p4)),O p6 (.arith .sub 3 (T p5) (I 3 1)),O p3 (.bg (T p6))]) (.block 0 (.loop (.seq (.seq (.region [O p7 (.bg (T p3)),O p8 (.arith .geq 3 (T p7) (I 3 0))]) (.cond (T p8) .skip (.exit 0))) (.seq (.block 1 (.seq (.region [O aR (.bg (T p0)),O aY (.bg (T p3)),O aX (.aW (T p1)),O bi (.bg (T p3)),O bk (.dG size (T aX) (T bi)),O bo ld,O aZ (.call (T aR) [(T aY),(T bo)]),O br (.unary .not (T aZ))]) (.cond (T br) .ret .skip))) (.region [O p9 (.bg (T p3)),O aO (.arith .sub 3 (T p9) (I 3 1)),O p3 (.bg (T aO))]))))))
def ae7(R:b->List AV->Prop)(agg:Bool)(a:List b)(k:Nat)(args:List AV)(c:List Th):Prop:=c=[]/\∃(h:a.length - 1 - k<a.length)(cs:List AV),R a[a.length - 1 - k] cs/\args=[aN (a.length - 1 - k),vn agg cs]
theorem Fb{A:ai}{size nt f e:Nat}{agg:Bool}{R:b->List AV->Prop}{la:List b}{sv:AV}{j:ab}(x:ac f=.code nt [] (ae6 size (Cs size agg (am.T bk))))(F:2<=nt)(hl:la.length<=1000000)(h1:agg=false->size=1)(hd:∀a cs,R a cs->(vn agg cs).bB=true):yI ac A (.func f [] [.az j 0]) la.length (ae7 R agg la) [tB e j [sv]] (λH=>dV size (λ_=>R) H la sv) (λH=>dV size (λ_=>R) H la sv):=by
 intro y J D c us H K G I L n g i U z d;have⟨N,_,_,P⟩:=z.all;refine YF.code x (by grind) ?_;refine ah ?_;refine RO.sub (a:=(la.length:Int)) (b:=1) ?_;refine ah ?_;refine Ru.nm λS M B u=>?_;refine Ru.cC u (up (P:=λk=>∀l c,J k c->aj A l (tB e j [sv]::(c++us))->Ru ac _ S ([(p3,aI ((la.length:Int) - 1 - k))]++pk M [p0,p1]) l) la.length (λk Q C l c i U=>?_) 0 af _ c i U) (by simp;exact⟨rfl,trivial⟩);subst B;subst u;refine Ru.loop ?_;refine ah ?_;refine Ru.cond (λ(p:(0:Int)<=(la.length:Int) - 1 - k)=>?_) (λ(p:¬(0:Int)<=(la.length:Int) - 1 - k)=>?_)
 .obtain⟨t,E⟩:∃t:Nat,(la.length:Int) - 1 - k=(t:Int):=⟨la.length - 1 - k,af⟩;have r:t=la.length - 1 - k:=af;rw[E];have hs:=n k c (tB e j [sv]::us) l i U.Ej;refine ah ?_;refine RO.cZ (bm.refl _) hs (λq o cs hj w m hat hrd=>?_) (j:=t);have O:=hd _ _ w;refine RO.OA m h1 hat hrd ?_;subst r;refine RO.cl ((g k [aN (la.length - 1 - k),vn agg cs] [] c _ _ af ⟨rfl,hj,cs,w,rfl⟩ i U.Ej).mono ?_);rintro v V⟨s,U,m⟩;rcases m with⟨rfl,h⟩|⟨rfl,h⟩;·refine ah ?_;refine RO.sub (a:=((la.length - 1 - k:Nat):Int)) (b:=1) ?_;refine ah ?_;have e1:(((la.length - 1 - k:Nat):Int) - 1:Int)=(la.length:Int) - 1 - (k+1:Nat):=af;rw[e1];exact Ru.wk (C (k+1) af af _ _ h U.wy)
  refine ah ?_;exact Ru.mD (vs:=[]) trivial (d _ s _ U.wy.tail (.inr h))
 refine Ru.exitTo ?_;refine ah ?_;refine Ru.aA (vs:=[]) trivial (d _ c _ U.tail (.inl ?_));rw[show la.length=k by omega];exact i
theorem Fc{f c e cl:Nat}{a:AV}{H:ai}(h:ac f=.code c [.tmp p2] (.seq (.region [O p1 (.box e (am.T p0)),O p2 (.bg (C .nilFunc))]) (.seq (.region [O p3 (.iP cl [] [(am.T p1)]),O p2 (.bg (am.T p3))]) .ret)))(j:1<=c)(hd:a.bB=true)(h1:a.ee=true)(d:a.cells=[a]){K:KT}(i:∀g q,aj H g [tB e q [a]]->K (.func cl [] [.az q 0]) g):YN ac f [a] H K:=by refine YF.code h (by simp;omega) ?_;refine au ?_;refine RO.dL (aj.dc H) (λH1 q U=>?_) (ho:=by rw[d];exact ao h1 rfl);rw[d]at U;refine au ?_;exact Ru.aV (i _ q U)
end
end Go.am.R
namespace Go.am
section
def tM(ex:Bool)(q:ab)(S:Int->Prop):Th where
 P H a:=q∈a/\(∀j∈a,j=q)/\(∃ks,ib (H.get q) ks/\∀x,x∈ks↔S x)/\(ex=true->∃es c,H.get q=.map es c)/\q.an<H.next.an
 fr h b hg:=⟨h.1,h.2.1,by rw[hg _ h.1];exact h.2.2.1,by rw[hg _ h.1];exact h.2.2.2.1,ako h.2.2.2.2 b⟩
 lt h:=by intro j hj;rw[h.2.1 j hj];exact h.2.2.2.2
def ik(p:Int×Int):AV×AV:=(.int 3 p.1,.int 3 p.2)
def tI(q:ab)(pl:List (Int×Int)):Th where
 P H a:=q∈a/\(∀j∈a,j=q)/\(∃es c,H.get q=.map es c/\es.map aT.kv=pl.map ik)/\(pl.map alO).Nodup/\q.an<H.next.an
 fr h b hg:=⟨h.1,h.2.1,by rw[hg _ h.1];exact h.2.2.1,h.2.2.2.1,ako h.2.2.2.2 b⟩
 lt h:=by intro j hj;rw[h.2.1 j hj];exact h.2.2.2.2
section
variable{A H:ai}{ts:List Th}{q:ab}{S S':Int->Prop}{ex:Bool}{pl:List (Int×Int)}{z y:Int}
variable{ac:Nat->aG}{c:Cx}{s:List SI}{L:Kn}{d:Option ab}{l:List be}
theorem aj.uh{t t':Th}(U:aj A H ts)(i:Nat)(hi:ts[i]?=some t){a:ai}(c:a.next=H.next)(hg:∀j,j≠q->a.get j=H.get j)(h1:∀b,t.P H b->q∈b)(h2:t'.P a [q]):aj A a (ts.set i t'):=by obtain⟨b,d,_,hu⟩:=U.ki i hi;refine hu (fp':=[q]) ⟨Nat.le_of_eq (by grind),λj hj=>?_,λj hj c=>?_⟩ h2;all_goals grind
theorem aj.nf(U:aj A H ts)(i:Nat)(hi:ts[i]?=some (tM ex q S):=by rfl):(∃ks,ib (H.get q) ks/\∀x,x∈ks↔S x)/\(ex=true->∃es c,H.get q=.map es c)/\q.an<H.next.an:=by obtain⟨b,a⟩:=U.get i hi;exact a.2.2
theorem aj.Fe(U:aj A H ts)(i:Nat)(hi:ts[i]?=some (tI q pl):=by rfl):(∃es c,H.get q=.map es c/\es.map aT.kv=pl.map ik)/\(pl.map alO).Nodup/\q.an<H.next.an:=by obtain⟨b,a⟩:=U.get i hi;exact a.2.2
theorem aj.CT(U:aj A H ts)(i:Nat)(hi:ts[i]?=some (tM ex q S))(h:∀x,S x↔S' x):aj A H (ts.set i (tM ex q S')):=U.as i hi λb a=>⟨a.1,a.2.1,a.2.2.1.imp λks h2=>⟨h2.1,λx=>(h2.2 x).trans (h x)⟩,a.2.2.2⟩
theorem aj.PJ(U:aj A H ts){o:cq}{S:Int->Prop}{ks:List Int}(hs:ib o ks)(a:∀x,x∈ks↔S x)(b:ex=true->∃es c,o=.map es c):aj A (H.new o) (tM ex H.next S::ts):=U.push (fp:=[H.next]) (bm.new H o) ⟨aep.2 rfl,λj hj=>aep.1 hj,⟨ks,by rw[ai.dJ,aK rfl];exact hs,a⟩,λh=>by rw[ai.dJ,aK rfl];exact b h,by rw[ai.nK];omega⟩ (uU H)
theorem RO.Ff(U:aj A H ts)(h:∀a q,aj A a (tM true q (λ_=>False)::ts)->RO ac c l s (bC L d (.map q)) a):RO ac c (⟨d,.jK,none,[],[]⟩::l) s L H:=RO.jK (h _ _ (U.PJ (ks:=[]) ⟨alD,[],rfl,rfl⟩ (λx=>by simp) λ_=>⟨[],0,rfl⟩))
theorem RO.PK(U:aj A H ts)(i:Nat){x y:aJ}(h:∀b,aj A b (ts.set i (tM ex q λx=>x=z\/S x))->RO ac c l s (bC L d .alR) b)(hi:ts[i]?=some (tM ex q S):=by rfl)(k:bf L x=.map q:=by exact cw)(m:bf L y=.int 3 z:=by exact cw):RO ac c (⟨d,.jy .int x y (.c (.bool true)),none,[],[]⟩::l) s L H:=λaa a=>by
 obtain⟨⟨ks,hs,o⟩,he,e⟩:=U.nf i hi;obtain⟨b,p,g,r,t,w⟩:=Hu (a.gv k rfl) (a.gv m rfl) hs;have f:=U.uh (q:=q) i hi (t':=tM ex q λx=>x=z\/S x) g r (λB u=>u.1) ⟨aep.2 rfl,λj hj=>aep.1 hj,⟨_,t,λx=>by rw[BV,o]⟩,λh=>?_,by rw[g];exact e⟩;·obtain⟨n,v⟩:=h b f _ (a.set d .alR);exact⟨n+1,Xo.op p v⟩
 grind
theorem RO.CU(U:aj A H ts)(i:Nat){x y:aJ}(h:∀t:Bool,(t=true↔S z)->RO ac c l s (bC L d (.bool t)) H)(hi:ts[i]?=some (tM ex q S):=by rfl)(b:bf L x=.map q:=by exact cw)(e:bf L y=.int 3 z:=by exact cw):RO ac c (⟨d,.lookup .int (.bool false) false x y,none,[],[]⟩::l) s L H:=by obtain⟨⟨ks,hs,g⟩,he,f⟩:=U.nf i hi;exact RO.op (λaa a=>MX (a.gv b rfl) (a.gv e rfl) hs) (h (iA z ks) (by grind[ta]))
theorem PL{k:Int}:∀{es:List aT}{pl:List (Int×Int)},es.map aT.kv=pl.map ik->k∉pl.map alO->∀i0,findKey .int (.int 3 k) es i0=some none
 |[],_,_,_,_=>rfl
 |e::es,[],h,_,_=>by grind
 |e::es,p::pl,h,a,i0=>by
  simp only[aj7,akn,aT.kv,ik,aj1]at h;simp only[aj7,aeV,not_or]at a;have c:iQ k p.1=false:=by rw[fQ];simpa using a.1
  have b:eA 64 .int (.int 3 k) (.int 3 p.1)=some (iQ k p.1):=by simp[eA]
  simp only[findKey,h.1.1,b,c];exact PL h.2 a.2 _
theorem RO.ae8(U:aj A H ts)(h:∀a q,aj A a (tI q []::ts)->RO ac c l s (bC L d (.map q)) a):RO ac c (⟨d,.jK,none,[],[]⟩::l) s L H:=RO.jK (h _ _ (U.push (fp:=[H.next]) (bm.new H _) ⟨aep.2 rfl,λj hj=>aep.1 hj,⟨[],0,by rw[ai.dJ,aK rfl],rfl⟩,alD,by rw[ai.nK];omega⟩ (uU H)))
theorem RO.ae9(U:aj A H ts)(i:Nat){x w:aJ}(k:z∉pl.map alO)(h:∀m,aj A m (ts.set i (tI q (pl++[(z,y)])))->RO ac c l s (bC L d .alR) m)(hi:ts[i]?=some (tI q pl):=by rfl)(p:bf L x=.map q:=by exact cw){n:aJ}(r:bf L n=.int 3 z:=by exact cw)(t:bf L w=.int 3 y:=by exact cw):RO ac c (⟨d,.jy .int x n w,none,[],[]⟩::l) s L H:=by
 obtain⟨⟨es,cc,he,o⟩,u,g⟩:=U.Fe i hi;refine RO.op (λaa f=>?_) (h (H.set q (.map (es++[⟨.int 3 z,.int 3 y,cc⟩]) (cc+1))) (U.uh (q:=q) i hi rfl (λj hj=>by rw[ai.aF,aq hj]) (λC v=>v.1) ⟨aep.2 rfl,λj hj=>aep.1 hj,⟨_,_,by rw[ai.aF,aK rfl],by simp[o,aT.kv,ik]⟩,?_,by rw[ai.gD];exact g⟩));·simp only[aE,jA,aku,aes,bP,f.gv p rfl,f.gv r rfl,f.gv t rfl,he,PL o k 0]
 simp only[akE,aj7,ali];rw[akI];exact⟨u,aB,λa B b hb=>by simp only[aep]at hb;subst hb;exact λe=>k (e▸B)⟩
theorem PM:∀{es:List aT}{pl:List (Int×Int)},es.map aT.kv=pl.map ik->lA.go es=some pl/\jR es=some (pl.map alO)|[],[],_=>⟨rfl,rfl⟩|[],_::_,h=>by grind|_::_,[],h=>by grind|e::es,p::pl,h=>by simp only[aj7,akn,aT.kv,ik,aj1]at h;obtain⟨h1,h2⟩:=PM h.2;simp[h,h1,h2,lA.go,jR,aj7,and_self]
theorem aj.uf(U:aj A H ts)(i:Nat)(hi:ts[i]?=some (tI q pl):=by rfl):lA H q=some pl/\jT H q=some (pl.map alO):=by obtain⟨⟨es,cc,he,a⟩,b,c⟩:=U.Fe i hi;obtain⟨h1,h2⟩:=PM a;simp[he,h1,h2,b,lA,jT,eS,xL,bq,and_self]
theorem PN:∀{es:List aT}{ks:List Int},es.map aT.kv=ks.map sk->uN es=some ks/\jR es=some ks|[],[],_=>⟨rfl,rfl⟩|[],_::_,h=>by grind|_::_,[],h=>by grind|e::es,p::pl,h=>by simp only[aj7,akn,aT.kv,sk,aj1]at h;obtain⟨h1,h2⟩:=PN h.2;simp[h,h1,h2,uN,jR,and_self]
theorem yV{ks:List Int}(h:ib (H.get q) ks):jS H q=some ks/\jT H q=some ks:=by obtain⟨a,es,he,b⟩:=h;obtain⟨h1,h2⟩:=PN b;simp[he,h1,h2,a,jS,jT,xL,bq,and_self]
theorem PO{k:Int}:∀{es:List aT}{ks:List Int},es.map aT.kv=ks.map sk->ks.Nodup->∀i0,findKey .int (.int 3 k) es i0=some none/\k∉ks\/∃i,findKey .int (.int 3 k) es i0=some (some (i0+i,.bool true))/\∃a:List Int,(pN es i).map aT.kv=a.map sk/\a.Nodup/\∀x,x∈a↔x∈ks/\x≠k
 |[],[],_,_,_=>.inl ⟨rfl,aB⟩
 |[],_::_,h,_,_=>by grind
 |_::_,[],h,_,_=>by grind
 |e::es,x::ks,h,j,i0=>by
  simp only[aj7,akn,aT.kv,sk,aj1]at h;obtain⟨⟨h1,h2⟩,h3⟩:=h;obtain⟨m,c⟩:=akz.1 j;have d:eA 64 .int (.int 3 k) (.int 3 x)=some (iQ k x):=by simp[eA]
  by_cases b:k=x
  .subst b;refine .inr ⟨0,?_,ks,by trivial,c,λy=>?_⟩;·simp[h1,d,h2,findKey,fQ,beq_self_eq_true,alG]
   grind
  have l:iQ k x=false:=by rw[fQ];simpa using b
  rcases PO (k:=k) h3 c (i0+1)with⟨f,g⟩|⟨i,f,a,g,n,o⟩;·simp[b,g,h1,d,l,f,findKey]
  refine .inr ⟨i+1,?_,x::a,?_,?_,λy=>?_⟩;all_goals grind[findKey,pN,aT.kv,sk,akz]
theorem RO.afa(U:aj A H ts)(i:Nat){x y:aJ}(h:∀p,aj A p (ts.set i (tM true q λx=>S x/\x≠z))->RO ac c l s (bC L d .alR) p)(hi:ts[i]?=some (tM true q S):=by rfl)(r:bf L x=.map q:=by exact cw)(t:bf L y=.int 3 z:=by exact cw):RO ac c (⟨d,.delete .int x y,none,[],[]⟩::l) s L H:=by
 obtain⟨⟨ks,hs,k⟩,he,f⟩:=U.nf i hi;obtain⟨es,cc,e⟩:=he rfl;obtain⟨u,D,b,v⟩:=hs;rw[e]at b;simp only[eS,adG]at b;subst b;rcases PO (k:=z) v u 0 with⟨g,m⟩|⟨j,g,o,m,w,B⟩
 .refine RO.op (λaa a=>?_) (h (H.set q (.map es cc)) (U.uh (q:=q) i hi rfl (λj hj=>by rw[ai.aF,aq hj]) (λC n=>n.1) ⟨aep.2 rfl,λj hj=>aep.1 hj,⟨ks,by rw[ai.aF,aK rfl];exact⟨u,es,rfl,v⟩,λx=>?_⟩,λ_=>⟨es,cc,by rw[ai.aF,aK rfl]⟩,by rw[ai.gD];exact f⟩));·simp only[aE,jA,aku,aes,bP,a.gv r rfl,a.gv t rfl,e,g]
  rw[k];exact⟨λh=>⟨h,λe=>m (by rw[<-e,k];exact h)⟩,λh=>h.1⟩
 rw[akh]at g;refine RO.op (λaa a=>?_) (h (H.set q (.map (pN es j) cc)) (U.uh (q:=q) i hi rfl (λj hj=>by rw[ai.aF,aq hj]) (λC n=>n.1) ⟨aep.2 rfl,λj hj=>aep.1 hj,⟨o,by rw[ai.aF,aK rfl];exact⟨w,_,rfl,m⟩,λx=>?_⟩,λ_=>⟨_,cc,by rw[ai.aF,aK rfl]⟩,by rw[ai.gD];exact f⟩));·simp only[aE,jA,aku,aes,bP,a.gv r rfl,a.gv t rfl,e,g]
 rw[B,k]
def CV(cQ:List ab):Kn->Kn->Prop
 |[],_=>True
 |(p,v)::l,m=>zY p cQ=false/\lk m p=v/\CV cQ l m
theorem CV.le{cQ:List ab}{aa:ap AV}(b:Le L aa):∀{M:Kn},CV cQ M L->Le M (kL aa cQ)|[],_=>λp v h=>.inl h.symm|(q,w)::M,h=>λp v a=>by simp only[lk]at a;cases hb:ab.beq q p with|true=>rw[hb]at a;obtain rfl:=ab.ip.1 hb;rw[B0,aq λc=>by have h0:=h.1;grind[HI]];exact b q v (h.2.1.trans a)|false=>rw[hb]at a;exact CV.le b h.2.2 p v a
theorem Ru.ez{t:Nat}{g:ap AV->ai->Option (ap AV×ai)}{cQ:List ab}{M:Kn}{H':ai}(b:ac t=.ez g)(hg:∀aa,Le L aa->g aa H=some (kL aa cQ,H'))(h:Ru ac c s M H')(hl:CV cQ M L:=by repeat'(first|exact trivial|refine⟨rfl,rfl,?_⟩)):Ru ac c (.code (.ez t)::s) L H:=λaa a=>by refine⟨1,?_⟩;simp only[Xc,exec,b,hg aa a];exact h _ (hl.le a)
end
end
end Go.am
namespace Go.am.R
section
theorem Pr{op:Nat}:∀{l:List (Nat×rm)},(ud op l).w≠ []->op∈l.map (·.1)
 |[],h=>absurd rfl h
 |p::l,h=>by
  unfold ud at h;split at h;·rename_i e;rw[e];exact aeU ..
  exact aey _ (Pr h)
theorem aeN{t:List Nat}(h:iu t≠0):su t:=by
 unfold iu at h;split at h;·rename_i a;simp only[Cu,aeV,aki,or_false]at a;rcases a with rfl|rfl|rfl|rfl|rfl<;>exact⟨bA,bA,bA⟩
 split at h;·rename_i a;simp only[Cv,aeV,aki,or_false]at a;rcases a with rfl|rfl|rfl|rfl|rfl|rfl|rfl|rfl|rfl|rfl|rfl<;>exact⟨bA,bA,bA⟩
 split at h;·rename_i a;simp only[Cw,aeV,aki,or_false]at a;subst a;exact⟨bA,bA,bA⟩
 exact absurd rfl h
structure Co(g:G.bu)(x:G.ic)(r:qy):Prop where
 c:vI g x r
 gv:r.vq=decide (0<=x.to)
 lo: -1<=x.to
 hi:x.to<g.bp
section
variable{g:G.bu}
theorem CR{x:G.ic}{r:qy}{f:rm}(hg:r.vq=f.to)(e:r.ER=if f.n then f.lo else 0)(i:r.ES=if f.n then f.hi else 0)(b:yN f.nm x.name↔I4 r.nm x.name)(d:((x.op=15\/x.op=18->x.args.length<=6)/\(x.op≠15->x.op≠18->sB (OY f x.name) x.args.length))↔(r.EP<=x.args.length/\x.args.length<=r.EQ)):EZ x g.bp f↔Co g x r:=by
 have a:(r.ER<=x.n/\x.n<=r.ES)↔((f.n=true->f.lo<=x.n/\x.n<=f.hi)/\(f.n=false->x.n=0)):=by rw[e,i];cases f.n<;>simp<;>omega
 constructor;·intro h;exact⟨⟨d.1 ⟨h.mn,h.mo⟩,b.1 h.name,a.2 ⟨h.num,h.nun⟩,h.xx,h.pF⟩,by rw[hg,h.to],h.t0,h.t1⟩
 intro h;obtain⟨h1,h2⟩:=a.1 h.c.num;obtain⟨h3,j⟩:=d.2 h.c.args;exact⟨by rw[<-hg,h.gv],h.lo,h.hi,h.c.pF,h1,h2,h.c.xx,b.2 h.c.name,h3,j⟩
def tT:List Nat:=[1,2,3,4,11,40,15,18,37,38,16,17,23,24,25,26,31,32,33,34,35,39,64,13,14]
theorem Rl{op:Nat}:∀{l:List (Nat×qy)}{i:Nat},op∉l.map (·.1)->Cy op l i=none|[],_,_=>rfl|p::l,i,h=>by simp only[aj7,aeV,not_or]at h;rw[Cy,aq h.1];exact Rl h.2
theorem Z6{x:G.ic}{r:qy}(h:yH x=some r):x.op∈tT:=by
 apply akx;intro a;have b:x.op≠14:=λe=>a (by rw[e];decide);have c:x.op≠13:=λe=>a (by rw[e];decide);rw[yH,aq b,aq c,Rl λd=>a ?_]at h;·cases h
 have:sw.map (·.1)=tT.take 23:=rfl;rw[this]at d;exact List.mem_of_mem_take d
theorem Z7{x:G.ic}(h:ug g x):x.op∈tT:=by have a:=Pr h.w;have h1:=h.op;simp only[EY,yM,akV,ak0,aj7,ali,aeV,aki,or_false]at a;simp only[CM,aeV,aki,or_false,not_or]at h1;simp only[tT,aeV,aki,or_false];omega
theorem Cp{x:G.ic}{r:qy}(c:yH x=some r)(h1:x.op∉CM)(h2:(sA x.op).w≠ [])(h:EZ x g.bp (ue x.op x.m)↔Co g x r):ug g x↔∃r,yH x=some r/\Co g x r:=⟨λb=>⟨r,c,h.1 b.r⟩,λ⟨d,a,b⟩=>by rw[c]at a;injection a with a;subst a;exact⟨h1,h2,h.2 b⟩⟩
theorem aeO{x:G.ic}(hl:x.args.length<=12):ug g x↔∃r,yH x=some r/\Co g x r:=by
 by_cases b:x.op∈tT;rotate_left;·exact⟨λh=>absurd (Z7 h) b,λ⟨r,h,_⟩=>absurd (Z6 h) b⟩
 obtain⟨op,to,args,n,m,name⟩:=x;simp only[tT,aeV,aki,or_false]at b;simp only at hl;rcases b with rfl|rfl|rfl|rfl|rfl|rfl|rfl|rfl|rfl|rfl|rfl|rfl|rfl|rfl|rfl|rfl|rfl|rfl|rfl|rfl|rfl|rfl|rfl|rfl|rfl;all_goals first|exact Cp rfl (by dsimp only;decide) (by dsimp only;decide) (CR rfl rfl rfl Iff.rfl (by simp[sB,OY,ue,sA,EY,yM,ud];try first|omega|(rw[<-List.length_eq_zero_iff];omega)))|skip
 .by_cases a:m=1;·subst a;refine Cp (r:=⟨true,0,6,1,0,0⟩) rfl (by dsimp only;decide) (by dsimp only;decide) (CR rfl rfl rfl Iff.rfl ?_);simp[sB,OY,ue,sA,EY,yM,ud];omega
  have d:ue 13 m=⟨[99,97,108,108],true, -2,false,0,0,0,0⟩:=by rw[ue,aq λh=>a h.2];rfl
  refine Cp (r:=⟨true,1,7,0,0,0⟩) (by simp[yH,a]) (by dsimp only;decide) (by dsimp only;decide) ?_;show EZ _ g.bp (ue 13 m)↔_;rw[d];refine CR rfl rfl rfl Iff.rfl ?_;simp[sB,OY];omega
 by_cases c:iu name=0
 .constructor;·intro h;exact absurd c h.r.name
  rintro⟨r,e,_⟩;simp[yH,c]at e
 refine Cp (r:=⟨true,iu name,iu name,1,0,0⟩) (by simp only[yH,bq];rw[aK af]) (by dsimp only;decide) (by dsimp only;decide) (CR rfl rfl rfl ⟨λ_=>aeN c,λ_=>c⟩ ?_);show(_/\(_->_->sB (iu name) args.length))↔_;simp[sB];omega
theorem wQ.ok{j:G.lD}{k:Nat}{e:G.Edge}(h:wQ g j k e)(a:¬(j.op=67/\k=2)):wN g e (ko j k):=⟨h.lo,by have:=h.hi;omega,h.aM a,h.pF⟩
theorem wN.er{j:G.lD}{k:Nat}{e:G.Edge}(h:wN g e (ko j k))(a:j.op=67->e.args=[]/\k≠2):wQ g j k e:=⟨h.lo,by have:=h.hi;omega,h.pF,λb=>⟨(a b).1,λh2=>absurd h2 (a b).2⟩,λ_=>h.aM⟩
theorem Ju{j:G.lD}(c:j.op≠67){a:List Nat}(f:∀k(h:k<a.length),a[k]=ko j k):ua g j.go a↔j.go.length=a.length/\∀k(h:k<j.go.length),wQ g j k j.go[k]:=by
 have e:j.go.length=a.length->∀k,k<j.go.length->a.getD k 0=ko j k:=λhl k h=>by rw[bF af,f]
 constructor;·intro h;refine⟨h.len,λk b=>?_⟩;have:=h.ok k b;rw[e h.len k b]at this;exact this.er λd=>absurd d c
 rintro⟨h1,h2⟩;refine⟨h1,λk b=>?_⟩;rw[e h1 k b];exact(h2 k b).ok λd=>c d.1
theorem Rm{j:G.lD}(b:j.op=67):sq g j.go↔j.go.length=3/\∀k(h:k<j.go.length),wQ g j k j.go[k]:=by
 have i0:ko j 0=0:=by simp[ko,b]
 have l:ko j 1=1:=by simp[ko,b]
 constructor;·intro h;obtain⟨t,e1,e2,he,h0,h1,⟨e,f,d⟩,⟨b1,b2⟩,n⟩:=h.ex;rw[he];refine⟨rfl,λk o=>?_⟩;match k,o with|0,_=>exact wN.er (by rw[i0];exact h0) λ_=>⟨e,bA⟩|1,_=>exact wN.er (by rw[l];exact h1) λ_=>⟨f,bA⟩|2,_=>exact⟨b1,by show e2.block<=_;omega,by show∀a∈e2.args,_;rw[d];simp,λ_=>⟨d,λ_=>Nat.ne_of_gt n⟩,λp=>absurd ⟨b,rfl⟩ p⟩
 rintro⟨h3,c⟩;match i:j.go,h3 with|[q,r,s],_=>rw[i]at c;have e:=c 0 aB;have f:=c 1 aB;have d:=c 2 aB;have m:=e.ok af;have b1:=f.ok af;rw[i0]at m;rw[l]at b1;exact⟨q,r,s,rfl,m,b1,⟨(e.tr b).1,(f.tr b).1,(d.tr b).1⟩,⟨d.lo,by have:=d.hi;simp at this;omega⟩,Nat.pos_of_ne_zero ((d.tr b).2 rfl)⟩
theorem aeP{j:G.lD}:I6 g j↔yO g j:=by
 have one:j.op≠67->ko j 0=0->(ua g j.go [0]↔j.go.length=1/\∀k(h:k<j.go.length),wQ g j k j.go[k]):=λh2 h3=>Ju h2 λk i=>by
  obtain rfl:k=0:=by simpa using i
  rw[h3];rfl
 have mC:∀x,j.op≠67->ko j 0=x->ko j 1=0->(ua g j.go [x,0]↔j.go.length=2/\∀k(h:k<j.go.length),wQ g j k j.go[k]):=λx h2 h3 m=>Ju h2 λk i=>by match k,i with|0,_=>exact h3.symm|1,_=>exact m.symm
 have AR:j.op=66->(ua g j.go (j.b9.map vr)↔j.go.length=(j.b9.map vr).length/\∀k(h:k<j.go.length),wQ g j k j.go[k]):=λn=>Ju af λk i=>by rw[akg]at i;rw[akN,vr,ko,bF i];simp[n]
 have c:j.go.length=0->∀k(h:k<j.go.length),wQ g j k j.go[k]:=λh k i=>by omega
 constructor
 .intro h;have o:j.name≠ []->su j.name:=λp=>by have r:=h.name.2 p;cases h.aA with|is _ _ a _=>exact a|_=>omega
  have f:∀{a e:Nat},AE j a e->a=j.args.length->e=j.go.length->(∀k(h:k<j.go.length),wQ g j k j.go[k])->yO g j:=λh1 h2 h3 m=>⟨by rw[<-h2,<-h3];exact h1,h.pF,h.b9,h.name,o,m⟩;cases h.aA with
  |go h1 b he=>obtain⟨h2,h3⟩:=(one af (by simp[ko,h1])).1 he;exact f (.go h1) b.symm h2.symm h3
  |Cz h1 b he=>obtain⟨h2,h3⟩:=(mC 0 af (by simp[ko,h1]) (by simp[ko,h1])).1 he;exact f (.Cz h1) b.symm h2.symm h3
  |is h1 b _ he=>obtain⟨h2,h3⟩:=(mC 0 af (by simp[ko,h1]) (by simp[ko,h1])).1 he;exact f (.is h1) b.symm h2.symm h3
  |gE h1 b he=>obtain⟨h2,h3⟩:=(mC 1 af (by simp[ko,h1]) (by simp[ko,h1])).1 he;exact f (.gE h1) b.symm h2.symm h3
  |AR h1 hs=>obtain⟨h2,h3⟩:=(AR h1).1 hs.ed;rw[akg]at h2;exact f (.AR h1 hs.kd hs.lo hs.hi) hs.ar.symm h2.symm h3
  |CB h1 b q=>obtain⟨h2,h3⟩:=(Rm h1).1 q;exact f (.CB h1) b.symm h2.symm h3
  |CC h1 b hg=>exact f (.CC h1) af hg.symm (c hg)
  |ret h1 b hg=>
   rcases h1 with h1|h1;·exact f (.ret h1) b.symm hg.symm (c hg)
   exact f (.sC h1) b.symm hg.symm (c hg)
  |stuck h1 b hg=>exact f (.stuck h1) b.symm hg.symm (c hg)
 intro h;have l:=h.ae;have d:=h.E0;refine⟨h.pF,h.name,h.b9,?_⟩;generalize b:j.args.length=a at l;generalize hg:j.go.length=e at l;cases l with|go h1=>exact .go h1 b ((one af (by simp[ko,h1])).2 ⟨hg,d⟩)|Cz h1=>exact .Cz h1 b ((mC 0 af (by simp[ko,h1]) (by simp[ko,h1])).2 ⟨hg,d⟩)|is h1=>exact .is h1 b (h.nm (h.name.1 h1)) ((mC 0 af (by simp[ko,h1]) (by simp[ko,h1])).2 ⟨hg,d⟩)|gE h1=>exact .gE h1 b ((mC 1 af (by simp[ko,h1]) (by simp[ko,h1])).2 ⟨hg,d⟩)|AR h1 i h2 m=>exact .AR h1 ⟨i,h2,m,b,(AR h1).2 ⟨by rw[hg,akg],d⟩⟩|CB h1=>exact .CB h1 b ((Rm h1).2 ⟨hg,d⟩)|CC h1=>exact .CC h1 af hg|ret h1=>exact .ret (.inl h1) b hg|sC h1=>exact .ret (.inr h1) b hg|stuck h1=>exact .stuck h1 b hg
end
end
section
structure PI(n:Nat)(s:List Bool)(hist:List Int):Prop where
 len:s.length=n
 bH:∀v:Nat,v<n->(s.getD v false=true↔(v:Int)∈hist)
section
variable{g:G.bu}{n:Nat}
theorem Cq{k:Type}{st:List Bool->k->Bool×List Bool}{f:k->List Int}{P:k->Prop}{R:Int->Prop}:∀{la:List k},(∀s c a,a∈la->PI n s c->c.Nodup->((st s a).1=true↔P a/\(c++f a).Nodup/\∀v∈f a,R v)/\((st s a).1=true->PI n (st s a).2 (c++f a)))->∀s c,PI n s c->c.Nodup->((gW st s la).1=true↔(∀a∈la,P a)/\(c++la.flatMap f).Nodup/\∀v∈la.flatMap f,R v)/\((gW st s la).1=true->PI n (gW st s la).2 (c++la.flatMap f))
 |[],_,s,c,l,m=>by simpa[gW]using⟨m,l⟩
 |a::la,h,s,c,l,m=>by
  obtain⟨h1,h2⟩:=h s c a (aeU ..) l m;rw[alp,<-aj2];by_cases e:(st s a).1=true
  .obtain⟨p,q,r⟩:=h1.1 e;obtain⟨t,u⟩:=Cq (λs c b hb=>h s c b (aey _ hb)) _ _ (h2 e) q;rw[gW,aK e];refine⟨t.trans ⟨λ⟨g,i,j⟩=>⟨λb hb=>?_,i,λv d=>?_⟩,λ⟨g,i,j⟩=>⟨λb hb=>g b (aey _ hb),i,λv d=>j v (akq _ d)⟩⟩,u⟩
   .rcases aeV.1 hb with rfl|hb;·exact p
    exact g b hb
   rcases ahp.1 d with d|d;·exact r v d
   exact j v d
  rw[gW,aq e];refine⟨⟨λo=>(by cases o),λ⟨g,i,j⟩=>absurd (h1.2 ⟨g a (aeU ..),(akI.1 i).1,λv d=>j v (akf _ d)⟩) e⟩,λo=>by cases o⟩
theorem PS(o:g.bp=n)(p:0<=g.params){s:List Bool}{c:List Int}(v:Int)(d:PI n s c)(f:c.Nodup):((m8 g s v).1=true↔True/\(c++[v]).Nodup/\∀u∈ [v],g.params<=u/\u<n)/\((m8 g s v).1=true->PI n (m8 g s v).2 (c++[v])):=by
 have hl:=d.len;unfold m8;by_cases j:g.params<=v/\v<=g.bp - 1
 .rw[aK j];obtain⟨v,rfl⟩:∃k:Nat,v=k:=⟨v.toNat,af⟩;have i:v<n:=af;rw[aj3];have hat:=d.bH v i;by_cases hs:s.getD v false=true;·rw[aK hs];refine⟨⟨λh=>(by cases h),λ⟨_,h,_⟩=>?_⟩,λh=>by cases h⟩;exact absurd rfl ((akI.1 h).2.2 _ (hat.1 hs) _ (aep.2 rfl))
  rw[aq hs];refine⟨⟨λ_=>⟨trivial,?_,λu hu=>by rw[aep]at hu;subst hu;omega⟩,λ_=>rfl⟩,λ_=>⟨by simpa using hl,λx l=>?_⟩⟩;·rw[akI];refine⟨f,aB,λa m b hb=>?_⟩;rw[aep]at hb;subst hb;exact λe=>hs (hat.2 (e▸m))
  rw[fu af,ahp,aep];by_cases e:x=v;·subst e;simp
  rw[aq e,d.bH x l];have:¬(x:Int)=v:=af;simp[this]
 rw[aq j];refine⟨⟨λh=>(by cases h),λ⟨_,_,h⟩=>?_⟩,λh=>by cases h⟩;have:=h v (aep.2 rfl);omega
theorem PT(l:List Int):l.flatMap (λv=>[v])=l:=by induction l with|nil=>rfl|cons a l b=>rw[alp,b];rfl
theorem CW:∀l:List G.ic,eU l=l.flatMap λx=>if 0<=x.to then[x.to]else[]|[]=>rfl|x::l=>by rw[alp,<-CW l,eU,eU,aj7];by_cases h:0<=x.to<;>simp[h]
theorem Z8(l:g.bp=n)(m:0<=g.params){s:List Bool}{d:List Int}{x:G.ic}(hl:x.args.length<=12)(i:PI n s d)(f:d.Nodup):((stepG g s x).1=true↔ug g x/\(d++(if 0<=x.to then[x.to]else[])).Nodup/\∀u∈(if 0<=x.to then[x.to]else[]),g.params<=u/\u<n)/\((stepG g s x).1=true->PI n (stepG g s x).2 (d++(if 0<=x.to then[x.to]else[]))):=by
 rw[aeO hl];unfold stepG;cases p:yH x with
 |none=>exact⟨⟨λh=>(by cases h),λ⟨⟨r,h,_⟩,_⟩=>by cases h⟩,λh=>by cases h⟩
 |some r=>
  simp only[adG,exists_eq_left'];by_cases e:vI g x r;rotate_left;·rw[aq e];exact⟨⟨λh=>(by cases h),λ⟨h,_⟩=>absurd h.c e⟩,λh=>by cases h⟩
  rw[aK e];cases hg:r.vq with
  |true=>
   rw[aK rfl];obtain⟨j,o⟩:=PS l m x.to i f;by_cases h0:0<=x.to;·rw[aK h0];refine⟨j.trans ⟨λ⟨_,a,b⟩=>⟨⟨e,by rw[hg,decide_eq_true h0],af,?_⟩,a,b⟩,λ⟨_,a,b⟩=>⟨trivial,a,b⟩⟩,o⟩;have:=b x.to (aep.2 rfl);omega
   have k:¬(m8 g s x.to).1=true:=λh=>by have:=(j.1 h).2.2 x.to (aep.2 rfl);omega
   refine⟨⟨λh=>absurd h k,λ⟨h,_⟩=>?_⟩,λh=>absurd h k⟩;have:=h.gv;rw[hg,decide_eq_false h0]at this;cases this
  |false=>
   rw[aq aB];simp only[decide_eq_true_eq];constructor
   .constructor;·intro h;rw[h,aq bA];exact⟨⟨e,by rw[hg,h];rfl,af,af⟩,by simpa using f,λu hu=>by cases hu⟩
    rintro⟨h,_⟩;have h1:=h.gv;rw[hg]at h1;have h2:=of_decide_eq_false h1.symm;have:=h.lo;omega
   intro h;rw[h,aq bA];simpa using i
theorem Z9(l:G.Sm g)(j:g.bp=n)(k:0<=g.params){b:G.gV}(hb:b∈g.al){s:List Bool}{d:List Int}(h:PI n s d)(e:d.Nodup):((ey g s b).1=true↔((∀x∈b.aD,ug g x)/\yO g b.aA)/\(d++gX b).Nodup/\∀u∈gX b,g.params<=u/\u<n)/\((ey g s b).1=true->PI n (ey g s b).2 (d++gX b)):=by
 unfold gX ey;obtain⟨h1,h2⟩:=Cq (st:=m8 g) (f:=λv=>[v]) (P:=λ_=>True) (R:=λv=>g.params<=v/\v<n) (la:=b.params) (λs d a _ h e=>PS j k a h e) s d h e;rw[PT]at h1 h2;simp only[aj6,decide_eq_true_eq,aeP];rw[CW,<-aj2];by_cases f:(gW (m8 g) s b.params).1=true
 .obtain⟨t,m,o⟩:=h1.1 f;obtain⟨h3,p⟩:=Cq (st:=stepG g) (f:=λx:G.ic=>if 0<=x.to then[x.to]else[]) (P:=ug g) (R:=λv=>g.params<=v/\v<n) (la:=b.aD) (λs d x q h e=>Z8 j k (l.st b hb x q).1 h e) _ _ (h2 f) m;rw[h3];refine⟨⟨λ⟨⟨_,c1,c2,i⟩,c4⟩=>⟨⟨c1,c4⟩,c2,λu hu=>?_⟩,λ⟨⟨c1,c4⟩,c2,i⟩=>⟨⟨f,c1,c2,λu hu=>i u (akq _ hu)⟩,c4⟩⟩,λ⟨⟨_,c⟩,_⟩=>p (h3.2 c)⟩;rcases ahp.1 hu with hu|hu;·exact o u hu
  exact i u hu
 refine⟨⟨λ⟨⟨c,_⟩,_⟩=>absurd c f,λ⟨⟨c1,c4⟩,c2,i⟩=>absurd (h1.2 ⟨λ_ _=>trivial,(akI.1 c2).1,λv r=>i v (akf _ r)⟩) f⟩,λ⟨⟨c,_⟩,_⟩=>absurd c f⟩
theorem afh(w:G.Sm g):I7 g↔sD g:=by
 have key:∀n:Nat,g.bp=n->0<=g.params->_:=λn e y=>Cq (n:=n) (st:=ey g) (f:=gX) (P:=λb=>(∀x∈b.aD,ug g x)/\yO g b.aA) (R:=λv=>g.params<=v/\v<n) (la:=g.al) (λs u b hb c o=>Z9 w e y hb c o) (ahr n false) [] ⟨aB,λv i=>by simp[akm,ak8,i]⟩ alD;constructor;·intro h;have a:=h.p0;have d:=h.p1;obtain⟨n,e⟩:∃n:Nat,g.bp=n:=⟨g.bp.toNat,af⟩;have j:g.bp.toNat=n:=af;have f:=h.run;have q:=h.all;rw[j]at f q;obtain⟨l,m⟩:=key n e a;have c:=m f;obtain⟨r,t,z⟩:=l.1 f;rw[ak0]at t c;refine⟨h.name,a,d,h.ne,h.first,λb hb=>(r b hb).1,λb hb=>(r b hb).2,t,λv i=>by rw[e];exact z v i,λv h1 h2=>?_⟩;obtain⟨v,rfl⟩:∃k:Nat,v=k:=⟨v.toNat,af⟩;have hl:=c.len;have:=q v af h1;rw[<-bF af false]at this;exact(c.bH v af).1 this
 intro h;have a:=h.p0;have d:=h.p1;obtain⟨n,e⟩:∃n:Nat,g.bp=n:=⟨g.bp.toNat,af⟩;have j:g.bp.toNat=n:=af;obtain⟨l,m⟩:=key n e a;have f:=l.2 ⟨λb hb=>⟨h.aD b hb,h.CD b hb⟩,by simpa using h.nd,λv i=>by have:=h.rg v i;omega⟩;have c:=m f;rw[ak0]at c;have hl:=c.len;refine⟨h.name,a,d,h.ne,h.first,by rw[j];exact f,?_⟩;rw[j];intro k A p;have:=(c.bH k af).2 (h.all k p af);rw[bF A]at this;exact this
theorem PU:∀(l:List G.ic)(i:Nat),(∀x∈l, -1<=x.to)->(ja l i).map (·.1)=eU l
 |[],_,_=>rfl
 |x::l,i,h=>by
  have h1:=h x (aeU ..);have a:=PU l (i+1) λy b=>h y (aey _ b);rw[CW,alp,<-CW,ja,akE,a];by_cases e:x.to= -1;·rw[aK e,aq af];rfl
  rw[aq e,aK af];rfl
theorem PV{b:G.gV}(h:∀x∈b.aD, -1<=x.to):(dC b).map (·.1)=gX b:=by rw[dC,akE,PU _ _ h,gX,alx];congr 1;exact List.map_id _
theorem afi(h:sD g):vC g:=by
 have f:=h.p0;have n:=h.p1;have hb:∀b∈g.al,(dC b).map (·.1)=gX b:=λb hb=>PV λx l=>(h.aD b hb x l).r.t0;have e:∀b∈g.al,∀p∈dC b,p.1∈gX b:=λb a p d=>by rw[<-hb b a];exact akp d
 have c:=h.nd;refine⟨af,f,λb a p d=>h.rg _ (akZ.2 ⟨b,a,e b a p d⟩),λb a=>?_,λi j hi hj v p q d m=>?_,λv h0 h1=>?_⟩;·rw[hb b a];obtain⟨i,hi,rfl⟩:=aka a;rw[<-ala i g.al,aj9 hi,akD,alp]at c;exact(akI.1 (akI.1 c).2.1).1
 .have h1:v∈gX g.al[i]:=by have:=e _ (oC hi) _ d;rwa[aH,bF hi]at this
  have h2:v∈gX g.al[j]:=by have:=e _ (oC hj) _ m;rwa[aH,bF hj]at this
  have key:∀i j(hi:i<g.al.length)(hj:j<g.al.length),i<j->v∈gX g.al[i]->v∈gX g.al[j]->False:=λi j hi hj o h1 h2=>by rw[<-ala j g.al,aj9 hj,akD,alp]at c;refine(akI.1 c).2.2 v ?_ v (akf _ h2) rfl;exact akZ.2 ⟨g.al[i],by rw[List.mem_take_iff_getElem];exact⟨i,af,rfl⟩,h1⟩
  rcases Nat.lt_trichotomy i j with h3|h3|h3;·exact(key i j hi hj h3 h1 h2).elim
  .exact h3
  exact(key j i hj hi h3 h2 h1).elim
 obtain⟨b,a,k⟩:=akZ.1 (h.all v h0 h1);rw[<-hb b a]at k;obtain⟨p,d,rfl⟩:=akk.1 k;obtain⟨i,hi,rfl⟩:=aka a;exact⟨i,p.2,hi,by rw[aH,bF hi];exact d⟩
end
end
section
def eL(x:bV):Int:=2*x.1+x.2
def jd(o:List bV):List Int:=o.map eL
def uj(o:List bV):Prop:=∀x∈o,∃t:Nat,x.1=t/\(x.2=0\/x.2=1)
theorem af6{x y:bV}(c:∃t:Nat,x.1=t/\(x.2=0\/x.2=1))(d:∃t:Nat,y.1=t/\(y.2=0\/y.2=1))(h:eL x=eL y):x=y:=by obtain⟨a,s⟩:=x;obtain⟨b,r⟩:=y;obtain⟨t,h1,h2⟩:=c;obtain⟨u,h3,e⟩:=d;simp only[eL]at h h1 h2 h3 e;have:a=b/\s=r:=af;rw[this.1,this.2]
theorem Qt:∀{o p:List bV},uj o->uj p->jd o=jd p->o=p|[],[],_,_,_=>rfl|[],_::_,_,_,h=>by cases h|_::_,[],_,_,h=>by cases h|x::o,y::p,h1,h2,h=>by simp only[jd,aj7,akn]at h;rw[af6 (h1 x (aeU ..)) (h2 y (aeU ..)) h.1,Qt (λz a=>h1 z (aey _ a)) (λz a=>h2 z (aey _ a)) h.2]
theorem J9{x:bV}(a:∃t:Nat,x.1=t/\(x.2=0\/x.2=1)):0<=eL x/\(eL x).toNat/2=x.1.toNat:=by obtain⟨t,h1,h2⟩:=a;unfold eL;omega
section
variable{g:G.bu}
theorem C5{b:Nat}{o:List bV}(f:uj o):(cS g b o).map (λw=>(w.1,jd w.2))=lu g b (jd o):=by
 simp only[cS,lu,aH];split;·simp[jd,eL]
 split
 .cases hl:o.getLast? with
  |none=>
   have:o=[]:=by simpa using hl
   subst this;rfl
  |some x=>
   have h:=List.mem_of_getLast? hl;have d:o≠ []:=λe=>by rw[e]at hl;cases hl
   have c:o.length≠0:=λe=>d (akM e);have a:o[o.length - 1]'af=x:=by rw[List.getLast?_eq_getElem?,getElem?_pos o _ af]at hl;exact Option.some.inj hl
   have e1:(jd o).length=o.length:=by simp[jd]
   have e2:(jd o).getD (o.length - 1) 0=eL x:=by rw[bF (by rw[e1];omega)];simp only[jd,akN,a]
   rw[e1,aq c,e2];simp only[aj7,ali,akn,and_true,aj1];refine⟨?_,by simp[jd,List.map_take]⟩;rw[ru,na,aH,(J9 (f x h)).2]
 rw[alx];rfl
theorem Qu{b:Nat}{o:List bV}(d:uj o):∀w∈cS g b o,uj w.2:=by
 intro w a;have wz:∀s,s=0\/s=1->uj (o++[((b:Int),s)]):=λs hs x c=>by
  rcases ahp.1 c with c|c;·exact d x c
  rw[aep]at c;subst c;exact⟨b,rfl,hs⟩
 simp only[cS]at a;split at a
 .simp only[aeV,aki,or_false]at a;rcases a with rfl|rfl;·exact wz 0 (.inl rfl)
  exact wz 1 (.inr rfl)
 split at a
 .split at a;·rw[aep]at a;subst a;exact λx c=>d x (List.mem_of_mem_take c)
  cases a
 obtain⟨e,_,rfl⟩:=akk.1 a;exact d
theorem lN.vG(a:mL g){b:Nat}{o:List bV}(h:lN g b o):lR g (-1) b (jd o)/\uj o:=by
 induction h with
 |zero=>exact⟨.zero bA,λx e=>by cases e⟩
 | @step b o w h c f=>
  obtain⟨h1,h2⟩:=f;obtain⟨h3,i⟩:=h1.ok a;have d:(w.1,jd w.2)∈lu g b (jd o):=by rw[<-C5 h2];exact akk.2 ⟨w,c,rfl⟩
  have:=(vE a h3 i _ d).1;exact⟨.step h1 d (by simp only;omega),Qu h2 w c⟩
theorem lR.dO{b:Nat}{o:List Int}(h:lR g (-1) b o):∃p,lN g b p/\uj p/\jd p=o:=by induction h with|zero _=>exact⟨[],.zero,λx c=>(by cases c),rfl⟩| @step b o w h a f d=>obtain⟨p,h1,h2,rfl⟩:=d;rw[<-C5 h2]at a;obtain⟨e,h3,rfl⟩:=akk.1 a;exact⟨e.2,.step h1 h3,Qu h2 _ h3,rfl⟩
variable{come:List Bool}{os:List (List bV)}{c1:List Bool}{o1:List (List Int)}
theorem af7(a:mL g)(r:g.al.length<=30)(d:lw g (-1) c1 o1)(e:∀b,oF g (-1) c1 o1 false b):jm g:=by
 refine⟨λh k=>?_,λ{b o}h w l=>?_,λ{b o}h=>?_,λ{b o}h=>?_⟩;·obtain⟨h1,h2⟩:=h.vG a;obtain⟨h3,c⟩:=k.vG a;exact Qt h2 c ((h1.comp a d e).2.symm.trans (h3.comp a d e).2)
 .obtain⟨h1,h2⟩:=h.vG a;obtain⟨h3,c⟩:=h1.ok a;have m:(w.1,jd w.2)∈lu g b (jd o):=by rw[<-C5 h2];exact akk.2 ⟨w,l,rfl⟩
  have:=(vE a h3 c _ m).1;simp only at this;omega
 .obtain⟨h1,_⟩:=h.vG a;exact⟨(h1.ok a).1,a.t3 b (h1.ok a).1⟩
 obtain⟨h1,h2⟩:=h.vG a;obtain⟨h3,c⟩:=h1.ok a;obtain⟨n,p⟩:=h1.comp a d e;have i:=d.jx b n;rw[p]at i;simp only[jd,akg]at i;refine⟨⟨λx f=>?_⟩,af⟩;obtain⟨e1,e2⟩:=J9 (h2 x f);obtain⟨_,q,j⟩:=c (eL x) (akp f);rw[e2]at q j;obtain⟨t,s,_⟩:=h2 x f;exact⟨af,af,j⟩
theorem Qw(a:mL g)(e:jm g)(c:lw g (-1) c1 o1)(f:∀b,oF g (-1) c1 o1 false b)(d:cX g come os){b:Nat}:come.getD b false=true↔c1.getD b false=true:=by
 constructor;·intro h;exact(((d.dO b h).vG a).1.comp a c f).1
 intro h;obtain⟨p,h1,_,_⟩:=(c.snd b h).dO;exact(d.sF e h1).1
theorem Qx(a:mL g)(d:lw g (-1) c1 o1)(e:∀b,oF g (-1) c1 o1 false b)(c:cX g come os){b:Nat}(h:come.getD b false=true):o1.getD b []=jd (os.getD b [])/\uj (os.getD b []):=⟨(((c.dO b h).vG a).1.comp a d e).2,((c.dO b h).vG a).2⟩
theorem Qy(e:mL g)(i:jm g)(c:cX g come os){d b:Nat}(h:pI (wW g os) d b):come.getD b false=true/\lR g (d:Int) b (jd (os.getD b [])):=by
 induction h with
 |zero h=>refine⟨c.c0,?_⟩;have:=(c.sF i .zero).2;rw[this];exact .zero af
 | @step a x h l p m=>
  obtain⟨h1,h2⟩:=m;obtain⟨w,j,rfl⟩:=akk.1 l;have hl:=c.dO a h1;have h3:=c.sF i (.step hl j);have f:=(hl.vG e).2;have k:(w.1,jd w.2)∈lu g a (jd (os.getD a [])):=by rw[<-C5 f];exact akk.2 ⟨w,j,rfl⟩
  obtain⟨n,o⟩:=h2.ok e;have:=(vE e n o _ k).1;simp only at this;refine⟨h3.1,?_⟩;rw[h3.2];exact .step h2 k (by simp only;omega)
theorem af8(a:mL g)(l:jm g)(f:lw g (-1) c1 o1)(i:∀b,oF g (-1) c1 o1 false b)(j:cX g come os){d b:Nat}{o:List Int}(h:lR g (d:Int) b o):pI (wW g os) d b:=by induction h with|zero h=>exact .zero af| @step b o w h c m k=>have n:=(Qy a l j k).1;obtain⟨h1,h2⟩:=Qx a f i j n;have h3:=((h.mono a).comp a f i).2;obtain⟨p,q⟩:=h.ok a;have r:=(vE a p q _ c).1;rw[<-h3,h1,<-C5 h2]at c;obtain⟨s,e,rfl⟩:=akk.1 c;simp only at r m;exact .step k (akk.2 ⟨s,e,rfl⟩) (by simp only;omega)
theorem af9(c:mL g)(k:jm g)(d:lw g (-1) c1 o1)(e:∀b,oF g (-1) c1 o1 false b)(l:cX g come os){q:List (List Bool)}(m:JS g q){a b:Nat}(r:a<g.al.length)(hb:b<g.al.length):(q.getD a []).getD b false=true↔come.getD a false=true/\come.getD b false=true/\gO (wW g os) a b:=by
 obtain⟨c2,o2,v,f,n,j⟩:=m.ex;obtain⟨_,s,w,y,i,o,p⟩:=j a r;have h2:∀{x},come.getD x false=true↔c2.getD x false=true:=λ{x}=>by
  rw[Qw c k d e l];constructor;·intro h;exact(d.snd x h).Qv c d e f n
  intro h;exact((f.snd x h).comp c d e).1
 rw[p b hb,vF,h2,h2];simp only[aj6,alf,decide_eq_true_eq,akU,and_assoc];refine and_congr_right λ_=>and_congr_right λu=>?_;constructor
 .rintro(rfl|h);·exact gO.JE
  intro t;have:=(Qy c k l t).2.Qv c d e i o;rw[h]at this;cases this
 intro hd;cases h:s.getD b false with|false=>exact .inr rfl|true=>exact absurd (af8 c k d e l (i.snd b h)) hd
end
end
section
variable{ac:Nat->aG}
structure J'(g:G.bu):Prop where
 jx:EW g
 Kb:uc g=false
 C6:sD g
 right:JT g
theorem Kc{g:G.bu}(h:EW g)(hg:uc g=false):g.al.length<=30/\g.bp<=200:=by simp only[uc,Bool.or_eq_false_iff,decide_eq_false_iff_not]at hg;have h1:=h.nb;have h2:=h.nv;omega
section
variable{g:G.bu}{H:ai}{cs:List AV}
theorem aga(T:Tb ac)(hg:iG H g cs)(c:EW g)(k:CQ g){K:KT}(h1:∀a,bm H a->J' g->K (aI 0) a)(l:∀a,bm H a->uc g=true->K (aI 5) a)(m:∀a,bm H a->uc g=false->¬sD g->K (aI 4) a)(n:∀a,bm H a->uc g=false->sD g->IS g->¬JT g->K (aI 9) a):YN ac Wg [.agg cs] H K:=by
 have j:=hg.one;have b:=hg;obtain⟨t,rfl,cA⟩:=hg;have⟨p,_,_,r⟩:=cA.all;refine YF.code T.aa0 aB ?_;refine ah ?_;refine RO.dL (aj.dc H) λH1 q U=>?_;refine ah ?_;refine RO.eQ U 0 ?_;refine RO.cl (aej T (dQ.nM U.gr b) c.sm (λd hg h=>?_) (λd hg e=>?_));rotate_left;·have U:=U.cI hg;refine ah ?_;exact Ru.aV (l _ U.gr e)
 have U:=U.cI hg;obtain⟨f,s⟩:=Kc c h;refine ah ?_;refine RO.eQ U 0 ?_;refine RO.cl (aeM T (dQ.nM U.gr b) c.sm k c.nm af (λd hg i=>?_) (λd hg e=>?_));rotate_left;·have U:=U.cI hg;refine ah ?_;exact Ru.aV (m _ U.gr h e)
 have U:=U.cI hg;refine ah ?_;refine RO.eQ U 0 ?_;refine RO.cl (afP T (dQ.nM U.gr b) c.sm i f af (λd hg o=>?_) (λd hg gr e=>?_));rotate_left;·have U:=U.cI hg;refine ah ?_;exact Ru.aV (n _ U.gr h i gr e)
 have U:=U.cI hg;refine ah ?_;exact Ru.aV (h1 _ U.gr ⟨c,h,i,o⟩)
end
end
section
theorem Kd{l:List Int}{n:Nat}{p:Int×Int}(h:p∈oB l n):p.1∈l/\p.2=n:=by obtain⟨x,a,rfl⟩:=akk.1 h;exact⟨a,rfl⟩
theorem Qz:∀{l:List G.ic}{i:Nat}{p:Int×Int},p∈jI l i->∃j,∃h:j<l.length,p.2=((i+j:Nat):Int)/\p.1∈l[j].args
 |s::l,i,p,h=>by
  rw[jI]at h;rcases ahp.1 h with h|h;·obtain⟨h1,h2⟩:=Kd h;exact⟨0,aB,by simpa using h2,h1⟩
  obtain⟨j,hj,h1,h2⟩:=Qz h;exact⟨j+1,by simpa using hj,by rw[h1];congr 1;omega,by simpa using h2⟩
theorem QA:∀{l:List G.Edge}{n:Nat}{p:Int×Int},p∈kE l n->p.2=n/\∃e∈l,p.1∈e.args
 |e::l,n,p,h=>by
  rw[kE]at h;rcases ahp.1 h with h|h;·obtain⟨h1,h2⟩:=Kd h;exact⟨h2,e,aeU ..,h1⟩
  obtain⟨h1,e2,h2,h3⟩:=QA h;exact⟨h1,e2,aey _ h2,h3⟩
theorem agc{B:G.gV}{p:Int×Int}(h:p∈kF B):∃k,k<=B.aD.length/\p.2=(k:Int)/\p.1∈kU B k:=by
 rw[kF]at h;have a:p.1∈ui B.aA->p.2=(B.aD.length:Int)->∃k,k<=B.aD.length/\p.2=(k:Int)/\p.1∈kU B k:=λh1 h2=>⟨_,afb _,h2,by rw[kU,aq af];exact h1⟩;rcases ahp.1 h with h|h;·obtain⟨j,hj,h1,h2⟩:=Qz h;exact⟨j,af,by rw[h1];simp,by rw[kU,aK hj,bF hj];exact h2⟩
 rcases ahp.1 h with h|h;·obtain⟨h1,h2⟩:=Kd h;exact a (akf _ h1) h2
 obtain⟨h1,e,h2,h3⟩:=QA h;exact a (akq _ (akZ.2 ⟨e,h2,h3⟩)) h1
theorem Rn{B:G.gV}{k:Nat}{x:Int}(f:k<=B.aD.length)(h:x∈kU B k):(x,(k:Int))∈kF B:=by
 unfold kU at h;split at h;·rename_i b;rw[bF b]at h;obtain⟨_,c,e⟩:=Px B b;rw[e];exact akq _ (akf _ (akk.2 ⟨x,h,rfl⟩))
 obtain rfl:k=B.aD.length:=af;unfold kF;refine akq _ ?_;rcases ahp.1 h with h|h;·exact akf _ (akk.2 ⟨x,h,rfl⟩)
 obtain⟨e,he,d⟩:=akZ.1 h;obtain⟨i,hi,rfl⟩:=aka he;obtain⟨_,c,e⟩:=Py B hi;have:(x,(B.aD.length:Int))∈kF B:=by rw[e];exact akq _ (akf _ (akk.2 ⟨x,d,rfl⟩))
 unfold kF at this;rcases ahp.1 this with a|a;·obtain⟨j,hj,h1,_⟩:=Qz a;simp only at h1;omega
 exact a
theorem JZ{B:G.gV}{i:Nat}(h:i<B.aD.length)(a:B.aD[i].to≠ -1):(B.aD[i].to,(i:Int))∈dC B:=by obtain⟨b,e,_⟩:=Jv B h a;rw[<-e];exact agB b
theorem J4{B:G.gV}{x:Int}(h:x∈B.params):(x, -1)∈dC B:=akf _ (akp h)
section
variable{g:G.bu}{come:List Bool}{os:List (List bV)}
theorem agd(d:sD g)(j:vC g){gl:List Int}(a:sH g.bp.toNat g.params.toNat gl (pd g g.al.length)){v:Int}(h0:g.params<=v)(h1:v<g.bp):∃s:Nat,s<g.al.length/\gl.getD v.toNat 0=s/\AY g v=s:=by have e:=d.all v h0 h1;rw[<-ak7 (l:=g.al),<-Fk g _ (afb _)]at e;obtain⟨p,f,rfl⟩:=akk.1 e;have h2:=a.bH p f;obtain⟨i,hi,b⟩:=akZ.1 f;rw[ak3]at hi;obtain⟨x,h,rfl⟩:=akk.1 b;refine⟨i,hi,h2,?_⟩;have hb:=oC hi;rw[<-PV λy k=>(d.aD _ hb y k).r.t0]at h;obtain⟨q,l,c⟩:=akk.1 h;have:=j.at (v:=x) (p:=q.2) hi (by rw[<-c];exact l);simp only[AY];rw[this]
theorem age(A:sD g)(hn:g.al.length<=30)(h:JT g)(S:jm g)(C:vC g)(D:cX g come os):yT g come os:=by
 obtain⟨c1,o1,W,gl,B,E,H,I,J⟩:=h.ex;have j:=A.sh;have key:∀b,come.getD b false=true->b<g.al.length/\C1 g o1 W gl b/\o1.getD b []=jd (os.getD b [])/\uj (os.getD b [])/\wX g (jd (os.getD b [])):=λb hb=>by have h1:=(Qw j S B E D).1 hb;have h2:=Qx j B E D hb;have h3:=(B.snd b h1).ok j;rw[h2.1]at h3;exact⟨h3.1,J b h3.1 h1,h2.1,h2.2,h3.2⟩
 refine⟨λb hb K=>?_,λb hb L=>?_,λb hb p X=>?_⟩
 .obtain⟨d,l,F,M,ia⟩:=key b hb;obtain⟨h1,h2⟩:=l.en K;rw[F]at h1 h2;have hl:(jd (os.getD b [])).length=(os.getD b []).length:=by simp[jd]
  rw[hl]at h1 h2;generalize os.getD b []=o at*;have f:o.length - 1<o.length:=af;have T:=agB f;have he:(jd o).getD (o.length - 1) 0=eL o[o.length - 1]:=by rw[bF (by rw[hl];exact f)];simp only[jd,akN]
  rw[he]at h2;have m:ru g (eL o[o.length - 1])=na g o[o.length - 1]:=by rw[ru,na,aH,(J9 (M _ T)).2]
  obtain⟨_,Y,k3⟩:=ia (eL o[o.length - 1]) (akp T);have N:=j.rg _ Y _ (agB (l:=(aH g ((eL o[o.length - 1]).toNat/2)).aA.go) (n:=2) af);have O:ru g (eL o[o.length - 1])=(aH g ((eL o[o.length - 1]).toNat/2)).aA.go[2].block:=by rw[ru,bF af]
  rw[<-O,m]at N;rw[m]at h2;exact⟨o[o.length - 1],by rw[List.getLast?_eq_getElem?,getElem?_pos o _ f],af,af,h2.symm⟩
 .obtain⟨_,l,F,_,_⟩:=key b hb;have:=l.rt L;rw[F]at this;simpa[jd]using this
 obtain⟨d,l,_,_,_⟩:=key b hb;obtain⟨k,Z,P,a⟩:=agc X;have hrd:=l.rd k Z p.1 a;obtain⟨x,bH⟩:=p;simp only at P a hrd;have Q:=C.v0;have ag:=E' Q;have w:0<=x/\x<g.bp:=by
  have n:=oC d;unfold kU at a;split at a;·rename_i V;rw[bF V]at a;have:=(A.aD _ n _ (agB V)).r.pF x a;omega
  have u:=A.CD _ n;rcases ahp.1 a with a|a;·have:=u.pF x a;omega
  obtain⟨e,he,a⟩:=akZ.1 a;obtain⟨y,G,rfl⟩:=aka he;have:=(u.E0 y G).pF x a;omega
 obtain⟨t,rfl⟩:∃t:Nat,x=t:=⟨x.toNat,af⟩;refine⟨t,rfl,af,?_⟩;by_cases z:(t:Int)<g.params;·exact .inl z
 obtain⟨s,hs,R,v⟩:=agd A C I (v:=(t:Int)) af w.2;simp only[AY,aj3]at v;unfold wZ at hrd;rw[R,aj3]at hrd;rcases hrd with h1|⟨h1,h2⟩|h1;·omega
 .have h3:=(af9 j S B E D H hs d).1 h2;exact .inr (.inr ⟨s,v,af,h3.1,h3.2.2⟩)
 obtain⟨q,hq,av⟩:∃q,((t:Int),q)∈dC (aH g b)/\q<(k:Int):=by
  rcases ahp.1 h1 with h1|h1;·exact⟨-1,J4 h1,af⟩
  have h2:=h1;rw[CW]at h2;obtain⟨y,G,c⟩:=akZ.1 h2;obtain⟨i,hi,rfl⟩:=aka G;rw[akF]at hi;rw[List.getElem_take]at c;split at c;·rename_i h4;rw[aep]at c;refine⟨i,?_,af⟩;rw[c];exact JZ af af
  cases c
 have:=C.at d hq;rw[aj3]at this;exact .inr (.inl ⟨by rw[this],by rw[this];simp only;omega⟩)
theorem Z'(a:vC g){i:Nat}{v:Nat}(h0:g.params<=(v:Int))(h1:(v:Int)<g.bp)(h:((jZ g).getD v (-1, -1)).1=(i:Int)):((v:Int),((jZ g).getD v (-1, -1)).2)∈dC (aH g i):=by obtain⟨j,p,hj,b⟩:=a.all _ h0 h1;have:=a.at hj b;rw[aj3]at this;rw[this]at h⊢;simp only at h⊢;obtain rfl:j=i:=af;exact b
theorem aaa{B:G.gV}{x p:Int}{k:Nat}(h:(x,p)∈dC B)(a:p<(k:Int))(h0:0<=x):x∈B.params++eU (B.aD.take k):=by
 rcases ahp.1 h with h|h;·obtain⟨y,d,e⟩:=akk.1 h;injection e with e _;subst e;exact akf _ d
 refine akq _ ?_;have key:∀(l:List G.ic)(i k:Nat),(x,p)∈ja l i->p<(k:Int)->x∈eU (l.take (k - i)):=by
  intro l;induction l with
  |nil=>intro i k h _;cases h
  |cons s l b=>
   intro i k h a;rw[ja]at h;have hi:∀(l:List G.ic)(i:Nat),(x,p)∈ja l i->(i:Int)<=p:=by
    intro l;induction l with
    |nil=>intro i h;cases h
    |cons s l b=>
     intro i h;rw[ja]at h;rcases ahp.1 h with h|h
     .split at h;·cases h
      rw[aep]at h;injection h with _ h;omega
     have:=b (i+1) h;omega
   rcases ahp.1 h with h|h
   .split at h;·cases h
    rw[aep]at h;injection h with h1 h2;obtain⟨m,c⟩:∃m,k - i=m+1:=⟨k - i - 1,af⟩;rw[c,als,CW,alp];refine akf _ ?_;rw[aK af,h1];exact aep.2 rfl
   have h3:=hi l (i+1) h;have:=b (i+1) k h a;obtain⟨m,c⟩:∃m,k - i=m+1:=⟨k - i - 1,af⟩;rw[c,als,CW,alp,<-CW];refine akq _ ?_;rw[show m=k - (i+1)by omega];exact this
 have:=key _ 0 k h a;simpa using this
theorem aac(y:sD g)(hn:g.al.length<=30)(q:IS g)(z:jm g)(A:vC g)(B:cX g come os)(C:yT g come os):JT g:=by
 have v:=y.sh;obtain⟨c1,o1,F,S,gl,m,w,G⟩:=q.ex;cases c:F with
 |true=>obtain⟨b,o,o',T,V,W⟩:=m.FA c;obtain⟨p,X,_,Y⟩:=T.dO;obtain⟨p',b1,_,Z⟩:=V.dO;exact absurd (by rw[<-Y,<-Z,z.E1 X b1]) W
 |false=>
  subst c;obtain⟨n,f⟩:=G rfl;have j:=m.toFlI;refine⟨c1,o1,S,gl,j,w,n,f,λi hi P=>?_⟩;have hb:=(Qw v z j w B).2 P;obtain⟨D,H⟩:=Qx v j w B hb;have ia:=((j.snd i P).ok v).2;rw[D]at ia;have hl:(jd (os.getD i [])).length=(os.getD i []).length:=by simp[jd]
  refine⟨λI=>?_,λJ=>?_,λk hk x Q=>?_⟩
  .obtain⟨l,h1,h2,h3,E⟩:=C.en i hb I;rw[D,hl];generalize os.getD i []=o at*;have K:o≠ []:=λe=>by rw[e]at h1;cases h1
   have r:o.length≠0:=λe=>K (akM e);have h:o[o.length - 1]'af=l:=by rw[List.getLast?_eq_getElem?,getElem?_pos o _ af]at h1;exact Option.some.inj h1
   have hm:l∈o:=List.mem_of_getLast? h1;have he:(jd o).getD (o.length - 1) 0=eL l:=by rw[bF (by rw[hl];omega)];simp only[jd,akN,h]
   have L:ru g (eL l)=na g l:=by rw[ru,na,aH,(J9 (H _ hm)).2]
   rw[he,L];exact⟨r,E.symm⟩
  .have:=C.rt i hb J;rw[D,this];rfl
  have hrd:=C.rd i hb _ (Rn hk Q);have d:=sr y (oC hi) Q;obtain⟨t,R,ag,a⟩:=hrd;simp only at R a;subst R;unfold wZ;by_cases u:(t:Int)<g.params;·exact .inl (by rw[aj3,f.aM t (by have:=A.p0;omega)];decide)
  rcases a with h1|⟨h1,h2⟩|⟨s,h1,h2,h3,E⟩;·exact absurd h1 u
  .exact .inr (.inr (aaa (Z' A af d.2 h1) h2 af))
  obtain⟨s',M,N,O⟩:=agd y A f (v:=(t:Int)) af d.2;simp only[AY,aj3]at O;obtain rfl:s'=s:=af;refine .inr (.inl ?_);rw[N,aj3];exact⟨af,(af9 v z j w B n M hi).2 ⟨h3,hb,E⟩⟩
theorem aae(a:sD g)(b:g.al.length<=30)(h:JT g):jm g:=by obtain⟨c1,o1,j,gl,c,d,e,f,i⟩:=h.ex;exact af7 a.sh b c d
end
end
section
variable{ac:Nat->aG}
theorem aag(T:Tb ac){H:ai}{b:ab}(c:b.an<H.next.an)(hc:bh H b 6=some (.bool true)){K:KT}(h:∀a,bm H a->K (.bool false) a):YN ac Xl [.az b 0] H K:=by refine YF.code T.ace aB ?_;refine au ?_;refine RO.dL (aj.dc H) λH1 d U=>?_;refine RO.gI U λe f U=>?_;refine ah ?_;refine RO.aW ?_ (v:=.bool true) (hc:=by rw[U.gr.bh c];exact hc);refine ah ?_;refine RO.gG U 0 (λg U=>?_);refine ah ?_;exact Ru.mI (M:=[]) (ts:=[_,_]) (by simpa[i9]using U) λa U=>⟨[.bool false],⟨⟨_,_,rfl,U.one 0⟩,trivial⟩,h a U.gr⟩
end
end Go.am.R
end
