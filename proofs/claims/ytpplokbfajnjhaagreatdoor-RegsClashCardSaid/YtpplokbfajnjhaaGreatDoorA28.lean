/- A part. No conditions. -/
import Derived.Test.YtpplokbfajnjhaaGreatDoorA27
set_option linter.all false
set_option maxHeartbeats 16000000
open List renaming replicate->acJ,range->ah7
open List.Perm renaming swap->aiK,cons->aiP
noncomputable section
namespace Go.al.R
section
variable{ab:Nat->aV}
section
structure fN(g:G.aP)(come:List Bool)(os:List (List bt))(lv:List (List Int)):Prop where
 len:lv.length=g.aj.length
 mem:∀b,come.getD b false=true->∀v,v∈lv.getD b []↔Lv g os b v
 Gf:∀b,come.getD b false=false->lv.getD b []=[]
 iD:∀b,(lv.getD b []).length<=6000
abbrev NJ:Nat->List AV->Prop:=λb cs=>cs=[aN b]
theorem NK{H:ai}{l:List Nat}{v:AV}(b:Sl H 1 (l.map aN) l.length v):cQ 1 (λ_=>NJ) H l v:=⟨_,b,λk a=>by rw[ajo,ah6 (by simpa using a)];simp⟩
section
variable{g:G.aP}{d f:AV}{c:ah}{H:ai}{come:List Bool}{os:List (List bt)}{h:List AV}
def lF(e g i b c:ah)(n:Nat)(j:AV)(k:Bool)(l:List AV)(a:Nat->ah)(ap:List Nat)(S:Nat->Int->Prop):List Th:=[tB 4 i [.bool k],tB ta g [.slice b 0 n n true],tB kK e [.aD c 0],tS 3 1 (ap.map aN) ap.length true j]++jY b n l a ap S
theorem aei(T:Tb ab)(V:Vd g)(hX:GX g H c d f come os h)(Q:b9 g come os){K:KT}(e5:∀H' v R r F,fN g come os R->fA R r F->ak H H' [tZ F,tS cB 1 r r.length true v]->K v H'):YN ab XB [.aD c 0] H K:=by
 have hB:=V.sm;have av:=hB.nb;have⟨d6,_,_,d7⟩:=hX.bl.all;have b0:=hX.jn.aE;have a6:=hX.jn.lt;have d':=Q.lt Q.c0;refine YF.code T.ZN aC (au ?_);refine RO.ct (ak.bN H) λH1 G U=>?_;refine af ?_;refine RO.be ?_ (v:=d) (hc:=by rw[U.gr.aY a6];exact b0);refine af ?_;refine RO.jy U (n:=g.aj.length) (λH2 B U=>?_) (hz:=by rw[eK];simp);rw[eK]at U;refine RO.dS U λH3 I U=>af ?_;refine RO.cl (FP T V.sm V.cK (hX.bR U.gr) Q λH4 u ap N hl=>?_);have U:=U.dq hl;have⟨cp,cv,cx,ea⟩:=(hl.sl (e:=3) (size:=1) (sv:=u) (vs:=ap.map aN) (n:=ap.length) (full:=true) 0).all;have eb:ap.length<=g.aj.length:=rX _ _ N.nd λx hx=>Q.lt ((N.mem x).1 hx);refine af ?_;have U:ak H H4 ([tS 3 1 (ap.map aN) ap.length true u,tB ta I [.slice B 0 g.aj.length g.aj.length true],tB kK G [.aD c 0]]++jY B g.aj.length (acJ g.aj.length .cL) (λ_=>.xH) (ap.take 0) (λ_ _=>False)):=U.bV (aiP _ (aiP _ (aiK ..)));refine Ru.nm λS0 M hS W=>?_;refine Ru.bI W (up (P:=λk=>∀A vs o,vs.length=g.aj.length->(∀b∈ap.take k,vs.getD b .bM=.map (o b))->(∀b,b<g.aj.length->b∉ap.take k->vs.getD b .bM=.cL)->ak H A ([tS 3 1 (ap.map aN) ap.length true u,tB ta I [.slice B 0 g.aj.length g.aj.length true],tB kK G [.aD c 0]]++jY B g.aj.length vs o (ap.take k) (λ_ _=>False))->Ru ab _ S0 ([(qv,aN k)]++pk M [p1,p3,p4,tb,tc]) A) ap.length (λk hk ih A vs o L X a8 U=>?_) 0 aa _ _ (λ_=>.xH) aC aC (λb hb _=>by rw[bf (by simpa using hb)];simp) U);subst hS;subst W;refine Ru.loop (au ?_);refine Ru.cond (λy=>?_) (λy=>?_)
 .refine af ?_;refine RO.iQ (aS.refl _) (U.sl (e:=3) (size:=1) (sv:=u) (vs:=ap.map aN) (n:=ap.length) (full:=true) 0) (λq5 o5 ec ei=>?_) (j:=k);have ej:ap[k]<g.aj.length:=Q.lt ((N.mem _).1 (acm y));refine af ?_;refine RO.M9 U λH5 qm U=>af ?_;refine RO.uX U 4 L (λH6 U=>af ?_) (k:=ap[k]);have a':ap.take (k+1)=ap.take k++[ap[k]]:=(ah9 y).symm;have cy:ap[k]∉ap.take k:=λhx=>by have⟨i,hi,e⟩:=ah0 hx;rw[aiA]at hi;rw[List.getElem_take]at e;have:=Mp N.nd aa y e;omega
  refine Ru.wk (ih (k+1) aa aa H6 (vs.set ap[k] (.map qm)) (λx=>if x=ap[k]then qm else o x) (by simpa using L) (λb hb=>?_) (λb hb av=>?_) ?_)
  .rw[a']at hb;rw[dD aa];by_cases e:b=ap[k];·rw[aG e,aG e]
   rw[an e,an e];exact X b ((adX.1 hb).resolve_right λe5=>e (abP.1 e5))
  .rw[a']at av;rw[dD aa,an λe=>av (by rw[e];exact aid _ (abP.2 rfl))];exact a8 b hb λe5=>av (ah1 _ e5)
  have U:=U.as (t':=tM false qm λ_=>False) 0 rfl λfp hp=>⟨hp.1,hp.2.1,hp.2.2.1,(λe5=>by cases e5),hp.2.2.2.2⟩;have U:=U.bV (aiq (l₁:=[_]));have e:jY B g.aj.length (vs.set ap[k] (.map qm)) (λx=>if x=ap[k]then qm else o x) (ap.take (k+1)) (λ_ _=>False)=tS Kk 1 (vs.set ap[k] (.map qm)) g.aj.length true (.slice B 0 g.aj.length g.aj.length true)::((ap.take k).map (λb=>tM false (o b) λ_=>False)++[tM false qm λ_=>False]):=by
   rw[jY,a',ail];congr 2;·exact ai7 λb hb=>by rw[an λe=>cy (by rw[<-e];exact hb)]
   simp
  rw[e];exact U
 refine Ru.exitTo ?_;rw[aic aa]at X a8 U;have ca:=X;have cd:=a8;have cE:xW g.aj.length vs o ap:=⟨L,N.nd,λb hb=>⟨Q.lt ((N.mem b).1 hb),X b hb⟩⟩;refine af ?_;refine RO.dS U λH5 D U=>?_;have U:ak H H5 (lF G I D B c g.aj.length u true vs o ap (λ_ _=>False)++fC []):=by rw[show fC []=[]from rfl,aiS];exact((U.eh 3 rfl).eh 3 rfl).eh 2 rfl
 refine af ?_;refine Ru.nm λS0 M hS W=>Ru.bI W (dn (P:=λm=>∀A O S cf D,(if cf=true then CI g.aQ.toNat ap S+1 else 0)=m->(cf=false->GJ g os ap S)->xX g os S->ak H A (lF G I D B c g.aj.length u cf vs o ap S++fC O)->Ru ab ⟨mZ [.tmp p2] K,O,none⟩ S0 ([(p7,.aD D 0)]++pk M [p1,p3,p4]) A) (λm ih A O S cf D cR Y ba U=>?_) _ _ [] (λ_ _=>False) true D rfl (λe5=>by cases e5) (λ_ _ e5=>e5.elim) U);subst hS;subst W;refine Ru.loop (af ?_);refine Ru.eC (λC=>?_) (λC=>?_)
 .subst C;refine af ?_;refine RO.dJ U 0 (λH6 U=>af ?_);refine RO.cl (Cu T.Z0 bx cp cv cx λH7 q hl=>?_);have U:=U.dq hl;refine af ?_;refine Ru.wk (L:=[(qy,.func XV [] [.aD q 0]),(p1,.aD G 0),(p3,.aD I 0),(p4,u),(p7,.aD D 0)]) ?_;have U:ak H H7 ([tB cB q [u]]++lF G I D B c g.aj.length u false vs o ap S++fC O):=U;refine Ru.oh (J:=λk ts=>∃E s,(∀b∈ap,∀v,S b v->E b v)/\(s=true->∃b∈ap,∃v,E b v/\¬S b v)/\(s=false->E=S/\∀j,j<k->∀(hj:ap.length - 1 - j<ap.length),∀v,vE g os S ap[ap.length - 1 - j] v->S ap[ap.length - 1 - j] v)/\xX g os E/\ts=lF G I D B c g.aj.length u s vs o ap E) (Dn:=λ_ _=>False) U (Ct (R:=NJ) (agg:=false) (size:=1) (la:=ap) (sv:=u) (e:=cB) (nt:=19) T.aaa bx aa (λ_=>rfl) (λa cs e5=>by cases e5;rfl)) (λH2 hg=>NK ((U.bR hg).sl (e:=3) (size:=1) (sv:=u) (vs:=ap.map aN) (n:=ap.length) (full:=true) 4)) ⟨S,false,λ_ _ _ e5=>e5,(λe5=>by cases e5),λ_=>⟨rfl,λj hj=>absurd hj aa⟩,ba,rfl⟩ (λk args ws e5=>by obtain⟨_,_,_,_,rfl⟩:=e5;rfl) (λk ts us H' hJ U=>by obtain⟨E,s,_,_,_,_,rfl⟩:=hJ;exact NK (U.sl (e:=3) (size:=1) (sv:=u) (vs:=ap.map aN) (n:=ap.length) (full:=true) 3)) (λk args ws ts us l o1 o2 H' hk c8 hJ U=>?_) (λH' c9 dm hJ U=>?_) (λj H' c9 dm hj hD U=>hD.elim)
  .obtain⟨rfl,bb,cs,rfl,rfl⟩:=c8;obtain⟨E,s,h1,h2,h3,h4,rfl⟩:=hJ;have bc:=acm bb;have c':=(N.mem _).1 bc;generalize dr:ap[ap.length - 1 - k]=b at*;refine au ?_;refine Ru.cY (xs:=lF G I D B c g.aj.length u s vs o ap E) U λH8 U=>af ?_;have U:=ak.dR (xs:=[tB 4 D [.bool s],tB ta I [.slice B 0 g.aj.length g.aj.length true],tB kK G [.aD c 0],tS 3 1 (ap.map aN) ap.length true u]) U;refine RO.cl (aef T V hX Q cE N.mem c' U λH9 P nw hP b3 U=>?_);have U:=ak.jP (xs:=[tB 4 D [.bool s],tB ta I [.slice B 0 g.aj.length g.aj.length true],tB kK G [.aD c 0],tS 3 1 (ap.map aN) ap.length true u]) U;have ay:∀A,ak H A (lF G I D B c g.aj.length u (nw||s) vs o ap (dP E b P)++tX l o2::us)->Ru ab (zM H l o2 us (λts=>∃E s,(∀b∈ap,∀v,S b v->E b v)/\(s=true->∃b∈ap,∃v,E b v/\¬S b v)/\(s=false->E=S/\∀j,j<k+1->∀(hj:ap.length - 1 - j<ap.length),∀v,vE g os S ap[ap.length - 1 - j] v->S ap[ap.length - 1 - j] v)/\xX g os E/\ts=lF G I D B c g.aj.length u s vs o ap E) (λ_ _=>False)) [] [] A:=λA U=>by
    refine Ru.bz (ts:=lF G I D B c g.aj.length u (nw||s) vs o ap (dP E b P)) U ⟨_,_,λx hx v hv=>?_,λC=>?_,λC=>?_,h4.iO λv hv=>(hP v).1 hv,rfl⟩
    .simp only[dP];split;·rename_i e;subst e;exact(hP v).2 (.inl (h1 x hx v hv))
     exact h1 x hx v hv
    .cases nw with
     |true=>have⟨v,hv,hn⟩:=b3.1 rfl;exact⟨b,bc,v,by simp only[CH];exact hv,λe5=>hn (h1 b bc v e5)⟩
     |false=>
      have⟨x,hx,v,hv,hn⟩:=h2 C;refine⟨x,hx,v,?_,hn⟩;simp only[dP];split;·rename_i e;subst e;exact(hP v).2 (.inl hv)
      exact hv
    simp only[Bool.or_eq_false_iff]at C;have⟨e,Y⟩:=h3 C.2;have b4:∀v,P v->E b v:=λv hv=>ain λhn=>by have:=b3.2 ⟨v,hv,hn⟩;rw[C.1]at this;cases this
    refine⟨?_,λj hj ds v hv=>?_⟩
    .rw[<-e];funext x v;simp only[dP];split;·rename_i e2;subst e2;exact propext ⟨b4 v,λe5=>(hP v).2 (.inl e5)⟩
     rfl
    by_cases dv:j=k;·subst dv;rw[dr]at hv⊢;rw[<-e]at hv⊢;exact b4 v ((hP v).2 (.inr hv))
    exact Y j aa ds v hv
   cases nw with|true=>refine af ?_;refine RO.dJ U 0 (λdx U=>af ?_);exact Ru.wk (ay _ U)|false=>refine af ?_;refine RO.dJ U 0 (λdx U=>af ?_);exact Ru.wk (ay _ U)
  obtain⟨E,s,h1,h2,h3,h4,rfl⟩:=hJ;refine af ?_;refine RO.dS U λH8 b6 U=>af ?_;have U:ak H H8 (lF G I b6 B c g.aj.length u s vs o ap E++fC (dm::O)):=U.sub (.cons_cons _ (.cons _ (aiE _)));have Z:(if s=true then CI g.aQ.toNat ap E+1 else 0)<m:=by rw[<-cR,aG rfl];cases s with|false=>simp|true=>have⟨b,hb,v,hv,hn⟩:=h2 rfl;have hf:=(h4 b v hv).zY V.cK Q (V.oG come os Q) V.gv N ((N.mem b).1 hb);obtain⟨t,rfl⟩:∃t:Nat,v=(t:Int):=⟨v.toNat,by have:=hf.1;omega⟩;have:=aeh (nv:=g.aQ.toNat) h1 hb (v:=t) (by have:=hf.2.1;omega) hv hn;rw[aG rfl];omega
  exact Ru.wk (ih _ Z H8 (dm::O) E s b6 rfl (λC b hb v hv=>by obtain⟨rfl,Y⟩:=h3 C;obtain⟨i,hi,rfl⟩:=ah0 hb;have:=Y (ap.length - 1 - i) aa aa;simp only[show ap.length - 1 - (ap.length - 1 - i)=i by omega]at this;exact this v hv) h4 U)
 subst C;refine Ru.exitTo ?_;have eB:∀b,come.getD b false=true->∀v,S b v↔Lv g os b v:=λb hb v=>⟨ba b v,λe5=>(Y rfl).all V.cK Q N.mem e5 ((N.mem b).2 hb)⟩;have dy:=hX.c2;have ek:=V.gv.v0;have X:=V.fm.fv.h2;obtain⟨nv,dz⟩:∃n:Nat,g.aQ=(n:Int):=⟨g.aQ.toNat,aa⟩;refine af ?_;refine RO.be ?_ (v:=d) (hc:=by rw[U.gr.aY a6];exact b0);refine af ?_;refine RO.jy U (n:=g.aj.length) (λH6 qo U=>?_) (hz:=by rw[eK];simp);rw[eK]at U;refine af ?_;have U:=U.lU;refine Ru.nm λS0 M hS W=>?_;refine Ru.bI W (up (P:=λk=>∀A r R F,r.length=g.aj.length->(∀b,b<k->tR 1 ((R b).map aI) (R b).length (r.getD b .bM)∈F)->(∀b:Nat,b<k->(R b).length<=nv/\∀v:Int,v∈R b↔come.getD b false=true/\S b v)->(∀b,k<=b->b<g.aj.length->r.getD b .bM=.bh)->ak H A (tZ F::tS cB 1 r g.aj.length true (.slice qo 0 g.aj.length g.aj.length true)::(lF G I D B c g.aj.length u false vs o ap S++fC O))->Ru ab ⟨mZ [.tmp p2] K,O,none⟩ S0 ([(nf,aN k)]++pk M [p1,p3,eM,tk,tm]) A) g.aj.length (λk hk ih A r R F L hF aw a1 U=>?_) 0 aa _ _ (λ_=>[]) [] aC (λb hb=>absurd hb aa) (λb hb=>absurd hb aa) (λb _ hb=>by rw[bf (by simpa using hb)];simp) U);subst hS;subst W;refine Ru.loop (au ?_);refine Ru.cond (λy=>?_) (λy=>?_)
 .refine af ?_;have d0:vs[0+k*1]?=some (vs.getD k .bM):=by rw[show 0+k*1=k by omega,bf aa];simp
  have bv:vs.getD k .bM=.map (o k)/\k∈ap\/vs.getD k .bM=.cL/\k∉ap:=by
   by_cases J:k∈ap;·exact .inl ⟨ca k J,J⟩
   exact .inr ⟨cd k y J,J⟩
  have d1:(vs.getD k .bM).br=true:=by rcases bv with⟨e,_⟩|⟨e,_⟩<;>rw[e]<;>rfl
  refine RO.cZ U 6 (hv:=d0) ?_;generalize vs.getD k .bM=mv at bv d1;refine af ?_;refine RO.be ?_ (v:=aN nv) (hc:=by rw[U.gr.aY a6,dy,dz];rfl);refine af ?_;have U:=U.mh 3 1;have d2:r.set k .bh=r:=by have:=a1 k (afM _) y;rw[bf aa]at this;rw[<-this];exact List.set_getElem_self _
  rw[<-d2]at U;refine Ru.nm λS0 M hS W=>?_;refine Ru.bI W (up (P:=λj=>∀A(p:List Int)w,p.length<=j->(∀v:Int,v∈p↔0<=v/\v<j/\come.getD k false=true/\S k v)->ak H A (tS 3 1 (p.map aI) p.length true w::tZ F::tS cB 1 (r.set k w) g.aj.length true (.slice qo 0 g.aj.length g.aj.length true)::(lF G I D B c g.aj.length u false vs o ap S++fC O))->Ru ab ⟨mZ [.tmp p2] K,O,none⟩ S0 ([(zA,aN j)]++pk M [p1,p3,eM,eS,ib,tk,tm,nf,zy]) A) nv (λj hj b7 A p w d3 ag U=>?_) 0 aa _ [] .bh aC (λv=>by simp;omega) U);subst hS;subst W;have⟨el,et,ew,_⟩:=(U.sl (e:=3) (size:=1) (sv:=w) (vs:=p.map aI) (n:=p.length) (full:=true) 0).all;have bb:(r.set k w)[0+k*1]?=some w:=by rw[show 0+k*1=k by omega,List.getElem?_set_self aa]
  refine Ru.loop (au ?_);refine Ru.cond (λZ=>?_) (λZ=>?_)
  .have b':∀A,¬(come.getD k false=true/\S k j)->ak H A (tS 3 1 (p.map aI) p.length true w::tZ F::tS cB 1 (r.set k w) g.aj.length true (.slice qo 0 g.aj.length g.aj.length true)::(lF G I D B c g.aj.length u false vs o ap S++fC O))->_:=λA hn U=>b7 (j+1) aa aa A p w aa (λv=>by
    rw[ag];constructor;·rintro⟨a2,cn,a3⟩;exact⟨a2,aa,a3⟩
    rintro⟨a2,cn,a3⟩;refine⟨a2,?_,a3⟩;rcases aiU v.toNat j with e5|e5;·omega
    obtain rfl:v=(j:Int):=aa;exact absurd a3 hn) U;refine af ?_;rcases bv with⟨rfl,J⟩|⟨rfl,J⟩
   .have hat:(tS 3 1 (p.map aI) p.length true w::tZ F::tS cB 1 (r.set k w) g.aj.length true (.slice qo 0 g.aj.length g.aj.length true)::(lF G I D B c g.aj.length u false vs o ap S++fC O))[7+(ap.idxOf k+1)]?=some (tM false (o k) (S k)):=by simp only[lF,ahD];exact pG (xs:=[_,_,_,_,_,_,_]) (CG J)
    have d4:=(N.mem k).1 J;refine RO.fM U _ (λt ht=>af ?_) (hi:=hat) (z:=(j:Int));refine Ru.eC (λax=>?_) (λax=>?_)
    .have d5:=ht.1 ax;refine af ?_;refine RO.cZ U 2 (hv:=bb) (af ?_);refine RO.push U 0 (λw0 H7 v2 U=>?_) (ws:=[aN j]);have⟨e0,e3,e4,_⟩:=(U.sl (e:=3) (size:=1) (n:=p.length+1) (full:=true) (sv:=v2) 0).all;refine af ?_;refine RO.uX (vs:=r.set k w) (n:=g.aj.length) U 2 (by rw[aja];exact L) (λH8 U=>?_) (k:=k) (ho:=by rw[aja];omega);refine af ?_;have e1:(p++[(j:Int)]).map aI=p.map aI++[aN j]:=aC;have e2:(p++[(j:Int)]).length=p.length+1:=aC;have U:ak H H8 (tS 3 1 ((p++[(j:Int)]).map aI) (p++[(j:Int)]).length true v2::tZ F::tS cB 1 (r.set k v2) g.aj.length true (.slice qo 0 g.aj.length g.aj.length true)::(lF G I D B c g.aj.length u false vs o ap S++fC O)):=by rw[e1,e2,<-List.set_set (a:=w)];exact U
     exact Ru.wk (b7 (j+1) aa aa H8 _ v2 (by rw[e2];omega) (λv=>by
      rw[adX,abP,ag];constructor
      .rintro(⟨a2,cn,a3⟩|rfl);·exact⟨a2,aa,a3⟩
       exact⟨aa,aa,d4,d5⟩
      rintro⟨a2,cn,a3⟩;by_cases e:v=(j:Int);·exact .inr e
      exact .inl ⟨a2,aa,a3⟩) U)
    refine af ?_;exact Ru.wk (b' _ (λe5=>by rw[ht.2 e5.2]at ax;cases ax) U)
   refine RO.aeg (z:=(j:Int)) (af ?_);exact Ru.wk (b' _ (λe5=>J ((N.mem k).2 e5.1)) U)
  refine Ru.exitTo ?_;obtain rfl:j=nv:=aa;refine af ?_;have U:=(U.as 0 rfl λfp hp=>tS.io hp).iC;exact Ru.wk (ih (k+1) aa aa A (r.set k w) (λb=>if b=k then p else R b) _ (by simpa using L) (λb hb=>by
   rw[dD aa];by_cases e:b=k;·rw[aG e,aG e];exact acI ..
   rw[an e,an e];exact adT _ (hF b aa)) (λb hb=>by
   by_cases e:b=k;·subst e;rw[aG rfl];refine⟨d3,λv=>?_⟩;rw[ag];refine⟨λe5=>e5.2.2,λe5=>?_⟩;have hf:=((ba b v e5.2).zY V.cK Q (V.oG come os Q) V.gv N e5.1);exact⟨hf.1,by have:=hf.2.1;omega,e5⟩
   rw[an e];exact aw b aa) (λb hb z=>by rw[dD aa,an aa];exact a1 b aa z) U)
 refine Ru.exitTo ?_;obtain rfl:k=g.aj.length:=aa;refine af ?_;refine Ru.jl (M:=O) (U.bV (aiq (l₁:=_::_::lF G I D B c g.aj.length u false vs o ap S))) λH' U=>⟨[.slice qo 0 g.aj.length g.aj.length true],⟨rfl,rfl,trivial⟩,e5 H' _ ((ah7 g.aj.length).map R) r F ?_ ?_ ?_⟩
 .have e:∀b,b<g.aj.length->((ah7 g.aj.length).map R).getD b []=R b:=λb hb=>by rw[bf (by simpa using hb)];simp
  refine⟨aC,λb hb v=>?_,λb hb=>?_,λb=>?_⟩;·have z:=Q.lt hb;rw[e b z,(aw b z).2,eB b hb];exact⟨λe5=>e5.2,λe5=>⟨hb,e5⟩⟩
  .by_cases z:b<g.aj.length;·rw[e b z];refine List.eq_nil_iff_forall_not_mem.2 λv hv=>?_;have:=((aw b z).2 v).1 hv;rw[hb]at this;cases this.1
   rw[ah3,aiJ (by simpa using z)];rfl
  by_cases z:b<g.aj.length;·rw[e b z];have:=(aw b z).1;omega
  rw[ah3,aiJ (by simpa using z)];exact Nat.zero_le _
 .refine⟨by simpa using L,λb hb=>?_⟩;simp only[aig,List.length_range]at hb;rw[bf (by simpa using hb)];simp only[aiD,aju];exact hF b hb
 rw[L];exact U.sub (.cons_cons _ (.cons_cons _ (ajr _)))
end
end
section
section
variable{g:G.aP}{H:ai}
theorem aej(T:Tb ab)(V:Vd g){cs:List AV}(hg:dt H g cs){K:KT}(p:∀H' v b os j a F,b9 g b os->fN g b os j->fA j a F->ak H H' [tZ F,tS cB 1 a a.length true v]->K (.tuple [v,aI 0]) H'):YN ab Xi [.agg cs] H K:=by have o:=hg.one;obtain⟨h,rfl,bG⟩:=hg;refine YF.code T.Zu aC (au ?_);refine RO.ct (ak.bN H) λH1 q U=>af ?_;refine RO.co U 0 ?_;refine RO.cl (ad0 T V (cs:=[.str g.name,aI g.params,aI g.aQ,h]) ⟨h,rfl,bX.block.gp U.gr bG⟩ rfl λt u d w b os c k r i=>aei T V r i λs v j a F l m hl=>?_);have⟨n,_,_,_⟩:=(hl.sl (e:=cB) (size:=1) (sv:=v) (vs:=a) (n:=a.length) (full:=true) 1).all;refine⟨n,(af ?_)⟩;exact Ru.kg (p s v b os j a F i l m (hl.EZ (U.gr.trans k)))
end
def gV:List bt->List AV
 |[]=>[]
 |o::l=>aI o.1:: .bool (o.2==0)::gV l
theorem NM:∀{l:List bt}{k:Nat}(h:k<l.length),((gV l).drop (k*2)).take 2=[aI l[k].1,.bool (l[k].2==0)]|o::l,0,_=>rfl|o::l,k+1,h=>by have:=NM (l:=l) (k:=k) (by simpa using h);grind[gV]
theorem GK:∀(a b:List bt),gV (a++b)=gV a++gV b|[],b=>rfl|o::a,b=>by simp only[aiR,gV,GK a b]
theorem NN:∀(l:List bt)(b:Nat),(gV l).take (b*2)=gV (l.take b)|[],b=>by simp[gV]|o::l,0=>by rfl|o::l,b+1=>by rw[show(b+1)*2=b*2+2 by omega];simp only[gV,ajf,NN l b]
abbrev mD(H:ai)(l:List bt)(v:AV):Prop:=Sl H 2 (gV l) l.length v
abbrev NO:bt->List AV->Prop:=λo cs=>cs=[aI o.1,.bool (o.2==0)]
theorem mD.r{H:ai}{l:List bt}{v:AV}(h:mD H l v):cQ 2 (λ_=>NO) H l v:=⟨_,h,λk a=>NM a⟩
structure vF(H:ai)(fq:ah)(vb ov:AV)(svs:List AV)(n:Nat):Prop where
 lt:fq.am<H.next.am
 aE:aY H fq 3=some vb
 jm:aY H fq 5=some ov
 sl:Sl H 1 svs n ov
theorem vF.bR{H H':ai}{f:ah}{d e:AV}{c:List AV}{n:Nat}(h:vF H f d e c n)(g:aS H H'):vF H' f d e c n:=⟨aim h.lt g.nx,by rw[g.aY h.lt];exact h.aE,by rw[g.aY h.lt];exact h.jm,g.sl h.sl⟩
section
variable{g:G.aP}{d e:AV}{f:ah}{A H:ai}{us:List Th}{c:List AV}{now:List bt}
theorem aek(T:Tb ab)(a:vF H f d e c g.aj.length){b:Nat}(hb:b<g.aj.length)(hs:mD H now (c.getD b .bM))(h0:now≠ [])(m:now.length<=1000){K:KT}(j:∀H' o,now.getLast?=some o->aS H H'->K (.agg [aI o.1,.bool (o.2==0)]) H'):YN ab XN [.aD f 0,aN b] H K:=by
 have⟨n,_,_,p⟩:=hs.all;have h:=a.jm;have i:0<now.length:=by cases now with|nil=>exact absurd rfl h0|cons _ _=>simp
 refine YF.code T.Z2 aC (au ?_);refine RO.dN (ak.bN H) λH1 w U=>af ?_;refine RO.be ?_ (v:=e) (hc:=by rw[U.gr.aY a.lt];exact h);refine af ?_;refine RO.rW U.gr a.sl (λx y q _=>af ?_) (j:=b);refine RO.be ?_ (v:=e) (hc:=by rw[U.gr.aY a.lt];exact h);refine af ?_;refine RO.rW U.gr a.sl (λz A s _=>af ?_) (j:=b);refine RO.arith (v:=aN (now.length - 1)) (RO.bO U.gr (mD.r hs) (λt u v hj k _ _ hrd=>?_) (j:=now.length - 1)) (hv:=mg aa aa);subst k;refine af ?_;refine RO.eY U 0 (λl U=>af ?_);refine Ru.i9 (vs:=[.agg [aI (now[now.length - 1]).1,.bool ((now[now.length - 1]).2==0)]]) ⟨⟨_,_,rfl,U.agg 0⟩,trivial⟩ (j l _ ?_ U.gr);rw[List.getLast?_eq_getElem?,aiQ hj]
theorem ael(T:Tb ab)(D:G.Sm g)(hb:cQ 7 iP A g.aj d)(r:aS A H)(j:vF H f d e c g.aj.length){b:Nat}(k:b<g.aj.length)(hs:mD H now (c.getD b .bM))(v:qD g now)(h0:now≠ [])(l:now.length<=1000){K:KT}(h:∀H' o,now.getLast?=some o->aS H H'->K (aI (gu g o)) H'):YN ab XD [.aD f 0,aN b] H K:=by have⟨y,_,_,_⟩:=hb.all;have m:=j.aE;refine YF.code T.ZQ aC (af ?_);refine RO.B3 (aek T j k hs h0 l λH1 o s a=>⟨by rw[a.aY j.lt];exact m,?_⟩) (hvs:=hb.bK);have⟨h1,h2,h3⟩:=v.ok o (List.mem_of_getLast? s);obtain⟨t,u⟩:∃t:Nat,o.1=(t:Int):=⟨o.1.toNat,aa⟩;have h:=h H1 o s a;simp only[gu,u,ahX]at h3 h;have n:t<g.aj.length:=aa;rw[bf n]at h3 h;rw[u];refine af ?_;refine RO.bO (r.trans a) hb (λw o2 c2 z p _ hat _=>?_) (j:=t);obtain⟨E,F,I,rfl,_,_,J,L,x,rfl,_,_,i⟩:=p;have⟨B,_,_,_⟩:=i.all;refine af ?_;refine RO.be (i:=w) (o:=o2+2+4) (v:=x) (RO.bO (r.trans a) i (λM o3 c3 C q _ hat _=>?_) (hj:=by omega)) (hc:=hat 6 _ rfl);obtain⟨v3,rfl,_⟩:=q;refine af ?_;refine Ru.aL ?_;rw[bf aa]at h;exact h
end
end
section
theorem NP(T:Tb ab){B H:ai}{size n:Nat}{d:List AV}{v:AV}(hs:Sl B size d n v):YN ab XC [v] H λe H'=>e=tA v n/\H'=H:=by
 have⟨hd,_,_,g⟩:=hs.all;refine YF.code T.ZP aC (au ?_);rcases hs with⟨rfl,rfl,rfl⟩|⟨i,o,cap,ex,h,m,j,f,aK,fz,rfl,hg,k,hl,l,hi,b⟩;·refine RO.zu (m:=0) (b:=0) (a:=0) rfl rfl rfl rfl (au ?_);exact Ru.aL ⟨rfl,rfl⟩
 refine RO.EY (m:=n) (b:=n) (a:=0) (v:=.slice i o n n true) rfl (by show lL (aN n) cap=_;exact qk b) (by show lL (aN n) n=_;exact qk (afM n)) rfl aC aC ?_;refine au ?_;exact Ru.aL ⟨rfl,rfl⟩
def aem(W:List (Int×List bt))(b:List bt)(nv:AV)(k:Nat)(args:List AV)(d:List Th):Prop:=
 ∃(h:k<W.length)(v:AV),args=[aI W[k].1,v]/\v.br=true/\v.cW=true/\v.cells=[v]/\((d=[]/\∀H,mD H b nv->mD H W[k].2 v)\/d=[tS Kj 2 (gV W[k].2) W[k].2.length true v])
section
variable{g:G.aP}{c:AV}{a:ah}{A H:ai}{us:List Th}
theorem NQ(T:Tb ab){b:Nat}{K:KT}(f:∀H' d e,ak H H' [tB 3 e [aN b],tB jQ d [.aD a 0]]->K (.func BX [] [.aD d 0,.aD e 0]) H'):YN ab Xj [.aD a 0,aN b] H K:=by refine YF.code T.Zv aC (au ?_);refine RO.ct (ak.bN H) λH1 d U=>RO.ct U λg e U=>au ?_;exact Ru.aL (f _ d e U)
theorem NR(T:Tb ab)(hB:G.Sm g)(hb:cQ 7 iP A g.aj c){b:Nat}{now:List bt}{nv:AV}{q1 N:ah}(hE:Ca g b)(hO:qD g now)(b0:now.length<=1000)(av:(g.aj.getD b default).aq.op=68->now≠ []):xG ab A (.func BX [] [.aD q1 0,.aD N 0]) (bU g b now).length (aem (bU g b now) now nv) [tB 3 N [aN b],tB jQ q1 [.aD a 0]] (λH=>∃ov Q,vF H a c ov Q g.aj.length/\Q.getD b .bM=nv/\mD H now nv) (λH=>mD H now nv):=by
 intro y J D t us H K ds dv dx B i s U hR l;obtain⟨ov,Q,O,aw,hs⟩:=hR;have hA:=U.gr;have⟨b3,_,_,dy⟩:=O.sl.all;have⟨ax,b4,b6,dz⟩:=hs.all;have⟨d0,d1,_,d2⟩:=hb.all;have d3:=O.aE;have b7:=O.jm;have b':aY H q1 0=some (.aD a 0):=by obtain⟨_,m⟩:=U.get 1 rfl;exact tB.cell m rfl
 have ca:aY H N 0=some (aN b):=by obtain⟨_,m⟩:=U.get 0 rfl;exact tB.cell m rfl
 have cd:q1.am<H.next.am:=by obtain⟨_,m⟩:=U.get 1 rfl;obtain⟨_,_,_,_,_,h⟩:=m;exact h
 have cf:N.am<H.next.am:=by obtain⟨_,m⟩:=U.get 0 rfl;obtain⟨_,_,_,_,_,h⟩:=m;exact h
 obtain⟨q,I⟩:=hE;rw[bf q]at I av;refine YF.code T.ZO aC (af ?_);refine RO.bO hA hb (λq3 o3 c3 d4 ay _ hat hrd=>?_) (j:=b);have c':=ay.one;obtain⟨vp,vs,jc,rfl,_,_,hj⟩:=ay;have d5:=hj.one;obtain⟨va,vk,vg,rfl,d6,d7,n⟩:=hj;have⟨C,_,_,d'⟩:=n.all;refine af ?_;refine RO.eF (af ?_) (hc:=FA (k:=2) (m:=5) hrd bx);refine RO.rW (aS.refl H) O.sl (λq4 o4 a1 cn=>?_) (j:=b);rw[aw]at a1;refine af ?_;refine RO.dN (ak.bN H) λH1 q5 hl=>RO.xK hl 0 (λH2 hl=>⟨λac d=>?_,?_⟩);·have hg:=hl.gr;refine eo d rfl rfl ax hs.bK (by rw[hg.aY cn];exact a1) (eo (v:=aN b) d rfl rfl rfl (by simp[eV,cC,dV]) (by rw[hg.aY cf];exact ca) (eo d rfl rfl b3 O.sl.bK (by rw[hg.aY O.lt];exact b7) (eo (v:=.aD a 0) d rfl rfl rfl (by simp[eV,cC,ah.fg]) (by rw[hg.aY cd];exact b') rfl)))
 have a2:=hl.gr;have U:=U.dq hl;refine af ?_;have E:(g.aj.getD b default).aq=(g.aj[b]).aq:=by rw[bf q]
 refine Ru.cond (λ(r:(g.aj[b]).aq.op=67)=>?_) (λ(r:¬(g.aj[b]).aq.op=67)=>?_)
 .have h3:=I r;have a6:∀k(h:k<2),∃h':k<(bU g b now).length,(bU g b now)[k]=(((g.aj[b]).aq.go[k]'aa).block,now++[((b:Int),k)]):=λk h=>by
   have u:bU g b now=[(((g.aj[b]).aq.go[0]'aa).block,now++[((b:Int),0)]),(((g.aj[b]).aq.go[1]'aa).block,now++[((b:Int),1)])]:=by simp only[bU,E,aG r];rw[bf aa,bf aa]
   refine⟨by rw[u];simpa using h,?_⟩;simp only[u];match k,h with|0,_=>rfl|1,_=>rfl
  have cp:(bU g b now).length=2:=by simp only[bU,E,aG r];rfl
  obtain⟨a8,a'⟩:=a6 0 aa;obtain⟨ba,bb⟩:=a6 1 aa;have cv:=B 0 t _ H2 s (ak.dR (xs:=[_,_,_]) U);refine af ?_;refine RO.FD U.gr n (λq8 o8 dr cx he _ f=>?_) (j:=0) (hj:=by omega);obtain⟨v8,rfl,_⟩:=he;refine af ?_;refine RO.be (af ?_) (hc:=f 0 _ rfl U.gr);refine RO.i6 U 2 (ws:=[aN b,.bool true]) (λH4 q9 U=>RO.FB (v:=tA nv now.length) (λH0 _ _=>NP T hs) (λP p R=>?_));have U:=U.bK R p;have V:=B 0 t _ P s (ak.dR (xs:=[_,_,_,_]) U);have w:aY P N 0=some (aN b):=by obtain⟨_,m⟩:=U.get 2 rfl;exact tB.cell m rfl
  have x:aY P q5 4=some vg:=by obtain⟨_,m⟩:=U.get 1 rfl;exact tB.cell m rfl
  refine⟨λac d=>eo (v:=aN b) d rfl rfl rfl (by simp[eV,cC,dV]) w (eo (v:=aI ((g.aj[b]).aq.go[0]'aa).block) d rfl rfl rfl (by simp[eV,cC,dV]) (f 0 _ rfl U.gr) (eo d rfl rfl C (n.bK) x rfl)),(RO.FC U (FK V) (U.sl 0) (λH5 v5 _ U=>?_))⟩;have z:aY H5 q5 4=some vg:=by obtain⟨_,m⟩:=U.get 2 rfl;exact tB.cell m rfl
  refine⟨λac d=>eo (v:=aI ((g.aj[b]).aq.go[0]'aa).block) d rfl rfl rfl (by simp[eV,cC,dV]) (f 0 _ rfl U.gr) (eo d rfl rfl C (n.bK) z rfl),?_⟩;have W:Sl H5 2 (gV now++[aN b,.bool true]) (now.length+1) v5:=U.sl 0;have⟨X,Y,Z,_⟩:=W.all;have e5:gV (now++[((b:Int),0)])=gV now++[aN b,.bool true]:=GK _ _;have e6:(now++[((b:Int),0)]).length=now.length+1:=aC;rw[<-e5,<-e6]at U;refine af ?_;refine RO.cl ((i 0 [aI ((g.aj[b]).aq.go[0]'aa).block,v5] [_] t _ _ a8 ⟨a8,v5,by rw[a'],X,Y,Z,.inr (by rw[a'])⟩ s (U.bV (aiP _ (rV (xs:=[_,_,_,_]))))).mono ?_);rintro v H3⟨j,U,hc⟩;rcases hc with⟨rfl,s⟩|⟨rfl,h⟩
  .have U:=ak.jP (xs:=[_,_,_,_]) U;have cv:=B 1 j _ _ s (ak.dR (xs:=[_,_,_,_]) U);refine af ?_;refine RO.FD U.gr n (λq8 o8 dr cx he _ f=>?_) (j:=1) (hj:=by omega);obtain⟨v8,rfl,_⟩:=he;refine af ?_;refine RO.be (af ?_) (hc:=f 0 _ rfl U.gr);refine RO.i6 U 2 (ws:=[aN b,.bool false]) (λH4 q9 U=>RO.FB (v:=tA nv now.length) (λH0 _ _=>NP T hs) (λP p R=>?_));have U:=U.bK R p;have V:=B 1 j _ P s (ak.dR (xs:=[_,_,_,_,_]) U);have w:aY P N 0=some (aN b):=by obtain⟨_,m⟩:=U.get 3 rfl;exact tB.cell m rfl
   have x:aY P q5 4=some vg:=by obtain⟨_,m⟩:=U.get 2 rfl;exact tB.cell m rfl
   refine⟨λac d=>eo (v:=aN b) d rfl rfl rfl (by simp[eV,cC,dV]) w (eo (v:=aI ((g.aj[b]).aq.go[1]'aa).block) d rfl rfl rfl (by simp[eV,cC,dV]) (f 0 _ rfl U.gr) (eo d rfl rfl C (n.bK) x rfl)),(RO.FC U (FK V) (U.sl 0) (λH5 v5 _ U=>?_))⟩;have z:aY H5 q5 4=some vg:=by obtain⟨_,m⟩:=U.get 3 rfl;exact tB.cell m rfl
   refine⟨λac d=>eo (v:=aI ((g.aj[b]).aq.go[1]'aa).block) d rfl rfl rfl (by simp[eV,cC,dV]) (f 0 _ rfl U.gr) (eo d rfl rfl C (n.bK) z rfl),?_⟩;have W:Sl H5 2 (gV now++[aN b,.bool false]) (now.length+1) v5:=U.sl 0;have⟨X,Y,Z,_⟩:=W.all;have e5:gV (now++[((b:Int),1)])=gV now++[aN b,.bool false]:=GK _ _;have e6:(now++[((b:Int),1)]).length=now.length+1:=aC;rw[<-e5,<-e6]at U;refine af ?_;refine RO.cl ((i 1 [aI ((g.aj[b]).aq.go[1]'aa).block,v5] [_] j _ _ ba ⟨ba,v5,by rw[bb],X,Y,Z,.inr (by rw[bb])⟩ s (U.bV (aiP _ (rV (xs:=[_,_,_,_,_]))))).mono ?_);rintro v H3⟨j,U,hc⟩;refine af ?_;refine Ru.aq (vs:=[]) trivial (l _ j _ (by rw[<-ahD]at U;exact U.skip) ?_);rcases hc with⟨_,h⟩|⟨_,h⟩;·left;rw[cp];exact h
   exact .inr h
  refine af ?_;exact Ru.aq (vs:=[]) trivial (l _ j _ (by rw[<-ahD]at U;exact U.skip) (.inr h))
 refine af ?_;refine Ru.cond (λ(F:(g.aj[b]).aq.op=68)=>?_) (λ(F:¬(g.aj[b]).aq.op=68)=>?_)
 .have h0:=av F;have dm:0<now.length:=by cases now with|nil=>exact absurd rfl h0|cons _ _=>simp
  have u:bU g b now=match now.getLast? with|some o=>[(gu g o,now.take (now.length - 1))]|none=>[]:=by simp only[bU,E,an r,aG F]<;>rfl
  refine af ?_;refine RO.arith (v:=aN (now.length - 1)) (af ?_) (hv:=mg aa aa);refine RO.lV hs (b:=now.length - 1) ?_;have L:∀H',mD H' now nv->mD H' (now.take (now.length - 1)) (lV nv (now.length - 1)):=λH' h=>by
   have e:(now.take (now.length - 1)).length=now.length - 1:=by rw[aiA];omega
   show Sl H' 2 (gV _) _ _;rw[e,<-NN];exact zO h aa
  have⟨cy,cE,cR,_⟩:=(L _ hs).all;refine RO.cl (ael T hB hb U.gr (O.bR a2) q (by rw[aw];exact a2.sl hs) hO h0 b0 λH3 o ag c8=>?_);have U:=U.bR c8;rw[ag]at u;simp only at u;rw[u]at i l;refine RO.cl ((i 0 [aI (gu g o),lV nv (now.length - 1)] [] t _ _ aC ⟨aC,_,rfl,cy,cE,cR,.inl ⟨rfl,L⟩⟩ s (ak.dR (xs:=[_,_,_]) U)).mono ?_);rintro v H3⟨j,U,hc⟩;refine af ?_;refine Ru.aq (vs:=[]) trivial (l _ j _ (by rw[<-ahD]at U;exact U.skip) ?_);rcases hc with⟨_,h⟩|⟨_,h⟩;·exact .inl h
  exact .inr h
 have u:bU g b now=(g.aj[b]).aq.go.map λe=>(e.block,now):=by simp only[bU,E,an r,an F]
 have ea:=hB.bl _ (acm q);refine af ?_;refine Ru.nm λS M hS hM=>Ru.bI hM (up (P:=λk=>∀HX t,J k t->ak A HX (tB mi q5 _::([tB 3 N [aN b],tB jQ q1 [.aD a 0]]++t++us))->Ru ab _ S ([(rO,aN k)]++pk M [p0,p5,xi,zx]) HX) (g.aj[b]).aq.go.length (λk hk ih HX t s U=>?_) 0 aa _ t s U);subst hS;subst hM;refine Ru.loop (au ?_);refine Ru.cond (λbc=>?_) (λbc=>?_)
 .refine au ?_;refine RO.bO U.gr n λq6 o6 c6 eb he _ hat hrd=>?_;have c9:=he.one;obtain⟨v6,rfl,_⟩:=he;refine af ?_;refine RO.dS U λH5 q7 U=>?_;refine af ?_;have bv:k<(bU g b now).length:=by rw[u,aig];exact bc
  refine RO.cl ((i k [aI ((g.aj[b]).aq.go[k]).block,nv] [] t _ _ bv ⟨bv,nv,by simp only[u,aiD],ax,b4,b6,.inl ⟨rfl,λH' h=>by simp only[u,aiD];exact h⟩⟩ s (ak.dR (xs:=[_,_,_,_]) U)).mono ?_);rintro v H3⟨j,U,hc⟩;rcases hc with⟨rfl,h⟩|⟨rfl,h⟩;·refine af ?_;exact Ru.wk (ih (k+1) aa aa _ _ h (ak.jP (xs:=[_,_,_,_]) U).tail)
  refine af ?_;exact Ru.kJ (vs:=[]) trivial (l _ j _ (by rw[<-ahD]at U;exact U.skip) (.inr h))
 refine Ru.exitTo ?_;refine af ?_;refine Ru.aq (vs:=[]) trivial (l _ t _ U.tail.tail.tail (.inl ?_));rw[u,aig,show(g.aj[b]).aq.go.length=k by omega];exact s
end
end
end
end Go.al.R
end
