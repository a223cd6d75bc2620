/- A part of the proof. No conditions. -/
import Derived.Test.YtjhkgigolpfcfaaGreatDoorA27
set_option linter.all false
set_option maxHeartbeats 16000000
open List renaming mem_singleton->aep,mem_cons_of_mem->aey,mem_cons_self->aeU,replicate->ahr,range->ake,length_map->akg,length_take->akF
open Nat renaming le_of_ble_eq_true->akc
open List.Perm renaming cons->akO,swap->akS
noncomputable section
namespace Go.am.R
section
variable{ac:Nat->aG}
section
structure gP(g:G.bu)(come:List Bool)(os:List (List bV))(lv:List (List Int)):Prop where
 len:lv.length=g.al.length
 mem:∀b,come.getD b false=true->∀v,v∈lv.getD b []↔Lv g os b v
 JN:∀b,come.getD b false=false->lv.getD b []=[]
 jx:∀b,(lv.getD b []).length<=6000
abbrev P6:Nat->List AV->Prop:=λb cs=>cs=[aN b]
theorem P7{H:ai}{l:List Nat}{v:AV}(b:Sl H 1 (l.map aN) l.length v):dV 1 (λ_=>P6) H l v:=⟨_,b,λk a=>by rw[alt,aj9 (by simpa using a)];simp⟩
section
variable{g:G.bu}{d f:AV}{c:ab}{H:ai}{come:List Bool}{os:List (List bV)}{h:List AV}
def oE(e g i b c:ab)(n:Nat)(j:AV)(k:Bool)(l:List AV)(a:Nat->ab)(ak:List Nat)(S:Nat->Int->Prop):List Th:=[tB 4 i [.bool k],tB wB g [.slice b 0 n n true],tB mE e [.az c 0],tS 3 1 (ak.map aN) ak.length true j]++lP b n l a ak S
theorem afx(T:Tb ac)(V:Vd g)(hX:GX g H c d f come os h)(Q:cX g come os){K:KT}(ek:∀H' v R r F,gP g come os R->lQ R r F->aj H H' [tZ F,tS eH 1 r r.length true v]->K v H'):YN ac WV [.az c 0] H K:=by
 have hB:=V.sm;have av:=hB.nb;have⟨d0,_,_,d1⟩:=hX.bl.all;have ba:=hX.kS.aH;have a2:=hX.kS.lt;have d2:=Q.lt Q.c0;refine YF.code T.abK aB ?_;refine au ?_;refine RO.dL (aj.dc H) λH1 G U=>?_;refine ah ?_;refine RO.aW ?_ (v:=d) (hc:=by rw[U.gr.bh a2];exact ba);refine ah ?_;refine RO.oT U (n:=g.al.length) (λH2 B U=>?_) (hz:=by rw[iZ];simp);rw[iZ]at U;refine RO.fx U λH3 I U=>?_;refine ah ?_;refine RO.cl (Jq T V.sm V.dO (hX.cI U.gr) Q λH4 u ak N hl=>?_);have U:=U.fC hl;have⟨b',ca,cd,d3⟩:=(hl.sl (e:=3) (size:=1) (sv:=u) (vs:=ak.map aN) (n:=ak.length) (full:=true) 0).all;have d4:ak.length<=g.al.length:=vB _ _ N.nd λx hx=>Q.lt ((N.mem x).1 hx);refine ah ?_;have U:aj H H4 ([tS 3 1 (ak.map aN) ak.length true u,tB wB I [.slice B 0 g.al.length g.al.length true],tB mE G [.az c 0]]++lP B g.al.length (ahr g.al.length .cY) (λ_=>.xH) (ak.take 0) (λ_ _=>False)):=U.cM (akO _ (akO _ (akS ..)));refine Ru.nm λS0 M hS W=>?_;refine Ru.cC W (up (P:=λk=>∀A vs o,vs.length=g.al.length->(∀b∈ak.take k,vs.getD b .co=.map (o b))->(∀b,b<g.al.length->b∉ak.take k->vs.getD b .co=.cY)->aj H A ([tS 3 1 (ak.map aN) ak.length true u,tB wB I [.slice B 0 g.al.length g.al.length true],tB mE G [.az c 0]]++lP B g.al.length vs o (ak.take k) (λ_ _=>False))->Ru ac _ S0 ([(bT,aN k)]++pk M [p1,p3,p4,bL,bK]) A) ak.length (λk hk ih A vs o L X a4 U=>?_) 0 af _ _ (λ_=>.xH) aB aB (λb hb _=>by rw[bF (by simpa using hb)];simp) U);subst hS;subst W;refine Ru.loop ?_;refine au ?_;refine Ru.cond (λy=>?_) (λy=>?_)
 .refine ah ?_;refine RO.lg (bm.refl _) (U.sl (e:=3) (size:=1) (sv:=u) (vs:=ak.map aN) (n:=ak.length) (full:=true) 0) (λq5 o5 d5 d6=>?_) (j:=k);have d7:ak[k]<g.al.length:=Q.lt ((N.mem _).1 (agB y));refine ah ?_;refine RO.Ff U λH5 qm U=>?_;refine ah ?_;refine RO.yK U 4 L (λH6 U=>?_) (k:=ak[k]);refine ah ?_;have a5:ak.take (k+1)=ak.take k++[ak[k]]:=(akd y).symm;have cf:ak[k]∉ak.take k:=λhx=>by obtain⟨i,hi,e⟩:=aka hx;rw[akF]at hi;rw[List.getElem_take]at e;have:=Pq N.nd af y e;omega
  refine Ru.wk (ih (k+1) af af H6 (vs.set ak[k] (.map qm)) (λx=>if x=ak[k]then qm else o x) (by simpa using L) (λb hb=>?_) (λb hb av=>?_) ?_)
  .rw[a5]at hb;rw[fu af];by_cases e:b=ak[k];·rw[aK e,aK e]
   rw[aq e,aq e];exact X b ((ahp.1 hb).resolve_right λek=>e (aep.1 ek))
  .rw[a5]at av;rw[fu af,aq λe=>av (by rw[e];exact akq _ (aep.2 rfl))];exact a4 b hb λek=>av (akf _ ek)
  have U:=U.as (t':=tM false qm λ_=>False) 0 rfl λfp hp=>⟨hp.1,hp.2.1,hp.2.2.1,(λek=>by cases ek),hp.2.2.2.2⟩;have U:=U.cM (akH (l₁:=[_]));have e:lP B g.al.length (vs.set ak[k] (.map qm)) (λx=>if x=ak[k]then qm else o x) (ak.take (k+1)) (λ_ _=>False)=tS NF 1 (vs.set ak[k] (.map qm)) g.al.length true (.slice B 0 g.al.length g.al.length true)::((ak.take k).map (λb=>tM false (o b) λ_=>False)++[tM false qm λ_=>False]):=by
   rw[lP,a5,akE];congr 2;·exact alk λb hb=>by rw[aq λe=>cf (by rw[<-e];exact hb)]
   simp
  rw[e];exact U
 refine Ru.exitTo ?_;rw[akl af]at X a4 U;have b3:=X;have b4:=a4;have cn:AZ g.al.length vs o ak:=⟨L,N.nd,λb hb=>⟨Q.lt ((N.mem b).1 hb),X b hb⟩⟩;refine ah ?_;refine RO.fx U λH5 D U=>?_;have U:aj H H5 (oE G I D B c g.al.length u true vs o ak (λ_ _=>False)++i9 []):=by rw[show i9 []=[]from rfl,akT];exact((U.gk 3 rfl).gk 3 rfl).gk 2 rfl
 refine ah ?_;refine Ru.nm λS0 M hS W=>?_;refine Ru.cC W (dn (P:=λm=>∀A O S b5 D,(if b5=true then Fj g.bp.toNat ak S+1 else 0)=m->(b5=false->JM g os ak S)->A0 g os S->aj H A (oE G I D B c g.al.length u b5 vs o ak S++i9 O)->Ru ac ⟨pu [.tmp p2] K,O,none⟩ S0 ([(p7,.az D 0)]++pk M [p1,p3,p4]) A) (λm ih A O S b5 D cp Y a6 U=>?_) _ _ [] (λ_ _=>False) true D rfl (λek=>by cases ek) (λ_ _ ek=>ek.elim) U);subst hS;subst W;refine Ru.loop ?_;refine ah ?_;refine Ru.kN (λC=>?_) (λC=>?_)
 .subst C;refine ah ?_;refine RO.gG U 0 (λH6 U=>?_);refine ah ?_;refine RO.cl (Fc T.ab4 bA b' ca cd λH7 q hl=>?_);have U:=U.fC hl;refine ah ?_;refine Ru.wk (L:=[(bZ,.func Xn [] [.az q 0]),(p1,.az G 0),(p3,.az I 0),(p4,u),(p7,.az D 0)]) ?_;have U:aj H H7 ([tB eH q [u]]++oE G I D B c g.al.length u false vs o ak S++i9 O):=U;refine Ru.pG (J:=λk ts=>∃E s,(∀b∈ak,∀v,S b v->E b v)/\(s=true->∃b∈ak,∃v,E b v/\¬S b v)/\(s=false->E=S/\∀j,j<k->∀(hj:ak.length - 1 - j<ak.length),∀v,yW g os S ak[ak.length - 1 - j] v->S ak[ak.length - 1 - j] v)/\A0 g os E/\ts=oE G I D B c g.al.length u s vs o ak E) (Dn:=λ_ _=>False) U (Fb (R:=P6) (agg:=false) (size:=1) (la:=ak) (sv:=u) (e:=eH) (nt:=19) T.acg bA af (λ_=>rfl) (λa cs ek=>by cases ek;rfl)) (λH2 hg=>P7 ((U.cI hg).sl (e:=3) (size:=1) (sv:=u) (vs:=ak.map aN) (n:=ak.length) (full:=true) 4)) ⟨S,false,λ_ _ _ ek=>ek,(λek=>by cases ek),λ_=>⟨rfl,λj hj=>absurd hj af⟩,a6,rfl⟩ (λk args ws ek=>by obtain⟨_,_,_,_,rfl⟩:=ek;rfl) (λk ts us H' hJ U=>by obtain⟨E,s,_,_,_,_,rfl⟩:=hJ;exact P7 (U.sl (e:=3) (size:=1) (sv:=u) (vs:=ak.map aN) (n:=ak.length) (full:=true) 3)) (λk args ws ts us l o1 o2 H' hk cv hJ U=>?_) (λH' cx dm hJ U=>?_) (λj H' cx dm hj hD U=>hD.elim)
  .obtain⟨rfl,a8,cs,rfl,rfl⟩:=cv;obtain⟨E,s,h1,h2,h3,h4,rfl⟩:=hJ;have a9:=agB a8;have cy:=(N.mem _).1 a9;generalize cE:ak[ak.length - 1 - k]=b at*;refine au ?_;refine Ru.dN (xs:=oE G I D B c g.al.length u s vs o ak E) U λH8 U=>?_;refine ah ?_;have U:=aj.gF (xs:=[tB 4 D [.bool s],tB wB I [.slice B 0 g.al.length g.al.length true],tB mE G [.az c 0],tS 3 1 (ak.map aN) ak.length true u]) U;refine RO.cl (afu T V hX Q cn N.mem cy U λH9 P nw hP bb U=>?_);have U:=aj.kO (xs:=[tB 4 D [.bool s],tB wB I [.slice B 0 g.al.length g.al.length true],tB mE G [.az c 0],tS 3 1 (ak.map aN) ak.length true u]) U;have ay:∀A,aj H A (oE G I D B c g.al.length u (nw||s) vs o ak (fh E b P)++tX l o2::us)->Ru ac (CE H l o2 us (λts=>∃E s,(∀b∈ak,∀v,S b v->E b v)/\(s=true->∃b∈ak,∃v,E b v/\¬S b v)/\(s=false->E=S/\∀j,j<k+1->∀(hj:ak.length - 1 - j<ak.length),∀v,yW g os S ak[ak.length - 1 - j] v->S ak[ak.length - 1 - j] v)/\A0 g os E/\ts=oE G I D B c g.al.length u s vs o ak E) (λ_ _=>False)) [] [] A:=λA U=>by
    refine Ru.bG (ts:=oE G I D B c g.al.length u (nw||s) vs o ak (fh E b P)) U ⟨_,_,λx hx v hv=>?_,λC=>?_,λC=>?_,h4.ki λv hv=>(hP v).1 hv,rfl⟩
    .simp only[fh];split;·rename_i e;subst e;exact(hP v).2 (.inl (h1 x hx v hv))
     exact h1 x hx v hv
    .cases nw with
     |true=>obtain⟨v,hv,hn⟩:=bb.1 rfl;exact⟨b,a9,v,by simp only[Fi];exact hv,λek=>hn (h1 b a9 v ek)⟩
     |false=>
      obtain⟨x,hx,v,hv,hn⟩:=h2 C;refine⟨x,hx,v,?_,hn⟩;simp only[fh];split;·rename_i e;subst e;exact(hP v).2 (.inl hv)
      exact hv
    simp only[Bool.or_eq_false_iff]at C;obtain⟨e,Y⟩:=h3 C.2;have bc:∀v,P v->E b v:=λv hv=>akx λhn=>by have:=bb.2 ⟨v,hv,hn⟩;rw[C.1]at this;cases this
    refine⟨?_,λj hj c3 v hv=>?_⟩
    .rw[<-e];funext x v;simp only[fh];split;·rename_i e2;subst e2;exact propext ⟨bc v,λek=>(hP v).2 (.inl ek)⟩
     rfl
    by_cases c5:j=k;·subst c5;rw[cE]at hv⊢;rw[<-e]at hv⊢;exact bc v ((hP v).2 (.inr hv))
    exact Y j af c3 v hv
   cases nw with|true=>refine ah ?_;refine RO.gG U 0 (λc8 U=>?_);refine ah ?_;exact Ru.wk (ay _ U)|false=>refine ah ?_;refine RO.gG U 0 (λc8 U=>?_);refine ah ?_;exact Ru.wk (ay _ U)
  obtain⟨E,s,h1,h2,h3,h4,rfl⟩:=hJ;refine ah ?_;refine RO.fx U λH8 bd U=>?_;refine ah ?_;have U:aj H H8 (oE G I bd B c g.al.length u s vs o ak E++i9 (dm::O)):=U.sub (.cons_cons _ (.cons _ (akL _)));have Z:(if s=true then Fj g.bp.toNat ak E+1 else 0)<m:=by rw[<-cp,aK rfl];cases s with|false=>simp|true=>obtain⟨b,hb,v,hv,hn⟩:=h2 rfl;have hf:=(h4 b v hv).CS V.dO Q (V.sG come os Q) V.gv N ((N.mem b).1 hb);obtain⟨t,rfl⟩:∃t:Nat,v=(t:Int):=⟨v.toNat,by have:=hf.1;omega⟩;have:=afw (nv:=g.bp.toNat) h1 hb (v:=t) (by have:=hf.2.1;omega) hv hn;rw[aK rfl];omega
  exact Ru.wk (ih _ Z H8 (dm::O) E s bd rfl (λC b hb v hv=>by obtain⟨rfl,Y⟩:=h3 C;obtain⟨i,hi,rfl⟩:=aka hb;have:=Y (ak.length - 1 - i) af af;simp only[show ak.length - 1 - (ak.length - 1 - i)=i by omega]at this;exact this v hv) h4 U)
 subst C;refine Ru.exitTo ?_;have eZ:∀b,come.getD b false=true->∀v,S b v↔Lv g os b v:=λb hb v=>⟨a6 b v,λek=>(Y rfl).all V.dO Q N.mem ek ((N.mem b).2 hb)⟩;have c9:=hX.c2;have d8:=V.gv.v0;have X:=V.fm.fv.h2;obtain⟨nv,c'⟩:∃n:Nat,g.bp=(n:Int):=⟨g.bp.toNat,af⟩;refine ah ?_;refine RO.aW ?_ (v:=d) (hc:=by rw[U.gr.bh a2];exact ba);refine ah ?_;refine RO.oT U (n:=g.al.length) (λH6 qo U=>?_) (hz:=by rw[iZ];simp);rw[iZ]at U;refine ah ?_;have U:=U.rl;refine Ru.nm λS0 M hS W=>?_;refine Ru.cC W (up (P:=λk=>∀A r R F,r.length=g.al.length->(∀b,b<k->tR 1 ((R b).map aI) (R b).length (r.getD b .co)∈F)->(∀b:Nat,b<k->(R b).length<=nv/\∀v:Int,v∈R b↔come.getD b false=true/\S b v)->(∀b,k<=b->b<g.al.length->r.getD b .co=.aS)->aj H A (tZ F::tS eH 1 r g.al.length true (.slice qo 0 g.al.length g.al.length true)::(oE G I D B c g.al.length u false vs o ak S++i9 O))->Ru ac ⟨pu [.tmp p2] K,O,none⟩ S0 ([(dR,aN k)]++pk M [p1,p3,aO,dY,dZ]) A) g.al.length (λk hk ih A r R F L hF aw a0 U=>?_) 0 af _ _ (λ_=>[]) [] aB (λb hb=>absurd hb af) (λb hb=>absurd hb af) (λb _ hb=>by rw[bF (by simpa using hb)];simp) U);subst hS;subst W;refine Ru.loop ?_;refine au ?_;refine Ru.cond (λy=>?_) (λy=>?_)
 .refine ah ?_;have dr:vs[0+k*1]?=some (vs.getD k .co):=by rw[show 0+k*1=k by omega,bF af];simp
  have a':vs.getD k .co=.map (o k)/\k∈ak\/vs.getD k .co=.cY/\k∉ak:=by
   by_cases J:k∈ak;·exact .inl ⟨b3 k J,J⟩
   exact .inr ⟨b4 k y J,J⟩
  have ds:(vs.getD k .co).bB=true:=by rcases a' with⟨e,_⟩|⟨e,_⟩<;>rw[e]<;>rfl
  refine RO.fD U 6 (hv:=dr) ?_;generalize vs.getD k .co=mv at a' ds;refine ah ?_;refine RO.aW ?_ (v:=aN nv) (hc:=by rw[U.gr.bh a2,c9,c'];rfl);refine ah ?_;have U:=U.py 3 1;have dv:r.set k .aS=r:=by have:=a0 k (afb _) y;rw[bF af]at this;rw[<-this];exact List.set_getElem_self _
  rw[<-dv]at U;refine Ru.nm λS0 M hS W=>?_;refine Ru.cC W (up (P:=λj=>∀A(p:List Int)w,p.length<=j->(∀v:Int,v∈p↔0<=v/\v<j/\come.getD k false=true/\S k v)->aj H A (tS 3 1 (p.map aI) p.length true w::tZ F::tS eH 1 (r.set k w) g.al.length true (.slice qo 0 g.al.length g.al.length true)::(oE G I D B c g.al.length u false vs o ak S++i9 O))->Ru ac ⟨pu [.tmp p2] K,O,none⟩ S0 ([(eO,aN j)]++pk M [p1,p3,aO,aR,aY,dY,dZ,dR,fg]) A) nv (λj hj bv A p w dx ag U=>?_) 0 af _ [] .aS aB (λv=>by simp;omega) U);subst hS;subst W;have⟨d',ea,eb,_⟩:=(U.sl (e:=3) (size:=1) (sv:=w) (vs:=p.map aI) (n:=p.length) (full:=true) 0).all;have a8:(r.set k w)[0+k*1]?=some w:=by rw[show 0+k*1=k by omega,List.getElem?_set_self af]
  refine Ru.loop ?_;refine au ?_;refine Ru.cond (λZ=>?_) (λZ=>?_)
  .have b0:∀A,¬(come.getD k false=true/\S k j)->aj H A (tS 3 1 (p.map aI) p.length true w::tZ F::tS eH 1 (r.set k w) g.al.length true (.slice qo 0 g.al.length g.al.length true)::(oE G I D B c g.al.length u false vs o ak S++i9 O))->_:=λA hn U=>bv (j+1) af af A p w af (λv=>by
    rw[ag];constructor;·rintro⟨a1,b6,a3⟩;exact⟨a1,af,a3⟩
    rintro⟨a1,b6,a3⟩;refine⟨a1,?_,a3⟩;rcases akW v.toNat j with ek|ek;·omega
    obtain rfl:v=(j:Int):=af;exact absurd a3 hn) U;refine ah ?_;rcases a' with⟨rfl,J⟩|⟨rfl,J⟩
   .have hat:(tS 3 1 (p.map aI) p.length true w::tZ F::tS eH 1 (r.set k w) g.al.length true (.slice qo 0 g.al.length g.al.length true)::(oE G I D B c g.al.length u false vs o ak S++i9 O))[7+(ak.idxOf k+1)]?=some (tM false (o k) (S k)):=by simp only[oE,aj2];exact rr (xs:=[_,_,_,_,_,_,_]) (Fh J)
    have dy:=(N.mem k).1 J;refine RO.CU U _ (λt ht=>?_) (hi:=hat) (z:=(j:Int));refine ah ?_;refine Ru.kN (λax=>?_) (λax=>?_)
    .have dz:=ht.1 ax;refine ah ?_;refine RO.fD U 2 (hv:=a8) ?_;refine ah ?_;refine RO.push U 0 (λw0 H7 v2 U=>?_) (ws:=[aN j]);have⟨ec,ei,ej,_⟩:=(U.sl (e:=3) (size:=1) (n:=p.length+1) (full:=true) (sv:=v2) 0).all;refine ah ?_;refine RO.yK (vs:=r.set k w) (n:=g.al.length) U 2 (by rw[ak4];exact L) (λH8 U=>?_) (k:=k) (ho:=by rw[ak4];omega);refine ah ?_;have e1:(p++[(j:Int)]).map aI=p.map aI++[aN j]:=aB;have e2:(p++[(j:Int)]).length=p.length+1:=aB;have U:aj H H8 (tS 3 1 ((p++[(j:Int)]).map aI) (p++[(j:Int)]).length true v2::tZ F::tS eH 1 (r.set k v2) g.al.length true (.slice qo 0 g.al.length g.al.length true)::(oE G I D B c g.al.length u false vs o ak S++i9 O)):=by rw[e1,e2,<-List.set_set (a:=w)];exact U
     exact Ru.wk (bv (j+1) af af H8 _ v2 (by rw[e2];omega) (λv=>by
      rw[ahp,aep,ag];constructor
      .rintro(⟨a1,b6,a3⟩|rfl);·exact⟨a1,af,a3⟩
       exact⟨af,af,dy,dz⟩
      rintro⟨a1,b6,a3⟩;by_cases e:v=(j:Int);·exact .inr e
      exact .inl ⟨a1,af,a3⟩) U)
    refine ah ?_;exact Ru.wk (b0 _ (λek=>by rw[ht.2 ek.2]at ax;cases ax) U)
   refine RO.afv (z:=(j:Int)) ?_;refine ah ?_;exact Ru.wk (b0 _ (λek=>J ((N.mem k).2 ek.1)) U)
  refine Ru.exitTo ?_;obtain rfl:j=nv:=af;refine ah ?_;have U:=(U.as 0 rfl λfp hp=>tS.mg hp).lq;exact Ru.wk (ih (k+1) af af A (r.set k w) (λb=>if b=k then p else R b) _ (by simpa using L) (λb hb=>by
   rw[fu af];by_cases e:b=k;·rw[aK e,aK e];exact aeU ..
   rw[aq e,aq e];exact aey _ (hF b af)) (λb hb=>by
   by_cases e:b=k;·subst e;rw[aK rfl];refine⟨dx,λv=>?_⟩;rw[ag];refine⟨λek=>ek.2.2,λek=>?_⟩;have hf:=((a6 b v ek.2).CS V.dO Q (V.sG come os Q) V.gv N ek.1);exact⟨hf.1,by have:=hf.2.1;omega,ek⟩
   rw[aq e];exact aw b af) (λb hb z=>by rw[fu af,aq af];exact a0 b af z) U)
 refine Ru.exitTo ?_;obtain rfl:k=g.al.length:=af;refine ah ?_;refine Ru.mI (M:=O) (U.cM (akH (l₁:=_::_::oE G I D B c g.al.length u false vs o ak S))) λH' U=>⟨[.slice qo 0 g.al.length g.al.length true],⟨rfl,rfl,trivial⟩,ek H' _ ((ake g.al.length).map R) r F ?_ ?_ ?_⟩
 .have e:∀b,b<g.al.length->((ake g.al.length).map R).getD b []=R b:=λb hb=>by rw[bF (by simpa using hb)];simp
  refine⟨aB,λb hb v=>?_,λb hb=>?_,λb=>?_⟩;·have z:=Q.lt hb;rw[e b z,(aw b z).2,eZ b hb];exact⟨λek=>ek.2,λek=>⟨hb,ek⟩⟩
  .by_cases z:b<g.al.length;·rw[e b z];refine List.eq_nil_iff_forall_not_mem.2 λv hv=>?_;have:=((aw b z).2 v).1 hv;rw[hb]at this;cases this.1
   rw[akm,List.getElem?_eq_none (by simpa using z)];rfl
  by_cases z:b<g.al.length;·rw[e b z];have:=(aw b z).1;omega
  rw[akm,List.getElem?_eq_none (by simpa using z)];exact Nat.zero_le _
 .refine⟨by simpa using L,λb hb=>?_⟩;simp only[akg,List.length_range]at hb;rw[bF (by simpa using hb)];simp only[akN,alA];exact hF b hb
 rw[L];exact U.sub (.cons_cons _ (.cons_cons _ (List.nil_sublist _)))
end
end
section
section
variable{g:G.bu}{H:ai}
theorem afy(T:Tb ac)(V:Vd g){cs:List AV}(hg:iG H g cs){K:KT}(r:∀o v b os j a F,cX g b os->gP g b os j->lQ j a F->aj H o [tZ F,tS eH 1 a a.length true v]->K (.tuple [v,aI 0]) o):YN ac WH [.agg cs] H K:=by have p:=hg.one;obtain⟨h,rfl,cA⟩:=hg;refine YF.code T.abs aB ?_;refine au ?_;refine RO.dL (aj.dc H) λH1 q U=>?_;refine ah ?_;refine RO.eQ U 0 ?_;refine RO.cl (afe T V (cs:=[.str g.name,aI g.params,aI g.bp,h]) ⟨h,rfl,dQ.block.jU U.gr cA⟩ rfl λu w d x b os c k s i=>afx T V s i λt v j a F l m hl=>?_);have⟨n,_,_,_⟩:=(hl.sl (e:=eH) (size:=1) (sv:=v) (vs:=a) (n:=a.length) (full:=true) 1).all;refine⟨n,?_⟩;refine ah ?_;exact Ru.tk (r t v b os j a F i l m (hl.Nz (U.gr.trans k)))
end
def jn:List bV->List AV
 |[]=>[]
 |o::l=>aI o.1:: .bool (o.2==0)::jn l
theorem P8:∀{l:List bV}{k:Nat}(h:k<l.length),((jn l).drop (k*2)).take 2=[aI l[k].1,.bool (l[k].2==0)]|o::l,0,_=>rfl|o::l,k+1,h=>by have:=P8 (l:=l) (k:=k) (by simpa using h);grind[jn]
theorem JO:∀(a b:List bV),jn (a++b)=jn a++jn b|[],b=>rfl|o::a,b=>by simp only[akV,jn,JO a b]
theorem P9:∀(l:List bV)(b:Nat),(jn l).take (b*2)=jn (l.take b)|[],b=>by simp[jn]|o::l,0=>by rfl|o::l,b+1=>by rw[show(b+1)*2=b*2+2 by omega];simp only[jn,als,P9 l b]
abbrev pJ(H:ai)(l:List bV)(v:AV):Prop:=Sl H 2 (jn l) l.length v
abbrev Qa:bV->List AV->Prop:=λo cs=>cs=[aI o.1,.bool (o.2==0)]
theorem pJ.r{H:ai}{l:List bV}{v:AV}(h:pJ H l v):dV 2 (λ_=>Qa) H l v:=⟨_,h,λk a=>P8 a⟩
structure yX(H:ai)(fq:ab)(vb ov:AV)(svs:List AV)(n:Nat):Prop where
 lt:fq.an<H.next.an
 aH:bh H fq 3=some vb
 jY:bh H fq 5=some ov
 sl:Sl H 1 svs n ov
theorem yX.cI{H a:ai}{f:ab}{d e:AV}{c:List AV}{n:Nat}(h:yX H f d e c n)(g:bm H a):yX a f d e c n:=⟨ako h.lt g.nx,by rw[g.bh h.lt];exact h.aH,by rw[g.bh h.lt];exact h.jY,g.sl h.sl⟩
section
variable{g:G.bu}{d e:AV}{f:ab}{A H:ai}{us:List Th}{c:List AV}{now:List bV}
theorem afz(T:Tb ac)(a:yX H f d e c g.al.length){b:Nat}(hb:b<g.al.length)(hs:pJ H now (c.getD b .co))(h0:now≠ [])(n:now.length<=1000){K:KT}(k:∀i o,now.getLast?=some o->bm H i->K (.agg [aI o.1,.bool (o.2==0)]) i):YN ac Xe [.az f 0,aN b] H K:=by
 have⟨p,_,_,q⟩:=hs.all;have h:=a.jY;have j:0<now.length:=by cases now with|nil=>exact absurd rfl h0|cons _ _=>simp
 refine YF.code T.ab6 aB ?_;refine au ?_;refine RO.gI (aj.dc H) λH1 x U=>?_;refine ah ?_;refine RO.aW ?_ (v:=e) (hc:=by rw[U.gr.bh a.lt];exact h);refine ah ?_;refine RO.vu U.gr a.sl (λy z s _=>?_) (j:=b);refine ah ?_;refine RO.aW ?_ (v:=e) (hc:=by rw[U.gr.bh a.lt];exact h);refine ah ?_;refine RO.vu U.gr a.sl (λA B t _=>?_) (j:=b);refine ah ?_;refine RO.arith (v:=aN (now.length - 1)) ?_ (hv:=px af af);refine RO.cZ U.gr (pJ.r hs) (λu v w hj l _ _ hrd=>?_) (j:=now.length - 1);subst l;refine ah ?_;refine RO.iT U 0 (λm U=>?_);refine ah ?_;refine Ru.lM (vs:=[.agg [aI (now[now.length - 1]).1,.bool ((now[now.length - 1]).2==0)]]) ⟨⟨_,_,rfl,U.agg 0⟩,trivial⟩ (k m _ ?_ U.gr);rw[List.getLast?_eq_getElem?,akP hj]
theorem afA(T:Tb ac)(E:G.Sm g)(hb:dV 7 kj A g.al d)(r:bm A H)(j:yX H f d e c g.al.length){b:Nat}(k:b<g.al.length)(hs:pJ H now (c.getD b .co))(w:CO g now)(h0:now≠ [])(l:now.length<=1000){K:KT}(h:∀s o,now.getLast?=some o->bm H s->K (aI (na g o)) s):YN ac WX [.az f 0,aN b] H K:=by have⟨z,_,_,_⟩:=hb.all;have m:=j.aH;refine YF.code T.abN aB ?_;refine ah ?_;refine RO.EN (afz T j k hs h0 l λH1 o u a=>⟨by rw[a.bh j.lt];exact m,?_⟩) (hvs:=hb.bX);obtain⟨h1,h2,h3⟩:=w.ok o (List.mem_of_getLast? u);obtain⟨t,v⟩:∃t:Nat,o.1=(t:Int):=⟨o.1.toNat,af⟩;have h:=h H1 o u a;simp only[na,v,aj3]at h3 h;have n:t<g.al.length:=af;rw[bF n]at h3 h;rw[v];refine ah ?_;refine RO.cZ (r.trans a) hb (λx o2 c2 B p _ hat _=>?_) (j:=t);obtain⟨F,I,J,rfl,_,_,L,M,y,rfl,_,_,i⟩:=p;have⟨C,_,_,_⟩:=i.all;refine ah ?_;refine RO.aW (i:=x) (o:=o2+2+4) (v:=y) ?_ (hc:=hat 6 _ rfl);refine RO.cZ (r.trans a) i (λN o3 O D q _ hat _=>?_) (hj:=by omega);obtain⟨P,rfl,_⟩:=q;refine ah ?_;refine Ru.aV ?_;rw[bF af]at h;exact h
end
end
section
theorem Qb(T:Tb ac){B H:ai}{size n:Nat}{d:List AV}{v:AV}(hs:Sl B size d n v):YN ac WW [v] H λe f=>e=wR v n/\f=H:=by
 have⟨hd,_,_,h⟩:=hs.all;refine YF.code T.abM aB ?_;refine au ?_;rcases hs with⟨rfl,rfl,rfl⟩|⟨i,o,cap,ex,j,m,k,g,aM,fz,rfl,hg,l,hl,p,hi,b⟩;·refine RO.Cb (m:=0) (b:=0) (a:=0) rfl rfl rfl rfl ?_;refine au ?_;exact Ru.aV ⟨rfl,rfl⟩
 refine RO.HW (m:=n) (b:=n) (a:=0) (v:=.slice i o n n true) rfl (by show oJ (aN n) cap=_;exact tu b) (by show oJ (aN n) n=_;exact tu (afb n)) rfl aB aB ?_;refine au ?_;exact Ru.aV ⟨rfl,rfl⟩
def afB(W:List (Int×List bV))(b:List bV)(nv:AV)(k:Nat)(args:List AV)(d:List Th):Prop:=
 ∃(h:k<W.length)(v:AV),args=[aI W[k].1,v]/\v.bB=true/\v.ee=true/\v.cells=[v]/\((d=[]/\∀H,pJ H b nv->pJ H W[k].2 v)\/d=[tS NE 2 (jn W[k].2) W[k].2.length true v])
section
variable{g:G.bu}{c:AV}{a:ab}{A H:ai}{us:List Th}
theorem Qc(T:Tb ac){b:Nat}{K:KT}(g:∀f d e,aj H f [tB 3 e [aN b],tB iH d [.az a 0]]->K (.func Ex [] [.az d 0,.az e 0]) f):YN ac WI [.az a 0,aN b] H K:=by refine YF.code T.abt aB ?_;refine au ?_;refine RO.dL (aj.dc H) λH1 d U=>?_;refine RO.dL U λh e U=>?_;refine au ?_;exact Ru.aV (g _ d e U)
theorem Qd(T:Tb ac)(hB:G.Sm g)(hb:dV 7 kj A g.al c){b:Nat}{now:List bV}{nv:AV}{q1 N:ab}(hE:Jj g b)(hO:CO g now)(ba:now.length<=1000)(aw:(g.al.getD b default).aA.op=68->now≠ []):yI ac A (.func Ex [] [.az q1 0,.az N 0]) (cS g b now).length (afB (cS g b now) now nv) [tB 3 N [aN b],tB iH q1 [.az a 0]] (λH=>∃ov R,yX H a c ov R g.al.length/\R.getD b .co=nv/\pJ H now nv) (λH=>pJ H now nv):=by
 intro y J D t us H K c3 c5 c9 B i s U hR l;obtain⟨ov,R,O,ax,hs⟩:=hR;have hA:=U.gr;have⟨bb,_,_,c'⟩:=O.sl.all;have⟨ay,bc,bd,dm⟩:=hs.all;have⟨dr,ds,_,dv⟩:=hb.all;have dx:=O.aH;have bv:=O.jY;have b0:bh H q1 0=some (.az a 0):=by obtain⟨_,m⟩:=U.get 1 rfl;exact tB.cell m rfl
 have b3:bh H N 0=some (aN b):=by obtain⟨_,m⟩:=U.get 0 rfl;exact tB.cell m rfl
 have b4:q1.an<H.next.an:=by obtain⟨_,m⟩:=U.get 1 rfl;obtain⟨_,_,_,_,_,h⟩:=m;exact h
 have b5:N.an<H.next.an:=by obtain⟨_,m⟩:=U.get 0 rfl;obtain⟨_,_,_,_,_,h⟩:=m;exact h
 obtain⟨q,I⟩:=hE;rw[bF q]at I aw;refine YF.code T.abL aB ?_;refine ah ?_;refine RO.cZ hA hb (λq3 o3 d5 dy a0 _ hat hrd=>?_) (j:=b);have cy:=a0.one;obtain⟨vp,vs,jc,rfl,_,_,hj⟩:=a0;have dz:=hj.one;obtain⟨va,vk,vg,rfl,d0,d1,n⟩:=hj;have⟨C,_,_,d2⟩:=n.all;refine ah ?_;refine RO.gw ?_ (hc:=I' (k:=2) (m:=5) hrd bA);refine ah ?_;refine RO.vu (bm.refl H) O.sl (λq4 o4 a1 b6=>?_) (j:=b);rw[ax]at a1;refine ah ?_;refine RO.gI (aj.dc H) λH1 q5 hl=>?_;refine RO.Ja hl 0 (λH2 hl=>⟨λaa d=>?_,?_⟩);·have hg:=hl.gr;refine il d rfl rfl ay hs.bX (by rw[hg.bh b6];exact a1) (il (v:=aN b) d rfl rfl rfl (by simp[iy,gz,fQ]) (by rw[hg.bh b5];exact b3) (il d rfl rfl bb O.sl.bX (by rw[hg.bh O.lt];exact bv) (il (v:=.az a 0) d rfl rfl rfl (by simp[iy,gz,ab.ip]) (by rw[hg.bh b4];exact b0) rfl)))
 have a2:=hl.gr;have U:=U.fC hl;refine ah ?_;have E:(g.al.getD b default).aA=(g.al[b]).aA:=by rw[bF q]
 refine Ru.cond (λ(r:(g.al[b]).aA.op=67)=>?_) (λ(r:¬(g.al[b]).aA.op=67)=>?_)
 .have h3:=I r;have a3:∀k(h:k<2),∃h':k<(cS g b now).length,(cS g b now)[k]=(((g.al[b]).aA.go[k]'af).block,now++[((b:Int),k)]):=λk h=>by
   have u:cS g b now=[(((g.al[b]).aA.go[0]'af).block,now++[((b:Int),0)]),(((g.al[b]).aA.go[1]'af).block,now++[((b:Int),1)])]:=by simp only[cS,E,aK r];rw[bF af,bF af]
   refine⟨by rw[u];simpa using h,?_⟩;simp only[u];match k,h with|0,_=>rfl|1,_=>rfl
  have b':(cS g b now).length=2:=by simp only[cS,E,aK r];rfl
  obtain⟨a4,a5⟩:=a3 0 af;obtain⟨a6,a8⟩:=a3 1 af;have ca:=B 0 t _ H2 s (aj.gF (xs:=[_,_,_]) U);refine ah ?_;refine RO.Jd U.gr n (λq8 o8 c8 cd he _ f=>?_) (j:=0) (hj:=by omega);obtain⟨v8,rfl,_⟩:=he;refine ah ?_;refine RO.aW ?_ (hc:=f 0 _ rfl U.gr);refine ah ?_;refine RO.lf U 2 (ws:=[aN b,.bool true]) (λH4 q9 U=>?_);refine RO.Jb (v:=wR nv now.length) (λH0 _ _=>Qb T hs) (λP p V=>?_);have U:=U.bX V p;have W:=B 0 t _ P s (aj.gF (xs:=[_,_,_,_]) U);have w:bh P N 0=some (aN b):=by obtain⟨_,m⟩:=U.get 2 rfl;exact tB.cell m rfl
  have x:bh P q5 4=some vg:=by obtain⟨_,m⟩:=U.get 1 rfl;exact tB.cell m rfl
  refine⟨λaa d=>il (v:=aN b) d rfl rfl rfl (by simp[iy,gz,fQ]) w (il (v:=aI ((g.al[b]).aA.go[0]'af).block) d rfl rfl rfl (by simp[iy,gz,fQ]) (f 0 _ rfl U.gr) (il d rfl rfl C (n.bX) x rfl)),?_⟩;refine RO.Jc U (Jk W) (U.sl 0) (λH5 Q _ U=>?_);have z:bh H5 q5 4=some vg:=by obtain⟨_,m⟩:=U.get 2 rfl;exact tB.cell m rfl
  refine⟨λaa d=>il (v:=aI ((g.al[b]).aA.go[0]'af).block) d rfl rfl rfl (by simp[iy,gz,fQ]) (f 0 _ rfl U.gr) (il d rfl rfl C (n.bX) z rfl),?_⟩;have X:Sl H5 2 (jn now++[aN b,.bool true]) (now.length+1) Q:=U.sl 0;have⟨Y,Z,ag,_⟩:=X.all;have e5:jn (now++[((b:Int),0)])=jn now++[aN b,.bool true]:=JO _ _;have e6:(now++[((b:Int),0)]).length=now.length+1:=aB;rw[<-e5,<-e6]at U;refine ah ?_;refine RO.cl ((i 0 [aI ((g.al[b]).aA.go[0]'af).block,Q] [_] t _ _ a4 ⟨a4,Q,by rw[a5],Y,Z,ag,.inr (by rw[a5])⟩ s (U.cM (akO _ (vt (xs:=[_,_,_,_]))))).mono ?_);rintro v H3⟨j,U,hc⟩;rcases hc with⟨rfl,s⟩|⟨rfl,h⟩
  .have U:=aj.kO (xs:=[_,_,_,_]) U;have ca:=B 1 j _ _ s (aj.gF (xs:=[_,_,_,_]) U);refine ah ?_;refine RO.Jd U.gr n (λq8 o8 c8 cd he _ f=>?_) (j:=1) (hj:=by omega);obtain⟨v8,rfl,_⟩:=he;refine ah ?_;refine RO.aW ?_ (hc:=f 0 _ rfl U.gr);refine ah ?_;refine RO.lf U 2 (ws:=[aN b,.bool false]) (λH4 q9 U=>?_);refine RO.Jb (v:=wR nv now.length) (λH0 _ _=>Qb T hs) (λP p V=>?_);have U:=U.bX V p;have W:=B 1 j _ P s (aj.gF (xs:=[_,_,_,_,_]) U);have w:bh P N 0=some (aN b):=by obtain⟨_,m⟩:=U.get 3 rfl;exact tB.cell m rfl
   have x:bh P q5 4=some vg:=by obtain⟨_,m⟩:=U.get 2 rfl;exact tB.cell m rfl
   refine⟨λaa d=>il (v:=aN b) d rfl rfl rfl (by simp[iy,gz,fQ]) w (il (v:=aI ((g.al[b]).aA.go[1]'af).block) d rfl rfl rfl (by simp[iy,gz,fQ]) (f 0 _ rfl U.gr) (il d rfl rfl C (n.bX) x rfl)),?_⟩;refine RO.Jc U (Jk W) (U.sl 0) (λH5 Q _ U=>?_);have z:bh H5 q5 4=some vg:=by obtain⟨_,m⟩:=U.get 3 rfl;exact tB.cell m rfl
   refine⟨λaa d=>il (v:=aI ((g.al[b]).aA.go[1]'af).block) d rfl rfl rfl (by simp[iy,gz,fQ]) (f 0 _ rfl U.gr) (il d rfl rfl C (n.bX) z rfl),?_⟩;have X:Sl H5 2 (jn now++[aN b,.bool false]) (now.length+1) Q:=U.sl 0;have⟨Y,Z,ag,_⟩:=X.all;have e5:jn (now++[((b:Int),1)])=jn now++[aN b,.bool false]:=JO _ _;have e6:(now++[((b:Int),1)]).length=now.length+1:=aB;rw[<-e5,<-e6]at U;refine ah ?_;refine RO.cl ((i 1 [aI ((g.al[b]).aA.go[1]'af).block,Q] [_] j _ _ a6 ⟨a6,Q,by rw[a8],Y,Z,ag,.inr (by rw[a8])⟩ s (U.cM (akO _ (vt (xs:=[_,_,_,_,_]))))).mono ?_);rintro v H3⟨j,U,hc⟩;refine ah ?_;refine Ru.aA (vs:=[]) trivial (l _ j _ (by rw[<-aj2]at U;exact U.skip) ?_);rcases hc with⟨_,h⟩|⟨_,h⟩;·left;rw[b'];exact h
   exact .inr h
  refine ah ?_;exact Ru.aA (vs:=[]) trivial (l _ j _ (by rw[<-aj2]at U;exact U.skip) (.inr h))
 refine ah ?_;refine Ru.cond (λ(F:(g.al[b]).aA.op=68)=>?_) (λ(F:¬(g.al[b]).aA.op=68)=>?_)
 .have h0:=aw F;have cE:0<now.length:=by cases now with|nil=>exact absurd rfl h0|cons _ _=>simp
  have u:cS g b now=match now.getLast? with|some o=>[(na g o,now.take (now.length - 1))]|none=>[]:=by simp only[cS,E,aq r,aK F]<;>rfl
  refine ah ?_;refine RO.arith (v:=aN (now.length - 1)) ?_ (hv:=px af af);refine ah ?_;refine RO.pc hs (b:=now.length - 1) ?_;have L:∀H',pJ H' now nv->pJ H' (now.take (now.length - 1)) (pc nv (now.length - 1)):=λH' h=>by
   have e:(now.take (now.length - 1)).length=now.length - 1:=by rw[akF];omega
   show Sl H' 2 (jn _) _ _;rw[e,<-P9];exact CF h af
  have⟨cf,cn,cp,_⟩:=(L _ hs).all;refine RO.cl (afA T hB hb U.gr (O.cI a2) q (by rw[ax];exact a2.sl hs) hO h0 ba λH3 o av cv=>?_);have U:=U.cI cv;rw[av]at u;simp only at u;rw[u]at i l;refine RO.cl ((i 0 [aI (na g o),pc nv (now.length - 1)] [] t _ _ aB ⟨aB,_,rfl,cf,cn,cp,.inl ⟨rfl,L⟩⟩ s (aj.gF (xs:=[_,_,_]) U)).mono ?_);rintro v H3⟨j,U,hc⟩;refine ah ?_;refine Ru.aA (vs:=[]) trivial (l _ j _ (by rw[<-aj2]at U;exact U.skip) ?_);rcases hc with⟨_,h⟩|⟨_,h⟩;·exact .inl h
  exact .inr h
 have u:cS g b now=(g.al[b]).aA.go.map λe=>(e.block,now):=by simp only[cS,E,aq r,aq F]
 have d3:=hB.bl _ (agB q);refine ah ?_;refine Ru.nm λS M hS hM=>?_;refine Ru.cC hM (up (P:=λk=>∀HX t,J k t->aj A HX (tB tx q5 _::([tB 3 N [aN b],tB iH q1 [.az a 0]]++t++us))->Ru ac _ S ([(b7,aN k)]++pk M [p0,p5,ct,cz]) HX) (g.al[b]).aA.go.length (λk hk ih HX t s U=>?_) 0 af _ t s U);subst hS;subst hM;refine Ru.loop ?_;refine au ?_;refine Ru.cond (λa9=>?_) (λa9=>?_)
 .refine au ?_;refine RO.cZ U.gr n λq6 o6 c6 d4 he _ hat hrd=>?_;have cx:=he.one;obtain⟨v6,rfl,_⟩:=he;refine ah ?_;refine RO.fx U λH5 q7 U=>?_;refine ah ?_;have a':k<(cS g b now).length:=by rw[u,akg];exact a9
  refine RO.cl ((i k [aI ((g.al[b]).aA.go[k]).block,nv] [] t _ _ a' ⟨a',nv,by simp only[u,akN],ay,bc,bd,.inl ⟨rfl,λH' h=>by simp only[u,akN];exact h⟩⟩ s (aj.gF (xs:=[_,_,_,_]) U)).mono ?_);rintro v H3⟨j,U,hc⟩;rcases hc with⟨rfl,h⟩|⟨rfl,h⟩;·refine ah ?_;exact Ru.wk (ih (k+1) af af _ _ h (aj.kO (xs:=[_,_,_,_]) U).tail)
  refine ah ?_;exact Ru.mD (vs:=[]) trivial (l _ j _ (by rw[<-aj2]at U;exact U.skip) (.inr h))
 refine Ru.exitTo ?_;refine ah ?_;refine Ru.aA (vs:=[]) trivial (l _ t _ U.tail.tail.tail (.inl ?_));rw[u,akg,show(g.al[b]).aA.go.length=k by omega];exact s
end
end
end
end Go.am.R
end
