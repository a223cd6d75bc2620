/- A part. No conditions. -/
import Derived.Test.YtpplokbfajnjhaaGreatDoorA29
set_option linter.all false
set_option maxHeartbeats 16000000
open List renaming replicate->acJ,range->ah7
open Int renaming ofNat->aiC
open List.Perm renaming swap->aiK,cons->aiP
open List.Pairwise renaming nil->ajO
open Eq renaming mpr->ajP
open Prod renaming fst->ajR
noncomputable section
namespace Go.al.R
section
variable{ab:Nat->aV}
section
def NU(g:G.aP)(os:List (List bt))(d:List (List Int))(b:Nat)(x:Int):Prop:=
 x∈jE g d (os.getD b [])\/x∈(aE g b).aq.args\/(∃e∈(aE g b).aq.go,x∈e.args)\/∃w∈wW g os b,x∈d.getD w []
def Ak(kl:List Int)(after:Int->Prop)(aA:List G.ee):Nat->Int->Prop
 |0=>after
 |k+1=>λx=>x∈kl\/x∈(aA.getD (aA.length - 1 - k) default).args\/Ak kl after aA k x/\x≠(aA.getD (aA.length - 1 - k) default).to
abbrev dh(g:G.aP)(os:List (List bt))(d:List (List Int))(b:Nat):Nat->Int->Prop:=Ak (jE g d (os.getD b [])) (NU g os d b) (aE g b).aA
def xZ(a:Nat->ah)(v:AV)(n:Nat)(P:Nat->Int->Prop):List Th:=tS eL 1 ((ah7 n).map λi=>.map (a i)) n true v::(ah7 n).map λi=>tM true (a i) (P i)
theorem aeu{a:Nat->ah}{v:AV}{n k:Nat}{P:Nat->Int->Prop}(b:k<n):(xZ a v n P)[k+1]?=some (tM true (a k) (P k)):=by simp[b,xZ,ai5,aiw,List.getElem?_range,aip]
section
variable{g:G.aP}{r u av s:AV}{h:ah}{A H:ai}{p:List AV}{come:List Bool}{os:List (List bt)}{ap:List Nat}{d:List (List Int)}
theorem CJ{B:G.dK}{i:Nat}(b:i<B.aA.length){x:Int}(a:x∈B.aA[i].args):(x,(i:Int))∈fD B:=by have⟨_,c,e⟩:=F6 B b;rw[e];exact aid _ (ah1 _ (aio a))
theorem Al{B:G.dK}{x:Int}(a:x∈B.aq.args):(x,(B.aA.length:Int))∈fD B:=aid _ (ah1 _ (aio a))
theorem Am{B:G.dK}{e:G.Edge}(he:e∈B.aq.go){x:Int}(a:x∈e.args):(x,(B.aA.length:Int))∈fD B:=by obtain⟨i,hi,rfl⟩:=ah0 he;have⟨_,c,e2⟩:=F7 B hi;rw[e2];exact aid _ (ah1 _ (aio a))
theorem aev(a:ny g come os){b:Nat}(hb:come.getD b false=true){x bu:Int}(e:(x,bu)∈fD (aE g b)):0<=x:=by have⟨t,c,_⟩:=a.rd b hb _ e;omega
theorem GN(V:Vd g)(c:b9 g come os)(e:eT g come os ap)(a:fN g come os d){b:Nat}(hb:come.getD b false=true){x:Int}(f:x∈d.getD b []):0<=x:=(((a.mem b hb x).1 f).zY V.cK c (V.oG come os c) V.gv e hb).1
theorem aew(V:Vd g)(c:b9 g come os)(e:eT g come os ap)(a:fN g come os d){b:Nat}(hb:come.getD b false=true){x:Int}(j:x∈jE g d (os.getD b [])):0<=x:=by
 unfold jE at j;split at j;·rename_i t f;have⟨_,_,_,_,i,_⟩:=qG V.cK c hb f;exact GN V c e a i j
 grind
theorem aex(a:fN g come os d)(o:List bt):(jE g d o).length<=6000:=by
 unfold jE;split;·exact a.iD _
 simp
def tP(b e f:ah)(v0:AV)(a:Nat->ah)(c:AV)(k:Nat)(P:Nat->Int->Prop):List Th:=[tB nY b [c],tB eL e [.map (a k)],tB cB f [v0]]++xZ a c (k+1) P
def vG(h b c e f:ah)(g:List AV)(v0:AV)(a:ah)(S:Int->Prop):List Th:=[tB eL b [.map a],tM true a S,tB cB c [v0],tB cH e g,tB jQ f [.aD h 0]]
theorem aey(T:Tb ab)(V:Vd g)(J:FX g H h r u av s p come os ap d)(R:b9 g come os)(hO:eT g come os ap)(G:fN g come os d){b:Nat}(hb:come.getD b false=true){K:KT}(h6:∀H' v c,ak H H' (xZ c v ((aE g b).aA.length+1) λi=>dh g os d b ((aE g b).aA.length - i))->K v H'):YN ab W2 [.aD h 0,aN b] H K:=by
 have hB:=V.sm;have g6:=hB.nb;have ca:=R.lt hb;have cd:=J.ro.lt;have ei:=J.ro.aE;have g7:=J.ro.jm;have ej:=J.c6;have⟨g8,_,_,_⟩:=J.ro.sl.all;have⟨g9,_,_,_⟩:=J.bl.all;have⟨ek,_,_,_⟩:=J.sl.all;have a6:=kY ca;have g':=hB.bl _ a6;have de:=hB.st _ a6;have el:=hB.ed _ a6;have et:g.aj[b]=aE g b:=(bf ca _).symm;have cf:=V.oG come os R;have D:∀{x bu:Int},(x,bu)∈fD (aE g b)->0<=x:=λh6=>aev cf hb h6;have P:∀{x:Int},x∈jE g d (os.getD b [])->0<=x:=λh6=>aew V R hO G hb h6;have ha:=aex G (os.getD b []);refine YF.code T.Zf aC (au ?_);refine RO.ct (ak.bN H) λH1 W U=>?_;refine af ?_;refine RO.be ?_ (v:=r) (hc:=by rw[U.gr.aY cd];exact ei);refine af ?_;refine RO.bO U.gr J.bl (λq9 o9 h4 hc a8 hf hat hrd=>?_) (j:=b);rw[et]at a8;have gn:=a8.one;obtain⟨Z,A,jc,rfl,hh,hvs,X,vk,vg,rfl,a',_,cn⟩:=a8;have⟨ew,e0,e3,gq⟩:=hvs.all;have⟨e4,hm,hn,hr⟩:=a'.all;have⟨hw,_,_,hx⟩:=cn.all;refine af ?_;refine RO.dS U λH2 N U=>af ?_;refine RO.cl (aeo T V U.gr J R G hb λH3 v0 ag e5=>?_);have U:=U.bR e5;have⟨hy,hz,hA,_⟩:=ag.all;refine af ?_;refine RO.dS (us:=[v0]) U λH4 C U=>af ?_;refine RO.M9 U λH5 qm U=>?_;have e6:aY H5 C 0=some v0:=by obtain⟨_,hp⟩:=U.get 1 rfl;exact tB.cell hp rfl
 have e7:C≠qm:=U.ne 1 0 rfl rfl aa (λf h6=>h6.1) (λf h6=>h6.1);have e8:N≠qm:=U.ne 2 0 rfl rfl aa (λf h6=>h6.1) (λf h6=>h6.1);refine RO.qB (is:=[qm]) e6 (by simpa using e7) λH6 e9 e'=>?_;have U:=U.bK e' e9;refine af ?_;have fa:aY H6 N 3=some X:=by obtain⟨_,hp⟩:=U.get 2 rfl;exact tB.cell hp rfl
 refine RO.qB (is:=[qm]) fa (by simpa using e8) λH7 fb fd=>?_;have U:=U.bK fd fb;refine RO.dN U λH8 y U=>?_;have cp:=U.px (e:=eL) (q:=y) (vs:=[.cL]) 0;have a1:∀j∈ [y],j.am<H8.next.am:=λj hj=>by rw[abP]at hj;subst hj;exact cp.2
 have cv:∀(HY Y:ai),aS H HY->Y.next=HY.next->(∀j,j∉ [y]->Y.get j=HY.get j)->aS H Y:=λHY Y cx h1 h2=>⟨by rw[h1];exact cx.nx,λj hj=>by rw[h2 j ?_,cx.cM j hj];simp only[abP];exact λe=>by rw[e]at hj;have:=cp.1;omega⟩;have aw:∀(HY Y:ai)(q:ah),q≠y->(∀j,j∉ [y]->Y.get j=HY.get j)->Y.get q=HY.get q:=λHY Y q hq h2=>h2 q (by simpa using hq);have cy:qm≠y:=U.ne 1 0 rfl rfl aa (λf h6=>h6.1) (λf h6=>h6.1);refine RO.uZ (is:=[y]) (Q:=λv ns=>∃F S',v=.map F/\(∀x,S' x↔x∈jE g d (os.getD b []))/\ns=[tM true F S']) U a1 (λY ba hs=>?_) (λrv ns HU hQ fe U=>?_);·obtain⟨⟨ks,bb,bc⟩,bv,_⟩:=U.lE 1 rfl;refine GL T (ks:=ks) (by rw[aw _ _ _ cy hs];exact bb) (by rw[aw _ _ _ cy hs];exact bv rfl) ((cv _ _ U.gr ba hs).sl ag) aa λH9 F S' I hl=>⟨_,hl,F,S',rfl,λx=>?_,rfl⟩;rw[I,bc];simp
 obtain⟨qa,Sa,rfl,fk,rfl⟩:=hQ;refine⟨λac cE=>eo cE rfl rfl e4 (a'.bK) (by obtain⟨_,hp⟩:=U.get 4 rfl;exact tB.cell hp rfl) rfl,?_⟩;have cR:qa≠y:=U.ne 0 1 rfl rfl aa (λf h6=>h6.1) (λf h6=>h6.1);refine RO.uZ (is:=[y]) (Q:=λv ns=>∃F S',v=.map F/\(∀x,S' x↔x∈jE g d (os.getD b [])\/x∈(aE g b).aq.args)/\ns=[tM true F S']) U (λj hj=>aim (a1 j hj) fe.nx) (λY ba hs=>?_) (λrv ns hC hQ gx U=>?_)
 .obtain⟨⟨ks,bb,bc⟩,bv,_⟩:=U.lE 0 rfl;refine GL T (ks:=ks) (by rw[aw _ _ _ cR hs];exact bb) (by rw[aw _ _ _ cR hs];exact bv rfl) ((cv _ _ U.gr ba hs).sl a') aa λH9 F S' I hl=>⟨_,hl,F,S',rfl,λx=>?_,rfl⟩;rw[I,bc,fk];constructor
  .rintro(h6|h6);·exact .inr h6
   exact .inl h6.1
  rintro(h6|h6);·exact .inr ⟨h6,by have:=P h6;omega⟩
  exact .inl h6
 obtain⟨qb,Sb,rfl,fl,rfl⟩:=hQ;refine⟨λac cE=>rfl,(RO.dJ U 2 (λH9 U=>?_))⟩;have U:ak H H9 (vG h y C N W [Z,A,aU (aE g b).aq.op,X,.str (aE g b).aq.name,vk,vg] v0 qb Sb):=(U.sub (.cons_cons _ (.cons _ (.cons_cons _ (.cons _ (aiE _)))))).bV (aiK ..);refine af ?_;refine Ru.nm λS0 M hS hM=>?_;refine Ru.bI hM (up (P:=λk=>∀HX O S,(∀x,S x↔x∈jE g d (os.getD b [])\/x∈(aE g b).aq.args\/∃e∈(aE g b).aq.go.take k,x∈e.args)->ak H HX (vG h y C N W [Z,A,aU (aE g b).aq.op,X,.str (aE g b).aq.name,vk,vg] v0 O S)->Ru ab _ S0 ([(qy,aN k)]++pk M [p1,p2,p5,p6,p7,xl,n6]) HX) (aE g b).aq.go.length (λk hk ih HX O S b0 U=>?_) 0 aa _ qb Sb (λx=>by rw[fl];simp) U);subst hS;subst hM;refine Ru.loop (au ?_);refine Ru.cond (λQ=>?_) (λQ=>?_)
 .have hD:=el _ (acm Q);refine af ?_;refine RO.bO U.gr cn (λhE hF hG gy d4 gA gi hrd=>?_) (j:=k);obtain⟨ve,rfl,c8⟩:=d4;have⟨fo,fp,fq,_⟩:=c8.all;refine af ?_;refine RO.dS U λc9 q9 U=>?_;refine af ?_;refine RO.cl (xY T U 2 rfl (U.gr.sl c8) aa λc' F S' I U=>?_);refine RO.dJ U 2 (λax U=>?_);refine af ?_;have U:ak H ax (vG h y C N W [Z,A,aU (aE g b).aq.op,X,.str (aE g b).aq.name,vk,vg] v0 F S'):=(U.sub (.cons_cons _ (.cons _ (.cons_cons _ (.cons _ (aiE _)))))).bV (aiK ..);exact Ru.wk (ih (k+1) aa aa ax F S' (λx=>by
   rw[I,b0,<-ah9 Q];constructor
   .rintro(h6|⟨h6|h6|⟨e,he,h6⟩,_⟩);·exact .inr (.inr ⟨_,aid _ (abP.2 rfl),h6⟩)
    .exact .inl h6
    .exact .inr (.inl h6)
    exact .inr (.inr ⟨e,ah1 _ he,h6⟩)
   rintro(h6|h6|⟨e,he,h6⟩);·exact .inr ⟨.inl h6,by have:=P h6;omega⟩
   .exact .inr ⟨.inr (.inl h6),by have:=D (Al h6);omega⟩
   rcases adX.1 he with he|he;·exact .inr ⟨.inr (.inr ⟨e,he,h6⟩),by have:=D (Am (ajt he) h6);omega⟩
   rw[abP]at he;subst he;exact .inl h6) U)
 refine Ru.exitTo ?_;rw[aic aa]at b0;have L:=R.cK b hb;have fs:(g.aj.getD b default).aq.op=68->os.getD b []≠ []:=λf0 e=>by obtain⟨o,ho,_⟩:=cf.en b hb f0;rw[e]at ho;cases ho
 refine af ?_;refine RO.cl (NQ T λc9 dr ds hl=>?_);have U:ak H c9 ([tB 3 ds [aN b],tB jQ dr [.aD h 0]]++vG h y C N W [Z,A,aU (aE g b).aq.op,X,.str (aE g b).aq.name,vk,vg] v0 O S++[]):=by rw[aiS];exact U.dq hl
 refine af ?_;refine Ru.wk (L:=[(n8,.func BX [] [.aD dr 0,.aD ds 0]),(p2,.aD W 0),(p5,.aD N 0),(p6,.aD C 0),(p7,.aD y 0)]) ?_;refine Ru.oh (J:=λm ts=>∃O S,(∀x,S x↔x∈jE g d (os.getD b [])\/x∈(aE g b).aq.args\/(∃e∈(aE g b).aq.go,x∈e.args)\/∃w∈(bU g b (os.getD b [])).take m,x∈d.getD w.1.toNat [])/\ts=vG h y C N W [Z,A,aU (aE g b).aq.op,X,.str (aE g b).aq.name,vk,vg] v0 O S) (Dn:=λ_ _=>False) U (NR T hB J.bl (b:=b) (now:=os.getD b []) (nv:=p.getD b .bM) (V.cK.aE L) (V.cK.jm L).1 (by have:=(V.cK.jm L).2;omega) fs) (λH2 hg=>⟨av,p,J.ro.bR (U.gr.trans hg),rfl,(U.gr.trans hg).sl (J.op b hb)⟩) ⟨O,S,λx=>by rw[b0];simp,rfl⟩ (λk args ws h6=>by obtain⟨_,v,rfl,_⟩:=h6;rfl) (λm ts us H' hJ U=>U.gr.sl (J.op b hb)) (λm args ws ts us l o1 o2 H' h5 b3 hJ U=>?_) (λH' b4 dm hJ U=>?_) (λj H' b4 dm _ h6=>h6.elim)
 .obtain⟨O,S,ay,rfl⟩:=hJ;obtain⟨dv,v,rfl,fo,fp,fq,_⟩:=b3;have U:=U.sub ((List.sublist_append_right _ _).append_right _);have dx:(bU g b (os.getD b []))[m]∈bU g b (os.getD b []):=acm dv;have f1:=(ah9 dv).symm;obtain⟨hH,hI⟩:=V.cK.zV L _ dx;have f2:=R.iq hb (Ck dx);generalize(bU g b (os.getD b []))[m]=w at*;obtain⟨t,ht⟩:∃t:Nat,w.1=(t:Int):=⟨w.1.toNat,aa⟩;rw[ht,ahX]at f2;have d5:t<d.length:=by rw[G.len];omega
  have gH:=G.iD t;rw[ht];refine au ?_;refine Ru.cY (xs:=vG h y C N W [Z,A,aU (aE g b).aq.op,X,.str (aE g b).aq.name,vk,vg] v0 O S) U λc' U=>af ?_;refine RO.be ?_ (v:=s) (hc:=by rw[U.gr.aY cd];exact ej);refine af ?_;refine RO.bO U.gr J.sl (λB hK hL gL d6 g0 b' _=>?_) (j:=t);obtain⟨vl,rfl,b6⟩:=d6;rw[<-bf d5 []]at b6;have⟨ek,hN,hP,_⟩:=b6.all;refine af ?_;refine RO.be (v:=vl) (RO.cl (xY T U 1 rfl (U.gr.sl b6) aa λax F S' I U=>RO.dJ U 1 (λdy U=>af ?_))) (hc:=b' 0 _ rfl);have U:=(U.sub (.cons_cons _ (.cons_cons _ (.cons _ (aiE _))))).bV (aiK ..);refine Ru.bz (ts:=vG h y C N W [Z,A,aU (aE g b).aq.op,X,.str (aE g b).aq.name,vk,vg] v0 F S') U ⟨F,S',λx=>?_,rfl⟩;rw[I,ay,f1];constructor
  .rintro(h6|⟨h6|h6|h6|⟨w2,E,h6⟩,_⟩);·exact .inr (.inr (.inr ⟨_,aid _ (abP.2 rfl),by rw[ht,ahX];exact h6⟩))
   .exact .inl h6
   .exact .inr (.inl h6)
   .exact .inr (.inr (.inl h6))
   exact .inr (.inr (.inr ⟨w2,ah1 _ E,h6⟩))
  rintro(h6|h6|⟨e,he,h6⟩|⟨w2,E,h6⟩);·exact .inr ⟨.inl h6,by have:=P h6;omega⟩
  .exact .inr ⟨.inr (.inl h6),by have:=D (Al h6);omega⟩
  .exact .inr ⟨.inr (.inr (.inl ⟨e,he,h6⟩)),by have:=D (Am he h6);omega⟩
  rcases adX.1 E with E|E;·refine .inr ⟨.inr (.inr (.inr ⟨w2,E,h6⟩)),?_⟩;have:=GN V R hO G (R.iq hb (Ck (ajt E))) h6;omega
  rw[abP]at E;subst E;rw[ht,ahX]at h6;exact .inl h6
 obtain⟨O,S,ay,rfl⟩:=hJ;rw[ajg]at ay;have d7:∀k,k<=(aE g b).aA.length->∀x,dh g os d b k x->0<=x:=by
  intro k;induction k with
  |zero=>
   rintro _ x(h6|h6|⟨e,he,h6⟩|⟨w,E,h6⟩);·exact P h6
   .exact D (Al h6)
   .exact D (Am he h6)
   exact GN V R hO G (R.iq hb E) h6
  |succ k ih=>
   rintro hk x(h6|h6|⟨h6,_⟩);·exact P h6
   .rw[bf aa]at h6;exact D (CJ _ h6)
   exact ih aa x h6
 have U:=U.Cw (S':=dh g os d b 0) 1 rfl λx=>by
  rw[ay];refine or_congr ajH (or_congr ajH (or_congr ajH ⟨?_,?_⟩));·rintro⟨w,E,h6⟩;exact⟨_,Ck E,h6⟩
  rintro⟨w,E,h6⟩;simp only[wW,kn,aia]at E;obtain⟨w2,f3,rfl⟩:=E;exact⟨w2,f3,h6⟩
 refine af ?_;refine RO.i6 U 1 (λc' f4 U=>RO.dS U λax B U=>af ?_) (ws:=[.map O]) (n:=1);refine RO.eD U 5 (RO.cl (Cu T.Zx bx ew e0 e3 λdy dz hl=>?_));have U:=U.dq hl;refine af ?_;refine Ru.wk (L:=[(uS,.func XE [] [.aD dz 0]),(p6,.aD C 0),(p7,.aD y 0),(eS,.aD B 0)]) ?_;have U:ak H dy ([tB Kl dz [A]]++tP B y C v0 (λ_=>O) (.slice f4 0 1 1 true) 0 (dh g os d b)++[tB cH N [Z,A,aU (aE g b).aq.op,X,.str (aE g b).aq.name,vk,vg],tB jQ W [.aD h 0],tX dm (.deferred false)]):=(((U.eh 5 rfl).eh 4 rfl).eh 3 rfl).eh 3 rfl;refine Ru.oh (J:=λk ts=>∃c sv,sv.br=true/\sv.cW=true/\sv.cells=[sv]/\ts=tP B y C v0 c sv k (dh g os d b)) (Dn:=λ_ _=>False) U (Ct (R:=nW H) (agg:=true) (size:=6) (la:=(aE g b).aA) (sv:=A) (e:=Kl) (nt:=19) T.ZS bx aa (λh6=>by cases h6) (λa cs h6=>rfl)) (λH2 hg=>by obtain⟨w,h1,h2⟩:=hvs;exact⟨w,(U.gr.trans hg).sl h1,h2⟩) ⟨_,_,rfl,rfl,rfl,rfl⟩ (λk args ws h6=>by obtain⟨_,_,_,_,rfl⟩:=h6;rfl) (λk ts us H' hJ U=>by obtain⟨w,h1,h2⟩:=hvs;exact⟨w,U.gr.sl h1,h2⟩) (λk args ws ts us l o1 o2 H' hk b3 hJ U=>?_) (λH' b4 b7 hJ U=>?_) (λj H' b4 dm _ h6=>h6.elim)
 .obtain⟨rfl,d0,cs,f5,rfl⟩:=b3;obtain⟨c,sv,d',ea,eb,rfl⟩:=hJ;have hR:=(de _ (acm d0)).1;have f6:(aE g b).aA.getD ((aE g b).aA.length - 1 - k) default=(aE g b).aA[(aE g b).aA.length - 1 - k]:=bf d0 _;have f7:∀{x:Int},x∈(aE g b).aA[(aE g b).aA.length - 1 - k].args->0<=x:=λh6=>D (CJ _ h6);have f8:=d7 k aa;have f9:∀x,dh g os d b (k+1) x↔x∈jE g d (os.getD b [])\/x∈(aE g b).aA[(aE g b).aA.length - 1 - k].args\/dh g os d b k x/\x≠(aE g b).aA[(aE g b).aA.length - 1 - k].to:=λx=>by rw[<-f6];exact ajH
  generalize(aE g b).aA[(aE g b).aA.length - 1 - k]=st at*;obtain⟨d1,rfl,a2⟩:=f5;have⟨g1,g2,g3,_⟩:=a2.all;refine af ?_;refine RO.dS U λd2 d3 U=>af ?_;refine Ru.cY (xs:=tB mj d3 [aU st.op,aI st.to,d1,aI st.n,aI st.m,.str st.name]::tP B y C v0 c sv k (dh g os d b)) U λhT U=>af ?_;have hat:∀(us:List Th),(tB mj d3 [aU st.op,aI st.to,d1,aI st.n,aI st.m,.str st.name]::(tP B y C v0 c sv k (dh g os d b)++us))[4+(k+1)]?=some (tM true (c k) (dh g os d b k)):=λus=>by simp only[tP,ahD];exact pG (xs:=[_,_,_,_]) (aeu aa)
  refine RO.B3 (i:=C) (o:=0) (v:=v0) (xY T U (4+(k+1)) (hat _) (U.gr.sl a2) aa λhU q1 S1 f' U=>⟨by obtain⟨_,hp⟩:=U.get 4 rfl;exact tB.cell hp rfl,?_⟩) (hvs:=ag.bK);refine RO.cl (xY T U 0 rfl (U.gr.sl ag) aa λhV z S2 ec U=>?_);refine RO.dJ U 4 (λhW U=>?_);refine af ?_;refine RO.push U 6 (λw0 hX v2 U=>?_) (ws:=[.map z]);have⟨gb,gd,gg,_⟩:=(U.sl (e:=eL) (size:=1) (n:=k+1+1) (full:=true) (sv:=v2) 6).all;refine RO.dJ U 3 (λhY U=>af ?_);have U:=U.Cw (S':=dh g os d b (k+1)) 0 rfl λx=>by
   rw[f9,ec,f'];constructor
   .rintro(h6|⟨h6|h6,_⟩);·exact .inl h6
    .exact .inr (.inl h6)
    exact .inr (.inr h6)
   rintro(h6|h6|h6);·exact .inl h6
   .exact .inr ⟨.inl h6,by have:=f7 h6;omega⟩
   exact .inr ⟨.inr h6,by have:=f8 x h6.1;omega⟩
  have U:=U.sub (.cons_cons _ (.cons _ (.cons _ (aiE _))));have e1:tP B y C v0 (λj=>if j=k+1 then z else c j) v2 (k+1) (dh g os d b)=[tB nY B [v2],tB eL y [.map z],tB cB C [v0]]++((tS eL 1 ((ah7 (k+1)).map (λi=>AV.map (c i))++[.map z]) (k+1+1) true v2::(ah7 (k+1)).map λi=>tM true (c i) (dh g os d b i))++[tM true z (dh g os d b (k+1))]):=by
   have g4:(ah7 (k+1+1)).map (λi=>AV.map (if i=k+1 then z else c i))=(ah7 (k+1)).map (λi=>AV.map (c i))++[.map z]:=by
    rw[aiW,ail];congr 1;·exact ai7 λi hi=>by rw[aiO]at hi;rw[an aa]
    simp
   have g5:(ah7 (k+1+1)).map (λi=>tM true (if i=k+1 then z else c i) (dh g os d b i))=(ah7 (k+1)).map (λi=>tM true (c i) (dh g os d b i))++[tM true z (dh g os d b (k+1))]:=by
    rw[aiW,ail];congr 1;·exact ai7 λi hi=>by rw[aiO]at hi;rw[an aa]
    simp
   simp only[tP,xZ,g4,g5,aG,aiR]
  refine Ru.bz (ts:=tP B y C v0 (λj=>if j=k+1 then z else c j) v2 (k+1) (dh g os d b)) ?_ ⟨_,v2,gb,gd,gg,rfl⟩;rw[e1];have U:=U.bV (aii (l₁:=[tB nY B [v2],tB eL y [.map z],tB cB C [v0]]++(tS eL 1 ((ah7 (k+1)).map (λi=>AV.map (c i))++[.map z]) (k+1+1) true v2::(ah7 (k+1)).map λi=>tM true (c i) (dh g os d b i))) (l₂:=tX l o2::us)).symm;simpa only[ahD,aiR,aiY]using U
 obtain⟨c,sv,d',ea,eb,rfl⟩:=hJ;refine af ?_;obtain⟨q,cap,ex,rfl⟩:=U.jO (e:=eL) (size:=1) (n:=(aE g b).aA.length+1) (full:=true) (sv:=sv) 3 rfl aa;have U:=U.eh 3 rfl;refine RO.cl (aet T.Zy (n:=(aE g b).aA.length+1) aC aa aa (λv hv=>by obtain⟨i,_,rfl⟩:=aia.1 hv;exact⟨rfl,rfl,rfl⟩) U λd2 U=>?_);refine af ?_;have e1:((ah7 ((aE g b).aA.length+1)).map λi=>AV.map (c i)).reverse=(ah7 ((aE g b).aA.length+1)).map λi=>AV.map (c ((aE g b).aA.length - i)):=by apply ai2 aC;intro i h1 h2;simp only[List.length_reverse,aig,List.length_range]at h1;simp only[List.getElem_reverse,aig,List.length_range,aiD,aju];congr 2
 have e2:((ah7 ((aE g b).aA.length+1)).map λi=>tM true (c i) (dh g os d b i)).reverse=(ah7 ((aE g b).aA.length+1)).map λi=>tM true (c ((aE g b).aA.length - i)) (dh g os d b ((aE g b).aA.length - i)):=by apply ai2 aC;intro i h1 h2;simp only[List.length_reverse,aig,List.length_range]at h1;simp only[List.getElem_reverse,aig,List.length_range,aiD,aju];congr 2
 rw[e1]at U;have U:ak H d2 (tS eL 1 ((ah7 ((aE g b).aA.length+1)).map λi=>AV.map (c ((aE g b).aA.length - i))) ((aE g b).aA.length+1) true (.slice q 0 ((aE g b).aA.length+1) cap ex)::tB nY B [.slice q 0 ((aE g b).aA.length+1) cap ex]::tB eL y [.map (c (aE g b).aA.length)]::tB cB C [v0]::(((ah7 ((aE g b).aA.length+1)).map λi=>tM true (c i) (dh g os d b i))++(tX b7 (.deferred false)::[tB cH N [Z,A,aU (aE g b).aq.op,X,.str (aE g b).aq.name,vk,vg],tB jQ W [.aD h 0],tX dm (.deferred false)]))):=U;have U:=U.sub (.cons_cons _ (.cons _ (.cons _ (.cons _ ((aiE _).append (.cons_cons _ (.cons _ (.cons _ (aiE _)))))))));have U:=U.bV ((aiq (l₁:=tS eL 1 ((ah7 ((aE g b).aA.length+1)).map λi=>AV.map (c ((aE g b).aA.length - i))) ((aE g b).aA.length+1) true (.slice q 0 ((aE g b).aA.length+1) cap ex)::(ah7 ((aE g b).aA.length+1)).map λi=>tM true (c i) (dh g os d b i)) (l₂:=[tX b7 (.deferred false),tX dm (.deferred false)])).trans (List.Perm.append_left _ (aiP _ (List.reverse_perm _).symm)));rw[e2]at U;exact Ru.jl (M:=[b7,dm]) U λH' U=>⟨[.slice q 0 ((aE g b).aA.length+1) cap ex],⟨rfl,rfl,trivial⟩,h6 H' _ (λi=>c ((aE g b).aA.length - i)) U⟩
end
end
section
def GO(ab:Nat->aV)(A:ai)(y:AV)(G:(Int->Prop)->Prop)(J:List (Int->Prop)->List Th->Prop):Prop:=
 ∀b S q e us H,G S->J b e->ak A H (tM false q S::(e++us))->YF ab y [.map q] H λv H'=>v=.bool true/\∃d,J (b++[S]) d/\ak A H' (tM false q S::(d++us))
def NV(ab:Nat->aV)(A:ai)(fv:AV)(G:(Int->Prop)->Prop)(e:List (Int->Prop))(f:List Th):Prop:=
 ∀y J d us H(K:KT),y.br=true->y.cW=true->y.cells=[y]->GO ab A y G J->J [] d->ak A H (f++d++us)->(∀H' b v,ak A H' (b++us)->J e b->K v H')->YF ab fv [y] H K
theorem Ru.NW{A H:ai}{us:List Th}{L:Kn}{K:bY->Fr->ai->Prop}{M:List ah}{s:List SI}{f:aJ}{ag:ah}{cY body:bm}{fv:AV}{G:(Int->Prop)->Prop}{P:List (Int->Prop)}{Ps ts0:List Th}{J:List (Int->Prop)->List Th->Prop}(U:ak A H (Ps++ts0++us))(R:NV ab A fv G P Ps)(T:J [] ts0)(V:∀b S q g us l o1 o2 H,G S->J b g->ak A H (tM false q S::(g++tX l o1::us))->Ru ab (B9 ab l o1 o2 body (uW A l o2 us (λe=>∃k,e=tM false q S::k/\J (b++[S]) k) λ_ _=>False)) [.code cY] (xJ [ag] [.map q] L) H)(z:∀H' e Q,J P e->ak A H' (e++tX Q (.deferred false)::us)->Ru ab ⟨K,Q::M,none⟩ s L H')(W:aT L f=fv:=by exact cw)(E:fv.br=true:=by first|rfl|assumption):Ru ab ⟨K,M,none⟩ (.code (.rangeFunc f [ag] cY body)::s) L H:=by
 intro ac u;have F:=U.xA (.deferred false);have w:=F.xA (.loop .ready .none 0 ac [ag] cY body H.next);have x:=w.bV LG;generalize hl:(H.new (.deferred false)).next=l at w x;generalize I:((H.new (.deferred false)).new (.loop .ready .none 0 ac [ag] cY body H.next))=X at w x;have key:=R (.yield l) (λb e=>∃g,e=tX l (.loop .ready .none 0 ac [ag] cY body H.next)::g/\J b g) _ _ X (λ_ H'=>match H'.get l with
  |.loop st bS fn B Y Z bd d=>match st with|.busy=>False|_=>iN ab K s bS ⟨ac,H.next::M,none⟩ (H'.set l (.loop .exhausted bS fn B Y Z bd d))
  |_=>False) rfl rfl rfl ?_ ⟨ts0,rfl,T⟩ x ?_;·have⟨n,hn⟩:=key;refine⟨n+1,?_⟩;simp only[Xc,exec];rw[hl,I,u.gv W E];exact hn
 .rintro b S q _ r D hG⟨g,rfl,N⟩t;have y:ak A D ((tM false q S::g)++tX l (.loop .ready .none 0 ac [ag] cY body H.next)::r):=t.bV (Fz (ws:=[_]));have i:D.get l=.loop .ready .none 0 ac [ag] cY body H.next:=y.ng (tM false q S::g).length aC;have C:=V b S q g r l _ (.loop .busy .none 0 ac [ag] cY body H.next) D hG N y (l7 [ag] [.map q] ac) u.pr;refine LH i rfl C (λH' e h1 h2=>?_) (λj H' e hj h1 h2=>h2.elim);obtain⟨k,rfl,h2⟩:=h2;refine⟨rfl,tX l _::k,⟨k,rfl,h2⟩,?_⟩;have:=h1.pq (q:=l) (o:=.loop .busy .none 0 ac [ag] cY body H.next) (tM false q S::k).length aC (.loop .ready .none 0 ac [ag] cY body H.next);rw[show((tM false q S::k)++tX l (.loop .busy .none 0 ac [ag] cY body H.next)::r).set (tM false q S::k).length (tX l (.loop .ready .none 0 ac [ag] cY body H.next))=(tM false q S::k)++tX l (.loop .ready .none 0 ac [ag] cY body H.next)::r by simp]at this;exact this.bV (Fz (ws:=[_])).symm
 rintro H' _ v t⟨g,rfl,O⟩;have i:=t.ng 0 rfl;simp only[i];exact z _ g _ O (t.pq 0 rfl _).tail ac u
section
variable{g:G.aP}{h m av o:AV}{c:ah}{A H:ai}{p:List AV}{come:List Bool}{os:List (List bt)}{ap:List Nat}{a:List (List Int)}
theorem aez(T:Tb ab){n:Nat}(y:n<=6000)(q:aY H c 1=some (aN n)){K:KT}(B:∀H' v,ak H H' [tS 3 1 ((ah7 n).map aN) n true v]->K v H'):YN ab W4 [.aD c 0] H K:=by
 refine YF.code T.Zh aC (af ?_);refine Ru.nm λg M i e=>Ru.bI e (up (P:=λk=>∀d v,ak H d [tS 3 1 ((ah7 k).map aN) k true v]->Ru ab _ g ([(p9,aN k),(p2,v)]++pk M [p8]) d) n (λk z j d v U=>?_) 0 aa _ .bh ((ak.bN H).mh 3 1));subst i;subst e;have⟨r,s,t,_⟩:=(U.sl (e:=3) (size:=1) (sv:=v) (vs:=(ah7 k).map aN) (n:=k) (full:=true) 0).all;refine Ru.loop (au ?_);refine Ru.cond (λb=>?_) (λb=>?_);·refine au ?_;refine RO.push U 0 (λA l f U=>?_) (ws:=[aN k]);have⟨u,w,x,_⟩:=(U.sl (e:=3) (size:=1) (n:=k+1) (full:=true) (sv:=f) 0).all;refine au ?_;exact Ru.wk (j (k+1) aa aa l f (by rw[aiW,ail];exact U))
 refine Ru.exitTo ?_;obtain rfl:k=n:=aa;refine au ?_;exact Ru.aL (B _ v U)
def mE(g:G.aP)(b:Nat):List Int:=if b=0 then(ah7 g.params.toNat).map λ(v:Nat)=>(v:Int)else(aE g b).params
def qP(g:G.aP)(os:List (List bt))(a:List (List Int))(b:Nat):Int->Prop:=λx=>x∈mE g b\/dh g os a b (aE g b).aA.length x
def qQ(g:G.aP)(os:List (List bt))(a:List (List Int))(b i:Nat):List (Int->Prop):=[dh g os a b ((aE g b).aA.length - i),λx=>x=((aE g b).aA.getD i default).to/\x≠ -1\/dh g os a b ((aE g b).aA.length - (i+1)) x]
def tQ(g:G.aP)(os:List (List bt))(a:List (List Int))(b:Nat):List (Int->Prop):=(qP g os a b::(ah7 (aE g b).aA.length).flatMap (qQ g os a b))++[dh g os a b 0]
def kZ(g:G.aP)(os:List (List bt))(a:List (List Int))(ap:List Nat):List (Int->Prop):=ap.flatMap (tQ g os a)
def CM(g:G.aP)(S:Int->Prop):Prop:=∀x,S x->0<=x/\x<g.aQ
theorem GP(V:Vd g)(d:ny g come os){b:Nat}(hb:come.getD b false=true){x bu:Int}(i:(x,bu)∈fD (aE g b)):0<=x/\x<g.aQ:=by have⟨t,e,f,_⟩:=d.rd b hb _ i;have:=zX V.gv.v0;simp only at e;omega
theorem NX(V:Vd g)(e:b9 g come os)(f:eT g come os ap)(d:fN g come os a){b:Nat}(hb:come.getD b false=true){x:Int}(i:x∈a.getD b []):0<=x/\x<g.aQ:=
 have h1:=((d.mem b hb x).1 i).zY V.cK e (V.oG come os e) V.gv f hb
 ⟨h1.1,h1.2.1⟩
theorem NY(V:Vd g)(e:b9 g come os)(f:eT g come os ap)(d:fN g come os a){b:Nat}(hb:come.getD b false=true){x:Int}(k:x∈jE g a (os.getD b [])):0<=x/\x<g.aQ:=by
 unfold jE at k;split at k;·rename_i t i;have⟨_,_,_,_,j,_⟩:=qG V.cK e hb i;exact NX V e f d j k
 cases k
theorem NZ(V:Vd g)(i:b9 g come os)(j:eT g come os ap)(d:fN g come os a){b:Nat}(hb:come.getD b false=true):∀k,k<=(aE g b).aA.length->CM g (dh g os a b k):=by
 have f:=V.oG come os i;intro k;induction k with
 |zero=>
  rintro _ x(r|r|⟨e,he,r⟩|⟨w,l,r⟩);·exact NY V i j d hb r
  .exact GP V f hb (Al r)
  .exact GP V f hb (Am he r)
  exact NX V i j d (i.iq hb l) r
 |succ k n=>
  rintro q x(r|r|⟨r,_⟩);·exact NY V i j d hb r
  .rw[bf aa]at r;exact GP V f hb (CJ _ r)
  exact n aa x r
theorem N0(V:Vd g){b:Nat}(hb:b<g.aj.length):∀x∈mE g b,0<=x/\x<g.aQ:=by
 intro x d;unfold mE at d;split at d;·obtain⟨v,e,rfl⟩:=aia.1 d;rw[aiO]at e;have:=V.fm.fv.h1;have:=V.fm.fv.h0;omega
 exact V.oE _ (kY hb) _ (CE d)
end
end
section
theorem Ru.N3{c:Cx}{s:List SI}{x:SI}{L:Kn}{H:ai}(P:Kn->ai->Prop)(h1:∀M H',P M H'->Ru ab c s M H')(h2:(∀H' a M,P M H'->iZ M a->Ru ab c s a H')->Ru ab c (x::s) L H):Ru ab c (x::s) L H:=h2 λH' a M b hl=>(h1 M H' b).ph hl
def jF(a:Nat->ah)(P:Nat->Int->Prop)(ex:Nat->Bool)(n:Nat):List Th:=(ah7 n).map λj=>tM (ex j) (a j) (P j)
theorem GQ{ids:Nat->ah}{P:Nat->Int->Prop}{ex:Nat->Bool}{n i:Nat}(hi:i<n):(jF ids P ex n)[i]?=some (tM (ex i) (ids i) (P i)):=by simp[hi,jF,aiw,List.getElem?_range,aip]
theorem aeA{a:Nat->ah}{P:Nat->Int->Prop}{ex:Nat->Bool}{n i:Nat}(hi:i<n):(jF a P ex n).set i (tM false (a i) (P i))=jF a P (λj=>if j=i then false else ex j) n:=by apply ai2 (by simp[jF]);intro j h1 h2;simp only[jF,List.getElem_set,aiD,aju];grind
theorem GR{b:Type}:∀{l:List b}{i:Nat}(c:i<l.length),(l[i]::l.eraseIdx i).Perm l|a::l,0,_=>ajN _|a::l,i+1,c=>(aiK a (l[i]'(by grind)) _).trans (aiP a (GR (l:=l) (i:=i) (by grind)))
section
variable{A H:ai}{y:AV}{G:(Int->Prop)->Prop}{J:List (Int->Prop)->List Th->Prop}{X ts us:List Th}{o:List (Int->Prop)}
theorem GS(c:GO ab A y G J){S:Int->Prop}{q:ah}{b:Bool}(g:G S)(i:J o ts)(U:ak A H (tM b q S::(X++(ts++us)))):YF ab y [.map q] H λv H'=>v=.bool true/\∃a,J (o++[S]) a/\ak A H' (tM false q S::(X++(a++us))):=by have h1:=U.as (t':=tM false q S) 0 rfl λk e=>⟨e.1,e.2.1,e.2.2.1,(λl=>by cases l),e.2.2.2.2⟩;have h2:=h1.bV (aiP _ (List.perm_append_comm_assoc X ts us));refine(c o S q ts (X++us) H g i h2).mono ?_;rintro v H'⟨rfl,a,h3,j⟩;exact⟨rfl,a,h3,j.bV (aiP _ (List.perm_append_comm_assoc a X us))⟩
theorem GU(b:GO ab A y G J){ids:Nat->ah}{P:Nat->Int->Prop}{ex:Nat->Bool}{n i:Nat}(hi:i<n)(l:G (P i))(m:J o ts)(U:ak A H (X++(jF ids P ex n++(ts++us)))):YF ab y [.map (ids i)] H λv H'=>v=.bool true/\∃a,J (o++[P i]) a/\ak A H' (X++(jF ids P (λj=>if j=i then false else ex j) n++(a++us))):=by
 have hat:=GQ (ids:=ids) (P:=P) (ex:=ex) hi;have⟨c,e⟩:=aiF.1 hat;have k:(X++(jF ids P ex n++(ts++us))).Perm (tM (ex i) (ids i) (P i)::((X++(jF ids P ex n).eraseIdx i)++(ts++us))):=by have h1:=(GR c).symm;rw[e]at h1;have h2:=(h1.append_right (ts++us)).append_left X;refine h2.trans ?_;rw[ahD];exact aii
 refine(GS b l m (U.bV k)).mono ?_;rintro v H'⟨rfl,a,h3,q⟩;refine⟨rfl,a,h3,q.bV ?_⟩;rw[<-aeA hi];have g:i<((jF ids P ex n).set i (tM false (ids i) (P i))).length:=by simpa using c
 have h1:=GR g;rw[List.getElem_set_self,List.eraseIdx_set_eq]at h1;have h2:=(h1.append_right (a++us)).append_left X;refine List.Perm.trans ?_ h2;rw[ahD];exact aii.symm
end
theorem aeB(a:Nat->ah)(v:AV)(n:Nat)(P:Nat->Int->Prop):xZ a v n P=tS eL 1 ((ah7 n).map λi=>.map (a i)) n true v::jF a P (λ_=>true) n:=rfl
section
variable{g:G.aP}{r p av t:AV}{h f:ah}{A H:ai}{u:List AV}{come:List Bool}{os:List (List bt)}{ap:List Nat}{d:List (List Int)}
def tT(b f h:ah)(c:List AV)(a:Nat->ah)(v:AV)(n:Nat):List Th:=[tB cH b c,tB jQ f [.aD h 0],tS eL 1 ((ah7 n).map λi=>.map (a i)) n true v]
theorem N4(T:Tb ab)(V:Vd g)(N:FX g A h r p av t u come os ap d)(hK:b9 g come os)(hO:eT g come os ap)(bv:fN g come os d):NV ab A (.func BW [] [.aD f 0]) (CM g) (kZ g os d ap) [tB jQ f [.aD h 0]]:=by
 intro y J ts us H K d' ea eb c S U cf;have hB:=V.sm;have ec:=hB.nb;have aw:=N.ro.lt;have cy:=N.ro.aE;have cE:=N.c4;have⟨ei,_,_,_⟩:=N.bl.all;have⟨ej,ek,el,et⟩:=N.od.all;have ew:ap.length<=g.aj.length:=rX _ _ hO.nd λx hx=>hK.lt ((hO.mem x).1 hx);have e0:=V.oG come os hK;have e1:=V.fm.fv.h2;have e3:=V.fm.fv.h0;have e4:=V.fm.fv.h1;obtain⟨np,b0⟩:∃n:Nat,g.params=(n:Int):=⟨g.params.toNat,aa⟩;refine YF.code T.Zg aC (af ?_);refine RO.be ?_ (v:=p) (hc:=by rw[U.gr.aY aw];exact cE);refine af ?_;have U:ak A H (tB jQ f [.aD h 0]::(ts++us)):=U;refine Ru.nm λS0 M hS hM=>Ru.bI hM (up (P:=λk=>∀W ts,J ((ap.take k).flatMap (tQ g os d)) ts->ak A W (tB jQ f [.aD h 0]::(ts++us))->Ru ab _ S0 ([(kV,aN k)]++pk M [p0,p1,ic,ki]) W) ap.length (λk hk ih W ts S U=>?_) 0 aa _ ts S U);subst hS;subst hM;refine Ru.loop (au ?_);refine Ru.cond (λI=>?_) (λI=>?_)
 .have ax:=(hO.mem _).1 (acm I);have b3:ap.take (k+1)=ap.take k++[ap[k]]:=(ah9 I).symm;have ih:=ih (k+1) aa aa;rw[b3,aiy,aiN]at ih;clear b3;refine af ?_;refine RO.iQ U.gr N.od (λC o5 e5 e6=>?_) (j:=k);generalize(ap.take k).flatMap (tQ g os d)=h0 at*;generalize ap[k]=b at*;have ay:=hK.lt ax;have a1:=kY ay;have e7:=hB.bl _ a1;have de:=hB.st _ a1;have cR:g.aj[b]=aE g b:=(bf ay _).symm;refine af ?_;refine RO.be ?_ (v:=r) (hc:=by rw[U.gr.aY aw];exact cy);refine af ?_;refine RO.bO U.gr N.bl (λq9 o9 fs e8 a2 e9 hat hrd=>?_) (j:=b);rw[cR]at a2;have d0:=a2.one;obtain⟨O,w,jc,rfl,b4,b6,X,Y,Z,rfl,e',_,fa⟩:=a2;have⟨fb,fd,fe,d1⟩:=b6.all;have⟨fk,_,_,_⟩:=b4.all;refine af ?_;refine RO.dS U λH2 C U=>af ?_;refine RO.cl (aey T V (N.bR U.gr) hK hO bv ax λH3 v ids hl=>?_);have U:=U.dq hl;have B:=NZ V hK hO bv ax;have c8:=N0 V (b:=b) ay;obtain⟨q,cap,a,rfl⟩:=U.jO (e:=eL) (size:=1) (n:=(aE g b).aA.length+1) (full:=true) (sv:=v) 0 rfl aa;rw[aeB]at U;have U:ak A H3 (tT C f h [O,w,aU (aE g b).aq.op,X,.str (aE g b).aq.name,Y,Z] ids (.slice q 0 ((aE g b).aA.length+1) cap a) ((aE g b).aA.length+1)++(jF ids (λi=>dh g os d b ((aE g b).aA.length - i)) (λ_=>true) ((aE g b).aA.length+1)++(ts++us))):=by have h9:=U.bV (List.perm_append_comm_assoc (tS eL 1 ((ah7 ((aE g b).aA.length+1)).map λi=>AV.map (ids i)) ((aE g b).aA.length+1) true (.slice q 0 ((aE g b).aA.length+1) cap a)::jF ids (λi=>dh g os d b ((aE g b).aA.length - i)) (λ_=>true) ((aE g b).aA.length+1)) [tB cH C [O,w,aU (aE g b).aq.op,X,.str (aE g b).aq.name,Y,Z],tB jQ f [.aD h 0]] (ts++us));exact h9
  have P:∀i,i<(aE g b).aA.length+1->((ah7 ((aE g b).aA.length+1)).map λi=>AV.map (ids i))[0+i*1]?=some (.map (ids i)):=λi hi=>by rw[show 0+i*1=i by omega,aiw,List.getElem?_range hi];rfl
  refine af ?_;refine Ru.N3 (P:=λM H'=>∃pv,eE H' (mE g b) pv/\M=[(p7,pv),(p0,y),(p1,.aD f 0),(p4,aN b),(p5,.aD C 0),(p6,.slice q 0 ((aE g b).aA.length+1) cap a),(ic,p),(ki,aN ap.length),(kV,aN k)]/\ak A H' (tT C f h [O,w,aU (aE g b).aq.op,X,.str (aE g b).aq.name,Y,Z] ids (.slice q 0 ((aE g b).aA.length+1) cap a) ((aE g b).aA.length+1)++(jF ids (λi=>dh g os d b ((aE g b).aA.length - i)) (λ_=>true) ((aE g b).aA.length+1)++(ts++us)))) (λM H' hM=>?_) (λl=>?_);rotate_left
  .refine Ru.cond (λa6=>?_) (λa6=>?_)
   .refine af ?_;refine RO.cl (aez T (n:=np) aa (by rw[U.gr.aY aw,N.c1,b0];rfl) λH4 pv b7=>?_);have c9:=U.bR b7.gr;have D:eE H4 (mE g b) pv:=by
     have h9:=b7.sl (e:=3) (size:=1) (sv:=pv) (vs:=(ah7 np).map aN) (n:=np) (full:=true) 0;have e:mE g b=(ah7 np).map λ(v:Nat)=>(v:Int):=by rw[mE,aG (by simpa using a6),b0,ahX]
     rw[e];have e2:((ah7 np).map λ(v:Nat)=>(v:Int)).map aI=(ah7 np).map aN:=by rw[ajy];rfl
     unfold eE;rw[e2,aig,List.length_range];exact h9
    have⟨cn,_,_,_⟩:=D.all;exact RO.bg (RO.nil (l _ _ _ ⟨pv,D,rfl,c9⟩ dC))
   refine Ru.skip ?_;refine l _ _ _ ⟨O,by rw[mE,an (by simpa using a6)];exact U.gr.sl b4,rfl,U⟩ ?_;exact dC
  obtain⟨pv,D,rfl,U⟩:=hM;have⟨cn,_,_,_⟩:=D.all;have d2:(mE g b).length<=6000:=by
   unfold mE;split;·simp;omega
   omega
  refine af ?_;refine RO.cZ U 2 (hv:=P 0 aa) (af ?_);have c':CM g (qP g os d b):=λx hx=>hx.elim (c8 x) (B _ (afM _) x);refine RO.cl (xY T U 3 (pG (i:=0) (xs:=tT _ _ _ _ _ _ _) (GQ aa)) D aa λH5 q6 S6 dm U=>?_);have U:=U.Cw (S':=qP g os d b) 0 rfl λx=>by rw[dm];exact or_congr ajH ⟨λf0=>f0.1,λf0=>⟨f0,by have:=B _ (afM _) x f0;omega⟩⟩
  have U:ak A H5 (tM true q6 (qP g os d b)::((tT C f h [O,w,aU (aE g b).aq.op,X,.str (aE g b).aq.name,Y,Z] ids (.slice q 0 ((aE g b).aA.length+1) cap a) ((aE g b).aA.length+1)++jF ids (λi=>dh g os d b ((aE g b).aA.length - i)) (λ_=>true) ((aE g b).aA.length+1))++(ts++us))):=by rw[ahD];exact U
  refine RO.cl ((GS c c' S U).mono ?_);rintro v H6⟨rfl,dr,a8,U⟩;have U:=U.tail;rw[ahD]at U;refine af ?_;refine Ru.nm λS1 M1 ds b'=>?_;have a8:J ((h0++[qP g os d b])++(ah7 0).flatMap (qQ g os d b)) dr:=by simpa using a8
  refine Ru.bI b' (up (P:=λi=>∀W ts ex,J ((h0++[qP g os d b])++(ah7 i).flatMap (qQ g os d b)) ts->(∀j,i<j->ex j=true)->ak A W (tT C f h [O,w,aU (aE g b).aq.op,X,.str (aE g b).aq.name,Y,Z] ids (.slice q 0 ((aE g b).aA.length+1) cap a) ((aE g b).aA.length+1)++(jF ids (λi=>dh g os d b ((aE g b).aA.length - i)) ex ((aE g b).aA.length+1)++(ts++us)))->Ru ab _ S1 ([(na,aN i)]++pk M1 [p0,p1,p4,p5,p6,ic,ki,kV,rR,n8]) W) (aE g b).aA.length (λi hi Q W ts ex S a' U=>?_) 0 aa _ _ _ a8 (λ_ _=>rfl) U);subst ds;subst b';refine Ru.loop (au ?_);refine Ru.cond (λL=>?_) (λL=>?_)
  .refine af ?_;refine RO.bO U.gr b6 (λfl fo fp d3 bc d4 hat hrd=>?_) (j:=i);have dv:(aE g b).aA[i].to≠ -1->0<=(aE g b).aA[i].to/\(aE g b).aA[i].to<g.aQ:=λs=>V.oE _ a1 _ (Aj L s);have ca:(aE g b).aA.getD i default=(aE g b).aA[i]:=bf L _;have ag:qQ g os d b i=[dh g os d b ((aE g b).aA.length - i),λx=>x=(aE g b).aA[i].to/\x≠ -1\/dh g os d b ((aE g b).aA.length - (i+1)) x]:=by rw[qQ,ca]
   have Q:=Q (i+1) aa aa;rw[aiW,aiy,aiN,ag]at Q;generalize(ah7 i).flatMap (qQ g os d b)=h1 at*;clear ca ag;generalize(aE g b).aA[i]=st at*;obtain⟨dx,rfl,cp⟩:=bc;have⟨d5,d6,d7,_⟩:=cp.all;refine af ?_;refine RO.dN U λH7 q9 U=>af ?_;refine RO.eY U 0 (λH8 U=>af ?_) (vs:=[al.i 4 0,al.i 3 0,AV.bh,al.i 3 0,al.i 3 0,AV.str []]) (ws:=[aU st.op,aI st.to,dx,aI st.n,aI st.m,.str st.name]);refine RO.cZ U 3 (hv:=P (i+1) aa) (af ?_);refine Ru.N3 (P:=λM H'=>∃z E,(E=[]/\z=ids (i+1)/\st.to= -1\/E=[tM true z λx=>x=st.to/\x≠ -1\/dh g os d b ((aE g b).aA.length - (i+1)) x])/\M=[(eM,.map z),(p0,y),(p1,.aD f 0),(p4,aN b),(p5,.aD C 0),(p6,.slice q 0 ((aE g b).aA.length+1) cap a),(p8,aN i),(ic,p),(ki,aN ap.length),(kV,aN k),(rR,w),(n8,aN (aE g b).aA.length),(na,aN i)]/\ak A H' (E++(tT C f h [O,w,aU (aE g b).aq.op,X,.str (aE g b).aq.name,Y,Z] ids (.slice q 0 ((aE g b).aA.length+1) cap a) ((aE g b).aA.length+1)++(jF ids (λi=>dh g os d b ((aE g b).aA.length - i)) ex ((aE g b).aA.length+1)++(ts++us))))) (λM H' hM=>?_) (λl=>?_);rotate_left
   .refine Ru.cond (λs=>?_) (λs=>?_)
    .have s:st.to≠ -1:=by simpa using s
     refine af ?_;refine RO.i6 U 1 (ws:=[aI st.to]) (n:=1) (λH9 qb U=>?_);have dy:eE H9 [st.to] (.slice qb 0 1 1 true):=U.sl (e:=3) (size:=1) (n:=1) (full:=true) 0;have hat:=GQ (ids:=ids) (P:=λi=>dh g os d b ((aE g b).aA.length - i)) (ex:=ex) (n:=(aE g b).aA.length+1) (i:=i+1) aa;rw[a' (i+1) aa]at hat;refine RO.cl (xY T U (5+(i+1)) (pG (i:=i+1) (xs:=[_,_,_,_,_]) hat) dy aC λba z fq cv U=>?_);have U:=U.Cw (S':=λx=>x=st.to/\x≠ -1\/dh g os d b ((aE g b).aA.length - (i+1)) x) 0 rfl λx=>by rw[cv,abP];exact or_congr ⟨λf0=>⟨f0,aa⟩,λf0=>f0.1⟩ ⟨λf0=>f0.1,λf0=>⟨f0,by have:=B ((aE g b).aA.length - (i+1)) aa x f0;omega⟩⟩
     exact RO.bg (RO.nil (l _ _ _ ⟨z,[tM true z _],.inr rfl,rfl,((U.sub (.cons_cons _ (.cons _ (.cons _ (aiE _))))))⟩ dC))
    have s:st.to= -1:=by simpa using s
    exact Ru.skip (l _ _ _ ⟨ids (i+1),[],.inl ⟨rfl,rfl,s⟩,rfl,U.tail⟩ dC)
   obtain⟨z,E,hE,rfl,U⟩:=hM;refine af ?_;refine RO.cZ U (E.length+2) (hi:=pG (i:=2) (m:=jF ids (λi=>dh g os d b ((aE g b).aA.length - i)) ex ((aE g b).aA.length+1)++(ts++us)) rfl) (hv:=P i aa) ?_;rw[<-ahD]at U;refine RO.cl ((GU c (P:=λi=>dh g os d b ((aE g b).aA.length - i)) (n:=(aE g b).aA.length+1) (i:=i) aa (B _ aa) S U).mono ?_);rintro v H9⟨rfl,bb,R,U⟩;refine af ?_;have key:YF ab y [.map z] H9 λv H'=>v=.bool true/\∃cd ex,J (h0++[qP g os d b]++(h1++[dh g os d b ((aE g b).aA.length - i),λx=>x=st.to/\x≠ -1\/dh g os d b ((aE g b).aA.length - (i+1)) x])) cd/\(∀j,i+1<j->ex j=true)/\ak A H' (tT C f h [O,w,aU (aE g b).aq.op,X,.str (aE g b).aq.name,Y,Z] ids (.slice q 0 ((aE g b).aA.length+1) cap a) ((aE g b).aA.length+1)++(jF ids (λi=>dh g os d b ((aE g b).aA.length - i)) ex ((aE g b).aA.length+1)++(cd++us))):=by
    rcases hE with⟨rfl,rfl,s⟩|rfl
    .rw[aiY]at U;refine(GU c (P:=λi=>dh g os d b ((aE g b).aA.length - i)) (n:=(aE g b).aA.length+1) (i:=i+1) aa (B _ aa) R U).mono ?_;rintro v ba⟨rfl,F,G,U⟩;refine⟨rfl,F,_,?_,λj hj=>?_,U⟩;·have e:(λx=>x=st.to/\x≠ -1\/dh g os d b ((aE g b).aA.length - (i+1)) x)=dh g os d b ((aE g b).aA.length - (i+1)):=funext λx=>propext ⟨λf0=>f0.elim (λf0=>absurd (f0.1.trans s) f0.2) id,.inr⟩;rw[e];simpa only[ahD,aiR,aiY]using G
     rw[an aa,an aa];exact a' j aa
    have U:ak A H9 (tM true z (λx=>x=st.to/\x≠ -1\/dh g os d b ((aE g b).aA.length - (i+1)) x)::((tT C f h [O,w,aU (aE g b).aq.op,X,.str (aE g b).aq.name,Y,Z] ids (.slice q 0 ((aE g b).aA.length+1) cap a) ((aE g b).aA.length+1)++jF ids (λi=>dh g os d b ((aE g b).aA.length - i)) (λj=>if j=i then false else ex j) ((aE g b).aA.length+1))++(bb++us))):=by rw[ahD];exact U
    refine(GS c (λx hx=>hx.elim (λf0=>by rw[f0.1];exact dv (f0.1▸f0.2)) (B _ aa x)) R U).mono ?_;rintro v ba⟨rfl,F,G,U⟩;have U:=U.tail;rw[ahD]at U;refine⟨rfl,F,_,?_,λj hj=>?_,U⟩;·simpa only[ahD,aiR,aiY]using G
    rw[an aa];exact a' j aa
   refine RO.cl (key.mono ?_);rintro v ba⟨rfl,F,dz,G,cx,U⟩;refine af ?_;exact Ru.wk (Q _ F dz G cx U)
  refine Ru.exitTo ?_;obtain rfl:i=(aE g b).aA.length:=aa;refine af ?_;refine RO.cZ U 2 (hv:=P (aE g b).aA.length aa) (RO.cl ((GU c (P:=λi=>dh g os d b ((aE g b).aA.length - i)) (n:=(aE g b).aA.length+1) (i:=(aE g b).aA.length) aa (B _ aa) S U).mono ?_));rintro v H9⟨rfl,bb,R,U⟩;refine af ?_;exact Ru.wk (ih _ bb (by simpa only[tQ,Nat.sub_self,ahD,aiR,aiY]using R) (U.sub (.cons _ (.cons_cons _ (.cons _ (List.sublist_append_right _ _))))))
 refine Ru.exitTo ?_;rw[aic aa]at S;refine af ?_;exact Ru.aq (vs:=[]) trivial (cf W ts _ U.tail S)
end
end
section
def tN:Th where
 P _ c:=c=[]
 fr h _ _:=h
 lt h:=λj hj=>by rw[h]at hj;cases hj
def tO(D:Bool)(q:ah)(S:Int->Prop):Th:=if D then tM false q S else tN
def fO(n:Nat)(D:Nat->Bool)(ids:Nat->ah)(S:Nat->Int->Prop):List Th:=(ah7 n).map λv=>tO (D v) (ids v) (S v)
def jG(D:Nat->Bool)(ids:Nat->ah)(v:Nat):AV:=if D v then .map (ids v)else .cL
def iE(n:Nat)(D:Nat->Bool)(ids:Nat->ah):List AV:=(ah7 n).map (jG D ids)
section
variable{n:Nat}{D a:Nat->Bool}{ids b:Nat->ah}{S S':Nat->Int->Prop}{f d m:ah}{us:List Th}{A H:ai}
theorem CN:(iE n D ids).length=n:=by simp[iE]
theorem aeC:(fO n D ids S).length=n:=by simp[fO]
theorem GV{v:Nat}(c:v<n):(fO n D ids S)[v]?=some (tO (D v) (ids v) (S v)):=by simp[c,fO,aiw,List.getElem?_range,aip]
theorem aeD{v:Nat}(c:v<n){q:ah}{P:Int->Prop}:(fO n D ids S).set v (tM false q P)=fO n (λx=>if x=v then true else D x) (λx=>if x=v then q else ids x) (dP S v P):=by
 apply ai2 (by simp[fO]);intro j h1 h2;simp only[fO,List.getElem_set,aiD,aju,dP];by_cases e:v=j;·simp[e,tO]
 grind
theorem N5{v y:Int}{l:List Int}:y∈fR v l↔y∈l/\y≠v:=rD v y l
theorem N6{A H0:ai}{c:az AV}{ks:List Int}{t1 t t3:Th}(E:ks.Nodup)(F:∀j,j<n->D j=true->∃t0:List Int,iA H0 (ids j)=some t0/\t0.Nodup/\(∀x,x∈t0↔S j x)/\ids j≠m)(N:∀j,j<n->c.bp .ajS (0+j)=jG D ids j)(O:∀j,j<n->D j=false->∀x,¬S j x):∀(l:List Int)(C:az AV)(H':ai)(a:Nat->Bool)(b:Nat->ah)(S':Nat->Int->Prop),l.Nodup->(∀k∈l,0<=k/\k<n)->(∀j,j<n->(j:Int)∈l->a j=D j/\b j=ids j/\S' j=S j)->(∀j,j<n->C.bp .ajS (0+j)=jG a b j)->ak A H' (t1::t::t3::(fO n a b S'++us))->∃v w r g y,sL c 0 n m ks H0 l C H'=some (v,w)/\ak A w (t1::t::t3::(fO n r g y++us))/\(∀j,j<n->v.bp .ajS (0+j)=jG r g j)/\(∀j,j<n->(r j=true↔a j=true\/(j:Int)∈l))/\∀j,j<n->∀x,y j x↔S' j x\/(j:Int)∈l/\x∈ks/\x≠j
 |[],C,H',a,b,S',_,_,_,I,U=>⟨C,H',a,b,S',rfl,U,I,λj _=>by simp,λj _ x=>by simp⟩
 |k::l,C,H',a,b,S',s,G,h3,I,U=>by
  rw[aiz]at s;have⟨ag,av⟩:=G k (acI ..);obtain⟨j,rfl⟩:∃j:Nat,k=(j:Int):=⟨k.toNat,aa⟩;have o:j<n:=aa;have⟨e1,e2,Q⟩:=h3 j o (acI ..);have hat:(t1::t::t3::(fO n a b S'++us))[3+j]?=some (tO (a j) (b j) (S' j)):=pG (xs:=[_,_,_]) (GV o);have u:∀{q:ah}{P:Int->Prop},(t1::t::t3::(fO n a b S'++us)).set (3+j) (tM false q P)=t1::t::t3::(fO n (λx=>if x=j then true else a x) (λx=>if x=j then q else b x) (dP S' j P)++us):=λ{q P}=>by refine(NC (xs:=[t1,t,t3]) (l:=fO n a b S') (by rw[aeC];exact o)).trans ?_;rw[aeD o];rfl
  have B:∀i,i<n->(i:Int)∈l->i≠j:=λi _ hi e=>s.1 (e▸hi);have aq:∀{q:ah}{P:Int->Prop}{c2:az AV}{J:ai},ak A J (t1::t::t3::(fO n (λx=>if x=j then true else a x) (λx=>if x=j then q else b x) (dP S' j P)++us))->(∀i,i<n->c2.bp .ajS (0+i)=jG (λx=>if x=j then true else a x) (λx=>if x=j then q else b x) i)->(∀x,P x↔S' j x\/x∈ks/\x≠(j:Int))->∃v w r g y,sL c 0 n m ks H0 l c2 J=some (v,w)/\ak A w (t1::t::t3::(fO n r g y++us))/\(∀j,j<n->v.bp .ajS (0+j)=jG r g j)/\(∀i,i<n->(r i=true↔a i=true\/(i:Int)∈(j:Int)::l))/\∀i,i<n->∀x,y i x↔S' i x\/(i:Int)∈(j:Int)::l/\x∈ks/\x≠i:=by
   intro q P c2 J p L T;obtain⟨v,w,r,g,y,V,W,X,Y,Z⟩:=N6 E F N O l c2 J _ _ _ s.2 (λk hk=>G k (adT _ hk)) (λi hi R=>by have:=B i hi R;have⟨a1,a2,a3⟩:=h3 i hi (adT _ R);simp only[an this,dP];exact⟨a1,a2,a3⟩) L p;refine⟨v,w,r,g,y,V,W,X,λi hi=>?_,λi hi x=>?_⟩
   .rw[Y i hi,acT];by_cases e:i=j;·subst e;simp
    rw[an e];have:¬((i:Int)=(j:Int)):=aa;simp[this]
   rw[Z i hi,acT];by_cases e:i=j;·subst e;simp only[dP,bi,T,true_or,true_and];have:=s.1;simp[this]
   have h9:¬((i:Int)=(j:Int)):=aa;simp only[dP,an e,h9,false_or]
  simp only[sL];simp only[ajP aiV o,bi,N j o];cases z:D j with
  |false=>
   simp only[jG,z,acg,bF];have⟨fp,K,_,hu⟩:=U.iO (3+j) hat;rw[e1,z]at K;have M:(fR (aiC j) ks).Nodup:=Bs E;have p:=hu (H':=H'.new (.cS (du (fR (aiC j) ks)))) (fp':=[H'.next]) (t':=tM false H'.next λx=>x∈ks/\x≠(j:Int)) ⟨by rw[ai.lr];omega,λi hi=>by rw[abP]at hi;exact .inr (by rw[hi];exact afM _),λi _ hi=>by rw[ai.cO,an (λe=>by rw[e]at hi;omega)]⟩ ⟨abP.2 rfl,λj hj=>abP.1 hj,⟨_,by rw[ai.cO,aG rfl];exact uw M,λx=>N5⟩,(λh=>by cases h),by rw[ai.lr];omega⟩;rw[u]at p;refine aq p (λi hi=>?_) (λx=>?_)
   .rw[li];simp only[aiv,jG];by_cases e:i=j;·subst e;simp
    rw[an aa,an e,an e,I i hi,jG]
   rw[Q];have:=O j o z x;simp[this]
  |true=>
   have⟨t0,q1,q2,d,q4⟩:=F j o z;simp only[jG,z,bi,vD q4,acg,bF,q1];rw[e1,z,e2]at hat;have⟨_,_,H⟩:=U.lE _ hat;have p:=U.sc (H':=H'.set (ids j) (.cS (du (fx (fR (aiC j) ks) t0)))) (q:=ids j) _ hat (t':=tM false (ids j) λx=>S' j x\/x∈ks/\x≠(j:Int)) rfl (λi hi=>by rw[ai.aF,an hi]) (λfp K=>K.1) ⟨abP.2 rfl,λj hj=>abP.1 hj,⟨_,by rw[ai.aF,aG rfl];exact uw (pf _ q2),λx=>by rw[mc,N5,d,Q,or_comm];rfl⟩,(λh=>by cases h),H⟩;rw[u]at p;refine aq p (λi hi=>?_) (λx=>ajH);rw[I i hi];simp only[jG];by_cases e:i=j;·subst e;simp[e1,z,e2]
   rw[an e,an e]
end
end
section
section
variable{n:Nat}{D:Nat->Bool}{ids:Nat->ah}{S:Nat->Int->Prop}{a b m:ah}{us:List Th}{A H:ai}{M:Int->Prop}
theorem aeE(U:ak A H (tM false m M::tB nY b [.slice a 0 n n true]::tB eL a (iE n D ids)::(fO n D ids S++us)))(W:∀x,M x->0<=x/\x<n)(X:∀j,j<n->D j=false->∀x,¬S j x):∃H' s d C,(∀ac:az AV,ac.get .ajS (sl 4)=.map m->ac.get .ajS (sl 3)=.aD b 0->wR ac H=some (jw ac nR,H'))/\(∀j,j<n->(s j=true↔D j=true\/M j))/\(∀j,j<n->∀x,C j x↔S j x\/M j/\M x/\x≠j)/\ak A H' (tM false m M::tB nY b [.slice a 0 n n true]::tB eL a (iE n s d)::(fO n s d C++us)):=by
 have⟨⟨ks,p,w⟩,_,T⟩:=U.lE 0 rfl;have⟨k1,u⟩:=Ae p;have hat:∀{j},j<n->D j=true->(tM false m M::tB nY b [.slice a 0 n n true]::tB eL a (iE n D ids)::(fO n D ids S++us))[3+j]?=some (tM false (ids j) (S j)):=λ{j}hj hd=>by have:=pG (xs:=[tM false m M,tB nY b [.slice a 0 n n true],tB eL a (iE n D ids)]) (m:=us) (GV (D:=D) (ids:=ids) (S:=S) hj);rw[hd]at this;exact this
 have⟨f2,K⟩:=U.get 2 rfl;have⟨c,Y,Z,V⟩:=tB.GD K;rw[CN]at Y;have q:∀j,j<n->c.bp .ajS (0+j)=jG D ids j:=λj hj=>by rw[aif,Z j (by rw[CN];exact hj)];simp[iE]
 have ag:aY H b 0=some (.slice a 0 n n true):=by obtain⟨_,r⟩:=U.get 1 rfl;exact tB.cell r rfl
 have av:b≠a:=U.ne 1 2 rfl rfl aa (λf h=>h.1) (λf h=>h.1);have ef:∀{l:List Int},l.Nodup->(∀k∈l,0<=k/\k<n)->(jx c 0 l).Nodup:=by
  intro l;induction l with
  |nil=>intro _ _;exact ajD
  |cons k l E=>
   intro G g;rw[aiz]at G;have E:=E G.2 λk I=>g k (adT _ I);simp only[jx];split
   .rename_i N t;rw[aiz];refine⟨λL=>?_,E⟩;have⟨u,y,o⟩:=sO.1 L;have h1:=g k (acI ..);have h2:=g u (adT _ y);have z:k.toNat<n:=aa;have B:u.toNat<n:=aa;rw[q _ z,jG]at t;rw[q _ B,jG]at o;split at t
    .rename_i d1;split at o;·rename_i d2;injection t with t;injection o with o;have aw:k.toNat≠u.toNat:=λe=>G.1 (by rw[show k=u by omega];exact y);exact U.ne _ _ (hat z d1) (hat B d2) aa (λf h=>h.1) (λf h=>h.1) (t.trans o.symm)
     cases o
    cases t
   exact E
 have g:∀k∈ks,0<=k/\k<n:=λk I=>W k ((w k).1 I);obtain⟨F,v,s,d,C,g1,J,g3,g4,g5⟩:=N6 (m:=m) (H0:=H) p.1 (λj hj hd=>by have⟨⟨t0,R,O⟩,_,_⟩:=U.lE _ (hat hj hd);exact⟨t0,(Ae R).1,R.1,O,U.ne _ 0 (hat hj hd) rfl aC (λf h=>h.1) (λf h=>h.1)⟩) q X ks c H D ids S p.1 g (λ_ _ _=>⟨rfl,rfl,rfl⟩) q U;have P:a.am<v.next.am:=by obtain⟨_,r⟩:=J.get 2 rfl;obtain⟨_,_,_,_,_,h⟩:=r;exact h
 have Q:m.am<v.next.am:=(J.lE 0 rfl).2.2;have L1:=J.sc (H':=v.set a (.cells F n eL true [] 0)) (q:=a) 2 rfl (t':=tB eL a (iE n s d)) rfl (λi hi=>by rw[ai.aF,an hi]) (λfp r=>r.1) ⟨abP.2 rfl,λj hj=>abP.1 hj,F,by rw[ai.aF,aG rfl,CN],λj hj=>by rw[CN]at hj;have:=g3 j hj;rw[aif]at this;rw[this];simp[iE],P⟩;have L2:=L1.sc (H':=(v.set a (.cells F n eL true [] 0)).set m (.cS (du ks))) (q:=m) 0 rfl (t':=tM false m M) rfl (λi hi=>by rw[ai.aF,an hi]) (λfp r=>r.1) ⟨abP.2 rfl,λj hj=>abP.1 hj,⟨ks,by rw[ai.aF,aG rfl];exact uw p.1,w⟩,(λh=>by cases h),Q⟩;refine⟨((v.set a (.cells F n eL true [] 0)).set m (.cS (du ks))).skip,s,d,C,λac e4 e3=>?_,λj hj=>?_,λj hj x=>?_,?_⟩;·unfold wR;rw[e4,e3];have ho:=(EM _).2 (ef p.1 g);simp_all[vD,aif,aiB,afM,Bool.not_false,ajL,bi]
 .simp_all
 .simp_all
 exact L2.bR ⟨by show _<=(ah.succ _).am;simp[ah.eX],λj _=>rfl⟩
end
end
section
theorem RO.aeF{A H:ai}{j:List Th}{c:Cx}{s:List SI}{L:Kn}{d:Option ah}{l:List bD}{e bytes size n:Nat}(U:ak A H j){g:List AV}{x y:aJ}(t:∀H' q,ak A H' (tB e q (dY g n)::j)->RO ab c l s (bq L d (.slice q 0 n n true)) H')(o:aT L x=.int 3 (.ofNat n):=by exact cw)(p:aT L y=.int 3 (.ofNat n):=by exact cw)(hz:(dY g n).length=n*size)(hb:n*bytes<=70368744177664:=by omega)(r:n<=70368744177664:=by omega):RO ab c (⟨d,.mH e bytes size g x y,none,[],[]⟩::l) s L H:=by have:=U.E1 e (dY g n);grind[RO.mH]
section
variable{g:G.aP}{h i av k:AV}{a b:ah}{A H:ai}{m:List AV}{come:List Bool}{os:List (List bt)}{ap:List Nat}{f:List (List Int)}
theorem _root_.Go.al.ak.N7{A H:ai}{c:List Th}(U:ak A H c):∀n,ak A H (c++acJ n tN)
 |0=>by grind
 |n+1=>by
  have:=(U.N7 n).push (aS.refl H) (t:=tN) (fp:=[]) rfl λj hj=>by cases hj
  exact this.bV aii.symm
theorem N8(T:Tb ab){K:KT}(c:∀H' q,ak H H' [tB jQ q [.aD a 0]]->K (.func BW [] [.aD q 0]) H'):YN ab WT [.aD a 0] H K:=by refine YF.code T.Y7 aC (au ?_);refine RO.ct (ak.bN H) λH1 q U=>af ?_;exact Ru.aL (c _ _ U)
def N9(c:List (Int->Prop))(n:Nat)(D:Nat->Bool)(S:Nat->Int->Prop):Prop:=(∀j,j<n->(D j=true↔∃C∈c,C j))/\∀j,j<n->∀x,S j x↔∃C∈c,C j/\C x/\x≠j
theorem aeG(T:Tb ab)(V:Vd g)(F:FX g A a h i av k m come os ap f)(I:b9 g come os)(J:eT g come os ap)(y:fN g come os f){n:Nat}(L:g.aQ=n){K:KT}(ag:∀H' d D c S,N9 (kZ g os f ap) n D S->ak A H' (tB eL d (iE n D c)::fO n D c S)->K (.slice d 0 n n true) H'):YN ab WV [.aD a 0] A K:=by
 have z:=F.c2;rw[L]at z;have X:=V.fm.fv.h2;refine YF.code T.Y9 aC (af ?_);refine RO.aeF (ak.bN A) (n:=n) (λZ d U=>?_) (hz:=by rw[eK];simp);refine RO.dS U λH3 s U=>af ?_;refine RO.cl (N8 T λM b hl=>?_);have U:=U.dq hl;refine af ?_;refine Ru.wk (L:=[(ic,.func BW [] [.aD b 0]),(p3,.aD s 0)]) ?_;have B:dY [AV.cL] n=iE n (λ_=>false) (λ_=>d):=by rw[eK];apply ai2 (by simp[iE]);intro j h1 h2;simp[iE,jG]
 rw[B]at U;have U:=U.N7 n;have U:ak A M ([tB jQ b [.aD a 0]]++(tB nY s [.slice d 0 n n true]::tB eL d (iE n (λ_=>false) λ_=>d)::fO n (λ_=>false) (λ_=>d) λ_ _=>False)++[]):=by
  have e:fO n (λ_=>false) (λ_=>d) (λ_ _=>False)=acJ n tN:=by apply ai2 (by simp[fO]);intro j h1 h2;simp[fO,tO]
  rw[e,aiS];exact U
 refine Ru.NW (J:=λr ts=>∃D c S,N9 r n D S/\ts=tB nY s [.slice d 0 n n true]::tB eL d (iE n D c)::fO n D c S) U (N4 T V F I J y) ⟨_,_,_,⟨λj hj=>by simp,λj hj x=>by simp⟩,rfl⟩ (λr C q ts us l o1 o2 H N u U=>?_) λH' Y O u U=>?_
 .obtain⟨D,c,S,o,rfl⟩:=u;refine af ?_;refine Ru.cY (xs:=tM false q C::tB nY s [.slice d 0 n n true]::tB eL d (iE n D c)::fO n D c S) U λH6 U=>?_;obtain⟨P,v,p,G,hg,Q,R,U⟩:=aeE U (λx w=>by have:=N x w;omega) (λj hj hd x w=>by have⟨W,E,h1,_⟩:=(o.2 j hj x).1 w;rw[(o.1 j hj).2 ⟨W,E,h1⟩]at hd;cases hd);refine af ?_;refine Ru.dL (ch:=nR) (H':=P) T.aa9 (M:=[(p3,.aD s 0)]) (λac t=>hg ac (t.get (p:=sl 4) rfl rfl) (t.get (p:=sl 3) rfl rfl)) (af ?_);refine Ru.bz (ts:=tM false q C::tB nY s [.slice d 0 n n true]::tB eL d (iE n v p)::fO n v p G) U ⟨_,rfl,v,p,G,⟨λj hj=>?_,λj hj x=>?_⟩,rfl⟩;·rw[Q j hj,o.1 j hj];simp only[adX,abP,or_and_right,exists_or,exists_eq_left]
  rw[R j hj,o.2 j hj];simp only[adX,abP,or_and_right,exists_or,exists_eq_left]
 obtain⟨D,c,S,o,rfl⟩:=u;refine af ?_;have U:=U.tail;refine Ru.jl (M:=[O]) (U.bV (aii (l₁:=tB eL d (iE n D c)::fO n D c S) (l₂:=[]))) λH' U=>⟨[.slice d 0 n n true],⟨rfl,rfl,trivial⟩,ag H' d D c S o ((aiS (fO n D c S))▸U)⟩
end
end
section
section
variable{g:G.aP}{come:List Bool}{os:List (List bt)}{ap:List Nat}{a:List (List Int)}
theorem GW(V:Vd g)(d:ny g come os){b:Nat}(hb:come.getD b false=true){x bu:Int}(h:(x,bu)∈fD (aE g b)):vr g come os b x:=by
 have⟨t,e,i,c⟩:=d.rd b hb _ h;subst e;have:=zX V.gv.v0;refine⟨aC,aa,?_⟩;rcases c with c|⟨h1,_⟩|⟨s,h1,_,h3,f⟩;·omega
 .exact .inr ⟨b,by grind,hb,.Gb⟩
 exact .inr ⟨s,by grind,h3,f⟩
theorem Oa(V:Vd g)(c:b9 g come os)(i:eT g come os ap)(d:fN g come os a){b w:Nat}(hb:come.getD b false=true)(e:w∈wW g os b){x:Int}(h:x∈a.getD w []):vr g come os b x:=by have f:=c.iq hb e;have⟨h0,h1,h2⟩:=((d.mem w f x).1 h).zY V.cK c (V.oG come os c) V.gv i f;exact⟨h0,h1,h2.imp id λ⟨s,h3,j,k,l⟩=>⟨s,h3,k,l.cz e j⟩⟩
theorem Ob(V:Vd g)(c:b9 g come os)(i:eT g come os ap)(d:fN g come os a){b:Nat}(hb:come.getD b false=true){x:Int}(h:x∈jE g a (os.getD b [])):vr g come os b x:=by
 unfold jE at h;split at h;·rename_i t j;have⟨u,hu,e,f,m,_⟩:=qG V.cK c hb j;have⟨h0,h1,h2⟩:=Oa V c i d e f h;exact⟨h0,h1,h2.imp id λ⟨s,h3,k,l⟩=>⟨s,h3,k,l.trans (MG V.cK c hu)⟩⟩
 grind
theorem aeH(V:Vd g)(d:b9 g come os)(i:eT g come os ap)(f:fN g come os a){b:Nat}(hb:come.getD b false=true):∀k,k<=(aE g b).aA.length->∀x,dh g os a b k x->vr g come os b x:=by
 have c:=V.oG come os d;intro k;induction k with
 |zero=>
  rintro _ x(h|h|⟨e,he,h⟩|⟨w,j,h⟩);·grind[Ob]
  .exact GW V c hb (Al h)
  .exact GW V c hb (Am he h)
  grind[Oa]
 |succ k l=>
  rintro m x(h|h|⟨h,_⟩);·grind[Ob]
  .rw[bf aa]at h;exact GW V c hb (CJ _ h)
  grind
theorem Oc(V:Vd g)(c:b9 g come os){b:Nat}(hb:come.getD b false=true){x p:Int}(h:(x,p)∈cD (aE g b)):vr g come os b x:=by have h1:=V.oE _ (kY (c.lt hb)) _ h;exact⟨h1.1,h1.2,.inr ⟨b,by rw[vq,V.gv.at (c.lt hb) h],hb,.Gb⟩⟩
theorem aeI(V:Vd g)(c:b9 g come os){b:Nat}(hb:come.getD b false=true){x:Int}(h:x∈mE g b):vr g come os b x:=by
 have d:=N0 V (c.lt hb) x h;unfold mE at h;split at h;·obtain⟨v,e,rfl⟩:=aia.1 h;rw[aiO]at e;exact⟨d.1,d.2,.inl aa⟩
 exact Oc V c hb (CE h)
theorem Od(V:Vd g)(e:b9 g come os)(h:eT g come os ap)(f:fN g come os a){C:Int->Prop}(d:C∈kZ g os a ap):∃b,come.getD b false=true/\∀x,C x->vr g come os b x:=by
 have⟨b,hb,d⟩:=aiG.1 d;have c:=(h.mem b).1 hb;refine⟨b,c,λx j=>?_⟩;have k:=aeH V e h f c;simp only[tQ,adX,acT,aiG,aiO,qQ,aie,or_false]at d;rcases d with(rfl|⟨i,hi,rfl|rfl⟩)|rfl;·exact j.elim (aeI V e c) (k _ (afM _) x)
 .grind
 .refine j.elim (λ⟨h1,h2⟩=>?_) (k _ aC x);rw[bf hi]at h1;subst h1;exact Oc V e c (Aj hi h2)
 grind
theorem aeJ(V:Vd g)(e:b9 g come os)(f:eT g come os ap)(c:fN g come os a){C:Int->Prop}(i:C∈kZ g os a ap):CM g C:=λx d=>by have⟨b,_,h⟩:=Od V e f c i;exact⟨(h x d).1,(h x d).2.1⟩
end
end
section
def gB(g:G.aP)(b:Nat):List Int:=(cD (aE g b)).map ajR
def pL(g:G.aP):List Int:=(ah7 g.params.toNat).map λ(v:Nat)=>(v:Int)
def CO(g:G.aP)(ap:List Nat):List Int:=pL g++ap.flatMap (gB g)
section
variable{A H:ai}{us ts X:List Th}{a:ah}{y sv:AV}{J:Nat->List Th->Prop}{D:List Th->Prop}{l cz la c:List Int}
end
section
variable{g:G.aP}{d e av f:AV}{h i:ah}{A H:ai}{j:List AV}{come:List Bool}{os:List (List bt)}{ap:List Nat}{k:List (List Int)}
end
end
section
def GY(a:List (Int->Prop))(v w:Int):Prop:=∃C∈a,C v/\C w/\w≠v
inductive GZ(np:Int)(CL:List (Int->Prop))(n:Nat):List Int->List Int->Prop
 |nil:GZ np CL n [] (acJ n (-1))
 |tE{h R:List Int}{v r:Int}:GZ np CL n h R->(v<np->r=v)->(¬v<np->0<=r/\(∀w,GY CL v w->R.getD w.toNat 0≠r)/\∀k:Nat,(k:Int)<r->∃w,GY CL v w/\R.getD w.toNat 0=k)->GZ np CL n (h++[v]) (R.set v.toNat r)
section
variable{g:G.aP}{come:List Bool}{os:List (List bt)}{ap:List Nat}{c:List (List Int)}
theorem G0{x:Int}:x∈pL g↔0<=x/\x<g.params:=by
 simp only[pL,aia,aiO];constructor;·rintro⟨a,h,rfl⟩;omega
 intro h;exact⟨x.toNat,aa,aa⟩
theorem aeK{b:Nat}{x:Int}:x∈gB g b↔∃p,(x,p)∈cD (aE g b):=by simp[gB]
theorem G1{x:Int}:x∈CO g ap↔(0<=x/\x<g.params)\/∃b∈ap,∃p,(x,p)∈cD (aE g b):=by simp only[CO,adX,G0,aiG,aeK]
theorem aeL(V:Vd g)(a:b9 g come os)(d:eT g come os ap){x:Int}(h:x∈CO g ap):0<=x/\x<g.aQ:=by
 have:=V.fm.fv.h1;rcases G1.1 h with h|⟨b,hb,p,e⟩;·omega
 exact V.oE _ (kY (a.lt ((d.mem b).1 hb))) _ e
theorem aeM(V:Vd g)(j:b9 g come os)(d:eT g come os ap)(a:fN g come os c){C:Int->Prop}(k:C∈kZ g os c ap){x:Int}(l:C x):x∈CO g ap:=by
 have⟨b,_,h⟩:=Od V j d a k;have⟨h0,h1,h2⟩:=h x l;by_cases f:x<g.params;·exact G1.2 (.inl ⟨h0,f⟩)
 have⟨s,e,hs,_⟩:=h2.resolve_left f;have⟨i,p,hi,m,he⟩:=V.gv.fQ aa h1;rw[vq,he]at e;obtain rfl:i=s:=Int.ofNat.inj e;exact G1.2 (.inr ⟨i,(d.mem i).2 hs,p,m⟩)
structure ahV(np:Int)(CL:List (Int->Prop))(n:Nat)(h R:List Int):Prop where
 len:R.length=n
 no:∀v:Int,0<=v->v<n->v∉h->R.getD v.toNat 0= -1
 is:∀v∈h,0<=R.getD v.toNat 0/\R.getD v.toNat 0<=n
 aK:∀v∈h,v<np->R.getD v.toNat 0=v
 kf:∀v∈h,∀w∈h,GY CL v w->R.getD v.toNat 0≠R.getD w.toNat 0
end
end
end
section
variable{g:G.aP}{come:List Bool}{os:List (List bt)}{ap:List Nat}{c:List (List Int)}
inductive G2(W:Nat->List Nat)(b:Nat):Nat->Prop
 |one{x:Nat}(h:x∈W b):G2 W b x
 |step{a x:Nat}(h:G2 W b a)(hn:a≠b)(hx:x∈W a):G2 W b x
end
section
variable{g:G.aP}{come:List Bool}{os:List (List bt)}{ap:List Nat}{a:List (List Int)}
end
section
variable{ab:Nat->aV}
section
section
variable{g:G.aP}{a b av c:AV}{d e:ah}{A H:ai}{f:List AV}{come:List Bool}{os:List (List bt)}{ap:List Nat}{h:List (List Int)}
end
end
section
structure G3(CL:List (Int->Prop))(n:Nat)(cl:List (List Int)):Prop where
 len:cl.length=n
 Oe:∀j,j<n->(cl.getD j []).Pairwise (·<·)
 mem:∀j,j<n->∀x,x∈cl.getD j []↔∃C∈CL,C j/\C x/\x≠j
theorem Of{n:Nat}{l:List Int}(g:l.Nodup)(hl:∀x∈l,0<=x/\x<n):l.length<=n:=by have:=rX n (l.map Int.toNat) (List.pairwise_map.2 (List.Pairwise.imp_of_mem (λ{x y}a b f e=>f (by have:=hl x a;have:=hl y b;omega)) g)) (λx a=>by obtain⟨y,b,rfl⟩:=aia.1 a;have:=hl y b;omega);simpa using this
theorem aeN(T:Tb ab){A H:ai}{F:List Th}{t0:Th}{a:ah}{n k:Nat}{D:Nat->Bool}{ids:Nat->ah}{S:Nat->Int->Prop}(r:k<n)(s:n<=1000)(t:∀x,S k x->0<=x/\x<n)(u:D k=false->∀x,¬S k x)(U:ak A H (tZ F::t0::tB eL a (iE n D ids)::fO n D ids S)):YN ab K4 [jG D ids k] H λv H'=>∃l:List Int,(∀x,x∈l↔S k x)/\l.Pairwise (·<·)/\v.br=true/\v.cW=true/\v.cells=[v]/\ak A H' (tZ (tR 1 (l.map aI) l.length v::F)::t0::tB eL a (iE n D ids)::fO n D ids S):=by
 unfold jG;cases hd:D k with
 |true=>
  have hat:(tZ F::t0::tB eL a (iE n D ids)::fO n D ids S)[3+k]?=some (tM false (ids k) (S k)):=by have:=pG (xs:=[tZ F,t0,tB eL a (iE n D ids)]) (m:=[]) (GV (D:=D) (ids:=ids) (S:=S) r);rw[hd,aiS]at this;exact this
  refine aeq T U _ hat (λks e w=>aji (Of e λx y=>t x ((w x).1 y)) s) λH' v l h1 h2 U=>?_;have f:Sl H' 1 (l.map aI) l.length v:=by obtain⟨_,b⟩:=U.get 0 rfl;exact b.1
  have⟨g,j,q,_⟩:=f.all;exact⟨l,h1,h2,g,j,q,U.iC⟩
 |false=>exact YF.fF (v:=.bh) (H':=H) T.Fk rfl ⟨[],λx=>⟨λB=>absurd B aC,λB=>absurd B (u hd x)⟩,ajO,rfl,rfl,rfl,(((U.mh 3 1).as 0 rfl λz b=>tS.io b).iC)⟩
section
variable{g:G.aP}{d i av m:AV}{h p:ah}{A H:ai}{o:List AV}{come:List Bool}{os:List (List bt)}{ap:List Nat}{c:List (List Int)}
theorem aeO(T:Tb ab)(V:Vd g)(hF:FX g A h d i av m o come os ap c)(Y:b9 g come os)(Z:eT g come os ap)(z:fN g come os c){n:Nat}(hn:g.aQ=n)(J:n<=1000){K:KT}(a8:∀H' v cl,G3 (kZ g os c ap) n cl->aS A H'->pD H' cl v->K v H'):YN ab WU [.aD h 0] A K:=by
 refine YF.code T.Y8 aC (af ?_);refine RO.cl (aeG T V hF Y Z z hn λH1 qs D f S r U=>af ?_);have U:=(U.mh cB 1).lU;refine Ru.nm λS0 M hS hM=>Ru.bI hM (up (P:=λk=>∀E q(cl:List (List Int))F v,cl.length=k->fA cl q F->(∀j,j<k->(cl.getD j []).Pairwise (·<·)/\∀x,x∈cl.getD j []↔∃C∈kZ g os c ap,C j/\C x/\x≠j)->ak A E (tZ F::tS cB 1 q k true v::tB eL qs (iE n D f)::fO n D f S)->Ru ab _ S0 ([(p8,aN k),(p2,v)]++pk M [p6,p7]) E) n (λk hk G E q cl F v s t y U=>?_) 0 aa _ [] [] [] .bh rfl ⟨rfl,λb hb=>absurd hb aC⟩ (λj hj=>by omega) U);subst hS;subst hM;have⟨ag,aw,ax,_⟩:=(U.sl (e:=cB) (size:=1) (sv:=v) (vs:=q) (n:=k) (full:=true) 1).all;refine Ru.loop (au ?_);refine Ru.cond (λa=>?_) (λa=>?_)
 .have L:(iE n D f)[0+k*1]?=some (jG D f k):=by rw[show 0+k*1=k by omega];simp only[iE,aiw,List.getElem?_range a,aip]
  have G:=G (k+1) aa aa;have B:=aeN T (S:=S) a J (λx H=>by have⟨C,I,_,h2,_⟩:=(r.2 k a x).1 H;have:=aeJ V Y Z z I x h2;omega) (λhd x H=>by have⟨C,I,h1,_⟩:=(r.2 k a x).1 H;rw[(r.1 k a).2 ⟨C,I,h1⟩]at hd;cases hd) U;have N:(jG D f k).br=true:=by unfold jG;split<;>rfl
  refine af ?_;refine RO.eD U 2 (hv:=L) ?_;generalize jG D f k=u at N B⊢;refine af ?_;refine RO.cl (B.mono ?_);rintro w H7⟨l,O,P,Q,ay,R,U⟩;refine af ?_;refine RO.push U 1 (λw0 H8 v2 U=>?_) (ws:=[w]) (hl:=gT rfl Q R rfl rfl rfl);have⟨a1,a2,a6,_⟩:=(U.sl (e:=cB) (size:=1) (n:=k+1) (full:=true) (sv:=v2) 1).all;refine af ?_;exact Ru.wk (G _ (q++[w]) (cl++[l]) _ v2 (by simp[s]) t.tE (λj hj=>by
   by_cases e:j=k
   .subst e;have e1:(cl++[l]).getD j []=l:=by rw[<-s];simp
    rw[e1];exact⟨P,λx=>(O x).trans (r.2 j a x)⟩
   have e1:(cl++[l]).getD j []=cl.getD j []:=by simp[aij (show j<cl.length by omega)]
   rw[e1];exact y j aa) U)
 refine Ru.exitTo ?_;obtain rfl:k=n:=aa;refine af ?_;have W:=t.len;have X:=U.sl (e:=cB) (size:=1) (sv:=v) (vs:=q) (n:=k) (full:=true) 1;refine Ru.aL (a8 _ v cl ⟨s,λj hj=>(y j hj).1,λj hj=>(y j hj).2⟩ U.gr (t.sl U 0 rfl (by rw[W,s];exact X)))
def Og(z:AV):bm:=(.seq (.region [O p2 (.box cJ (T p0)),O p4 (.bg (C z)),O p5 (.bg (I 3 0))]) (.seq (.region [O p8 (.eF 4 (T p2)),O p9 (.call (C (.func E' [] [])) [(T p8)]),O p7 (.bg (T p9)),O eM (.extract (T p7) 0),O eS (.extract (T p7) 1),O p6 (.bg (T eM)),O p5 (.bg (T eS))]) (.seq (.seq (.region [O ib (.bg (T p5)),O jA (.arith .neq 3 (T ib) (I 3 0))]) (.cond (T jA) (.seq (.region [O ic (.bg (T p4)),O ki (.bg (T p5)),O p4 (.bg (T ic)),O p5 (.bg (T ki))]) .ret) .skip)) (.seq (.region [O kV (.bg (T p1)),O ml (.bg (T p6)),O mq (.call (T kV) [(T ml)]),O p4 (.bg (T mq)),O p5 (.bg (I 3 0))]) .ret))))
def Oh(z:AV)(f k:Nat):bm:=(.seq (.region [O p1 (.box cJ (T p0)),O p2 (.bg (C z)),O p3 (.bg (I 3 0))]) (.seq (.region [O p4 (.eF 4 (T p1)),O p5 (.call (C (.func f [] [])) [(T p4),(C (.func k [] []))]),O p6 (.extract (T p5) 0),O p7 (.extract (T p5) 1),O p2 (.bg (T p6)),O p3 (.bg (T p7))]) .ret))
theorem Oi(T:Tb ab)(V:Vd g){z:AV}(D:z.br=true){a b k:Nat}(r:ab a=.code 8 [.tmp p2,.tmp p3] (Oh z b k))(hb:ab b=.code 19 [.tmp p4,.tmp p5] (Og z)){cs:List AV}(hg:dt H g cs){K:KT}(G:∀H' h d i av m o come os ap c,b9 g come os->eT g come os ap->fN g come os c->aS H H'->FX g H' h d i av m o come os ap c->YN ab k [.aD h 0] H' λv n=>v.br=true/\K (.tuple [v,aI 0]) n):YN ab a [.agg cs] H K:=by have q:=hg.one;obtain⟨d,rfl,bG⟩:=hg;have⟨y,A,B,C⟩:=bG.all;refine YF.code r aC (au ?_);refine RO.ct (ak.bN H) λH1 p U=>af ?_;refine RO.co U 0 ?_;refine RO.cl (fv:=.func b [] []) (av:=[.agg [.str g.name,aI g.params,aI g.aQ,d],.func k [] []]) (YF.code hb aC ?_);refine au ?_;refine RO.ct U λn E U=>af ?_;refine RO.co U 0 ?_;refine RO.cl (aen T V (cs:=[.str g.name,aI g.params,aI g.aQ,d]) ⟨d,rfl,bX.block.gp U.gr bG⟩ λs h f i av m o come os ap c t u j l w=>?_);refine af ?_;refine RO.cl ((G s h f i av m o come os ap c t u j (U.gr.trans l) w).mono ?_);rintro v F⟨e,x⟩;refine af ?_;refine Ru.kJ (vs:=[v,aI 0]) ⟨rfl,e,rfl,rfl,trivial⟩ (af ?_);exact Ru.kJ (vs:=[v,aI 0]) ⟨rfl,e,rfl,rfl,trivial⟩ x
theorem aeP(T:Tb ab)(V:Vd g){cs:List AV}(hg:dt H g cs){n:Nat}(r:g.aQ=n)(f:n<=1000){K:KT}(t:∀H' v cl come os ap c,b9 g come os->eT g come os ap->fN g come os c->G3 (kZ g os c ap) n cl->aS H H'->pD H' cl v->K (.tuple [v,aI 0]) H'):YN ab KK [.agg cs] H K:=Oi T V rfl T.K7 T.K9 hg λ_ _ _ _ _ _ _ _ _ _ _ l q a j s=>aeO T V s l q a r f λ_ _ _ k e b=>⟨b.all.1,t _ _ _ _ _ _ _ l q a k (j.trans e) b⟩
end
end
section
section
variable{g:G.aP}{a b av c:AV}{d e:ah}{A H:ai}{f:List AV}{come:List Bool}{os:List (List bt)}{ap:List Nat}{h:List (List Int)}
end
end
section
section
variable{g:G.aP}{a:AV}{A H:ai}
end
end
section
def CP(a:List (Int->Prop))(N:Nat):Prop:=(∀C∈a,∀l:List Int,l.Nodup->(∀x∈l,C x)->l.length<=N)/\(N=0\/∃C∈a,∃l:List Int,l.Nodup/\(∀x∈l,C x)/\l.length=N)
section
variable{c:Cx}{s:List SI}{L:Kn}{A H:ai}{d:Option ah}{l:List bD}{ts:List Th}{q:ah}{ex:Bool}{S:Int->Prop}
theorem Oj{a b:List Int}(g:a.Nodup)(q:∀x∈a,x∈b):a.length<=b.length:=by have:=rX b.length (a.map λx=>b.idxOf x) (List.pairwise_map.2 (g.imp_of_mem λ{x y}c i d e=>d (by have h1:=List.getElem_idxOf (List.idxOf_lt_length_of_mem (q x c));have h2:=List.getElem_idxOf (List.idxOf_lt_length_of_mem (q y i));simp only[e]at h1;exact h1.symm.trans h2))) (λk l=>by obtain⟨x,c,rfl⟩:=aia.1 l;exact List.idxOf_lt_length_of_mem (q x c));simpa using this
theorem RO.aeQ(U:ak A H ts)(i:Nat){x:aJ}(t:∀ks:List Int,ks.Nodup->(∀x,x∈ks↔S x)->RO ab c l s (bq L d (aN ks.length)) H)(hi:ts[i]?=some (tM ex q S):=by rfl)(b:aT L x=.map q:=by exact cw):RO ab c (⟨d,.sj x,none,[],[]⟩::l) s L H:=by
 have⟨⟨ks,⟨g,es,he,k⟩,r⟩,_⟩:=U.lE i hi;have hl:es.length=ks.length:=by simpa using congrArg List.length k
 refine RO.op (λac a=>?_) (t ks g r);unfold dB at he;split at he<;>cases he<;>(rename_i e;simp only[aH,a.gv b rfl,e,hl,pure])
theorem RO.Ol{x y:aJ}{a b:Nat}(i:RO ab c l s (bq L d (aN (max a b))) H)(hx:aT L x=aN a:=by exact cw)(g:aT L y=aN b:=by exact cw):RO ab c (⟨d,.mJ true [x,y],none,[],[]⟩::l) s L H:=by
 refine RO.mJ (v:=aN a) (vs:=[aN b]) i (hx:=by rw[ah2,ah2,ajh,hx,g]) (hd:=rfl) (hr:=?_);show some (AV.int 3 (if jJ (.ofNat a) (.ofNat b)then .ofNat b else .ofNat a))=_;rw[kR];by_cases e:a<b;·rw[decide_eq_true (by simp only[ahU];omega),Nat.max_eq_right aa];rfl
 rw[decide_eq_false (by simp only[ahU];omega),Nat.max_eq_left aa];rfl
end
section
variable{g:G.aP}{m n av o:AV}{h j:ah}{A H:ai}{p:List AV}{come:List Bool}{os:List (List bt)}{ap:List Nat}{f:List (List Int)}
theorem aeR(T:Tb ab)(V:Vd g)(y:FX g A h m n av o p come os ap f)(z:b9 g come os)(B:eT g come os ap)(s:fN g come os f){K:KT}(M:∀H' N,CP (kZ g os f ap) N->aS A H'->K (aN N) H'):YN ab WS [.aD h 0] A K:=by
 refine YF.code T.Y6 aC (af ?_);refine RO.dN (ak.bN A) λH1 c U=>af ?_;refine RO.cl (N8 T λJ j hl=>?_);have U:=U.dq hl;refine af ?_;refine Ru.wk (L:=[(p5,.func BW [] [.aD j 0]),(p2,.aD c 0)]) (Ru.NW (J:=λb ts=>∃N,CP b N/\ts=[tB 3 c [aN N]]) (us:=[]) (Ps:=[tB jQ j [.aD h 0]]) (ts0:=[tB 3 c [aN 0]]) U (N4 T V (y.bR (aS.refl _)) z B s) ⟨0,⟨aC,.inl rfl⟩,rfl⟩ (λb C q ts us l o1 o2 H L i U=>?_) λH' I D i U=>?_)
 .obtain⟨N,e,rfl⟩:=i;refine af ?_;refine Ru.cY (xs:=[tM false q C,tB 3 c [aN N]]) U λE U=>?_;have U:ak A E (tM false q C::tB 3 c [aN N]::tX l o2::us):=U;refine af ?_;refine RO.aeQ U 0 (λks F v=>RO.Ol (RO.dJ U 1 (λG U=>af ?_)));refine Ru.bz (ts:=[tM false q C,tB 3 c [aN (max N ks.length)]]) U ⟨_,rfl,_,⟨λk t a w d=>?_,?_⟩,rfl⟩
  .rcases adX.1 t with M|M;·have:=e.1 k M a w d;omega
   rw[abP]at M;subst M;have:=Oj w λx r=>(v x).2 (d x r);omega
  by_cases u:ks.length<=N;·rw[Nat.max_eq_left u];exact e.2.imp id λ⟨k,h1,h2⟩=>⟨k,ah1 _ h1,h2⟩
  rw[Nat.max_eq_right aa];exact .inr ⟨C,aC,ks,F,λx r=>(v x).1 r,rfl⟩
 obtain⟨N,e,rfl⟩:=i;refine af ?_;refine RO.dJ U 0 (λG U=>af ?_);refine Ru.jl (M:=[D]) (U.bV (aiK ..)) λH' U=>⟨[aN N],⟨⟨c,0,rfl,U.one 0⟩,trivial⟩,M H' N e U.gr⟩
theorem aeS(T:Tb ab)(V:Vd g){cs:List AV}(hg:dt H g cs){K:KT}(q:∀H' N come os ap f,b9 g come os->eT g come os ap->fN g come os f->CP (kZ g os f ap) N->aS H H'->K (.tuple [aN N,aI 0]) H'):YN ab KJ [.agg cs] H K:=Oi T V (z:=Go.al.i 3 0) rfl T.K6 T.K8 hg λ_ _ _ _ _ _ _ _ _ _ _ d e a c k=>aeR T V k d e a λ_ _ l b=>⟨rfl,q _ _ _ _ _ _ d e a l (c.trans b)⟩
end
end
end
section
variable{g:G.aP}{come a:List Bool}{os b:List (List bt)}{ap c:List Nat}{d e:List (List Int)}
end
section
variable{ab:Nat->aV}
section
section
variable{g:G.aP}{come c:List Bool}{os d:List (List bt)}{ap e:List Nat}{a f:List (List Int)}
def x6(g:G.aP)(os:List (List bt))(a:List (List Int))(b:Nat):Nat->Int->Prop
 |0=>qP g os a b
 |k+1=>λx=>x=((aE g b).aA.getD k default).to/\x≠ -1\/dh g os a b ((aE g b).aA.length - (k+1)) x
theorem Om{b k:Nat}(hb:b∈ap)(h:k<=(aE g b).aA.length):x6 g os a b k∈kZ g os a ap:=by refine aiG.2 ⟨b,hb,?_⟩;cases k with|zero=>exact ah1 _ (acI ..)|succ k=>simp only[tQ,adX,acT,aiG,aiO];exact .inl (.inr ⟨k,aa,by simp[qQ,x6]⟩)
theorem aeT{C:Int->Prop}(j:C∈kZ g os a ap):∃b∈ap,∃k,k<=(aE g b).aA.length/\∀x,C x->x6 g os a b k x:=by
 have⟨b,hb,j⟩:=aiG.1 j;refine⟨b,hb,?_⟩;have key:∀k,k<=(aE g b).aA.length->∃l,l<=(aE g b).aA.length/\∀x,dh g os a b ((aE g b).aA.length - k) x->x6 g os a b l x:=λk m=>⟨k,m,λx h=>by cases k with|zero=>exact .inr h|succ k=>exact .inr h⟩;simp only[tQ,adX,acT,aiG,aiO,qQ,aie,or_false]at j;rcases j with(rfl|⟨i,hi,rfl|rfl⟩)|rfl;·exact⟨0,Nat.zero_le _,λx h=>h⟩
 .exact key i aa
 .exact⟨i+1,aa,λx h=>h⟩
 have:=key (aE g b).aA.length (afM _);rwa[Nat.sub_self]at this
end
end
section
section
variable{g:G.aP}{come c:List Bool}{os d:List (List bt)}{ap e:List Nat}{a f:List (List Int)}
end
def CQ(g:G.aP)(come:List Bool)(os:List (List bt))(a:List (List Int))(b:Nat)(pl:List (List Int)):Prop:=
 come.getD b false=true/\pl.length=(aE g b).aA.length+1/\(∀k,k<=(aE g b).aA.length->(pl.getD k []).Pairwise (·<·)/\∀x,x∈pl.getD k []↔dh g os a b ((aE g b).aA.length - k) x)\/come.getD b false=false/\pl=[]
section
variable{g:G.aP}{H:ai}
end
end
end
section
theorem aeU{x:bt}(b:∃t:Nat,x.1=t/\(x.2=0\/x.2=1)):(da x % 2==0)=(x.2==0):=by unfold da;grind
theorem On{g:G.aP}:∀{l:List bt},mC l->((l.map da).find? λx=>x % 2==0).map (λx=>((aE g (x.toNat/2)).aq.go.getD 1 default).block)=(l.find? λx=>x.2==0).map λx=>((aE g x.1.toNat).aq.go.getD 1 default).block|[],_=>rfl|x::l,h=>by have b:=h x (acI ..);rw[ah2,List.find?_cons,List.find?_cons,aeU b];cases x.2==0 with|true=>simp[b,aip,Ag]|false=>exact On λy c=>h y (adT _ c)
theorem Oo{g:G.aP}{o:List bt}(b:mC o):mA g (eZ o)=jU g o:=by unfold mA jU;rw[eZ,<-List.map_reverse];exact On λx c=>b x (List.mem_reverse.1 c)
theorem Oq{g:G.aP}{b:Nat}{o:List bt}(e:mC o){S:Nat->Prop}:(∃w∈fU g b (eZ o),S w.1.toNat)↔∃w∈kn g b o,S w:=by
 rw[<-xV e];constructor;·rintro⟨w,c,h⟩;obtain⟨x,d,rfl⟩:=aia.1 c;exact⟨_,aia.2 ⟨x,d,rfl⟩,h⟩
 rintro⟨w,c,h⟩;obtain⟨x,d,rfl⟩:=aia.1 c;exact⟨_,aia.2 ⟨x,d,rfl⟩,h⟩
section
variable{B:G.dK}{out:Nat->Prop}{v:Nat}
theorem Ot:∀i,i<=B.aA.length+1->ig B out (λ_=>False) i v->(∃k,k<=B.aA.length/\(v:Int)∈dg B k/\∀j,B.aA.length+1 - i<=j->j<k->(B.aA.getD j default).to≠(v:Int))\/out v/\∀j,B.aA.length+1 - i<=j->j<B.aA.length->(B.aA.getD j default).to≠(v:Int)
 |0,_,h=>.inr ⟨h,λj h1 h2=>by omega⟩
 |i+1,hi,h=>by
  simp only[ig,or_false]at h;have e:B.aA.length+1 - (i+1)=B.aA.length - i:=aa;rw[e];rcases h with h|⟨h1,h2⟩;·grind
  have hj:∀j,B.aA.length - i<=j->j<B.aA.length->(B.aA.length+1 - i<=j->(B.aA.getD j default).to≠(v:Int))->(B.aA.getD j default).to≠(v:Int):=λj f b a3=>by
   by_cases c:j=B.aA.length - i;·subst c;exact λd=>h2 ⟨b,d⟩
   exact a3 aa
  rcases Ot i aa h1 with⟨k,b1,b2,g⟩|⟨b1,b2⟩;all_goals grind
theorem G4{i:Nat}(h:ig B out (λ_=>False) i v):∀d,i+d<=B.aA.length+1->(∀j,B.aA.length+1 - (i+d)<=j->j<=B.aA.length - i->j<B.aA.length->(B.aA.getD j default).to≠(v:Int))->ig B out (λ_=>False) (i+d) v|0,_,_=>h|d+1,hd,hj=>by rw[<-ajn];simp only[ig,or_false];refine .inr ⟨G4 h d aa λj c b a3=>hj j aa b a3,λ⟨c,b⟩=>hj _ aa aa c b⟩
theorem aeV{k:Nat}(d:k<=B.aA.length)(h:(v:Int)∈dg B k)(b:∀j,j<k->(B.aA.getD j default).to≠(v:Int)):ig B out (λ_=>False) (B.aA.length+1) v:=by
 have h1:ig B out (λ_=>False) (B.aA.length - k+1) v:=by simp only[ig,or_false];rw[show B.aA.length - (B.aA.length - k)=k by omega];exact .inl h
 by_cases c:k=0;·grind
 have:=G4 h1 k aa λj e f a3=>b j aa;grind
theorem aeW(h:out v)(b:∀j,j<B.aA.length->(B.aA.getD j default).to≠(v:Int)):ig B out (λ_=>False) (B.aA.length+1) v:=by have:=G4 (i:=0) (B:=B) (out:=out) (v:=v) h (B.aA.length+1) aa λj c d a3=>b j a3;grind
end
section
variable{g:G.aP}{come:List Bool}{os:List (List bt)}{a:List (List Int)}
theorem G5{b:Nat}{v:Nat}{k:Nat}(f:(v:Int)∉(aE g b).params)(n:∀j,j<k->j<(aE g b).aA.length->((aE g b).aA.getD j default).to≠(v:Int)):my g b v k:=λp d=>by
 have c:=MF d;rcases adX.1 d with h|h;·grind
 rcases c with c|c;·have:=Ga _ _ _ h;omega
 apply ain;intro o;obtain⟨j,rfl⟩:∃j:Nat,p=j:=⟨p.toNat,aa⟩;have hj:j<(aE g b).aA.length:=aa;have key:∀(l:List G.ee)(i:Nat),((v:Int),(j:Int))∈gC l i->∃m,j=i+m/\(l.getD m default).to=(v:Int):=by
  intro l;induction l with
  |nil=>intro i h;cases h
  |cons s l e=>
   intro i h;rw[gC]at h;rcases adX.1 h with h|h
   .split at h;·cases h
    rw[abP]at h;injection h with h1 h2;exact⟨0,aa,h1.symm⟩
   have⟨m,h1,h2⟩:=e (i+1) h;exact⟨m+1,aa,h2⟩
 grind
theorem G6{b:Nat}{v:Nat}{k:Nat}(h:my g b v k):(v:Int)∉(aE g b).params/\∀j,j<k->j<(aE g b).aA.length->((aE g b).aA.getD j default).to≠(v:Int):=by
 refine⟨λc=>?_,λj hj hl e=>?_⟩;·have:=h _ (CE c);omega
 rw[bf hl]at e;have h2:=Aj hl aa;rw[e]at h2;have:=h _ h2;omega
structure Ou(g:G.aP)(os:List (List bt))(come:List Bool)(cR:List Bool)(oR:List (List Int)):Prop where
 cm:∀b,cR.getD b false=true↔come.getD b false=true
 op:∀b,come.getD b false=true->oR.getD b []=eZ (os.getD b [])/\mC (os.getD b [])
theorem runK(o:ev g)(p:jW g)(l:fy g)(m:b9 g come os){j:List Bool}{k:List (List Int)}{f:Bool}(i:lC g (-1) j k f)(n:∀b,gM g (-1) j k f b):Ou g os come j k:=by
 have⟨c1,o1,_,_,c,d,_⟩:=p.ex;have e:=o.sh;refine⟨λb=>?_,λb hb=>?_⟩;·rw[Ah e l c d m];exact⟨λh=>((i.snd b h).comp e c d).1,λh=>(c.snd b h).xS e c d i.toFlI n⟩
 have h1:=(Ah e l c d m).1 hb;have h2:=(c.snd b h1).xS e c d i.toFlI n;have h3:=((i.snd b h2).comp e c d).2;grind[CD]
theorem aeX(O:ev g)(P:fy g)(m:b9 g come os){n:Nat}(T:g.aQ=n){N:List Bool}{A:List (List Int)}(i:Ou g os come N A){M:List (List Bool)}(C:qN g N A n M){b:Nat}(hb:come.getD b false=true){x:Int}:Lv g os b x↔∃v:Nat,x=v/\v<n/\fM M b v:=by
 have r:∀{b:Nat}{S:Nat->Prop},come.getD b false=true->((∃w∈fU g b (A.getD b []),S w.1.toNat)↔∃w∈wW g os b,S w):=λhb=>by have⟨h1,h2⟩:=i.op _ hb;rw[h1];exact Oq h2
 have s:∀{b:Nat},come.getD b false=true->mA g (A.getD b [])=jU g (os.getD b []):=λhb=>by have⟨h1,h2⟩:=i.op _ hb;rw[h1];exact Oo h2
 constructor
 .intro h;have key:∀b x,Lv g os b x->come.getD b false=true->∃v:Nat,x=v/\v<n/\fM M b v:=by intro b x h;induction h with| @kU b v bu Q d=>intro c;have y:=m.lt c;have⟨k,J,z,f⟩:=GB Q;simp only at z f;have R:=vA O (kY y) f;obtain⟨v,rfl⟩:∃u:Nat,v=u:=⟨v.toNat,aa⟩;subst z;have⟨o,E⟩:=G6 d;exact⟨v,rfl,aa,C.cl b y ((i.cm b).2 c) v aa ⟨.inl (aeV J f λj hj=>E j hj aa),o⟩⟩| @iq b w v D _ d F=>intro c;obtain⟨v,rfl,l,p⟩:=F (m.iq c D);have⟨o,E⟩:=G6 d;exact⟨v,rfl,l,C.cl b (m.lt c) ((i.cm b).2 c) v l ⟨.inl (aeW ((r (S:=λw=>fM M w v) c).2 ⟨w,D,p⟩) λj hj=>E j hj hj),o⟩⟩| @kl b t v q _ d F=>intro c;have⟨_,_,_,_,K,_⟩:=qG P m c q;obtain⟨v,rfl,l,p⟩:=F K;have⟨o,_⟩:=G6 (k:=0) d;exact⟨v,rfl,l,C.cl b (m.lt c) ((i.cm b).2 c) v l ⟨.inr ⟨t,by rw[s c];exact q,p⟩,o⟩⟩
  grind
 rintro⟨v,rfl,_,p⟩;refine C.snd (λb v=>Lv g os b (v:Int)) (λb v c l e=>?_) b v p;have c:=(i.cm b).1 c;have⟨e,G⟩:=e;rcases e with e|⟨t,q,e⟩
 .rcases Ot _ (afM _) e with⟨k,H,I,a3⟩|⟨H,I⟩;·exact .kU (Nu H I) (G5 G λj hj _=>a3 j aC hj)
  have⟨w,D,hl⟩:=(r (S:=λw=>Lv g os w (v:Int)) c).1 H;exact .iq D hl (G5 G λj hj L=>I j aC L)
 rw[s c]at q;exact .kl q e (G5 (k:=0) G λj hj=>by omega)
theorem Ow{B:G.dK}{kl:List Int}{after:Int->Prop}{out pi:Nat->Prop}{v:Nat}(h1:(v:Int)∈kl↔pi v)(h2:after v↔(v:Int)∈fL B.aq\/out v\/pi v):∀m,m<=B.aA.length->(Ak kl after B.aA m v↔ig B out pi (m+1) v)
 |0,_=>by simp only[Ak,ig,ajF,dg,Nat.lt_irrefl,bF,false_and,not_false_eq_true,and_true];rw[h2,or_assoc]
 |m+1,e=>by
  have d:=Ow h1 h2 m aa;have e1:B.aA.length - (m+1)<B.aA.length:=aa;show((v:Int)∈kl\/(v:Int)∈(B.aA.getD (B.aA.length - 1 - m) default).args\/Ak kl after B.aA m v/\(v:Int)≠(B.aA.getD (B.aA.length - 1 - m) default).to)↔_;rw[ig,d,h1,dg,aG e1,show B.aA.length - 1 - m=B.aA.length - (m+1)by omega];constructor
  .rintro(h|h|⟨h,b⟩);·exact .inr h
   .exact .inl (.inl h)
   exact .inl (.inr ⟨h,λc=>b c.2.symm⟩)
  rintro((h|⟨h,b⟩)|h);·exact .inr (.inl h)
  .exact .inr (.inr ⟨h,λc=>b ⟨e1,c.symm⟩⟩)
  exact .inl h
theorem aeY(V:Vd g)(K:jW g)(j:b9 g come os){ap:List Nat}(P:eT g come os ap)(o:fN g come os a){n:Nat}(Q:g.aQ=n){b:Nat}(hb:b<g.aj.length){p:List (List Int)}{s c2:List Bool}{l o2:List (List Int)}{t1 L:Bool}(R:lC g (-1) s l t1)(S:∀b,gM g (-1) s l t1 b)(A:lC g (-1) c2 o2 L)(C:∀b,gM g (-1) c2 o2 L b){M:List (List Bool)}(T:qN g c2 o2 n M)(W:Cs g s l M n b p):CQ g come os a b p:=by
 have y:=V.qO;have z:=runK y K V.cK j R S;have D:=runK y K V.cK j A C;rcases W with⟨d,E,F⟩|⟨d,rfl⟩;rotate_left;·refine .inr ⟨?_,rfl⟩;cases f:come.getD b false with|false=>rfl|true=>rw[(z.cm b).2 f]at d;cases d
 have f:=(z.cm b).1 d;have⟨N,q⟩:=z.op b f;have G:=NZ V j P o f;have c:∀w,come.getD w false=true->∀v:Nat,v<n->((v:Int)∈a.getD w []↔cA (M.getD w []) v):=λw O v m=>by rw[o.mem w O,aeX y V.cK j Q D T O];exact⟨λ⟨u,e,_,i⟩=>by obtain rfl:v=u:=aa;exact i,λi=>⟨v,rfl,m,i⟩⟩
 refine .inl ⟨f,E,λk H=>?_⟩;have⟨b1,b2⟩:=F k H;refine⟨b1,λx=>?_⟩;rw[b2];have key:∀v:Nat,v<n->(dh g os a b ((aE g b).aA.length - k) v↔ig (aE g b) (qI g l M b) (qJ g l M b) ((aE g b).aA.length - k+1) v):=λv m=>by
  have r:(v:Int)∈jE g a (os.getD b [])↔qJ g l M b v:=by unfold jE qJ;rw[N,Oo q];cases X:jU g (os.getD b [])with|none=>simp|some t=>have⟨_,_,_,_,I,_⟩:=qG V.cK j f X;simp only[abv,exists_eq_left'];exact c _ I v m
  refine Ow r ?_ _ aa;unfold NU;rw[r];have J:(∃w∈wW g os b,(v:Int)∈a.getD w [])↔qI g l M b v:=by unfold qI;rw[N];rw[Oq (S:=λw=>cA (M.getD w []) v) q];exact⟨λ⟨w,h1,h2⟩=>⟨w,h1,(c w (j.iq f h1) v m).1 h2⟩,λ⟨w,h1,h2⟩=>⟨w,h1,(c w (j.iq f h1) v m).2 h2⟩⟩
  rw[J,fL,adX,aiG];constructor
  .rintro(h|h|h|h);·exact .inr (.inr h)
   .exact .inl (.inl h)
   .exact .inl (.inr h)
   exact .inr (.inl h)
  rintro((h|h)|h|h);·exact .inr (.inl h)
  .exact .inr (.inr (.inl h))
  .exact .inr (.inr (.inr h))
  exact .inl h
 constructor;·rintro⟨v,rfl,m,i⟩;exact(key v m).2 i
 intro i;have Y:=G _ aa x i;obtain⟨v,rfl⟩:∃u:Nat,x=u:=⟨x.toNat,aa⟩;exact⟨v,rfl,aa,(key v aa).1 i⟩
end
end
end Go.al.R
end
