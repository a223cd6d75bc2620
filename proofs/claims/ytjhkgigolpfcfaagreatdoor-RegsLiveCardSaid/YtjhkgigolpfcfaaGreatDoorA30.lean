/- A part of the proof. No conditions. -/
import Derived.Test.YtjhkgigolpfcfaaGreatDoorA29
set_option linter.all false
set_option maxHeartbeats 16000000
open Option.some renaming injEq->adG
open List renaming mem_singleton->aep,mem_cons_of_mem->aey,mem_cons_self->aeU,replicate->ahr,range->ake,length_map->akg,getElem?_append_left->akw,getElem?_cons_succ->ak6,range_succ->alb
open Nat renaming le_of_ble_eq_true->akc,add_assoc->alo
open List.Perm renaming cons->akO,swap->akS
noncomputable section
namespace Go.am.R
section
variable{ac:Nat->aG}
section
def Fl(g:G.bu)(os:List (List bV))(d:List (List Int))(b:Nat)(x:Int):Prop:=
 x∈kV g d (os.getD b [])\/x∈(aH g b).aA.args\/(∃e∈(aH g b).aA.go,x∈e.args)\/∃w∈wW g os b,x∈d.getD w []
def C2(sC:List Int)(after:Int->Prop)(aD:List G.ic):Nat->Int->Prop
 |0=>after
 |k+1=>λx=>x∈sC\/x∈(aD.getD (aD.length - 1 - k) default).args\/C2 sC after aD k x/\x≠(aD.getD (aD.length - 1 - k) default).to
abbrev eK(g:G.bu)(os:List (List bV))(d:List (List Int))(b:Nat):Nat->Int->Prop:=C2 (kV g d (os.getD b [])) (Fl g os d b) (aH g b).aD
def A5(a:Nat->ab)(v:AV)(n:Nat)(P:Nat->Int->Prop):List Th:=tS eT 1 ((ake n).map λi=>.map (a i)) n true v::(ake n).map λi=>tM true (a i) (P i)
theorem afW{a:Nat->ab}{v:AV}{n k:Nat}{P:Nat->Int->Prop}(b:k<n):(A5 a v n P)[k+1]?=some (tM true (a k) (P k)):=by simp[b,A5,ak6,aks,List.getElem?_range,akt]
section
variable{g:G.bu}{r y s u:AV}{h:ab}{A H:ai}{p:List AV}{come:List Bool}{os:List (List bV)}{ak:List Nat}{d:List (List Int)}
theorem Fm{B:G.gV}{i:Nat}(b:i<B.aD.length){x:Int}(a:x∈B.aD[i].args):(x,(i:Int))∈kF B:=by obtain⟨_,c,e⟩:=Px B b;rw[e];exact akq _ (akf _ (akp a))
theorem C3{B:G.gV}{x:Int}(a:x∈B.aA.args):(x,(B.aD.length:Int))∈kF B:=akq _ (akf _ (akp a))
theorem C4{B:G.gV}{e:G.Edge}(he:e∈B.aA.go){x:Int}(a:x∈e.args):(x,(B.aD.length:Int))∈kF B:=by obtain⟨i,hi,rfl⟩:=aka he;obtain⟨_,c,e2⟩:=Py B hi;rw[e2];exact akq _ (akf _ (akp a))
theorem afX(a:yT g come os){b:Nat}(hb:come.getD b false=true){x bH:Int}(e:(x,bH)∈kF (aH g b)):0<=x:=by obtain⟨t,c,_⟩:=a.rd b hb _ e;omega
theorem JW(V:Vd g)(c:cX g come os)(e:e9 g come os ak)(a:gP g come os d){b:Nat}(hb:come.getD b false=true){x:Int}(f:x∈d.getD b []):0<=x:=(((a.mem b hb x).1 f).CS V.dO c (V.sG come os c) V.gv e hb).1
theorem afY(V:Vd g)(c:cX g come os)(e:e9 g come os ak)(a:gP g come os d){b:Nat}(hb:come.getD b false=true){x:Int}(j:x∈kV g d (os.getD b [])):0<=x:=by
 unfold kV at j;split at j;·rename_i t f;obtain⟨_,_,_,_,i,_⟩:=vD V.dO c hb f;exact JW V c e a i j
 grind
theorem afZ(a:gP g come os d)(o:List bV):(kV g d o).length<=6000:=by
 unfold kV;split;·exact a.jx _
 simp
def w6(b e f:ab)(v0:AV)(a:Nat->ab)(c:AV)(k:Nat)(P:Nat->Int->Prop):List Th:=[tB oU b [c],tB eT e [.map (a k)],tB eH f [v0]]++A5 a c (k+1) P
def y6(h b c e f:ab)(g:List AV)(v0:AV)(a:ab)(S:Int->Prop):List Th:=[tB eT b [.map a],tM true a S,tB eH c [v0],tB dW e g,tB iH f [.az h 0]]
theorem af0(T:Tb ac)(V:Vd g)(L:FX g H h r y s u p come os ak d)(X:cX g come os)(hO:e9 g come os ak)(I:gP g come os d){b:Nat}(hb:come.getD b false=true){K:KT}(hL:∀O v c,aj H O (A5 c v ((aH g b).aD.length+1) λi=>eK g os d b ((aH g b).aD.length - i))->K v O):YN ac Wq [.az h 0,aN b] H K:=by
 have hB:=V.sm;have gA:=hB.nb;have bv:=X.lt hb;have b0:=L.ro.lt;have d4:=L.ro.aH;have gB:=L.ro.jY;have d5:=L.c6;have⟨gH,_,_,_⟩:=L.ro.sl.all;have⟨gL,_,_,_⟩:=L.bl.all;have⟨d6,_,_,_⟩:=L.sl.all;have a1:=oC bv;have gQ:=hB.bl _ a1;have eh:=hB.st _ a1;have d7:=hB.ed _ a1;have d8:g.al[b]=aH g b:=(bF bv _).symm;have b3:=V.sG come os X;have E:∀{x bH:Int},(x,bH)∈kF (aH g b)->0<=x:=λhL=>afX b3 hb hL;have R:∀{x:Int},x∈kV g d (os.getD b [])->0<=x:=λhL=>afY V X hO I hb hL;have gY:=afZ I (os.getD b []);refine YF.code T.abb aB ?_;refine au ?_;refine RO.dL (aj.dc H) λH1 Y U=>?_;refine ah ?_;refine RO.aW ?_ (v:=r) (hc:=by rw[U.gr.bh b0];exact d4);refine ah ?_;refine RO.cZ U.gr L.bl (λq9 o9 hI g0 a2 g1 hat hrd=>?_) (j:=b);rw[d8]at a2;have f6:=a2.one;obtain⟨vp,B,jc,rfl,g2,hvs,Z,vk,vg,rfl,a3,_,b4⟩:=a2;have⟨d',ea,eb,f7⟩:=hvs.all;have⟨ec,g3,g4,g5⟩:=a3.all;have⟨g6,_,_,g7⟩:=b4.all;refine ah ?_;refine RO.fx U λH2 P U=>?_;refine ah ?_;refine RO.cl (afQ T V U.gr L X I hb λH3 v0 ag ei=>?_);have U:=U.cI ei;have⟨g8,g9,g',_⟩:=ag.all;refine ah ?_;refine RO.fx (us:=[v0]) U λH4 D U=>?_;refine ah ?_;refine RO.Ff U λH5 qm U=>?_;have ej:bh H5 D 0=some v0:=by obtain⟨_,hp⟩:=U.get 1 rfl;exact tB.cell hp rfl
 have ek:D≠qm:=U.ne 1 0 rfl rfl af (λf hL=>hL.1) (λf hL=>hL.1);have el:P≠qm:=U.ne 2 0 rfl rfl af (λf hL=>hL.1) (λf hL=>hL.1);refine RO.wO (is:=[qm]) ej (by simpa using ek) λH6 et ew=>?_;have U:=U.bX ew et;refine ah ?_;have eY:bh H6 P 3=some Z:=by obtain⟨_,hp⟩:=U.get 2 rfl;exact tB.cell hp rfl
 refine RO.wO (is:=[qm]) eY (by simpa using el) λH7 e0 e3=>?_;have U:=U.bX e3 e0;refine RO.gI U λH8 z U=>?_;have b5:=U.AU (e:=eT) (q:=z) (vs:=[.cY]) 0;have ay:∀j∈ [z],j.an<H8.next.an:=λj hj=>by rw[aep]at hj;subst hj;exact b5.2
 have b6:∀(HY H0:ai),bm H HY->H0.next=HY.next->(∀j,j∉ [z]->H0.get j=HY.get j)->bm H H0:=λHY H0 b' h1 h2=>⟨by rw[h1];exact b'.nx,λj hj=>by rw[h2 j ?_,b'.dT j hj];simp only[aep];exact λe=>by rw[e]at hj;have:=b5.1;omega⟩;have av:∀(HY H0:ai)(q:ab),q≠z->(∀j,j∉ [z]->H0.get j=HY.get j)->H0.get q=HY.get q:=λHY H0 q hq h2=>h2 q (by simpa using hq);have ca:qm≠z:=U.ne 1 0 rfl rfl af (λf hL=>hL.1) (λf hL=>hL.1);refine RO.CH (is:=[z]) (Q:=λv ns=>∃G S',v=.map G/\(∀x,S' x↔x∈kV g d (os.getD b []))/\ns=[tM true G S']) U ay (λH0 a4 hs=>?_) (λrv ns HU hQ e4 U=>?_);·obtain⟨⟨ks,a5,a6⟩,a8,_⟩:=U.nf 1 rfl;refine JU T (ks:=ks) (by rw[av _ _ _ ca hs];exact a5) (by rw[av _ _ _ ca hs];exact a8 rfl) ((b6 _ _ U.gr a4 hs).sl ag) af λH9 G S' J hl=>⟨_,hl,G,S',rfl,λx=>?_,rfl⟩;rw[J,a6];simp
 obtain⟨qa,Sa,rfl,e5,rfl⟩:=hQ;refine⟨λaa cd=>il cd rfl rfl ec (a3.bX) (by obtain⟨_,hp⟩:=U.get 4 rfl;exact tB.cell hp rfl) rfl,?_⟩;have cf:qa≠z:=U.ne 0 1 rfl rfl af (λf hL=>hL.1) (λf hL=>hL.1);refine RO.CH (is:=[z]) (Q:=λv ns=>∃G S',v=.map G/\(∀x,S' x↔x∈kV g d (os.getD b [])\/x∈(aH g b).aA.args)/\ns=[tM true G S']) U (λj hj=>ako (ay j hj) e4.nx) (λH0 a4 hs=>?_) (λrv ns ha hQ f8 U=>?_)
 .obtain⟨⟨ks,a5,a6⟩,a8,_⟩:=U.nf 0 rfl;refine JU T (ks:=ks) (by rw[av _ _ _ cf hs];exact a5) (by rw[av _ _ _ cf hs];exact a8 rfl) ((b6 _ _ U.gr a4 hs).sl a3) af λH9 G S' J hl=>⟨_,hl,G,S',rfl,λx=>?_,rfl⟩;rw[J,a6,e5];constructor
  .rintro(hL|hL);·exact .inr hL
   exact .inl hL.1
  rintro(hL|hL);·exact .inr ⟨hL,by have:=R hL;omega⟩
  exact .inl hL
 obtain⟨qb,Sb,rfl,e6,rfl⟩:=hQ;refine⟨λaa cd=>rfl,?_⟩;refine RO.gG U 2 (λH9 U=>?_);have U:aj H H9 (y6 h z D P Y [vp,B,aU (aH g b).aA.op,Z,.str (aH g b).aA.name,vk,vg] v0 qb Sb):=(U.sub (.cons_cons _ (.cons _ (.cons_cons _ (.cons _ (akL _)))))).cM (akS ..);refine ah ?_;refine Ru.nm λS0 M hS hM=>?_;refine Ru.cC hM (up (P:=λk=>∀HX Q S,(∀x,S x↔x∈kV g d (os.getD b [])\/x∈(aH g b).aA.args\/∃e∈(aH g b).aA.go.take k,x∈e.args)->aj H HX (y6 h z D P Y [vp,B,aU (aH g b).aA.op,Z,.str (aH g b).aA.name,vk,vg] v0 Q S)->Ru ac _ S0 ([(bZ,aN k)]++pk M [p1,p2,p5,p6,p7,di,cD]) HX) (aH g b).aA.go.length (λk hk ih HX Q S a9 U=>?_) 0 af _ qb Sb (λx=>by rw[e6];simp) U);subst hS;subst hM;refine Ru.loop ?_;refine au ?_;refine Ru.cond (λW=>?_) (λW=>?_)
 .have hc:=d7 _ (agB W);refine ah ?_;refine RO.cZ U.gr b4 (λhf hh hm f9 dv f' f5 hrd=>?_) (j:=k);obtain⟨ve,rfl,cn⟩:=dv;have⟨e7,e8,e',_⟩:=cn.all;refine ah ?_;refine RO.fx U λcp q9 U=>?_;refine ah ?_;refine RO.cl (A4 T U 2 rfl (U.gr.sl cn) af λcv G S' J U=>?_);refine RO.gG U 2 (λaw U=>?_);refine ah ?_;have U:aj H aw (y6 h z D P Y [vp,B,aU (aH g b).aA.op,Z,.str (aH g b).aA.name,vk,vg] v0 G S'):=(U.sub (.cons_cons _ (.cons _ (.cons_cons _ (.cons _ (akL _)))))).cM (akS ..);exact Ru.wk (ih (k+1) af af aw G S' (λx=>by
   rw[J,a9,<-akd W];constructor
   .rintro(hL|⟨hL|hL|⟨e,he,hL⟩,_⟩);·exact .inr (.inr ⟨_,akq _ (aep.2 rfl),hL⟩)
    .exact .inl hL
    .exact .inr (.inl hL)
    exact .inr (.inr ⟨e,akf _ he,hL⟩)
   rintro(hL|hL|⟨e,he,hL⟩);·exact .inr ⟨.inl hL,by have:=R hL;omega⟩
   .exact .inr ⟨.inr (.inl hL),by have:=E (C3 hL);omega⟩
   rcases ahp.1 he with he|he;·exact .inr ⟨.inr (.inr ⟨e,he,hL⟩),by have:=E (C4 (List.mem_of_mem_take he) hL);omega⟩
   rw[aep]at he;subst he;exact .inl hL) U)
 refine Ru.exitTo ?_;rw[akl af]at a9;have N:=X.dO b hb;have fa:(g.al.getD b default).aA.op=68->os.getD b []≠ []:=λfb e=>by obtain⟨o,ho,_⟩:=b3.en b hb fb;rw[e]at ho;cases ho
 refine ah ?_;refine RO.cl (Qc T λcp cx cy hl=>?_);have U:aj H cp ([tB 3 cy [aN b],tB iH cx [.az h 0]]++y6 h z D P Y [vp,B,aU (aH g b).aA.op,Z,.str (aH g b).aA.name,vk,vg] v0 Q S++[]):=by rw[akT];exact U.fC hl
 refine ah ?_;refine Ru.wk (L:=[(cJ,.func Ex [] [.az cx 0,.az cy 0]),(p2,.az Y 0),(p5,.az P 0),(p6,.az D 0),(p7,.az z 0)]) ?_;refine Ru.pG (J:=λm ts=>∃Q S,(∀x,S x↔x∈kV g d (os.getD b [])\/x∈(aH g b).aA.args\/(∃e∈(aH g b).aA.go,x∈e.args)\/∃w∈(cS g b (os.getD b [])).take m,x∈d.getD w.1.toNat [])/\ts=y6 h z D P Y [vp,B,aU (aH g b).aA.op,Z,.str (aH g b).aA.name,vk,vg] v0 Q S) (Dn:=λ_ _=>False) U (Qd T hB L.bl (b:=b) (now:=os.getD b []) (nv:=p.getD b .co) (V.dO.aH N) (V.dO.jY N).1 (by have:=(V.dO.jY N).2;omega) fa) (λH2 hg=>⟨s,p,L.ro.cI (U.gr.trans hg),rfl,(U.gr.trans hg).sl (L.op b hb)⟩) ⟨Q,S,λx=>by rw[a9];simp,rfl⟩ (λk args ws hL=>by obtain⟨_,v,rfl,_⟩:=hL;rfl) (λm ts us O hJ U=>U.gr.sl (L.op b hb)) (λm args ws ts us l o1 o2 O hK a' hJ U=>?_) (λO ba dm hJ U=>?_) (λj O ba dm _ hL=>hL.elim)
 .obtain⟨Q,S,ax,rfl⟩:=hJ;obtain⟨cE,v,rfl,e7,e8,e',_⟩:=a';have U:=U.sub ((List.sublist_append_right _ _).append_right _);have c3:(cS g b (os.getD b []))[m]∈cS g b (os.getD b []):=agB cE;have fd:=(akd cE).symm;obtain⟨hn,hr⟩:=V.dO.CP N _ c3;have fe:=X.ls hb (E9 c3);generalize(cS g b (os.getD b []))[m]=w at*;obtain⟨t,ht⟩:∃t:Nat,w.1=(t:Int):=⟨w.1.toNat,af⟩;rw[ht,aj3]at fe;have dx:t<d.length:=by rw[I.len];omega
  have gb:=I.jx t;rw[ht];refine au ?_;refine Ru.dN (xs:=y6 h z D P Y [vp,B,aU (aH g b).aA.op,Z,.str (aH g b).aA.name,vk,vg] v0 Q S) U λcv U=>?_;refine ah ?_;refine RO.aW ?_ (v:=u) (hc:=by rw[U.gr.bh b0];exact d5);refine ah ?_;refine RO.cZ U.gr L.sl (λC hw hx gd dy gg bd _=>?_) (j:=t);obtain⟨vl,rfl,bb⟩:=dy;rw[<-bF dx []]at bb;have⟨d6,hy,hz,_⟩:=bb.all;refine ah ?_;refine RO.aW (v:=vl) ?_ (hc:=bd 0 _ rfl);refine RO.cl (A4 T U 1 rfl (U.gr.sl bb) af λaw G S' J U=>?_);refine RO.gG U 1 (λc5 U=>?_);refine ah ?_;have U:=(U.sub (.cons_cons _ (.cons_cons _ (.cons _ (akL _))))).cM (akS ..);refine Ru.bG (ts:=y6 h z D P Y [vp,B,aU (aH g b).aA.op,Z,.str (aH g b).aA.name,vk,vg] v0 G S') U ⟨G,S',λx=>?_,rfl⟩;rw[J,ax,fd];constructor
  .rintro(hL|⟨hL|hL|hL|⟨w2,F,hL⟩,_⟩);·exact .inr (.inr (.inr ⟨_,akq _ (aep.2 rfl),by rw[ht,aj3];exact hL⟩))
   .exact .inl hL
   .exact .inr (.inl hL)
   .exact .inr (.inr (.inl hL))
   exact .inr (.inr (.inr ⟨w2,akf _ F,hL⟩))
  rintro(hL|hL|⟨e,he,hL⟩|⟨w2,F,hL⟩);·exact .inr ⟨.inl hL,by have:=R hL;omega⟩
  .exact .inr ⟨.inr (.inl hL),by have:=E (C3 hL);omega⟩
  .exact .inr ⟨.inr (.inr (.inl ⟨e,he,hL⟩)),by have:=E (C4 he hL);omega⟩
  rcases ahp.1 F with F|F;·refine .inr ⟨.inr (.inr (.inr ⟨w2,F,hL⟩)),?_⟩;have:=JW V X hO I (X.ls hb (E9 (List.mem_of_mem_take F))) hL;omega
  rw[aep]at F;subst F;rw[ht,aj3]at hL;exact .inl hL
 obtain⟨Q,S,ax,rfl⟩:=hJ;rw[ak7]at ax;have dz:∀k,k<=(aH g b).aD.length->∀x,eK g os d b k x->0<=x:=by
  intro k;induction k with
  |zero=>
   rintro _ x(hL|hL|⟨e,he,hL⟩|⟨w,F,hL⟩);·exact R hL
   .exact E (C3 hL)
   .exact E (C4 he hL)
   exact JW V X hO I (X.ls hb F) hL
  |succ k ih=>
   rintro hk x(hL|hL|⟨hL,_⟩);·exact R hL
   .rw[bF af]at hL;exact E (Fm _ hL)
   exact ih af x hL
 have U:=U.CT (S':=eK g os d b 0) 1 rfl λx=>by
  rw[ax];refine or_congr Iff.rfl (or_congr Iff.rfl (or_congr Iff.rfl ⟨?_,?_⟩));·rintro⟨w,F,hL⟩;exact⟨_,E9 F,hL⟩
  rintro⟨w,F,hL⟩;simp only[wW,mK,akk]at F;obtain⟨w2,fk,rfl⟩:=F;exact⟨w2,fk,hL⟩
 refine ah ?_;refine RO.lf U 1 (λcv fl U=>?_) (ws:=[.map Q]) (n:=1);refine RO.fx U λaw C U=>?_;refine ah ?_;refine RO.gU U 5 ?_;refine RO.cl (Fc T.abw bA d' ea eb λc5 c8 hl=>?_);have U:=U.fC hl;refine ah ?_;refine Ru.wk (L:=[(fy,.func WZ [] [.az c8 0]),(p6,.az D 0),(p7,.az z 0),(aR,.az C 0)]) ?_;have U:aj H c5 ([tB NG c8 [B]]++w6 C z D v0 (λ_=>Q) (.slice fl 0 1 1 true) 0 (eK g os d b)++[tB dW P [vp,B,aU (aH g b).aA.op,Z,.str (aH g b).aA.name,vk,vg],tB iH Y [.az h 0],tX dm (.deferred false)]):=(((U.gk 5 rfl).gk 4 rfl).gk 3 rfl).gk 3 rfl;refine Ru.pG (J:=λk ts=>∃c sv,sv.bB=true/\sv.ee=true/\sv.cells=[sv]/\ts=w6 C z D v0 c sv k (eK g os d b)) (Dn:=λ_ _=>False) U (Fb (R:=qT H) (agg:=true) (size:=6) (la:=(aH g b).aD) (sv:=B) (e:=NG) (nt:=19) T.abQ bA af (λhL=>by cases hL) (λa cs hL=>rfl)) (λH2 hg=>by obtain⟨w,h1,h2⟩:=hvs;exact⟨w,(U.gr.trans hg).sl h1,h2⟩) ⟨_,_,rfl,rfl,rfl,rfl⟩ (λk args ws hL=>by obtain⟨_,_,_,_,rfl⟩:=hL;rfl) (λk ts us O hJ U=>by obtain⟨w,h1,h2⟩:=hvs;exact⟨w,U.gr.sl h1,h2⟩) (λk args ws ts us l o1 o2 O hk a' hJ U=>?_) (λO ba bc hJ U=>?_) (λj O ba dm _ hL=>hL.elim)
 .obtain⟨rfl,c9,cs,fo,rfl⟩:=a';obtain⟨c,sv,d0,d1,d2,rfl⟩:=hJ;have hA:=(eh _ (agB c9)).1;have fp:(aH g b).aD.getD ((aH g b).aD.length - 1 - k) default=(aH g b).aD[(aH g b).aD.length - 1 - k]:=bF c9 _;have fq:∀{x:Int},x∈(aH g b).aD[(aH g b).aD.length - 1 - k].args->0<=x:=λhL=>E (Fm _ hL);have fs:=dz k af;have f0:∀x,eK g os d b (k+1) x↔x∈kV g d (os.getD b [])\/x∈(aH g b).aD[(aH g b).aD.length - 1 - k].args\/eK g os d b k x/\x≠(aH g b).aD[(aH g b).aD.length - 1 - k].to:=λx=>by rw[<-fp];exact Iff.rfl
  generalize(aH g b).aD[(aH g b).aD.length - 1 - k]=st at*;obtain⟨c',rfl,a0⟩:=fo;have⟨gi,gn,gq,_⟩:=a0.all;refine ah ?_;refine RO.fx U λdr ds U=>?_;refine ah ?_;refine Ru.dN (xs:=tB qU ds [aU st.op,aI st.to,c',aI st.n,aI st.m,.str st.name]::w6 C z D v0 c sv k (eK g os d b)) U λhC U=>?_;refine ah ?_;have hat:∀(us:List Th),(tB qU ds [aU st.op,aI st.to,c',aI st.n,aI st.m,.str st.name]::(w6 C z D v0 c sv k (eK g os d b)++us))[4+(k+1)]?=some (tM true (c k) (eK g os d b k)):=λus=>by simp only[w6,aj2];exact rr (xs:=[_,_,_,_]) (afW af)
  refine RO.EN (i:=D) (o:=0) (v:=v0) (A4 T U (4+(k+1)) (hat _) (U.gr.sl a0) af λhD q1 S1 f1 U=>⟨by obtain⟨_,hp⟩:=U.get 4 rfl;exact tB.cell hp rfl,?_⟩) (hvs:=ag.bX);refine RO.cl (A4 T U 0 rfl (U.gr.sl ag) af λhE A S2 d3 U=>?_);refine RO.gG U 4 (λhF U=>?_);refine ah ?_;refine RO.push U 6 (λw0 hG v2 U=>?_) (ws:=[.map A]);have⟨f2,f3,f4,_⟩:=(U.sl (e:=eT) (size:=1) (n:=k+1+1) (full:=true) (sv:=v2) 6).all;refine RO.gG U 3 (λhH U=>?_);refine ah ?_;have U:=U.CT (S':=eK g os d b (k+1)) 0 rfl λx=>by
   rw[f0,d3,f1];constructor
   .rintro(hL|⟨hL|hL,_⟩);·exact .inl hL
    .exact .inr (.inl hL)
    exact .inr (.inr hL)
   rintro(hL|hL|hL);·exact .inl hL
   .exact .inr ⟨.inl hL,by have:=fq hL;omega⟩
   exact .inr ⟨.inr hL,by have:=fs x hL.1;omega⟩
  have U:=U.sub (.cons_cons _ (.cons _ (.cons _ (akL _))));have e1:w6 C z D v0 (λj=>if j=k+1 then A else c j) v2 (k+1) (eK g os d b)=[tB oU C [v2],tB eT z [.map A],tB eH D [v0]]++((tS eT 1 ((ake (k+1)).map (λi=>AV.map (c i))++[.map A]) (k+1+1) true v2::(ake (k+1)).map λi=>tM true (c i) (eK g os d b i))++[tM true A (eK g os d b (k+1))]):=by
   have gx:(ake (k+1+1)).map (λi=>AV.map (if i=k+1 then A else c i))=(ake (k+1)).map (λi=>AV.map (c i))++[.map A]:=by
    rw[alb,akE];congr 1;·exact alk λi hi=>by rw[ak3]at hi;rw[aq af]
    simp
   have gy:(ake (k+1+1)).map (λi=>tM true (if i=k+1 then A else c i) (eK g os d b i))=(ake (k+1)).map (λi=>tM true (c i) (eK g os d b i))++[tM true A (eK g os d b (k+1))]:=by
    rw[alb,akE];congr 1;·exact alk λi hi=>by rw[ak3]at hi;rw[aq af]
    simp
   simp only[w6,A5,gx,gy,aK,akV]
  refine Ru.bG (ts:=w6 C z D v0 (λj=>if j=k+1 then A else c j) v2 (k+1) (eK g os d b)) ?_ ⟨_,v2,f2,f3,f4,rfl⟩;rw[e1];have U:=U.cM (akj (l₁:=[tB oU C [v2],tB eT z [.map A],tB eH D [v0]]++(tS eT 1 ((ake (k+1)).map (λi=>AV.map (c i))++[.map A]) (k+1+1) true v2::(ake (k+1)).map λi=>tM true (c i) (eK g os d b i))) (l₂:=tX l o2::us)).symm;simpa only[aj2,akV,ak0]using U
 obtain⟨c,sv,d0,d1,d2,rfl⟩:=hJ;refine ah ?_;obtain⟨q,cap,ex,rfl⟩:=U.uT (e:=eT) (size:=1) (n:=(aH g b).aD.length+1) (full:=true) (sv:=sv) 3 rfl af;have U:=U.gk 3 rfl;refine RO.cl (afV T.abx (n:=(aH g b).aD.length+1) aB af af (λv hv=>by obtain⟨i,_,rfl⟩:=akk.1 hv;exact⟨rfl,rfl,rfl⟩) U λdr U=>?_);refine ah ?_;have e1:((ake ((aH g b).aD.length+1)).map λi=>AV.map (c i)).reverse=(ake ((aH g b).aD.length+1)).map λi=>AV.map (c ((aH g b).aD.length - i)):=by apply alg aB;intro i h1 h2;simp only[List.length_reverse,akg,List.length_range]at h1;simp only[List.getElem_reverse,akg,List.length_range,akN,alA];congr 2
 have e2:((ake ((aH g b).aD.length+1)).map λi=>tM true (c i) (eK g os d b i)).reverse=(ake ((aH g b).aD.length+1)).map λi=>tM true (c ((aH g b).aD.length - i)) (eK g os d b ((aH g b).aD.length - i)):=by apply alg aB;intro i h1 h2;simp only[List.length_reverse,akg,List.length_range]at h1;simp only[List.getElem_reverse,akg,List.length_range,akN,alA];congr 2
 rw[e1]at U;have U:aj H dr (tS eT 1 ((ake ((aH g b).aD.length+1)).map λi=>AV.map (c ((aH g b).aD.length - i))) ((aH g b).aD.length+1) true (.slice q 0 ((aH g b).aD.length+1) cap ex)::tB oU C [.slice q 0 ((aH g b).aD.length+1) cap ex]::tB eT z [.map (c (aH g b).aD.length)]::tB eH D [v0]::(((ake ((aH g b).aD.length+1)).map λi=>tM true (c i) (eK g os d b i))++(tX bc (.deferred false)::[tB dW P [vp,B,aU (aH g b).aA.op,Z,.str (aH g b).aA.name,vk,vg],tB iH Y [.az h 0],tX dm (.deferred false)]))):=U;have U:=U.sub (.cons_cons _ (.cons _ (.cons _ (.cons _ ((akL _).append (.cons_cons _ (.cons _ (.cons _ (akL _)))))))));have U:=U.cM ((akH (l₁:=tS eT 1 ((ake ((aH g b).aD.length+1)).map λi=>AV.map (c ((aH g b).aD.length - i))) ((aH g b).aD.length+1) true (.slice q 0 ((aH g b).aD.length+1) cap ex)::(ake ((aH g b).aD.length+1)).map λi=>tM true (c i) (eK g os d b i)) (l₂:=[tX bc (.deferred false),tX dm (.deferred false)])).trans (List.Perm.append_left _ (akO _ (List.reverse_perm _).symm)));rw[e2]at U;exact Ru.mI (M:=[bc,dm]) U λO U=>⟨[.slice q 0 ((aH g b).aD.length+1) cap ex],⟨rfl,rfl,trivial⟩,hL O _ (λi=>c ((aH g b).aD.length - i)) U⟩
end
end
section
section
variable{g:G.bu}{c d f h:AV}{i:ab}{A H:ai}{j:List AV}{come:List Bool}{os:List (List bV)}{ak:List Nat}{a:List (List Int)}
def Fp(g:G.bu)(S:Int->Prop):Prop:=∀x,S x->0<=x/\x<g.bp
theorem JY(V:Vd g)(e:yT g come os){b:Nat}(hb:come.getD b false=true){x bH:Int}(m:(x,bH)∈kF (aH g b)):0<=x/\x<g.bp:=by obtain⟨t,k,l,_⟩:=e.rd b hb _ m;have:=E' V.gv.v0;simp only at k;omega
theorem Qp(V:Vd g)(k:cX g come os)(l:e9 g come os ak)(e:gP g come os a){b:Nat}(hb:come.getD b false=true){x:Int}(m:x∈a.getD b []):0<=x/\x<g.bp:=
 have h1:=((e.mem b hb x).1 m).CS V.dO k (V.sG come os k) V.gv l hb
 ⟨h1.1,h1.2.1⟩
theorem Qq(V:Vd g)(k:cX g come os)(l:e9 g come os ak)(e:gP g come os a){b:Nat}(hb:come.getD b false=true){x:Int}(o:x∈kV g a (os.getD b [])):0<=x/\x<g.bp:=by
 unfold kV at o;split at o;·rename_i t m;obtain⟨_,_,_,_,n,_⟩:=vD V.dO k hb m;exact Qp V k l e n o
 cases o
theorem af2(V:Vd g)(n:cX g come os)(o:e9 g come os ak)(l:gP g come os a){b:Nat}(hb:come.getD b false=true):∀k,k<=(aH g b).aD.length->Fp g (eK g os a b k):=by
 have m:=V.sG come os n;intro k;induction k with
 |zero=>
  rintro _ x(s|s|⟨e,he,s⟩|⟨w,p,s⟩);·exact Qq V n o l hb s
  .exact JY V m hb (C3 s)
  .exact JY V m hb (C4 he s)
  exact Qp V n o l (n.ls hb p) s
 |succ k q=>
  rintro r x(s|s|⟨s,_⟩);·exact Qq V n o l hb s
  .rw[bF af]at s;exact JY V m hb (Fm _ s)
  exact q af x s
end
end
section
def lx(g:Nat->ab)(P:Nat->Int->Prop)(ex:Nat->Bool)(n:Nat):List Th:=(ake n).map λj=>tM (ex j) (g j) (P j)
theorem J5{ids:Nat->ab}{P:Nat->Int->Prop}{ex:Nat->Bool}{n i:Nat}(hi:i<n):(lx ids P ex n)[i]?=some (tM (ex i) (ids i) (P i)):=by simp[hi,lx,aks,List.getElem?_range,akt]
section
variable{A H:ai}{y:AV}{G:(Int->Prop)->Prop}{J:List (Int->Prop)->List Th->Prop}{X ts us:List Th}{a:List (Int->Prop)}
end
theorem af4(g:Nat->ab)(v:AV)(n:Nat)(P:Nat->Int->Prop):A5 g v n P=tS eT 1 ((ake n).map λi=>.map (g i)) n true v::lx g P (λ_=>true) n:=rfl
section
variable{g:G.bu}{b c d e:AV}{f h:ab}{A H:ai}{k:List AV}{come:List Bool}{os:List (List bV)}{ak:List Nat}{l:List (List Int)}
end
end
section
def tN:Th where
 P _ e:=e=[]
 fr h _ _:=h
 lt h:=λj hj=>by rw[h]at hj;cases hj
section
variable{n:Nat}{D a:Nat->Bool}{ids b:Nat->ab}{S S':Nat->Int->Prop}{c d m:ab}{us:List Th}{A H:ai}
end
end
section
section
variable{n:Nat}{D:Nat->Bool}{ids:Nat->ab}{S:Nat->Int->Prop}{a b m:ab}{us:List Th}{A H:ai}{M:Int->Prop}
end
end
section
section
variable{g:G.bu}{a b c d:AV}{e f:ab}{A H:ai}{h:List AV}{come:List Bool}{os:List (List bV)}{ak:List Nat}{i:List (List Int)}
end
end
section
section
variable{g:G.bu}{come:List Bool}{os:List (List bV)}{ak:List Nat}{a:List (List Int)}
end
end
section
def pLq(g:G.bu):List Int:=(ake g.params.toNat).map λ(v:Nat)=>(v:Int)
section
variable{A H:ai}{us ts X:List Th}{a:ab}{y sv:AV}{J:Nat->List Th->Prop}{D:List Th->Prop}{l cO la b:List Int}
end
section
variable{g:G.bu}{c d e f:AV}{h i:ab}{A H:ai}{j:List AV}{come:List Bool}{os:List (List bV)}{ak:List Nat}{k:List (List Int)}
end
end
section
def ng(b:List (Int->Prop))(v w:Int):Prop:=∃C∈b,C v/\C w/\w≠v
inductive rD(np:Int)(CL:List (Int->Prop))(n:Nat):List Int->List Int->Prop
 |nil:rD np CL n [] (ahr n (-1))
 |wY{h R:List Int}{v r:Int}:rD np CL n h R->(v<np->r=v)->(¬v<np->0<=r/\(∀w,ng CL v w->R.getD w.toNat 0≠r)/\∀k:Nat,(k:Int)<r->∃w,ng CL v w/\R.getD w.toNat 0=k)->rD np CL n (h++[v]) (R.set v.toNat r)
section
variable{g:G.bu}{come:List Bool}{os:List (List bV)}{ak:List Nat}{a:List (List Int)}
structure Kk(np:Int)(CL:List (Int->Prop))(n:Nat)(h R:List Int):Prop where
 len:R.length=n
 no:∀v:Int,0<=v->v<n->v∉h->R.getD v.toNat 0= -1
 is:∀v∈h,0<=R.getD v.toNat 0/\R.getD v.toNat 0<=n
 aM:∀v∈h,v<np->R.getD v.toNat 0=v
 mC:∀v∈h,∀w∈h,ng CL v w->R.getD v.toNat 0≠R.getD w.toNat 0
end
end
end
section
variable{g:G.bu}{come:List Bool}{os:List (List bV)}{ak:List Nat}{c:List (List Int)}
inductive Aft(W:Nat->List Nat)(b:Nat):Nat->Prop
 |one{x:Nat}(h:x∈W b):Aft W b x
 |step{a x:Nat}(h:Aft W b a)(hn:a≠b)(hx:x∈W a):Aft W b x
end
section
variable{g:G.bu}{come:List Bool}{os:List (List bV)}{ak:List Nat}{a:List (List Int)}
end
section
variable{ac:Nat->aG}
section
section
variable{g:G.bu}{a b c d:AV}{e f:ab}{A H:ai}{h:List AV}{come:List Bool}{os:List (List bV)}{ak:List Nat}{i:List (List Int)}
end
end
section
structure QV(CL:List (Int->Prop))(n:Nat)(cl:List (List Int)):Prop where
 len:cl.length=n
 asc:∀j,j<n->(cl.getD j []).Pairwise (·<·)
 mem:∀j,j<n->∀x,x∈cl.getD j []↔∃C∈CL,C j/\C x/\x≠j
theorem Kl{n:Nat}{l:List Int}(o:l.Nodup)(hl:∀x∈l,0<=x/\x<n):l.length<=n:=by have:=vB n (l.map Int.toNat) (List.pairwise_map.2 (List.Pairwise.imp_of_mem (λ{x y}g j m e=>m (by have:=hl x g;have:=hl y j;omega)) o)) (λx g=>by obtain⟨y,j,rfl⟩:=akk.1 g;have:=hl y j;omega);simpa using this
section
variable{g:G.bu}{a b c d:AV}{f h:ab}{A H:ai}{i:List AV}{come:List Bool}{os:List (List bV)}{ak:List Nat}{k:List (List Int)}
end
end
section
theorem agG(T:Tb ac){H:ai}{a b n:Int}{K:KT}(g:K (.bool (decide (a<=n/\n<=b))) H):YN ac Wp [aI a,aI b,aI n] H K:=by
 refine YF.code T.aba aB ?_;refine au ?_;refine RO.de (λl=>?_) (λl=>?_);·refine bD ?_;refine Ru.aV ?_;simpa[l]using g
 refine bD ?_;refine Ru.aV ?_;simpa[l]using g
section
variable{g:G.bu}{c d e f:AV}{h i:ab}{A H:ai}{j:List AV}{come:List Bool}{os:List (List bV)}{ak:List Nat}{k:List (List Int)}
end
end
section
section
variable{g:G.bu}{a:AV}{A H:ai}
end
end
section
section
variable{c:Cx}{s:List SI}{L:Kn}{A H:ai}{d:Option ab}{l:List be}{ts:List Th}{q:ab}{ex:Bool}{S:Int->Prop}
end
section
variable{g:G.bu}{a b e f:AV}{h i:ab}{A H:ai}{j:List AV}{come:List Bool}{os:List (List bV)}{ak:List Nat}{k:List (List Int)}
end
end
end
section
variable{g:G.bu}{come a:List Bool}{os b:List (List bV)}{ak c:List Nat}{d e:List (List Int)}
end
section
variable{ac:Nat->aG}
section
section
variable{g:G.bu}{come a:List Bool}{os b:List (List bV)}{ak c:List Nat}{d e:List (List Int)}
end
end
section
theorem apm(T:Tb ac){H:ai}{l:List Nat}{i:AV}{x:Nat}(m:Sl H 1 (l.map aN) l.length i)(hl:l.length<=10000){K:KT}(A:∀z:Int,(0<=z↔x∈l)->K (aI z) H):YN ac aov [i,aN x] H K:=by
 have⟨hd,_,_,w⟩:=m.all;refine YF.code T.ao4 aB ?_;refine ah ?_;refine Ru.nm λr M s n=>?_;refine Ru.cC n (up (P:=λk=>(∀j(A:j<l.length),j<k->l[j]≠x)->Ru ac _ r ([(p8,aN k)]++pk M [p0,p1,p7]) H) l.length (λk y g p=>?_) 0 af (λj _ hj=>by omega));subst s;subst n;refine Ru.loop ?_;refine ah ?_;refine Ru.cond (λb=>?_) (λb=>?_)
 .have g:=g (k+1) af af;refine ah ?_;refine RO.lg (bm.refl _) m (λq o hj u=>?_) (j:=k);refine ah ?_;refine Ru.cond (λhe=>?_) (λhe=>?_);·refine ah ?_;exact Ru.aV (A k ⟨λ_=>by rw[show x=l[k]from he];exact agB b,λ_=>by omega⟩)
  refine ah ?_;exact Ru.wk (g λj hj v=>by
   by_cases e:j=k;·subst e;exact λe=>he e.symm
   exact p j hj af)
 refine Ru.exitTo ?_;refine ah ?_;refine Ru.aV (A (-1) ⟨λA=>by omega,λt=>?_⟩);obtain⟨j,hj,e⟩:=aka t;exact absurd e (p j hj af)
theorem apn(T:Tb ac){H:ai}{l:List Nat}{b:AV}{x:Nat}(g:Sl H 1 (l.map aN) l.length b)(hl:l.length<=10000){K:KT}(k:K (.bool (decide (x∈l))) H):YN ac aot [b,aN x] H K:=by have⟨hd,_,_,j⟩:=g.all;refine YF.code T.ao1 aB ?_;refine ah ?_;refine RO.cl (apm T g hl λz i=>?_);refine ah ?_;refine Ru.aV ?_;have e:decide (x∈l)=decide (0<=z):=decide_eq_decide.2 i.symm;rw[e]at k;exact k
section
variable{g:G.bu}{come c:List Bool}{os d:List (List bV)}{ak f:List Nat}{a h:List (List Int)}
end
def apq(g:G.bu)(come:List Bool)(os:List (List bV))(a:List (List Int))(b:Nat)(pl:List (List Int)):Prop:=
 come.getD b false=true/\pl.length=(aH g b).aD.length+1/\(∀k,k<=(aH g b).aD.length->(pl.getD k []).Pairwise (·<·)/\∀x,x∈pl.getD k []↔eK g os a b ((aH g b).aD.length - k) x)\/come.getD b false=false/\pl=[]
section
variable{g:G.bu}{H:ai}
theorem apr(T:Tb ac)(V:Vd g){cs:List AV}(hg:iG H g cs){n:Nat}(hn:g.bp=n)(ax:n<=1000){b:Nat}(hb:b<g.al.length){K:KT}(b5:∀E v pl come os ak a,cX g come os->e9 g come os ak->gP g come os a->apq g come os a b pl->bm H E->CX E pl v->K (.tuple [v,aI 0]) E):YN ac aoq [.agg cs,aN b] H K:=by
 have aw:=hg.one;have ay:=V.sm.nb;have eh:=(V.sm.st _ (oC hb));have a0:=(V.sm.bl _ (oC hb));obtain⟨vb,rfl,cA⟩:=hg;have⟨a1,a2,a3,a4⟩:=cA.all;refine YF.code T.aoY aB ?_;refine au ?_;refine RO.dL (aj.dc H) λH1 q1 U=>?_;refine ah ?_;refine RO.eQ U 0 ?_;refine RO.cl (Qf T V (cs:=[.str g.name,aI g.params,aI g.bp,vb]) ⟨vb,rfl,dQ.block.jU U.gr cA⟩ λH2 fq a5 ov b4 a6 a8 come os ak a A r p L D=>?_);have U:=U.cI L;have N:=U.gr;have⟨a9,_,_,a'⟩:=D.od.all;have ba:ak.length<=g.al.length:=vB _ _ r.nd λx G=>A.lt ((r.mem x).1 G);refine ah ?_;refine RO.arith (v:=aN (g.al.length - 1)) ?_ (hv:=px (k:=g.al.length) af af);refine ah ?_;refine RO.cl (agG T (a:=0) (b:=((g.al.length - 1:Nat):Int)) (n:=b) ?_);rw[decide_eq_true (show(0:Int)<=(b:Int)/\(b:Int)<=((g.al.length - 1:Nat):Int)by omega)];refine ah ?_;refine RO.aW ?_ (v:=ov) (hc:=D.c4);refine ah ?_;refine RO.cl (apn T (x:=b) D.od af ?_);by_cases z:b∈ak;rotate_left;·rw[decide_eq_false z];refine ah ?_;refine Ru.mD (vs:=[.aS,aI 0]) ⟨rfl,rfl,rfl,rfl,trivial⟩ (b5 _ _ [] come os ak a A r p (.inr ⟨?_,rfl⟩) U.gr ⟨[],.inl ⟨rfl,rfl,rfl⟩,λk hk=>absurd hk aB⟩);cases hc:come.getD b false with|false=>rfl|true=>exact absurd ((r.mem b).2 hc) z
 have u:=(r.mem b).1 z;rw[decide_eq_true z];refine ah ?_;refine RO.cl (af0 T V D A r p u λH3 v ids hl=>?_);have O:=af2 V A r p u;obtain⟨B,cap,s,rfl⟩:=hl.uT (e:=eT) (size:=1) (n:=(aH g b).aD.length+1) (full:=true) (sv:=v) 0 rfl af;rw[af4]at hl;generalize t:(aH g b).aD.length=m at*;have P:∀i,i<m+1->((ake (m+1)).map λi=>AV.map (ids i))[0+i*1]?=some (.map (ids i)):=λi hi=>by rw[show 0+i*1=i by omega,aks,List.getElem?_range hi];rfl
 refine ah ?_;have hl:=(hl.py eH 1).rl;refine Ru.nm λS0 M hS hM=>?_;refine Ru.cC hM (up (P:=λk=>∀I o(cl:List (List Int))F v,cl.length=k->lQ cl o F->(∀j,j<k->(cl.getD j []).Pairwise (·<·)/\∀x,x∈cl.getD j []↔eK g os a b (m - j) x)->aj H2 I (tZ F::tS eH 1 o k true v::tS eT 1 ((ake (m+1)).map λi=>.map (ids i)) (m+1) true (.slice B 0 (m+1) cap s)::lx ids (λi=>eK g os a b (m - i)) (λ_=>true) (m+1))->Ru ac _ S0 ([(dh,aN k),(p4,v)]++pk M [bZ,dl]) I) (m+1) (λk hk J I o cl F v q y C U=>?_) 0 af _ [] [] [] .aS rfl ⟨rfl,λb hb=>absurd hb aB⟩ (λj hj=>by omega) hl);subst hS;subst hM;have⟨Q,bb,bc,_⟩:=(U.sl (e:=eH) (size:=1) (sv:=v) (vs:=o) (n:=k) (full:=true) 1).all;refine Ru.loop ?_;refine au ?_;refine Ru.cond (λR=>?_) (λR=>?_)
 .have J:=J (k+1) af af;refine ah ?_;refine RO.fD U 2 (hv:=P k af) ?_;refine ah ?_;have hat:=rr (xs:=[tZ F,tS eH 1 o k true v,tS eT 1 ((ake (m+1)).map λi=>.map (ids i)) (m+1) true (.slice B 0 (m+1) cap s)]) (m:=[]) (J5 (ids:=ids) (P:=λi=>eK g os a b (m - i)) (ex:=λ_=>true) (n:=m+1) (i:=k) af);rw[akT]at hat;refine RO.cl (afS T U (3+k) hat (λks S z=>?_) λH7 w l W X U=>?_)
  .have:=Kl (n:=n) S λx G=>by rw[<-hn];exact O _ af x ((z x).1 G)
   omega
  have⟨Y,bd,Z,_⟩:=(show Sl H7 1 (l.map aI) l.length w by obtain⟨_,hp⟩:=U.get 0 rfl;exact hp.1).all;have U:=U.lq;refine ah ?_;refine RO.push U 1 (λw0 H8 v2 U=>?_) (ws:=[w]) (hl:=kG rfl Y Z rfl rfl rfl);have⟨bv,b0,b3,_⟩:=(U.sl (e:=eH) (size:=1) (n:=k+1) (full:=true) (sv:=v2) 1).all;refine ah ?_;exact Ru.wk (J _ (o++[w]) (cl++[l]) _ v2 (by simp[q]) y.wY (λj hj=>by
   by_cases e:j=k
   .subst e;have e1:(cl++[l]).getD j []=l:=by rw[<-q];simp
    rw[e1];exact⟨X,W⟩
   have e1:(cl++[l]).getD j []=cl.getD j []:=by simp[akw (show j<cl.length by omega)]
   rw[e1];exact C j af) U)
 refine Ru.exitTo ?_;obtain rfl:k=m+1:=af;refine ah ?_;have ag:=y.len;have av:=U.sl (e:=eH) (size:=1) (sv:=v) (vs:=o) (n:=m+1) (full:=true) 1;refine Ru.mD (vs:=[v,aI 0]) ⟨rfl,Q,rfl,rfl,trivial⟩ (b5 _ v cl come os ak a A r p (.inl ⟨u,by rw[t];exact q,λj hj=>?_⟩) ?_ (y.sl U 0 rfl (by rw[ag,q];exact av)));·rw[t]at hj⊢;exact C j af
 exact N.trans U.gr
end
end
end
section
theorem aan{x:bV}(b:∃t:Nat,x.1=t/\(x.2=0\/x.2=1)):(eL x % 2==0)=(x.2==0):=by obtain⟨t,h1,h2⟩:=b;unfold eL;rw[alE];simp only[beq_iff_eq];omega
theorem Rr{g:G.bu}:∀{l:List bV},uj l->((l.map eL).find? λx=>x % 2==0).map (λx=>((aH g (x.toNat/2)).aA.go.getD 1 default).block)=(l.find? λx=>x.2==0).map λx=>((aH g x.1.toNat).aA.go.getD 1 default).block|[],_=>rfl|x::l,h=>by have b:=h x (aeU ..);rw[aj7,List.find?_cons,List.find?_cons,aan b];cases x.2==0 with|true=>simp only[akt,(J9 b).2]|false=>exact Rr λy c=>h y (aey _ c)
theorem Rt{g:G.bu}{o:List bV}(b:uj o):ig g (jd o)=oD g o:=by unfold ig oD;rw[jd,<-List.map_reverse];exact Rr λx c=>b x (List.mem_reverse.1 c)
theorem R1{g:G.bu}{b:Nat}{o:List bV}(e:uj o){S:Nat->Prop}:(∃w∈lu g b (jd o),S w.1.toNat)↔∃w∈mK g b o,S w:=by
 rw[<-C5 e];constructor;·rintro⟨w,c,h⟩;obtain⟨x,d,rfl⟩:=akk.1 c;exact⟨_,akk.2 ⟨x,d,rfl⟩,h⟩
 rintro⟨w,c,h⟩;obtain⟨x,d,rfl⟩:=akk.1 c;exact⟨_,akk.2 ⟨x,d,rfl⟩,h⟩
section
variable{B:G.gV}{out:Nat->Prop}{v:Nat}
theorem S6:∀i,i<=B.aD.length+1->dD B out (λ_=>False) i v->(∃k,k<=B.aD.length/\(v:Int)∈kU B k/\∀j,B.aD.length+1 - i<=j->j<k->(B.aD.getD j default).to≠(v:Int))\/out v/\∀j,B.aD.length+1 - i<=j->j<B.aD.length->(B.aD.getD j default).to≠(v:Int)
 |0,_,h=>.inr ⟨h,λj h1 h2=>by omega⟩
 |i+1,hi,h=>by
  simp only[dD,or_false]at h;have e:B.aD.length+1 - (i+1)=B.aD.length - i:=af;rw[e];rcases h with h|⟨h1,h2⟩;·exact .inl ⟨_,af,h,λj h1 h2=>by omega⟩
  have hj:∀j,B.aD.length - i<=j->j<B.aD.length->(B.aD.length+1 - i<=j->(B.aD.getD j default).to≠(v:Int))->(B.aD.getD j default).to≠(v:Int):=λj m c d=>by
   by_cases f:j=B.aD.length - i;·subst f;exact λg=>h2 ⟨c,g⟩
   exact d af
  rcases S6 i af h1 with⟨k,b1,b2,l⟩|⟨b1,b2⟩;·exact .inl ⟨k,b1,b2,λj c1 c2=>hj j c1 af λb=>l j b c2⟩
  exact .inr ⟨b1,λj c1 c2=>hj j c1 c2 λb=>b2 j b c2⟩
theorem Kx{i:Nat}(h:dD B out (λ_=>False) i v):∀d,i+d<=B.aD.length+1->(∀j,B.aD.length+1 - (i+d)<=j->j<=B.aD.length - i->j<B.aD.length->(B.aD.getD j default).to≠(v:Int))->dD B out (λ_=>False) (i+d) v|0,_,_=>h|d+1,hd,hj=>by rw[<-alo];simp only[dD,or_false];refine .inr ⟨Kx h d af λj c b e=>hj j af b e,λ⟨c,b⟩=>hj _ af af c b⟩
theorem aao{k:Nat}(d:k<=B.aD.length)(h:(v:Int)∈kU B k)(c:∀j,j<k->(B.aD.getD j default).to≠(v:Int)):dD B out (λ_=>False) (B.aD.length+1) v:=by
 have h1:dD B out (λ_=>False) (B.aD.length - k+1) v:=by simp only[dD,or_false];rw[show B.aD.length - (B.aD.length - k)=k by omega];exact .inl h
 by_cases b:k=0;·subst b;exact h1
 have:=Kx h1 k af λj e f g=>c j af;rwa[show B.aD.length - k+1+k=B.aD.length+1 by omega]at this
theorem aap(h:out v)(b:∀j,j<B.aD.length->(B.aD.getD j default).to≠(v:Int)):dD B out (λ_=>False) (B.aD.length+1) v:=by have:=Kx (i:=0) (B:=B) (out:=out) (v:=v) h (B.aD.length+1) af λj d e c=>b j c;rwa[akh]at this
end
section
variable{g:G.bu}{come:List Bool}{os:List (List bV)}{a:List (List Int)}
theorem Ky{b:Nat}{v:Nat}{k:Nat}(f:(v:Int)∉(aH g b).params)(n:∀j,j<k->j<(aH g b).aD.length->((aH g b).aD.getD j default).to≠(v:Int)):rq g b v k:=λp d=>by
 have c:=aeZ d;rcases ahp.1 d with h|h;·obtain⟨y,o,e⟩:=akk.1 h;injection e with e _;subst e;exact absurd o f
 rcases c with c|c;·have:=PG _ _ _ h;simp only at this;omega
 apply akx;intro r;obtain⟨j,rfl⟩:∃j:Nat,p=j:=⟨p.toNat,af⟩;have hj:j<(aH g b).aD.length:=af;have key:∀(l:List G.ic)(i:Nat),((v:Int),(j:Int))∈ja l i->∃m,j=i+m/\(l.getD m default).to=(v:Int):=by
  intro l;induction l with
  |nil=>intro i h;cases h
  |cons s l q=>
   intro i h;rw[ja]at h;rcases ahp.1 h with h|h
   .split at h;·cases h
    rw[aep]at h;injection h with h1 h2;exact⟨0,af,h1.symm⟩
   obtain⟨m,h1,h2⟩:=q (i+1) h;exact⟨m+1,af,h2⟩
 obtain⟨m,h1,h2⟩:=key _ 0 h;obtain rfl:j=m:=af;exact n j af hj h2
theorem Kz{b:Nat}{v:Nat}{k:Nat}(h:rq g b v k):(v:Int)∉(aH g b).params/\∀j,j<k->j<(aH g b).aD.length->((aH g b).aD.getD j default).to≠(v:Int):=by
 refine⟨λc=>?_,λj hj hl e=>?_⟩;·have:=h _ (J4 c);omega
 rw[bF hl]at e;have h2:=JZ hl af;rw[e]at h2;have:=h _ h2;omega
structure Wd(g:G.bu)(os:List (List bV))(come:List Bool)(cR:List Bool)(oR:List (List Int)):Prop where
 cm:∀b,cR.getD b false=true↔come.getD b false=true
 op:∀b,come.getD b false=true->oR.getD b []=jd (os.getD b [])/\uj (os.getD b [])
theorem runK(p:sD g)(q:JT g)(m:jm g)(j:cX g come os){k:List Bool}{l:List (List Int)}{f:Bool}(i:fN g (-1) k l f)(n:∀b,oF g (-1) k l f b):Wd g os come k l:=by
 obtain⟨c1,o1,_,_,c,d,_⟩:=q.ex;have e:=p.sh;refine⟨λb=>?_,λb hb=>?_⟩;·rw[Qw e m c d j];exact⟨λh=>((i.snd b h).comp e c d).1,λh=>(c.snd b h).Qv e c d i.toFlI n⟩
 have h1:=(Qw e m c d j).1 hb;have h2:=(c.snd b h1).Qv e c d i.toFlI n;have h3:=((i.snd b h2).comp e c d).2;have o:=Qx e c d j hb;exact⟨h3.symm.trans o.1,o.2⟩
theorem aaq(O:sD g)(P:jm g)(m:cX g come os){n:Nat}(V:g.bp=n){N:List Bool}{A:List (List Int)}(i:Wd g os come N A){M:List (List Bool)}(C:nq g N A n M){b:Nat}(hb:come.getD b false=true){x:Int}:Lv g os b x↔∃v:Nat,x=v/\v<n/\CU M b v:=by
 have r:∀{b:Nat}{S:Nat->Prop},come.getD b false=true->((∃w∈lu g b (A.getD b []),S w.1.toNat)↔∃w∈wW g os b,S w):=λhb=>by obtain⟨h1,h2⟩:=i.op _ hb;rw[h1];exact R1 h2
 have s:∀{b:Nat},come.getD b false=true->ig g (A.getD b [])=oD g (os.getD b []):=λhb=>by obtain⟨h1,h2⟩:=i.op _ hb;rw[h1];exact Rt h2
 constructor
 .intro h;have key:∀b x,Lv g os b x->come.getD b false=true->∃v:Nat,x=v/\v<n/\CU M b v:=by intro b x h;induction h with| @qQ b v bH Q d=>intro c;have y:=m.lt c;obtain⟨k,J,z,f⟩:=agc Q;simp only at z f;have T:=sr O (oC y) f;obtain⟨v,rfl⟩:∃u:Nat,v=u:=⟨v.toNat,af⟩;subst z;obtain⟨o,E⟩:=Kz d;exact⟨v,rfl,af,C.cl b y ((i.cm b).2 c) v af ⟨.inl (aao J f λj hj=>E j hj af),o⟩⟩| @ls b w v D _ d F=>intro c;obtain⟨v,rfl,l,p⟩:=F (m.ls c D);obtain⟨o,E⟩:=Kz d;exact⟨v,rfl,l,C.cl b (m.lt c) ((i.cm b).2 c) v l ⟨.inl (aap ((r (S:=λw=>CU M w v) c).2 ⟨w,D,p⟩) λj hj=>E j hj hj),o⟩⟩| @sC b t v q _ d F=>intro c;obtain⟨_,_,_,_,K,_⟩:=vD P m c q;obtain⟨v,rfl,l,p⟩:=F K;obtain⟨o,_⟩:=Kz (k:=0) d;exact⟨v,rfl,l,C.cl b (m.lt c) ((i.cm b).2 c) v l ⟨.inr ⟨t,by rw[s c];exact q,p⟩,o⟩⟩
  exact key b x h hb
 rintro⟨v,rfl,_,p⟩;refine C.snd (λb v=>Lv g os b (v:Int)) (λb v c l e=>?_) b v p;have c:=(i.cm b).1 c;obtain⟨e,G⟩:=e;rcases e with e|⟨t,q,e⟩
 .rcases S6 _ (afb _) e with⟨k,H,I,R⟩|⟨H,I⟩;·exact .qQ (Rn H I) (Ky G λj hj _=>R j af hj)
  obtain⟨w,D,hl⟩:=(r (S:=λw=>Lv g os w (v:Int)) c).1 H;exact .ls D hl (Ky G λj hj L=>I j af L)
 rw[s c]at q;exact .sC q e (Ky (k:=0) G λj hj=>by omega)
theorem XZ{B:G.gV}{sC:List Int}{after:Int->Prop}{out VV:Nat->Prop}{v:Nat}(h1:(v:Int)∈sC↔VV v)(h2:after v↔(v:Int)∈ui B.aA\/out v\/VV v):∀m,m<=B.aD.length->(C2 sC after B.aD m v↔dD B out VV (m+1) v)
 |0,_=>by simp only[C2,dD,alJ,kU,Nat.lt_irrefl,bP,false_and,not_false_eq_true,and_true];rw[h2,or_assoc]
 |m+1,e=>by
  have d:=XZ h1 h2 m af;have e1:B.aD.length - (m+1)<B.aD.length:=af;show((v:Int)∈sC\/(v:Int)∈(B.aD.getD (B.aD.length - 1 - m) default).args\/C2 sC after B.aD m v/\(v:Int)≠(B.aD.getD (B.aD.length - 1 - m) default).to)↔_;rw[dD,d,h1,kU,aK e1,show B.aD.length - 1 - m=B.aD.length - (m+1)by omega];constructor
  .rintro(h|h|⟨h,b⟩);·exact .inr h
   .exact .inl (.inl h)
   exact .inl (.inr ⟨h,λc=>b c.2.symm⟩)
  rintro((h|⟨h,b⟩)|h);·exact .inr (.inl h)
  .exact .inr (.inr ⟨h,λc=>b ⟨e1,c.symm⟩⟩)
  exact .inl h
theorem aar(V:Vd g)(K:JT g)(j:cX g come os){ak:List Nat}(P:e9 g come os ak)(o:gP g come os a){n:Nat}(Q:g.bp=n){b:Nat}(hb:b<g.al.length){p:List (List Int)}{s c2:List Bool}{l o2:List (List Int)}{t1 L:Bool}(R:fN g (-1) s l t1)(S:∀b,oF g (-1) s l t1 b)(A:fN g (-1) c2 o2 L)(C:∀b,oF g (-1) c2 o2 L b){M:List (List Bool)}(T:nq g c2 o2 n M)(W:Cn g s l M n b p):apq g come os a b p:=by
 have y:=V.C6;have z:=runK y K V.dO j R S;have D:=runK y K V.dO j A C;rcases W with⟨d,E,F⟩|⟨d,rfl⟩;rotate_left;·refine .inr ⟨?_,rfl⟩;cases f:come.getD b false with|false=>rfl|true=>rw[(z.cm b).2 f]at d;cases d
 have f:=(z.cm b).1 d;obtain⟨N,q⟩:=z.op b f;have G:=af2 V j P o f;have c:∀w,come.getD w false=true->∀v:Nat,v<n->((v:Int)∈a.getD w []↔bS (M.getD w []) v):=λw O v m=>by rw[o.mem w O,aaq y V.dO j Q D T O];exact⟨λ⟨u,e,_,i⟩=>by obtain rfl:v=u:=af;exact i,λi=>⟨v,rfl,m,i⟩⟩
 refine .inl ⟨f,E,λk H=>?_⟩;obtain⟨b1,b2⟩:=F k H;refine⟨b1,λx=>?_⟩;rw[b2];have key:∀v:Nat,v<n->(eK g os a b ((aH g b).aD.length - k) v↔dD (aH g b) (mY g l M b) (mZ g l M b) ((aH g b).aD.length - k+1) v):=λv m=>by
  have r:(v:Int)∈kV g a (os.getD b [])↔mZ g l M b v:=by unfold kV mZ;rw[N,Rt q];cases X:oD g (os.getD b [])with|none=>simp|some t=>obtain⟨_,_,_,_,I,_⟩:=vD V.dO j f X;simp only[adG,exists_eq_left'];exact c _ I v m
  refine XZ r ?_ _ af;unfold Fl;rw[r];have J:(∃w∈wW g os b,(v:Int)∈a.getD w [])↔mY g l M b v:=by unfold mY;rw[N];rw[R1 (S:=λw=>bS (M.getD w []) v) q];exact⟨λ⟨w,h1,h2⟩=>⟨w,h1,(c w (j.ls f h1) v m).1 h2⟩,λ⟨w,h1,h2⟩=>⟨w,h1,(c w (j.ls f h1) v m).2 h2⟩⟩
  rw[J,ui,ahp,akZ];constructor
  .rintro(h|h|h|h);·exact .inr (.inr h)
   .exact .inl (.inl h)
   .exact .inl (.inr h)
   exact .inr (.inl h)
  rintro((h|h)|h|h);·exact .inr (.inl h)
  .exact .inr (.inr (.inl h))
  .exact .inr (.inr (.inr h))
  exact .inl h
 constructor;·rintro⟨v,rfl,m,i⟩;exact(key v m).2 i
 intro i;have Y:=G _ af x i;obtain⟨v,rfl⟩:∃u:Nat,x=u:=⟨x.toNat,af⟩;exact⟨v,rfl,af,(key v af).1 i⟩
theorem apq.E1{b:Nat}{pl d:List (List Int)}(h:apq g come os a b pl)(o:apq g come os a b d):pl=d:=by
 rcases h with⟨e,hl,p⟩|⟨e,rfl⟩<;>rcases o with⟨c,f,i⟩|⟨c,rfl⟩;·refine alg (by rw[hl,f]) λk j l=>?_;obtain⟨m,n⟩:=p k af;obtain⟨b1,b2⟩:=i k af;rw[bF j]at m n;rw[bF l]at b1 b2;exact O2 m b1 λx=>(n x).trans (b2 x).symm
 .rw[e]at c;cases c
 .rw[e]at c;cases c
 rfl
theorem aas(V:Vd g)(l:JT g)(m:cX g come os){ak:List Nat}(o:e9 g come os ak)(f:gP g come os a){n:Nat}(p:g.bp=n){b:Nat}(hb:b<g.al.length){pl c:List (List Int)}(h:apq g come os a b pl){d c2:List Bool}{e o2:List (List Int)}{t1 k:Bool}(q:fN g (-1) d e t1)(r:∀b,oF g (-1) d e t1 b)(i:fN g (-1) c2 o2 k)(j:∀b,oF g (-1) c2 o2 k b){M:List (List Bool)}(s:nq g c2 o2 n M)(t:Cn g d e M n b c):pl=c:=h.E1 (aar V l m o f p hb q r i j s t)
end
end
end Go.am.R
end
