/- A part. No conditions. -/
import Derived.Test.YtodnahjlheaolaaGreatDoorA26
set_option linter.all false
set_option maxHeartbeats 16000000
open List renaming replicate->ab7,range->ahq
open Int renaming ofNat->ah0
open List.Perm renaming swap->ah5,cons->ah6
open List.Pairwise renaming nil->ai4
open Eq renaming mpr->ai5
open Prod renaming fst->ai6
noncomputable section
namespace Go.al.R
section
variable{ac:Nat->aX}
end
variable{E lv:List (List Int)}{B os:List (List bp)}{F z:List Bool}{V:G.aM}{W:List Nat}{L k n:Nat}{A x:Int}{P S e:Nat->Int->Prop}{H0 Y r:ai}{Z o:ah}{l:List AV}{q:KT}{ids:Nat->ah}{av s t u w:AV}{H:G.dI}{f g m ts:List Th}{D:List (Int->Prop)}{a:(Int->Prop)->Prop}{d:List SI}{c:Int->Prop}{b:List (Int->Prop)->List Th->Prop}{p:Bool}{v:Nat->Bool}{Q la post:List Int}{X out y:Nat->Prop}{h:List (List Bool)}
section
variable{ac:Nat->aX}
def Ni(g:G.aM)(os:List (List bp))(lv:List (List Int))(b:Nat)(x:Int):Prop:=
 x∈jH g lv (os.getD b [])\/x∈(aE g b).aq.args\/(∃e∈(aE g b).aq.go,x∈e.args)\/∃w∈wW g os b,x∈lv.getD w []
def Ay(kr:List Int)(after:Int->Prop)(aB:List G.dY):Nat->Int->Prop
 |0=>after
 |k+1=>λx=>x∈kr\/x∈(aB.getD (aB.length - 1 - k) default).args\/Ay kr after aB k x/\x≠(aB.getD (aB.length - 1 - k) default).to
abbrev de(g:G.aM)(os:List (List bp))(lv:List (List Int))(b:Nat):Nat->Int->Prop:=Ay (jH g lv (os.getD b [])) (Ni g os lv b) (aE g b).aB
def yA(b:Nat->ah)(v:AV)(n:Nat)(P:Nat->Int->Prop):List Th:=tS dR 1 ((ahq n).map λi=>.map (b i)) n true v::(ahq n).map λi=>tM true (b i) (P i)
theorem adB(b:n<L):(yA ids s L P)[n+1]?=some (tM true (ids n) (P n)):=by simp[b,yA,ail,ahB,aiN,ahQ]
theorem CB(j:n<H.aB.length)(b:x∈H.aB[n].args):(x,(n:Int))∈fL H:=by have⟨_,k,e⟩:=F6 H j;rw[e];exact ahu _ (ahj _ (ahG b))
theorem Az(b:x∈H.aq.args):(x,(H.aB.length:Int))∈fL H:=ahu _ (ahj _ (ahG b))
theorem AA{e:G.Edge}(he:e∈H.aq.go)(b:x∈e.args):(x,(H.aB.length:Int))∈fL H:=by obtain⟨i,hi,rfl⟩:=ahd he;have⟨_,k,j⟩:=F7 H hi;rw[j];exact ahu _ (ahj _ (ahG b))
theorem adC(b:nq V F B)(hb:F.getD n false=true)(i:(x,A)∈fL (aE V n)):0<=x:=by have⟨t,e,_⟩:=b.rd n hb _ i;omega
theorem GJ(j:Vd V)(e:b8 V F B)(i:eF V F B W)(b:gu V F B E)(hb:F.getD n false=true)(k:x∈E.getD n []):0<=x:=(((b.mem n hb x).1 k).Aj j.cG e (j.oM F B e) j.gv i hb).1
theorem adD(m:Vd V)(e:b8 V F B)(i:eF V F B W)(b:gu V F B E)(hb:F.getD n false=true)(l:x∈jH V E (B.getD n [])):0<=x:=by
 unfold jH at l;split at l;·rename_i t j;have⟨_,_,_,_,k,_⟩:=qS m.cG e hb j;exact GJ m e i b k l
 grind
theorem adE(b:gu V F B E)(o:List bp):(jH V E o).length<=6000:=by
 unfold jH;split;·exact b.iw _
 simp
def tY(e j l:ah)(v0:AV)(b:Nat->ah)(i:AV)(k:Nat)(P:Nat->Int->Prop):List Th:=[tB lN e [i],tB dR j [.map (b k)],tB cW l [v0]]++yA b i (k+1) P
def vS(Z e i j k:ah)(l:List AV)(v0:AV)(b:ah)(S:Int->Prop):List Th:=[tB dR e [.map b],tM true b S,tB cW i [v0],tB cS j l,tB fW k [.aD Z 0]]
theorem adF(T:Tb ac)(ib:Vd V)(O:FX V Y Z s u t w l F B W E)(hK:b8 V F B)(hO:eF V F B W)(L:gu V F B E){b:Nat}(hb:F.getD b false=true)(h9:∀Q v p,ak Y Q (yA p v ((aE V b).aB.length+1) λi=>de V B E b ((aE V b).aB.length - i))->q v Q):YN ac Wp [.aD Z 0,aN b] Y q:=by
 have hB:=ib.sm;have g8:=hB.nb;have cf:=hK.lt hb;have cn:=O.ro.lt;have ek:=O.ro.aE;have g9:=O.ro.jt;have el:=O.c6;have⟨g',_,_,_⟩:=O.ro.sl.all;have⟨ha,_,_,_⟩:=O.bl.all;have⟨et,_,_,_⟩:=O.sl.all;have a':=kq cf;have hc:=hB.bl _ a';have dg:=hB.st _ a';have ew:=hB.ed _ a';have e0:V.aj[b]=aE V b:=(aZ cf _).symm;have cp:=ib.oM F B hK;have G:∀{x bq:Int},(x,bq)∈fL (aE V b)->0<=x:=λh9=>adC cp hb h9;have ag:∀{x:Int},x∈jH V E (B.getD b [])->0<=x:=λh9=>adD ib hK hO L hb h9;have hf:=adE L (B.getD b []);refine YF.code T.YO aC (au ?_);refine RO.bZ (ak.bM Y) λH1 q2 U=>?_;refine ab ?_;refine RO.aW ?_ (v:=s) (hc:=by rw[U.gr.aY cn];exact ek);refine ab ?_;refine RO.bL U.gr O.bl (λq9 o9 h7 hh ba hm hat hrd=>?_) (j:=b);rw[e0]at ba;have gq:=ba.one;obtain⟨vp,z,jc,rfl,hn,hvs,va,vk,vg,rfl,bb,_,cv⟩:=ba;have⟨e2,e3,e4,gx⟩:=hvs.all;have⟨e5,hr,hw,hx⟩:=bb.all;have⟨hy,_,_,hz⟩:=cv.all;refine ab ?_;refine RO.dD U λH2 R U=>ab ?_;refine RO.cl (adv T ib U.gr O hK L hb λH3 v0 ax e6=>?_);have U:=U.bN e6;have⟨hA,hC,hD,_⟩:=ax.all;refine ab ?_;refine RO.dD (us:=[v0]) U λH4 D U=>ab ?_;refine RO.Cl U λH5 qm U=>?_;have e7:aY H5 D 0=some v0:=by obtain⟨_,hp⟩:=U.get 1 rfl;exact tB.cell hp rfl
 have e8:D≠qm:=U.ne 1 0 rfl rfl aa (λit h9=>h9.1) (λit h9=>h9.1);have e9:R≠qm:=U.ne 2 0 rfl rfl aa (λit h9=>h9.1) (λit h9=>h9.1);refine RO.qP (is:=[qm]) e7 (by simpa using e8) λH6 e' fa=>?_;have U:=U.bI fa e';refine ab ?_;have fb:aY H6 R 3=some va:=by obtain⟨_,hp⟩:=U.get 2 rfl;exact tB.cell hp rfl
 refine RO.qP (is:=[qm]) fb (by simpa using e9) λH7 fd fe=>?_;have U:=U.bI fe fd;refine RO.dL U λH8 r U=>?_;have cx:=U.pQ 0 rfl;have a6:∀j∈ [r],j.ap<H8.next.ap:=λj hj=>by rw[abt]at hj;subst hj;exact cx.2
 have cy:∀(HY H0:ai),aR Y HY->H0.next=HY.next->(∀j,j∉ [r]->H0.get j=HY.get j)->aR Y H0:=λHY H0 cE h1 h2=>⟨by rw[h1];exact cE.nx,λj hj=>by rw[h2 j ?_,cE.cI j hj];simp only[abt];exact λe=>by rw[e]at hj;have:=cx.1;omega⟩;have ay:∀(HY H0:ai)(ij:ah),ij≠r->(∀j,j∉ [r]->H0.get j=HY.get j)->H0.get ij=HY.get ij:=λHY H0 ij hq h2=>h2 ij (by simpa using hq);have cR:qm≠r:=U.ne 1 0 rfl rfl aa (λit h9=>h9.1) (λit h9=>h9.1);refine RO.sn (is:=[r]) (Q:=λv ns=>∃J S',v=.map J/\(∀x,S' x↔x∈jH V E (B.getD b []))/\ns=[tM true J S']) U a6 (λH0 bc hs=>?_) (λrv ns HU hQ fk U=>?_);·obtain⟨⟨ks,bv,b0⟩,b3,_⟩:=U.kW 1 rfl;refine GH T (ks:=ks) (by rw[ay _ _ _ cR hs];exact bv) (by rw[ay _ _ _ cR hs];exact b3 rfl) ((cy _ _ U.gr bc hs).sl ax) aa λH9 J S' N hl=>⟨_,hl,J,S',rfl,λx=>?_,rfl⟩;rw[N,b0];simp
 obtain⟨qa,Sa,rfl,fl,rfl⟩:=hQ;refine⟨λaf c8=>ev c8 rfl rfl e5 (bb.bI) (by obtain⟨_,hp⟩:=U.get 4 rfl;exact tB.cell hp rfl) rfl,?_⟩;have c9:qa≠r:=U.ne 0 1 rfl rfl aa (λit h9=>h9.1) (λit h9=>h9.1);refine RO.sn (is:=[r]) (Q:=λv ns=>∃J S',v=.map J/\(∀x,S' x↔x∈jH V E (B.getD b [])\/x∈(aE V b).aq.args)/\ns=[tM true J S']) U (λj hj=>ahC (a6 j hj) fk.nx) (λH0 bc hs=>?_) (λrv ns hE hQ gy U=>?_)
 .obtain⟨⟨ks,bv,b0⟩,b3,_⟩:=U.kW 0 rfl;refine GH T (ks:=ks) (by rw[ay _ _ _ c9 hs];exact bv) (by rw[ay _ _ _ c9 hs];exact b3 rfl) ((cy _ _ U.gr bc hs).sl bb) aa λH9 J S' N hl=>⟨_,hl,J,S',rfl,λx=>?_,rfl⟩;rw[N,b0,fl];constructor
  .rintro(h9|h9);·exact .inr h9
   exact .inl h9.1
  rintro(h9|h9);·exact .inr ⟨h9,by have:=ag h9;omega⟩
  exact .inl h9
 obtain⟨qb,Sb,rfl,fo,rfl⟩:=hQ;refine⟨λaf c8=>rfl,(RO.dO U 2 (λH9 U=>?_))⟩;have U:ak Y H9 (vS Z r D R q2 [vp,z,aU (aE V b).aq.op,va,.str (aE V b).aq.i7,vk,vg] v0 qb Sb):=(U.sub (.cons_cons _ (.cons _ (.cons_cons _ (.cons _ (ahM _)))))).bO (ah5 ..);refine ab ?_;refine Ru.nm λS0 M hS hM=>?_;refine Ru.bH hM (up (P:=λk=>∀HX X S,(∀x,S x↔x∈jH V E (B.getD b [])\/x∈(aE V b).aq.args\/∃e∈(aE V b).aq.go.take k,x∈e.args)->ak Y HX (vS Z r D R q2 [vp,z,aU (aE V b).aq.op,va,.str (aE V b).aq.i7,vk,vg] v0 X S)->Ru ac _ S0 ([(mi,aN k)]++pk M [p1,p2,p5,p6,p7,xK,rX]) HX) (aE V b).aq.go.length (λk hk ih HX X S b4 U=>?_) 0 aa _ qb Sb (λx=>by rw[fo];simp) U);subst hS;subst hM;refine Ru.loop (au ?_);refine Ru.cond (λaw=>?_) (λaw=>?_)
 .have hF:=ew _ (abO aw);refine ab ?_;refine RO.bL U.gr cv (λhG hH hI gA d6 gH gn hrd=>?_) (j:=k);obtain⟨ve,rfl,c'⟩:=d6;have⟨fp,fq,fs,_⟩:=c'.all;refine ab ?_;refine RO.dD U λdr q9 U=>?_;refine ab ?_;refine RO.cl (yz T U 2 rfl (U.gr.sl c') aa λds J S' N U=>?_);refine RO.dO U 2 (λa1 U=>?_);refine ab ?_;have U:ak Y a1 (vS Z r D R q2 [vp,z,aU (aE V b).aq.op,va,.str (aE V b).aq.i7,vk,vg] v0 J S'):=(U.sub (.cons_cons _ (.cons _ (.cons_cons _ (.cons _ (ahM _)))))).bO (ah5 ..);exact Ru.wk (ih (k+1) aa aa a1 J S' (λx=>by
   rw[N,b4,<-ahb aw];constructor
   .rintro(h9|⟨h9|h9|⟨e,he,h9⟩,_⟩);·exact .inr (.inr ⟨_,ahu _ (abt.2 rfl),h9⟩)
    .exact .inl h9
    .exact .inr (.inl h9)
    exact .inr (.inr ⟨e,ahj _ he,h9⟩)
   rintro(h9|h9|⟨e,he,h9⟩);·exact .inr ⟨.inl h9,by have:=ag h9;omega⟩
   .exact .inr ⟨.inr (.inl h9),by have:=G (Az h9);omega⟩
   rcases ac6.1 he with he|he;·exact .inr ⟨.inr (.inr ⟨e,he,h9⟩),by have:=G (AA (aiK he) h9);omega⟩
   rw[abt]at he;subst he;exact .inl h9) U)
 refine Ru.exitTo ?_;rw[aho aa]at b4;have P:=hK.cG b hb;have f0:(V.aj.getD b default).aq.op=68->B.getD b []≠ []:=λf1 e=>by obtain⟨o,ho,_⟩:=cp.en b hb f1;rw[e]at ho;cases ho
 refine ab ?_;refine RO.cl (Nc T λdr dv dx hl=>?_);have U:ak Y dr ([tB 3 dx [aN b],tB fW dv [.aD Z 0]]++vS Z r D R q2 [vp,z,aU (aE V b).aq.op,va,.str (aE V b).aq.i7,vk,vg] v0 X S++[]):=by rw[ah8];exact U.cH hl
 refine ab ?_;refine Ru.wk (L:=[(og,.func BV [] [.aD dv 0,.aD dx 0]),(p2,.aD q2 0),(p5,.aD R 0),(p6,.aD D 0),(p7,.aD r 0)]) ?_;refine Ru.mq (J:=λiv ts=>∃X S,(∀x,S x↔x∈jH V E (B.getD b [])\/x∈(aE V b).aq.args\/(∃e∈(aE V b).aq.go,x∈e.args)\/∃h'∈(bX V b (B.getD b [])).take iv,x∈E.getD h'.1.toNat [])/\ts=vS Z r D R q2 [vp,z,aU (aE V b).aq.op,va,.str (aE V b).aq.i7,vk,vg] v0 X S) (Dn:=λ_ _=>False) U (Nd T hB O.bl (b:=b) (now:=B.getD b []) (nv:=l.getD b .bQ) (ib.cG.aE P) (ib.cG.jt P).1 (by have:=(ib.cG.jt P).2;omega) f0) (λH2 hg=>⟨t,l,O.ro.bN (U.gr.trans hg),rfl,(U.gr.trans hg).sl (O.op b hb)⟩) ⟨X,S,λx=>by rw[b4];simp,rfl⟩ (λk args ws h9=>by obtain⟨_,v,rfl,_⟩:=h9;rfl) (λiv ts us Q hJ U=>U.gr.sl (O.op b hb)) (λiv args ws ts us i2 o1 o2 Q h8 b6 hJ U=>?_) (λQ b7 dm hJ U=>?_) (λj Q b7 dm _ h9=>h9.elim)
 .obtain⟨X,S,a2,rfl⟩:=hJ;obtain⟨dy,v,rfl,fp,fq,fs,_⟩:=b6;have U:=U.sub ((List.sublist_append_right _ _).append_right _);have dz:(bX V b (B.getD b []))[iv]∈bX V b (B.getD b []):=abO dy;have f2:=(ahb dy).symm;obtain⟨hL,hN⟩:=ib.cG.Af P _ dz;have f3:=hK.il hb (Cg dz);generalize(bX V b (B.getD b []))[iv]=h' at*;obtain⟨i1,ht⟩:∃i1:Nat,h'.1=(i1:Int):=⟨h'.1.toNat,aa⟩;rw[ht,aeY]at f3;have d7:i1<E.length:=by rw[L.len];omega
  have gL:=L.iw i1;rw[ht];refine au ?_;refine Ru.cX (xs:=vS Z r D R q2 [vp,z,aU (aE V b).aq.op,va,.str (aE V b).aq.i7,vk,vg] v0 X S) U λds U=>ab ?_;refine RO.aW ?_ (v:=w) (hc:=by rw[U.gr.aY cn];exact el);refine ab ?_;refine RO.bL U.gr O.sl (λC hP hR g0 d' g1 cd _=>?_) (j:=i1);obtain⟨vl,rfl,b'⟩:=d';rw[<-aZ d7 []]at b';have⟨et,hT,hU,_⟩:=b'.all;refine ab ?_;refine RO.aW (v:=vl) (RO.cl (yz T U 1 rfl (U.gr.sl b') aa λa1 J S' N U=>RO.dO U 1 (λd0 U=>ab ?_))) (hc:=cd 0 _ rfl);have U:=(U.sub (.cons_cons _ (.cons_cons _ (.cons _ (ahM _))))).bO (ah5 ..);refine Ru.bx (ts:=vS Z r D R q2 [vp,z,aU (aE V b).aq.op,va,.str (aE V b).aq.i7,vk,vg] v0 J S') U ⟨J,S',λx=>?_,rfl⟩;rw[N,a2,f2];constructor
  .rintro(h9|⟨h9|h9|h9|⟨w2,I,h9⟩,_⟩);·exact .inr (.inr (.inr ⟨_,ahu _ (abt.2 rfl),by rw[ht,aeY];exact h9⟩))
   .exact .inl h9
   .exact .inr (.inl h9)
   .exact .inr (.inr (.inl h9))
   exact .inr (.inr (.inr ⟨w2,ahj _ I,h9⟩))
  rintro(h9|h9|⟨e,he,h9⟩|⟨w2,I,h9⟩);·exact .inr ⟨.inl h9,by have:=ag h9;omega⟩
  .exact .inr ⟨.inr (.inl h9),by have:=G (Az h9);omega⟩
  .exact .inr ⟨.inr (.inr (.inl ⟨e,he,h9⟩)),by have:=G (AA he h9);omega⟩
  rcases ac6.1 I with I|I;·refine .inr ⟨.inr (.inr (.inr ⟨w2,I,h9⟩)),?_⟩;have:=GJ ib hK hO L (hK.il hb (Cg (aiK I))) h9;omega
  rw[abt]at I;subst I;rw[ht,aeY]at h9;exact .inl h9
 obtain⟨X,S,a2,rfl⟩:=hJ;rw[aid]at a2;have ea:∀k,k<=(aE V b).aB.length->∀x,de V B E b k x->0<=x:=by
  intro k;induction k with
  |zero=>
   rintro _ x(h9|h9|⟨e,he,h9⟩|⟨h',I,h9⟩);·exact ag h9
   .exact G (Az h9)
   .exact G (AA he h9)
   exact GJ ib hK hO L (hK.il hb I) h9
  |succ k ih=>
   rintro hk x(h9|h9|⟨h9,_⟩);·exact ag h9
   .rw[aZ aa]at h9;exact G (CB _ h9)
   exact ih aa x h9
 have U:=U.Ak (S':=de V B E b 0) 1 rfl λx=>by
  rw[a2];refine or_congr aiY (or_congr aiY (or_congr aiY ⟨?_,?_⟩));·rintro⟨h',I,h9⟩;exact⟨_,Cg I,h9⟩
  rintro⟨h',I,h9⟩;simp only[wW,jU,ahm]at I;obtain⟨w2,f4,rfl⟩:=I;exact⟨w2,f4,h9⟩
 refine ab ?_;refine RO.iE U 1 (λds f5 U=>RO.dD U λa1 C U=>ab ?_) (ws:=[.map X]) (n:=1);refine RO.eo U 5 (RO.cl (Cj T.Y7 bt e2 e3 e4 λd0 d1 hl=>?_));have U:=U.cH hl;refine ab ?_;refine Ru.wk (L:=[(uX,.func W0 [] [.aD d1 0]),(p6,.aD D 0),(p7,.aD r 0),(eD,.aD C 0)]) ?_;have U:ak Y d0 ([tB Kf d1 [z]]++tY C r D v0 (λ_=>X) (.slice f5 0 1 1 true) 0 (de V B E b)++[tB cS R [vp,z,aU (aE V b).aq.op,va,.str (aE V b).aq.i7,vk,vg],tB fW q2 [.aD Z 0],tX dm (.deferred false)]):=(((U.ep 5 rfl).ep 4 rfl).ep 3 rfl).ep 3 rfl;refine Ru.mq (J:=λk ts=>∃p sv,sv.bk=true/\sv.cY=true/\sv.cells=[sv]/\ts=tY C r D v0 p sv k (de V B E b)) (Dn:=λ_ _=>False) U (Ci (R:=nY Y) (agg:=true) (size:=6) (la:=(aE V b).aB) (sv:=z) (e:=Kf) (nt:=19) T.Zu bt aa (λh9=>by cases h9) (λi3 cs h9=>rfl)) (λH2 hg=>by obtain⟨h',h1,h2⟩:=hvs;exact⟨h',(U.gr.trans hg).sl h1,h2⟩) ⟨_,_,rfl,rfl,rfl,rfl⟩ (λk args ws h9=>by obtain⟨_,_,_,_,rfl⟩:=h9;rfl) (λk ts us Q hJ U=>by obtain⟨h',h1,h2⟩:=hvs;exact⟨h',U.gr.sl h1,h2⟩) (λk args ws ts us i2 o1 o2 Q hk b6 hJ U=>?_) (λQ b7 ca hJ U=>?_) (λj Q b7 dm _ h9=>h9.elim)
 .obtain⟨rfl,d2,cs,f6,rfl⟩:=b6;obtain⟨p,sv,eb,ec,ei,rfl⟩:=hJ;have hV:=(dg _ (abO d2)).1;have f7:(aE V b).aB.getD ((aE V b).aB.length - 1 - k) default=(aE V b).aB[(aE V b).aB.length - 1 - k]:=aZ d2 _;have f8:∀{x:Int},x∈(aE V b).aB[(aE V b).aB.length - 1 - k].args->0<=x:=λh9=>G (CB _ h9);have f9:=ea k aa;have f':∀x,de V B E b (k+1) x↔x∈jH V E (B.getD b [])\/x∈(aE V b).aB[(aE V b).aB.length - 1 - k].args\/de V B E b k x/\x≠(aE V b).aB[(aE V b).aB.length - 1 - k].to:=λx=>by rw[<-f7];exact aiY
  generalize(aE V b).aB[(aE V b).aB.length - 1 - k]=st at*;obtain⟨d3,rfl,a8⟩:=f6;have⟨g2,g3,g4,_⟩:=a8.all;refine ab ?_;refine RO.dD U λd4 d5 U=>ab ?_;refine Ru.cX (xs:=tB n8 d5 [aU st.op,aI st.to,d3,aI st.n,aI st.m,.str st.i7]::tY C r D v0 p sv k (de V B E b)) U λhW U=>ab ?_;have hat:∀(us:List Th),(tB n8 d5 [aU st.op,aI st.to,d3,aI st.n,aI st.m,.str st.i7]::(tY C r D v0 p sv k (de V B E b)++us))[4+(k+1)]?=some (tM true (p k) (de V B E b k)):=λus=>by simp only[tY,ae0];exact oN (xs:=[_,_,_,_]) (adB aa)
  refine RO.BZ (i:=D) (o:=0) (v:=v0) (yz T U (4+(k+1)) (hat _) (U.gr.sl a8) aa λhX q1 S1 gb U=>⟨by obtain⟨_,hp⟩:=U.get 4 rfl;exact tB.cell hp rfl,?_⟩) (hvs:=ax.bI);refine RO.cl (yz T U 0 rfl (U.gr.sl ax) aa λhY y S2 ej U=>?_);refine RO.dO U 4 (λh4 U=>?_);refine ab ?_;refine RO.push U 6 (λw0 h5 v2 U=>?_) (ws:=[.map y]);have⟨gd,gg,gi,_⟩:=(U.sl 6 rfl).all;refine RO.dO U 3 (λh6 U=>ab ?_);have U:=U.Ak (S':=de V B E b (k+1)) 0 rfl λx=>by
   rw[f',ej,gb];constructor
   .rintro(h9|⟨h9|h9,_⟩);·exact .inl h9
    .exact .inr (.inl h9)
    exact .inr (.inr h9)
   rintro(h9|h9|h9);·exact .inl h9
   .exact .inr ⟨.inl h9,by have:=f8 h9;omega⟩
   exact .inr ⟨.inr h9,by have:=f9 x h9.1;omega⟩
  have U:=U.sub (.cons_cons _ (.cons _ (.cons _ (ahM _))));have e1:tY C r D v0 (λj=>if j=k+1 then y else p j) v2 (k+1) (de V B E b)=[tB lN C [v2],tB dR r [.map y],tB cW D [v0]]++((tS dR 1 ((ahq (k+1)).map (λi=>AV.map (p i))++[.map y]) (k+1+1) true v2::(ahq (k+1)).map λi=>tM true (p i) (de V B E b i))++[tM true y (de V B E b (k+1))]):=by
   have g5:(ahq (k+1+1)).map (λi=>AV.map (if i=k+1 then y else p i))=(ahq (k+1)).map (λi=>AV.map (p i))++[.map y]:=by
    rw[ah9,ahx];congr 1;·exact aip λi hi=>by rw[ahR]at hi;rw[an aa]
    simp
   have g6:(ahq (k+1+1)).map (λi=>tM true (if i=k+1 then y else p i) (de V B E b i))=(ahq (k+1)).map (λi=>tM true (p i) (de V B E b i))++[tM true y (de V B E b (k+1))]:=by
    rw[ah9,ahx];congr 1;·exact aip λi hi=>by rw[ahR]at hi;rw[an aa]
    simp
   simp only[tY,yA,g5,g6,aF,ah4]
  refine Ru.bx (ts:=tY C r D v0 (λj=>if j=k+1 then y else p j) v2 (k+1) (de V B E b)) ?_ ⟨_,v2,gd,gg,gi,rfl⟩;rw[e1];have U:=U.bO (ahy (l₁:=[tB lN C [v2],tB dR r [.map y],tB cW D [v0]]++(tS dR 1 ((ahq (k+1)).map (λi=>AV.map (p i))++[.map y]) (k+1+1) true v2::(ahq (k+1)).map λi=>tM true (p i) (de V B E b i))) (l₂:=tX i2 o2::us)).symm;simpa only[ae0,ah4,aie]using U
 obtain⟨p,sv,eb,ec,ei,rfl⟩:=hJ;refine ab ?_;obtain⟨ij,cap,ex,rfl⟩:=U.jp 3 rfl aa;have U:=U.ep 3 rfl;refine RO.cl (adA T.Y8 (n:=(aE V b).aB.length+1) aC aa aa (λv hv=>by obtain⟨i,_,rfl⟩:=ahm.1 hv;exact⟨rfl,rfl,rfl⟩) U λd4 U=>?_);refine ab ?_;have e1:((ahq ((aE V b).aB.length+1)).map λi=>AV.map (p i)).reverse=(ahq ((aE V b).aB.length+1)).map λi=>AV.map (p ((aE V b).aB.length - i)):=by apply ain aC;intro i h1 h2;simp only[List.length_reverse,ahs,List.length_range]at h1;simp only[List.getElem_reverse,ahs,List.length_range,ahP,aiH];congr 2
 have g7:((ahq ((aE V b).aB.length+1)).map λi=>tM true (p i) (de V B E b i)).reverse=(ahq ((aE V b).aB.length+1)).map λi=>tM true (p ((aE V b).aB.length - i)) (de V B E b ((aE V b).aB.length - i)):=by apply ain aC;intro i h1 h2;simp only[List.length_reverse,ahs,List.length_range]at h1;simp only[List.getElem_reverse,ahs,List.length_range,ahP,aiH];congr 2
 rw[e1]at U;have U:ak Y d4 (tS dR 1 ((ahq ((aE V b).aB.length+1)).map λi=>AV.map (p ((aE V b).aB.length - i))) ((aE V b).aB.length+1) true (.slice ij 0 ((aE V b).aB.length+1) cap ex)::tB lN C [.slice ij 0 ((aE V b).aB.length+1) cap ex]::tB dR r [.map (p (aE V b).aB.length)]::tB cW D [v0]::(((ahq ((aE V b).aB.length+1)).map λi=>tM true (p i) (de V B E b i))++(tX ca (.deferred false)::[tB cS R [vp,z,aU (aE V b).aq.op,va,.str (aE V b).aq.i7,vk,vg],tB fW q2 [.aD Z 0],tX dm (.deferred false)]))):=U;have U:=U.sub (.cons_cons _ (.cons _ (.cons _ (.cons _ ((ahM _).append (.cons_cons _ (.cons _ (.cons _ (ahM _)))))))));have U:=U.bO ((ahA (l₁:=tS dR 1 ((ahq ((aE V b).aB.length+1)).map λi=>AV.map (p ((aE V b).aB.length - i))) ((aE V b).aB.length+1) true (.slice ij 0 ((aE V b).aB.length+1) cap ex)::(ahq ((aE V b).aB.length+1)).map λi=>tM true (p i) (de V B E b i)) (l₂:=[tX ca (.deferred false),tX dm (.deferred false)])).trans (List.Perm.append_left _ (ah6 _ (List.reverse_perm _).symm)));rw[g7]at U;exact Ru.jf (M:=[ca,dm]) U λQ U=>⟨[.slice ij 0 ((aE V b).aB.length+1) cap ex],⟨rfl,rfl,trivial⟩,h9 Q _ (λi=>p ((aE V b).aB.length - i)) U⟩
end
section
variable{ac:Nat->aX}
def GK(ac:Nat->aX)(A:ai)(y:AV)(G:(Int->Prop)->Prop)(J:List (Int->Prop)->List Th->Prop):Prop:=
 ∀b S q i us H,G S->J b i->ak A H (tM false q S::(i++us))->YF ac y [.map q] H λv H'=>v=.bool true/\∃h,J (b++[S]) h/\ak A H' (tM false q S::(h++us))
def Nj(ac:Nat->aX)(A:ai)(fv:AV)(G:(Int->Prop)->Prop)(i:List (Int->Prop))(j:List Th):Prop:=
 ∀y J h us H(K:KT),y.bk=true->y.cY=true->y.cells=[y]->GK ac A y G J->J [] h->ak A H (j++h++us)->(∀H' b v,ak A H' (b++us)->J i b->K v H')->YF ac fv [y] H K
theorem Ru.adG{L:Kn}{K:cC->Fr->ai->Prop}{M:List ah}{ag:aJ}{cX body:bw}{J:List (Int->Prop)->List Th->Prop}(U:ak r Y (m++g++f))(R:Nj ac r s a D m)(T:J [] g)(V:∀b S q i f l o1 o2 Y,a S->J b i->ak r Y (tM false q S::(i++tX l o1::f))->Ru ac (B7 ac l o1 o2 body (vn r l o2 f (λh=>∃t2,h=tM false q S::t2/\J (b++[S]) t2) λ_ _=>False)) [.code cX] (yi [Z] [.map q] L) Y)(z:∀t h Q,J D h->ak r t (h++tX Q (.deferred false)::f)->Ru ac ⟨K,Q::M,none⟩ d L t)(W:aT L ag=s:=by exact cw)(F:s.bk=true:=by first|rfl|assumption):Ru ac ⟨K,M,none⟩ (.code (.rangeFunc ag [Z] cX body)::d) L Y:=by
 intro af u;have I:=U.x7 (.deferred false);have w:=I.x7 (.loop .ready .none 0 af [Z] cX body Y.next);have x:=w.bO Ls;generalize hl:(Y.new (.deferred false)).next=l at w x;generalize N:((Y.new (.deferred false)).new (.loop .ready .none 0 af [Z] cX body Y.next))=X at w x;have key:=R (.yield l) (λb h=>∃i,h=tX l (.loop .ready .none 0 af [Z] cX body Y.next)::i/\J b i) _ _ X (λ_ t=>match t.get l with
  |.loop st bU fn B ps aw bd ax=>match st with|.busy=>False|_=>iP ac K d bU ⟨af,Y.next::M,none⟩ (t.set l (.loop .exhausted bU fn B ps aw bd ax))
  |_=>False) rfl rfl rfl ?_ ⟨g,rfl,T⟩ x ?_;·have⟨n,hn⟩:=key;refine⟨n+1,?_⟩;simp only[Xc,exec];rw[hl,N,u.gv W F];exact hn
 .rintro b S q _ o E hG⟨i,rfl,O⟩p;have y:ak r E ((tM false q S::i)++tX l (.loop .ready .none 0 af [Z] cX body Y.next)::o):=p.bO (FC (ws:=[_]));have k:E.get l=.loop .ready .none 0 af [Z] cX body Y.next:=y.nf (tM false q S::i).length aC;have C:=V b S q i o l _ (.loop .busy .none 0 af [Z] cX body Y.next) E hG O y (lZ [Z] [.map q] af) u.pr;refine Lt k rfl C (λt h h1 h2=>?_) (λj t h hj h1 h2=>h2.elim);obtain⟨t2,rfl,h2⟩:=h2;refine⟨rfl,tX l _::t2,⟨t2,rfl,h2⟩,?_⟩;have:=h1.pK (q:=l) (o:=.loop .busy .none 0 af [Z] cX body Y.next) (tM false q S::t2).length aC (.loop .ready .none 0 af [Z] cX body Y.next);rw[show((tM false q S::t2)++tX l (.loop .busy .none 0 af [Z] cX body Y.next)::o).set (tM false q S::t2).length (tX l (.loop .ready .none 0 af [Z] cX body Y.next))=(tM false q S::t2)++tX l (.loop .ready .none 0 af [Z] cX body Y.next)::o by simp]at this;exact this.bO (FC (ws:=[_])).symm
 rintro t _ v p⟨i,rfl,P⟩;have k:=p.nf 0 rfl;simp only[k];exact z _ i _ P (p.pK 0 rfl _).tail af u
theorem Nk(T:Tb ac)(C:n<=6000)(t:aY Y Z 1=some (aN n))(h:∀j v,ak Y j [tS 3 1 ((ahq n).map aN) n true v]->q v j):YN ac WI [.aD Z 0] Y q:=by
 refine YF.code T.Y' aC (ab ?_);refine Ru.nm λm M o l=>Ru.bH l (up (P:=λk=>∀i v,ak Y i [tS 3 1 ((ahq k).map aN) k true v]->Ru ac _ m ([(p9,aN k),(p2,v)]++pk M [p8]) i) n (λk D p i v U=>?_) 0 aa _ .bj ((ak.bM Y).mZ 3 1));subst o;subst l;have⟨u,w,x,_⟩:=(U.sl 0 rfl).all;refine Ru.loop (au ?_);refine Ru.cond (λb=>?_) (λb=>?_);·refine au ?_;refine RO.push U 0 (λE r s U=>?_) (ws:=[aN k]);have⟨y,z,B,_⟩:=(U.sl 0 rfl).all;refine au ?_;exact Ru.wk (p (k+1) aa aa r s (by rw[ah9,ahx];exact U))
 refine Ru.exitTo ?_;obtain rfl:k=n:=aa;refine au ?_;exact Ru.aL (h _ v U)
def lB(V:G.aM)(b:Nat):List Int:=if b=0 then(ahq V.i4.toNat).map λ(v:Nat)=>(v:Int)else(aE V b).i4
def oO(V:G.aM)(os:List (List bp))(E:List (List Int))(b:Nat):Int->Prop:=λx=>x∈lB V b\/de V os E b (aE V b).aB.length x
def pT(V:G.aM)(os:List (List bp))(E:List (List Int))(b i:Nat):List (Int->Prop):=[de V os E b ((aE V b).aB.length - i),λx=>x=((aE V b).aB.getD i default).to/\x≠ -1\/de V os E b ((aE V b).aB.length - (i+1)) x]
def oP(V:G.aM)(os:List (List bp))(E:List (List Int))(b:Nat):List (Int->Prop):=(oO V os E b::(ahq (aE V b).aB.length).flatMap (pT V os E b))++[de V os E b 0]
def iW(V:G.aM)(os:List (List bp))(E:List (List Int))(W:List Nat):List (Int->Prop):=W.flatMap (oP V os E)
def CC(V:G.aM)(S:Int->Prop):Prop:=∀x,S x->0<=x/\x<V.aO
theorem GL(k:Vd V)(b:nq V F B)(hb:F.getD n false=true)(h:(x,A)∈fL (aE V n)):0<=x/\x<V.aO:=by have⟨t,i,j,_⟩:=b.rd n hb _ h;have:=Ai k.gv.v0;simp only at i;omega
theorem Nl(k:Vd V)(i:b8 V F B)(j:eF V F B W)(b:gu V F B E)(hb:F.getD n false=true)(h:x∈E.getD n []):0<=x/\x<V.aO:=
 have h1:=((b.mem n hb x).1 h).Aj k.cG i (k.oM F B i) k.gv j hb
 ⟨h1.1,h1.2.1⟩
theorem Nm(m:Vd V)(i:b8 V F B)(j:eF V F B W)(b:gu V F B E)(hb:F.getD n false=true)(h:x∈jH V E (B.getD n [])):0<=x/\x<V.aO:=by
 unfold jH at h;split at h;·rename_i t k;have⟨_,_,_,_,l,_⟩:=qS m.cG i hb k;exact Nl m i j b l h
 cases h
theorem Nn(q:Vd V)(j:b8 V F B)(l:eF V F B W)(b:gu V F B E)(hb:F.getD n false=true):∀k,k<=(aE V n).aB.length->CC V (de V B E n k):=by
 have i:=q.oM F B j;intro k;induction k with
 |zero=>
  rintro _ x(h|h|⟨r,he,h⟩|⟨w,m,h⟩);·exact Nm q j l b hb h
  .exact GL q i hb (Az h)
  .exact GL q i hb (AA he h)
  exact Nl q j l b (j.il hb m) h
 |succ k o=>
  rintro p x(h|h|⟨h,_⟩);·exact Nm q j l b hb h
  .rw[aZ aa]at h;exact GL q i hb (CB _ h)
  exact o aa x h
theorem No(j:Vd V){b:Nat}(hb:b<V.aj.length):∀x∈lB V b,0<=x/\x<V.aO:=by
 intro x h;unfold lB at h;split at h;·obtain⟨v,i,rfl⟩:=ahm.1 h;rw[ahR]at i;have:=j.fm.fv.h1;have:=j.fm.fv.h0;omega
 exact j.oD _ (kq hb) _ (Cv h)
theorem Ru.Np{l:Cx}{x:SI}{L:Kn}(P:Kn->ai->Prop)(h1:∀M b,P M b->Ru ac l d M b)(h2:(∀b i M,P M b->ja M i->Ru ac l d i b)->Ru ac l (x::d) L Y):Ru ac l (x::d) L Y:=h2 λb i M j hl=>(h1 M b j).rP hl
def jI(b:Nat->ah)(P:Nat->Int->Prop)(ex:Nat->Bool)(n:Nat):List Th:=(ahq n).map λj=>tM (ex j) (b j) (P j)
theorem GM{ex:Nat->Bool}{i:Nat}(hi:i<n):(jI ids P ex n)[i]?=some (tM (ex i) (ids i) (P i)):=by simp[hi,jI,ahB,aiN,ahQ]
theorem adH(hi:n<L):(jI ids P v L).set n (tM false (ids n) (P n))=jI ids P (λj=>if j=n then false else v j) L:=by apply ain (by simp[jI]);intro j h1 h2;simp only[jI,List.getElem_set,ahP,aiH];grind
theorem GN{b:Type}:∀{l:List b}{i:Nat}(m:i<l.length),(l[i]::l.eraseIdx i).Perm l|j::l,0,_=>ai3 _|j::l,i+1,m=>(ah5 j (l[i]'(by grind)) _).trans (ah6 j (GN (l:=l) (i:=i) (by grind)))
theorem GO(j:GK ac Y s a b)(o:a c)(q:b D m)(U:ak Y r (tM p Z c::(f++(m++g)))):YF ac s [.map Z] r λv n=>v=.bool true/\∃i,b (D++[c]) i/\ak Y n (tM false Z c::(f++(i++g))):=by have h1:=U.as (t':=tM false Z c) 0 rfl λu l=>⟨l.1,l.2.1,l.2.2.1,(λw=>by cases w),l.2.2.2.2⟩;have h2:=h1.bO (ah6 _ (List.perm_append_comm_assoc f m g));refine(j D c Z m (f++g) r o q h2).mono ?_;rintro v n⟨rfl,i,h3,t⟩;exact⟨rfl,i,h3,t.bO (ah6 _ (List.perm_append_comm_assoc i f g))⟩
theorem GP(o:GK ac Y s a b){ex:Nat->Bool}{i:Nat}(hi:i<n)(w:a (P i))(x:b D m)(U:ak Y r (f++(jI ids P ex n++(m++g)))):YF ac s [.map (ids i)] r λv u=>v=.bool true/\∃l,b (D++[P i]) l/\ak Y u (f++(jI ids P (λj=>if j=i then false else ex j) n++(l++g))):=by
 have hat:=GM (ids:=ids) (P:=P) (ex:=ex) hi;have⟨p,B⟩:=ahY.1 hat;have t:(f++(jI ids P ex n++(m++g))).Perm (tM (ex i) (ids i) (P i)::((f++(jI ids P ex n).eraseIdx i)++(m++g))):=by have h1:=(GN p).symm;rw[B]at h1;have h2:=(h1.append_right (m++g)).append_left f;refine h2.trans ?_;rw[ae0];exact ahy
 refine(GO o w x (U.bO t)).mono ?_;rintro v u⟨rfl,l,h3,z⟩;refine⟨rfl,l,h3,z.bO ?_⟩;rw[<-adH hi];have q:i<((jI ids P ex n).set i (tM false (ids i) (P i))).length:=by simpa using p
 have h1:=GN q;rw[List.getElem_set_self,List.eraseIdx_set_eq]at h1;have h2:=(h1.append_right (l++g)).append_left f;refine List.Perm.trans ?_ h2;rw[ae0];exact ahy.symm
theorem adI(b:Nat->ah)(v:AV)(n:Nat)(P:Nat->Int->Prop):yA b v n P=tS dR 1 ((ahq n).map λi=>.map (b i)) n true v::jI b P (λ_=>true) n:=rfl
def t8(j o Z:ah)(l:List AV)(b:Nat->ah)(v:AV)(n:Nat):List Th:=[tB cS j l,tB fW o [.aD Z 0],tS dR 1 ((ahq n).map λi=>.map (b i)) n true v]
theorem adJ(T:Tb ac)(f5:Vd V)(hF:FX V Y o t s w u l F B W E)(hK:b8 V F B)(hO:eF V F B W)(b4:gu V F B E):Nj ac Y (.func Fe [] [.aD Z 0]) (CC V) (iW V B E W) [tB fW Z [.aD o 0]]:=by
 intro y J ts us r K ec ei ej q hJ U cv;have hB:=f5.sm;have ek:=hB.nb;have a1:=hF.ro.lt;have c8:=hF.ro.aE;have c9:=hF.c4;have⟨el,_,_,_⟩:=hF.bl.all;have⟨et,ew,e0,e1⟩:=hF.od.all;have e3:W.length<=V.aj.length:=qR _ _ hO.nd λx hx=>hK.lt ((hO.mem x).1 hx);have e4:=f5.oM F B hK;have e5:=f5.fm.fv.h2;have e6:=f5.fm.fv.h0;have e7:=f5.fm.fv.h1;obtain⟨np,b6⟩:∃n:Nat,V.i4=(n:Int):=⟨V.i4.toNat,aa⟩;refine YF.code T.Y9 aC (ab ?_);refine RO.aW ?_ (v:=s) (hc:=by rw[U.gr.aY a1];exact c9);refine ab ?_;have U:ak Y r (tB fW Z [.aD o 0]::(ts++us)):=U;refine Ru.nm λS0 M hS hM=>Ru.bH hM (up (P:=λf4=>∀HX ts,J ((W.take f4).flatMap (oP V B E)) ts->ak Y HX (tB fW Z [.aD o 0]::(ts++us))->Ru ac _ S0 ([(kU,aN f4)]++pk M [p0,p1,iF,km]) HX) W.length (λf4 hk ih HX ts hJ U=>?_) 0 aa _ ts hJ U);subst hS;subst hM;refine Ru.loop (au ?_);refine Ru.cond (λR=>?_) (λR=>?_)
 .have a2:=(hO.mem _).1 (abO R);have b7:W.take (f4+1)=W.take f4++[W[f4]]:=(ahb R).symm;have ih:=ih (f4+1) aa aa;rw[b7,ahH,ahW]at ih;clear b7;refine ab ?_;refine RO.ic U.gr hF.od (λN o5 e8 e9=>?_) (j:=f4);generalize(W.take f4).flatMap (oP V B E)=h0 at*;generalize W[f4]=b at*;have a6:=hK.lt a2;have a8:=kq a6;have e':=hB.bl _ a8;have dg:=hB.st _ a8;have c':V.aj[b]=aE V b:=(aZ a6 _).symm;refine ab ?_;refine RO.aW ?_ (v:=t) (hc:=by rw[U.gr.aY a1];exact c8);refine ab ?_;refine RO.bL U.gr hF.bl (λq9 o9 f2 fa a' fb hat hrd=>?_) (j:=b);rw[c']at a';have d3:=a'.one;obtain⟨vp,G,jc,rfl,b',ca,va,vk,vg,rfl,fd,_,fe⟩:=a';have⟨fk,fl,fo,d4⟩:=ca.all;have⟨fp,_,_,_⟩:=b'.all;refine ab ?_;refine RO.dD U λH2 N U=>ab ?_;refine RO.cl (adF T f5 (hF.bN U.gr) hK hO b4 a2 λH3 v ids hl=>?_);have U:=U.cH hl;have L:=Nn f5 hK hO b4 a2;have dm:=No f5 (b:=b) a6;obtain⟨C,cap,p,rfl⟩:=U.jp 0 rfl aa;rw[adI]at U;have U:ak Y H3 (t8 N Z o [vp,G,aU (aE V b).aq.op,va,.str (aE V b).aq.i7,vk,vg] ids (.slice C 0 ((aE V b).aB.length+1) cap p) ((aE V b).aB.length+1)++(jI ids (λi=>de V B E b ((aE V b).aB.length - i)) (λ_=>true) ((aE V b).aB.length+1)++(ts++us))):=by have h9:=U.bO (List.perm_append_comm_assoc (tS dR 1 ((ahq ((aE V b).aB.length+1)).map λi=>AV.map (ids i)) ((aE V b).aB.length+1) true (.slice C 0 ((aE V b).aB.length+1) cap p)::jI ids (λi=>de V B E b ((aE V b).aB.length - i)) (λ_=>true) ((aE V b).aB.length+1)) [tB cS N [vp,G,aU (aE V b).aq.op,va,.str (aE V b).aq.i7,vk,vg],tB fW Z [.aD o 0]] (ts++us));exact h9
  have ag:∀i,i<(aE V b).aB.length+1->((ahq ((aE V b).aB.length+1)).map λi=>AV.map (ids i))[0+i*1]?=some (.map (ids i)):=λi hi=>by rw[show 0+i*1=i by omega,ahB,aiN hi];rfl
  refine ab ?_;refine Ru.Np (P:=λM H'=>∃pv,dh H' (lB V b) pv/\M=[(p7,pv),(p0,y),(p1,.aD Z 0),(p4,aN b),(p5,.aD N 0),(p6,.slice C 0 ((aE V b).aB.length+1) cap p),(iF,s),(km,aN W.length),(kU,aN f4)]/\ak Y H' (t8 N Z o [vp,G,aU (aE V b).aq.op,va,.str (aE V b).aq.i7,vk,vg] ids (.slice C 0 ((aE V b).aB.length+1) cap p) ((aE V b).aB.length+1)++(jI ids (λi=>de V B E b ((aE V b).aB.length - i)) (λ_=>true) ((aE V b).aB.length+1)++(ts++us)))) (λM H' hM=>?_) (λz=>?_);rotate_left
  .refine Ru.cond (λba=>?_) (λba=>?_)
   .refine ab ?_;refine RO.cl (Nk T (n:=np) aa (by rw[U.gr.aY a1,hF.c1,b6];rfl) λH4 pv cd=>?_);have dr:=U.bN cd.gr;have O:dh H4 (lB V b) pv:=by
     have h9:=cd.sl 0 rfl;have f7:lB V b=(ahq np).map λ(v:Nat)=>(v:Int):=by rw[lB,aF (by simpa using ba),b6,aeY]
     rw[f7];have e2:((ahq np).map λ(v:Nat)=>(v:Int)).map aI=(ahq np).map aN:=by rw[aiF];rfl
     unfold dh;rw[e2,ahs,List.length_range];exact h9
    have⟨cx,_,_,_⟩:=O.all;exact RO.bf (RO.nil (z _ _ _ ⟨pv,O,rfl,dr⟩ dw))
   refine Ru.skip ?_;refine z _ _ _ ⟨vp,by rw[lB,an (by simpa using ba)];exact U.gr.sl b',rfl,U⟩ ?_;exact dw
  obtain⟨pv,O,rfl,U⟩:=hM;have⟨cx,_,_,_⟩:=O.all;have d5:(lB V b).length<=6000:=by
   unfold lB;split;·simp;omega
   omega
  refine ab ?_;refine RO.cJ U 2 (hv:=ag 0 aa) (ab ?_);have ds:CC V (oO V B E b):=λx hx=>hx.elim (dm x) (L _ (aeE _) x);refine RO.cl (yz T U 3 (oN (i:=0) (xs:=t8 _ _ _ _ _ _ _) (GM aa)) O aa λH5 q6 S6 dv U=>?_);have U:=U.Ak (S':=oO V B E b) 0 rfl λx=>by rw[dv];exact or_congr aiY ⟨λf3=>f3.1,λf3=>⟨f3,by have:=L _ (aeE _) x f3;omega⟩⟩
  have U:ak Y H5 (tM true q6 (oO V B E b)::((t8 N Z o [vp,G,aU (aE V b).aq.op,va,.str (aE V b).aq.i7,vk,vg] ids (.slice C 0 ((aE V b).aB.length+1) cap p) ((aE V b).aB.length+1)++jI ids (λi=>de V B E b ((aE V b).aB.length - i)) (λ_=>true) ((aE V b).aB.length+1))++(ts++us))):=by rw[ae0];exact U
  refine RO.cl ((GO q ds hJ U).mono ?_);rintro v H6⟨rfl,dx,bb,U⟩;have U:=U.tail;rw[ae0]at U;refine ab ?_;refine Ru.nm λS1 M1 dy cf=>?_;have bb:J ((h0++[oO V B E b])++(ahq 0).flatMap (pT V B E b)) dx:=by simpa using bb
  refine Ru.bH cf (up (P:=λi=>∀HX ts ex,J ((h0++[oO V B E b])++(ahq i).flatMap (pT V B E b)) ts->(∀j,i<j->ex j=true)->ak Y HX (t8 N Z o [vp,G,aU (aE V b).aq.op,va,.str (aE V b).aq.i7,vk,vg] ids (.slice C 0 ((aE V b).aB.length+1) cap p) ((aE V b).aB.length+1)++(jI ids (λi=>de V B E b ((aE V b).aB.length - i)) ex ((aE V b).aB.length+1)++(ts++us)))->Ru ac _ S1 ([(m8,aN i)]++pk M1 [p0,p1,p4,p5,p6,iF,km,kU,rZ,og]) HX) (aE V b).aB.length (λi hi aw HX ts ex hJ bc U=>?_) 0 aa _ _ _ bb (λ_ _=>rfl) U);subst dy;subst cf;refine Ru.loop (au ?_);refine Ru.cond (λS=>?_) (λS=>?_)
  .refine ab ?_;refine RO.bL U.gr ca (λfq fs f0 d6 b3 d7 hat hrd=>?_) (j:=i);have dz:(aE V b).aB[i].to≠ -1->0<=(aE V b).aB[i].to/\(aE V b).aB[i].to<V.aO:=λD=>f5.oD _ a8 _ (Ax S D);have cn:(aE V b).aB.getD i default=(aE V b).aB[i]:=aZ S _;have ay:pT V B E b i=[de V B E b ((aE V b).aB.length - i),λx=>x=(aE V b).aB[i].to/\x≠ -1\/de V B E b ((aE V b).aB.length - (i+1)) x]:=by rw[pT,cn]
   have aw:=aw (i+1) aa aa;rw[ah9,ahH,ahW,ay]at aw;generalize(ahq i).flatMap (pT V B E b)=h1 at*;clear cn ay;generalize(aE V b).aB[i]=st at*;obtain⟨d0,rfl,cy⟩:=b3;have⟨d',ea,eb,_⟩:=cy.all;refine ab ?_;refine RO.dL U λH7 q9 U=>ab ?_;refine RO.eT U 0 (λH8 U=>ab ?_) (vs:=[al.i 4 0,al.i 3 0,AV.bj,al.i 3 0,al.i 3 0,AV.str []]) (ws:=[aU st.op,aI st.to,d0,aI st.n,aI st.m,.str st.i7]);refine RO.cJ U 3 (hv:=ag (i+1) aa) (ab ?_);refine Ru.Np (P:=λM H'=>∃I f6,(f6=[]/\I=ids (i+1)/\st.to= -1\/f6=[tM true I λx=>x=st.to/\x≠ -1\/de V B E b ((aE V b).aB.length - (i+1)) x])/\M=[(dS,.map I),(p0,y),(p1,.aD Z 0),(p4,aN b),(p5,.aD N 0),(p6,.slice C 0 ((aE V b).aB.length+1) cap p),(p8,aN i),(iF,s),(km,aN W.length),(kU,aN f4),(rZ,G),(og,aN (aE V b).aB.length),(m8,aN i)]/\ak Y H' (f6++(t8 N Z o [vp,G,aU (aE V b).aq.op,va,.str (aE V b).aq.i7,vk,vg] ids (.slice C 0 ((aE V b).aB.length+1) cap p) ((aE V b).aB.length+1)++(jI ids (λi=>de V B E b ((aE V b).aB.length - i)) ex ((aE V b).aB.length+1)++(ts++us))))) (λM H' hM=>?_) (λz=>?_);rotate_left
   .refine Ru.cond (λD=>?_) (λD=>?_)
    .have D:st.to≠ -1:=by simpa using D
     refine ab ?_;refine RO.iE U 1 (ws:=[aI st.to]) (n:=1) (λH9 qb U=>?_);have d1:dh H9 [st.to] (.slice qb 0 1 1 true):=U.sl 0 rfl;have hat:=GM (ids:=ids) (P:=λi=>de V B E b ((aE V b).aB.length - i)) (ex:=ex) (n:=(aE V b).aB.length+1) (i:=i+1) aa;rw[bc (i+1) aa]at hat;refine RO.cl (yz T U (5+(i+1)) (oN (i:=i+1) (xs:=[_,_,_,_,_]) hat) d1 aC λbv I f1 cE U=>?_);have U:=U.Ak (S':=λx=>x=st.to/\x≠ -1\/de V B E b ((aE V b).aB.length - (i+1)) x) 0 rfl λx=>by rw[cE,abt];exact or_congr ⟨λf3=>⟨f3,aa⟩,λf3=>f3.1⟩ ⟨λf3=>f3.1,λf3=>⟨f3,by have:=L ((aE V b).aB.length - (i+1)) aa x f3;omega⟩⟩
     exact RO.bf (RO.nil (z _ _ _ ⟨I,[tM true I _],.inr rfl,rfl,((U.sub (.cons_cons _ (.cons _ (.cons _ (ahM _))))))⟩ dw))
    have D:st.to= -1:=by simpa using D
    exact Ru.skip (z _ _ _ ⟨ids (i+1),[],.inl ⟨rfl,rfl,D⟩,rfl,U.tail⟩ dw)
   obtain⟨I,f6,hE,rfl,U⟩:=hM;refine ab ?_;refine RO.cJ U (f6.length+2) (hi:=oN (i:=2) (m:=jI ids (λi=>de V B E b ((aE V b).aB.length - i)) ex ((aE V b).aB.length+1)++(ts++us)) rfl) (hv:=ag i aa) ?_;rw[<-ae0]at U;refine RO.cl ((GP q (P:=λi=>de V B E b ((aE V b).aB.length - i)) (n:=(aE V b).aB.length+1) (i:=i) aa (L _ aa) hJ U).mono ?_);rintro v H9⟨rfl,b0,ax,U⟩;refine ab ?_;have key:YF ac y [.map I] H9 λv H'=>v=.bool true/\∃cp ex,J (h0++[oO V B E b]++(h1++[de V B E b ((aE V b).aB.length - i),λx=>x=st.to/\x≠ -1\/de V B E b ((aE V b).aB.length - (i+1)) x])) cp/\(∀j,i+1<j->ex j=true)/\ak Y H' (t8 N Z o [vp,G,aU (aE V b).aq.op,va,.str (aE V b).aq.i7,vk,vg] ids (.slice C 0 ((aE V b).aB.length+1) cap p) ((aE V b).aB.length+1)++(jI ids (λi=>de V B E b ((aE V b).aB.length - i)) ex ((aE V b).aB.length+1)++(cp++us))):=by
    rcases hE with⟨rfl,rfl,D⟩|rfl
    .rw[aie]at U;refine(GP q (P:=λi=>de V B E b ((aE V b).aB.length - i)) (n:=(aE V b).aB.length+1) (i:=i+1) aa (L _ aa) ax U).mono ?_;rintro v bv⟨rfl,P,Q,U⟩;refine⟨rfl,P,_,?_,λj hj=>?_,U⟩;·have f7:(λx=>x=st.to/\x≠ -1\/de V B E b ((aE V b).aB.length - (i+1)) x)=de V B E b ((aE V b).aB.length - (i+1)):=funext λx=>propext ⟨λf3=>f3.elim (λf3=>absurd (f3.1.trans D) f3.2) id,.inr⟩;rw[f7];simpa only[ae0,ah4,aie]using Q
     rw[an aa,an aa];exact bc j aa
    have U:ak Y H9 (tM true I (λx=>x=st.to/\x≠ -1\/de V B E b ((aE V b).aB.length - (i+1)) x)::((t8 N Z o [vp,G,aU (aE V b).aq.op,va,.str (aE V b).aq.i7,vk,vg] ids (.slice C 0 ((aE V b).aB.length+1) cap p) ((aE V b).aB.length+1)++jI ids (λi=>de V B E b ((aE V b).aB.length - i)) (λj=>if j=i then false else ex j) ((aE V b).aB.length+1))++(b0++us))):=by rw[ae0];exact U
    refine(GO q (λx hx=>hx.elim (λf3=>by rw[f3.1];exact dz (f3.1▸f3.2)) (L _ aa x)) ax U).mono ?_;rintro v bv⟨rfl,P,Q,U⟩;have U:=U.tail;rw[ae0]at U;refine⟨rfl,P,_,?_,λj hj=>?_,U⟩;·simpa only[ae0,ah4,aie]using Q
    rw[an aa];exact bc j aa
   refine RO.cl (key.mono ?_);rintro v bv⟨rfl,P,d2,Q,cR,U⟩;refine ab ?_;exact Ru.wk (aw _ P d2 Q cR U)
  refine Ru.exitTo ?_;obtain rfl:i=(aE V b).aB.length:=aa;refine ab ?_;refine RO.cJ U 2 (hv:=ag (aE V b).aB.length aa) (RO.cl ((GP q (P:=λi=>de V B E b ((aE V b).aB.length - i)) (n:=(aE V b).aB.length+1) (i:=(aE V b).aB.length) aa (L _ aa) hJ U).mono ?_));rintro v H9⟨rfl,b0,ax,U⟩;refine ab ?_;exact Ru.wk (ih _ b0 (by simpa only[oP,Nat.sub_self,ae0,ah4,aie]using ax) (U.sub (.cons _ (.cons_cons _ (.cons _ (List.sublist_append_right _ _))))))
 refine Ru.exitTo ?_;rw[aho aa]at hJ;refine ab ?_;exact Ru.aq (vs:=[]) trivial (cv HX ts _ U.tail hJ)
section
def tN:Th where
 P _ e:=e=[]
 fr h _ _:=h
 lt h:=λj hj=>by rw[h]at hj;cases hj
def tO(D:Bool)(q:ah)(S:Int->Prop):Th:=if D then tM false q S else tN
def fg(n:Nat)(D:Nat->Bool)(ids:Nat->ah)(S:Nat->Int->Prop):List Th:=(ahq n).map λv=>tO (D v) (ids v) (S v)
def jz(D:Nat->Bool)(ids:Nat->ah)(v:Nat):AV:=if D v then .map (ids v)else .cP
def gw(n:Nat)(D:Nat->Bool)(ids:Nat->ah):List AV:=(ahq n).map (jz D ids)
section
variable{D:Nat->Bool}{ids b:Nat->ah}{m:ah}
theorem CD:(gw L D ids).length=L:=by simp[gw]
theorem adK:(fg L D ids P).length=L:=by simp[fg]
theorem CE(e:L<k):(fg k D ids S)[L]?=some (tO (D L) (ids L) (S L)):=by simp[e,fg,ahB,aiN,ahQ]
theorem adL(f:L<k):(fg k D ids P).set L (tM false Z c)=fg k (λx=>if x=L then true else D x) (λx=>if x=L then Z else ids x) (dP P L c):=by
 apply ain (by simp[fg]);intro j h1 h2;simp only[fg,List.getElem_set,ahP,aiH,dP];by_cases e:L=j;·simp[e,tO]
 grind
theorem Nq:x∈fV A Q↔x∈Q/\x≠A:=rO A x Q
theorem Nr{ay:az AV}{t1 t2 t3:Th}(E:Q.Nodup)(F:∀j,j<L->D j=true->∃t0:List Int,iC H0 (ids j)=some t0/\t0.Nodup/\(∀x,x∈t0↔e j x)/\ids j≠m)(T:∀j,j<L->ay.br .ai8 (0+j)=jz D ids j)(V:∀j,j<L->D j=false->∀x,¬e j x):∀(l:List Int)(C:az AV)(H':ai)(v:Nat->Bool)(b:Nat->ah)(P:Nat->Int->Prop),l.Nodup->(∀k∈l,0<=k/\k<L)->(∀j,j<L->(j:Int)∈l->v j=D j/\b j=ids j/\P j=e j)->(∀j,j<L->C.br .ai8 (0+j)=jz v b j)->ak Y H' (t1::t2::t3::(fg L v b P++f))->∃u w r g y,sW ay 0 L m Q H0 l C H'=some (u,w)/\ak Y w (t1::t2::t3::(fg L r g y++f))/\(∀j,j<L->u.br .ai8 (0+j)=jz r g j)/\(∀j,j<L->(r j=true↔v j=true\/(j:Int)∈l))/\∀j,j<L->∀x,y j x↔P j x\/(j:Int)∈l/\x∈Q/\x≠j
 |[],C,H',v,b,P,_,_,_,J,U=>⟨C,H',v,b,P,rfl,U,J,λj _=>by simp,λj _ x=>by simp⟩
 |k::l,C,H',v,b,P,s,G,h3,J,U=>by
  rw[ahT]at s;have⟨ag,av⟩:=G k (acj ..);obtain⟨j,rfl⟩:∃j:Nat,k=(j:Int):=⟨k.toNat,aa⟩;have o:j<L:=aa;have⟨M,W,X⟩:=h3 j o (acj ..);have hat:(t1::t2::t3::(fg L v b P++f))[3+j]?=some (tO (v j) (b j) (P j)):=oN (xs:=[_,_,_]) (CE o);have t:∀{q:ah}{ax:Int->Prop},(t1::t2::t3::(fg L v b P++f)).set (3+j) (tM false q ax)=t1::t2::t3::(fg L (λx=>if x=j then true else v x) (λx=>if x=j then q else b x) (dP P j ax)++f):=λ{q ax}=>by refine(MU (xs:=[t1,t2,t3]) (l:=fg L v b P) (by rw[adK];exact o)).trans ?_;rw[adL o];rfl
  have B:∀i,i<L->(i:Int)∈l->i≠j:=λi _ hi aw=>s.1 (aw▸hi);have aq:∀{q:ah}{ax:Int->Prop}{c2:az AV}{K:ai},ak Y K (t1::t2::t3::(fg L (λx=>if x=j then true else v x) (λx=>if x=j then q else b x) (dP P j ax)++f))->(∀i,i<L->c2.br .ai8 (0+i)=jz (λx=>if x=j then true else v x) (λx=>if x=j then q else b x) i)->(∀x,ax x↔P j x\/x∈Q/\x≠(j:Int))->∃u w r g y,sW ay 0 L m Q H0 l c2 K=some (u,w)/\ak Y w (t1::t2::t3::(fg L r g y++f))/\(∀j,j<L->u.br .ai8 (0+j)=jz r g j)/\(∀i,i<L->(r i=true↔v i=true\/(i:Int)∈(j:Int)::l))/\∀i,i<L->∀x,y i x↔P i x\/(i:Int)∈(j:Int)::l/\x∈Q/\x≠i:=by
   intro q ax c2 K p O hP;obtain⟨u,w,r,g,y,g1,g2,g3,g4,g5⟩:=Nr E F T V l c2 K _ _ _ s.2 (λk hk=>G k (ab8 _ hk)) (λi hi hm=>by have:=B i hi hm;have⟨a1,a2,a3⟩:=h3 i hi (ab8 _ hm);simp only[an this,dP];exact⟨a1,a2,a3⟩) O p;refine⟨u,w,r,g,y,g1,g2,g3,λi hi=>?_,λi hi x=>?_⟩
   .rw[g4 i hi,ac2];by_cases aw:i=j;·subst aw;simp
    rw[an aw];have:¬((i:Int)=(j:Int)):=aa;simp[this]
   rw[g5 i hi,ac2];by_cases aw:i=j;·subst aw;simp only[dP,bg,hP,true_or,true_and];have:=s.1;simp[this]
   have h9:¬((i:Int)=(j:Int)):=aa;simp only[dP,an aw,h9,false_or]
  simp only[sW];simp only[ai5 aib o,bg,T j o];cases z:D j with
  |false=>
   simp only[jz,z,abH,bF];have⟨fp,N,_,hu⟩:=U.iQ (3+j) hat;rw[M,z]at N;have R:(fV (ah0 j) Q).Nodup:=BB E;have p:=hu (H':=H'.new (.cK (dt (fV (ah0 j) Q)))) (fp':=[H'.next]) (t':=tM false H'.next λx=>x∈Q/\x≠(j:Int)) ⟨by rw[ai.lm];omega,λi hi=>by rw[abt]at hi;exact .inr (by rw[hi];exact aeE _),λi _ hi=>by rw[ai.cL,an (λaw=>by rw[aw]at hi;omega)]⟩ ⟨abt.2 rfl,λj hj=>abt.1 hj,⟨_,by rw[ai.cL,aF rfl];exact sX R,λx=>Nq⟩,(λh=>by cases h),by rw[ai.lm];omega⟩;rw[t]at p;refine aq p (λi hi=>?_) (λx=>?_)
   .rw[lg];simp only[ahJ,jz];by_cases aw:i=j;·subst aw;simp
    rw[an aa,an aw,an aw,J i hi,jz]
   rw[X];have:=V j o z x;simp[this]
  |true=>
   have⟨t0,q1,q2,Z,q4⟩:=F j o z;simp only[jz,z,bg,tV q4,abH,bF,q1];rw[M,z,W]at hat;have⟨_,_,I⟩:=U.kW _ hat;have p:=U.qT (H':=H'.set (ids j) (.cK (dt (eX (fV (ah0 j) Q) t0)))) (q:=ids j) _ hat (t':=tM false (ids j) λx=>P j x\/x∈Q/\x≠(j:Int)) rfl (λi hi=>by rw[ai.aG,an hi]) (λfp N=>N.1) ⟨abt.2 rfl,λj hj=>abt.1 hj,⟨_,by rw[ai.aG,aF rfl];exact sX (nR _ q2),λx=>by rw[lL,Nq,Z,X,or_comm];rfl⟩,(λh=>by cases h),I⟩;rw[t]at p;refine aq p (λi hi=>?_) (λx=>aiY);rw[J i hi];simp only[jz];by_cases aw:i=j;·subst aw;simp[M,z,W]
   rw[an aw,an aw]
end
end
section
section
variable{D:Nat->Bool}{m:ah}
theorem adM(U:ak r Y (tM false m c::tB lN o [.slice Z 0 L L true]::tB dR Z (gw L D ids)::(fg L D ids S++f)))(hM:∀x,c x->0<=x/\x<L)(hS:∀j,j<L->D j=false->∀x,¬S j x):∃H' u d G,(∀af:az AV,af.get .ai8 (sl 4)=.map m->af.get .ai8 (sl 3)=.aD o 0->zy af Y=some (jn af nS,H'))/\(∀j,j<L->(u j=true↔D j=true\/c j))/\(∀j,j<L->∀x,G j x↔S j x\/c j/\c x/\x≠j)/\ak r H' (tM false m c::tB lN o [.slice Z 0 L L true]::tB dR Z (gw L u d)::(fg L u d G++f)):=by
 have⟨⟨w,q,B⟩,_,ag⟩:=U.kW 0 rfl;have⟨k1,y⟩:=vF q;have hat:∀{j},j<L->D j=true->(tM false m c::tB lN o [.slice Z 0 L L true]::tB dR Z (gw L D ids)::(fg L D ids S++f))[3+j]?=some (tM false (ids j) (S j)):=λ{j}hj hd=>by have:=oN (xs:=[tM false m c,tB lN o [.slice Z 0 L L true],tB dR Z (gw L D ids)]) (m:=f) (CE (D:=D) (ids:=ids) (S:=S) hj);rw[hd]at this;exact this
 have⟨f2,Q⟩:=U.get 2 rfl;have⟨a2,h6,h7,av⟩:=tB.Gz Q;rw[CD]at h6;have s:∀j,j<L->a2.br .ai8 (0+j)=jz D ids j:=λj hj=>by rw[ahw,h7 j (by rw[CD];exact hj)];simp[gw]
 have aw:aY Y o 0=some (.slice Z 0 L L true):=by obtain⟨_,t⟩:=U.get 1 rfl;exact tB.cell t rfl
 have ax:o≠Z:=U.ne 1 2 rfl rfl aa (λa1 h=>h.1) (λa1 h=>h.1);have eg:∀{l:List Int},l.Nodup->(∀k∈l,0<=k/\k<L)->(jD a2 0 l).Nodup:=by
  intro l;induction l with
  |nil=>intro _ _;exact aiP
  |cons k l I=>
   intro K g;rw[ahT]at K;have I:=I K.2 λk O=>g k (ab8 _ O);simp only[jD];split
   .rename_i N v;rw[ahT];refine⟨λR=>?_,I⟩;have⟨y,C,p⟩:=s9.1 R;have h1:=g k (acj ..);have h2:=g y (ab8 _ C);have E:k.toNat<L:=aa;have F:y.toNat<L:=aa;rw[s _ E,jz]at v;rw[s _ F,jz]at p;split at v
    .rename_i d1;split at p;·rename_i d2;injection v with v;injection p with p;have ay:k.toNat≠y.toNat:=λe=>K.1 (by rw[show k=y by omega];exact C);exact U.ne _ _ (hat E d1) (hat F d2) aa (λa1 h=>h.1) (λa1 h=>h.1) (v.trans p.symm)
     cases p
    cases v
   exact I
 have g:∀k∈w,0<=k/\k<L:=λk O=>hM k ((B k).1 O);obtain⟨J,z,u,d,G,g1,P,g3,g4,g5⟩:=Nr (m:=m) (H0:=Y) q.1 (λj hj hd=>by have⟨⟨t0,X,T⟩,_,_⟩:=U.kW _ (hat hj hd);exact⟨t0,(vF X).1,X.1,T,U.ne _ 0 (hat hj hd) rfl aC (λa1 h=>h.1) (λa1 h=>h.1)⟩) s hS w a2 Y D ids S q.1 g (λ_ _ _=>⟨rfl,rfl,rfl⟩) s U;have V:Z.ap<z.next.ap:=by obtain⟨_,t⟩:=P.get 2 rfl;obtain⟨_,_,_,_,_,h⟩:=t;exact h
 have W:m.ap<z.next.ap:=(P.kW 0 rfl).2.2;have L1:=P.qT (H':=z.set Z (.cells J L dR true [] 0)) (q:=Z) 2 rfl (t':=tB dR Z (gw L u d)) rfl (λi hi=>by rw[ai.aG,an hi]) (λfp t=>t.1) ⟨abt.2 rfl,λj hj=>abt.1 hj,J,by rw[ai.aG,aF rfl,CD],λj hj=>by rw[CD]at hj;have:=g3 j hj;rw[ahw]at this;rw[this];simp[gw],V⟩;have L2:=L1.qT (H':=(z.set Z (.cells J L dR true [] 0)).set m (.cK (dt w))) (q:=m) 0 rfl (t':=tM false m c) rfl (λi hi=>by rw[ai.aG,an hi]) (λfp t=>t.1) ⟨abt.2 rfl,λj hj=>abt.1 hj,⟨w,by rw[ai.aG,aF rfl];exact sX q.1,B⟩,(λh=>by cases h),W⟩;refine⟨((z.set Z (.cells J L dR true [] 0)).set m (.cK (dt w))).skip,u,d,G,λaf e4 e3=>?_,λj hj=>?_,λj hj x=>?_,?_⟩;·unfold zy;rw[e4,e3];have ho:=(EO _).2 (eg q.1 g);simp_all[tV,ahw,ahV,aeE,Bool.not_false,ai1,bg]
 .simp_all
 .simp_all
 exact L2.bN ⟨by show _<=(ah.succ _).ap;simp[ah.eP],λj _=>rfl⟩
end
end
theorem RO.adN{s:Cx}{p:Kn}{t:Option ah}{u:List bD}{size:Nat}(U:ak Y r f){x y:aJ}(h:∀i q,ak Y i (tB L q (dZ l n)::f)->RO ac s u d (bo p t (.slice q 0 n n true)) i)(j:aT p x=.int 3 (.ofNat n):=by exact cw)(m:aT p y=.int 3 (.ofNat n):=by exact cw)(hz:(dZ l n).length=n*size)(hb:n*k<=70368744177664:=by omega)(o:n<=70368744177664:=by omega):RO ac s (⟨t,.mJ L k size l x y,none,[],[]⟩::u) d p r:=by have:=U.E3 L (dZ l n);grind[RO.mJ]
theorem _root_.Go.al.ak.Nt(U:ak r Y f):∀n,ak r Y (f++ab7 n tN)
 |0=>by grind
 |n+1=>by
  have:=(U.Nt n).push (aR.refl Y) (t:=tN) (fp:=[]) rfl λj hj=>by cases hj
  exact this.bO ahy.symm
theorem adO(T:Tb ac)(h:∀i k,ak Y i [tB fW k [.aD Z 0]]->q (.func Fe [] [.aD k 0]) i):YN ac Wq [.aD Z 0] Y q:=by refine YF.code T.YP aC (au ?_);refine RO.bZ (ak.bM Y) λj k U=>ab ?_;exact Ru.aL (h _ _ U)
def Nu(h:List (Int->Prop))(n:Nat)(D:Nat->Bool)(S:Nat->Int->Prop):Prop:=(∀j,j<n->(D j=true↔∃C∈h,C j))/\∀j,j<n->∀x,S j x↔∃C∈h,C j/\C x/\x≠j
theorem Nv(T:Tb ac)(ax:Vd V)(P:FX V Y Z s t w u l F B W E)(R:b8 V F B)(X:eF V F B W)(L:gu V F B E)(hn:V.aO=n)(h:∀H' k D i S,Nu (iW V B E W) n D S->ak Y H' (tB dR k (gw n D i)::fg n D i S)->q (.slice k 0 n n true) H'):YN ac Ws [.aD Z 0] Y q:=by
 have M:=P.c2;rw[hn]at M;have ag:=ax.fm.fv.h2;refine YF.code T.YQ aC (ab ?_);refine RO.adN (ak.bM Y) (n:=n) (λH2 k U=>?_) (hz:=by rw[eE];simp);refine RO.dD U λH3 y U=>ab ?_;refine RO.cl (adO T λH4 o hl=>?_);have U:=U.cH hl;refine ab ?_;refine Ru.wk (L:=[(iF,.func Fe [] [.aD o 0]),(p3,.aD y 0)]) ?_;have N:dZ [AV.cP] n=gw n (λ_=>false) (λ_=>k):=by rw[eE];apply ain (by simp[gw]);intro j h1 h2;simp[gw,jz]
 rw[N]at U;have U:=U.Nt n;have U:ak Y H4 ([tB fW o [.aD Z 0]]++(tB lN y [.slice k 0 n n true]::tB dR k (gw n (λ_=>false) λ_=>k)::fg n (λ_=>false) (λ_=>k) λ_ _=>False)++[]):=by
  have a1:fg n (λ_=>false) (λ_=>k) (λ_ _=>False)=ab7 n tN:=by apply ain (by simp[fg]);intro j h1 h2;simp[fg,tO]
  rw[a1,ah8];exact U
 refine Ru.adG (J:=λv ts=>∃D i S,Nu v n D S/\ts=tB lN y [.slice k 0 n n true]::tB dR k (gw n D i)::fg n D i S) U (adJ T ax P R X L) ⟨_,_,_,⟨λj hj=>by simp,λj hj x=>by simp⟩,rfl⟩ (λv C ay ts us a2 o1 o2 r hG G U=>?_) λH' aw dm G U=>?_
 .obtain⟨D,i,S,m,rfl⟩:=G;refine ab ?_;refine Ru.cX (xs:=tM false ay C::tB lN y [.slice k 0 n n true]::tB dR k (gw n D i)::fg n D i S) U λH6 U=>?_;obtain⟨H7,I,p,Q,hg,hD,hS,U⟩:=adM U (λx J=>by have:=hG x J;omega) (λj hj hd x J=>by have⟨C0,O,h1,_⟩:=(m.2 j hj x).1 J;rw[(m.1 j hj).2 ⟨C0,O,h1⟩]at hd;cases hd);refine ab ?_;refine Ru.eH (co:=nS) (H':=H7) T.aaM (M:=[(p3,.aD y 0)]) (λaf z=>hg af (z.get (p:=sl 4) rfl rfl) (z.get (p:=sl 3) rfl rfl)) (ab ?_);refine Ru.bx (ts:=tM false ay C::tB lN y [.slice k 0 n n true]::tB dR k (gw n I p)::fg n I p Q) U ⟨_,rfl,I,p,Q,⟨λj hj=>?_,λj hj x=>?_⟩,rfl⟩;·rw[hD j hj,m.1 j hj];simp only[ac6,abt,or_and_right,exists_or,exists_eq_left]
  rw[hS j hj,m.2 j hj];simp only[ac6,abt,or_and_right,exists_or,exists_eq_left]
 obtain⟨D,i,S,m,rfl⟩:=G;refine ab ?_;have U:=U.tail;refine Ru.jf (M:=[dm]) (U.bO (ahy (l₁:=tB dR k (gw n D i)::fg n D i S) (l₂:=[]))) λH' U=>⟨[.slice k 0 n n true],⟨rfl,rfl,trivial⟩,h H' k D i S m ((ah8 (fg n D i S))▸U)⟩
theorem GQ(f:Vd V)(b:nq V F B)(hb:F.getD n false=true)(h:(x,A)∈fL (aE V n)):vE V F B n x:=by
 have⟨t,c,e,a⟩:=b.rd n hb _ h;subst c;have:=Ai f.gv.v0;refine⟨aC,aa,?_⟩;rcases a with a|⟨h1,_⟩|⟨s,h1,_,h3,d⟩;·omega
 .exact .inr ⟨n,by grind,hb,.Gb⟩
 exact .inr ⟨s,by grind,h3,d⟩
theorem Nw(k:Vd V)(a:b8 V F B)(e:eF V F B W)(b:gu V F B E)(hb:F.getD n false=true)(c:L∈wW V B n)(h:x∈E.getD L []):vE V F B n x:=by have d:=a.il hb c;have⟨h0,h1,h2⟩:=((b.mem L d x).1 h).Aj k.cG a (k.oM F B a) k.gv e d;exact⟨h0,h1,h2.imp id λ⟨s,h3,f,i,j⟩=>⟨s,h3,i,j.bY c f⟩⟩
theorem Nx(l:Vd V)(a:b8 V F B)(e:eF V F B W)(b:gu V F B E)(hb:F.getD n false=true)(h:x∈jH V E (B.getD n [])):vE V F B n x:=by
 unfold jH at h;split at h;·rename_i t f;have⟨u,hu,c,d,k,_⟩:=qS l.cG a hb f;have⟨h0,h1,h2⟩:=Nw l a e b c d h;exact⟨h0,h1,h2.imp id λ⟨s,h3,i,j⟩=>⟨s,h3,i,j.trans (Mc l.cG a hu)⟩⟩
 grind
theorem adP(l:Vd V)(b:b8 V F B)(d:eF V F B W)(c:gu V F B E)(hb:F.getD n false=true):∀k,k<=(aE V n).aB.length->∀x,de V B E n k x->vE V F B n x:=by
 have a:=l.oM F B b;intro k;induction k with
 |zero=>
  rintro _ x(h|h|⟨e,he,h⟩|⟨w,f,h⟩);·grind[Nx]
  .exact GQ l a hb (Az h)
  .exact GQ l a hb (AA he h)
  grind[Nw]
 |succ k i=>
  rintro j x(h|h|⟨h,_⟩);·grind[Nx]
  .rw[aZ aa]at h;exact GQ l a hb (CB _ h)
  grind
theorem Ny(b:Vd V)(a:b8 V F B)(hb:F.getD n false=true)(h:(x,A)∈cB (aE V n)):vE V F B n x:=by have h1:=b.oD _ (kq (a.lt hb)) _ h;exact⟨h1.1,h1.2,.inr ⟨n,by rw[yn,b.gv.at (a.lt hb) h],hb,.Gb⟩⟩
theorem adQ(d:Vd V)(a:b8 V F B)(hb:F.getD n false=true)(h:x∈lB V n):vE V F B n x:=by
 have b:=No d (a.lt hb) x h;unfold lB at h;split at h;·obtain⟨v,c,rfl⟩:=ahm.1 h;rw[ahR]at c;exact⟨b.1,b.2,.inl aa⟩
 exact Ny d a hb (Cv h)
theorem adR(l:Vd V)(e:b8 V F B)(h:eF V F B W)(f:gu V F B E)(d:c∈iW V B E W):∃b,F.getD b false=true/\∀x,c x->vE V F B b x:=by
 have⟨b,hb,d⟩:=ahI.1 d;have a:=(h.mem b).1 hb;refine⟨b,a,λx j=>?_⟩;have k:=adP l e h f a;simp only[oP,ac6,ac2,ahI,ahR,pT,ahv,or_false]at d;rcases d with(rfl|⟨i,hi,rfl|rfl⟩)|rfl;·exact j.elim (adQ l e a) (k _ (aeE _) x)
 .grind
 .refine j.elim (λ⟨h1,h2⟩=>?_) (k _ aC x);rw[aZ hi]at h1;subst h1;exact Ny l e a (Ax hi h2)
 grind
theorem Nz(j:Vd V)(e:b8 V F B)(f:eF V F B W)(a:gu V F B E)(i:c∈iW V B E W):CC V c:=λx d=>by have⟨b,_,h⟩:=adR j e f a i;exact⟨(h x d).1,(h x d).2.1⟩
section
def NA(l:List Int)(k:Nat)(args:List AV)(i:List Th):Prop:=i=[]/\∃h:k<l.length,args=[aI l[k]]
def gB(g:G.aM)(h:Nat):List Int:=(cB (aE g h)).map ai6
def pL(g:G.aM):List Int:=(ahq g.i4.toNat).map λ(v:Nat)=>(v:Int)
def fh(g:G.aM)(am:List Nat):List Int:=pL g++am.flatMap (gB g)
theorem NB(g:G.aM)(h:Nat):gB g h=(aE g h).i4++(fF (aE g h).aB 0).map ai6:=by simp[gB,cB,Function.comp_def]
section
variable{us X:List Th}{J:Nat->List Th->Prop}{D:List Th->Prop}{bY:List Int}
theorem NC(T:Tb ac)(z:s.bk=true)(m:Body ac r s Q.length (NA Q) J D)(hl:Q=bY++(la++post))(p:∀{Y ts},ak r Y (tB qG Z [s]::X++ts++us)->dh Y la t)(x:la.length<=1000000)(n:J bY.length ts)(U:ak r Y (tB qG Z [s]::X++ts++us))(u:∀o i E,ak r o (tB qG Z [s]::X++i++us)->(E=true/\J (bY.length+la.length) i\/E=false/\D i)->q (.bool E) o):YF ac (.func WL [] [.aD Z 0]) [t] Y q:=by
 have⟨hd,_,_,_⟩:=(p U).all;refine YF.code T.Zc aC (au ?_);refine RO.cl (FW T (us:=us) (ts:=tB qG Z [s]::X++ts) (J:=λk i=>∃t0,i=tB qG Z [s]::X++t0/\J (bY.length+k) t0) (D:=λi=>∃t0,i=tB qG Z [s]::X++t0/\D t0) (λ⟨_,F,_⟩h=>p (F▸h)) x rfl ?_ ⟨ts,rfl,n⟩ U λo i E U j=>?_)
 .rintro k _ B Y h⟨t0,rfl,n⟩U;have w:bY.length+k<Q.length:=by rw[hl];simp;omega
  have he:Q[bY.length+k]=la[k]:=by subst hl;simp[List.getElem_append_left h]
  refine YF.code T.Zd aC (ab ?_);refine RO.cl ((m _ [aI la[k]] [] t0 _ _ w ⟨rfl,w,by rw[he]⟩ n (ak.dK U)).mono ?_);rintro v C⟨i,U,j⟩;have U:=ak.jd U;rcases j with⟨rfl,h⟩|⟨rfl,h⟩;·refine ab ?_;exact Ru.aL ⟨_,U,.inl ⟨rfl,i,rfl,h⟩⟩
  refine ab ?_;exact Ru.aL ⟨_,U,.inr ⟨rfl,i,rfl,h⟩⟩
 rcases j with⟨rfl,t0,rfl,h⟩|⟨rfl,t0,rfl,h⟩;·refine ab ?_;exact Ru.aL (u _ t0 true U (.inl ⟨rfl,h⟩))
 refine ab ?_;exact Ru.aL (u _ t0 false U (.inr ⟨rfl,h⟩))
end
theorem ND(T:Tb ac)(h:∀i k,ak Y i [tB fW k [.aD Z 0]]->q (.func BU [] [.aD k 0]) i):YN ac Wv [.aD Z 0] Y q:=by refine YF.code T.YS aC (au ?_);refine RO.bZ (ak.bM Y) λj k U=>ab ?_;exact Ru.aL (h _ _ U)
theorem NE(T:Tb ac)(ek:Vd V)(N:FX V Y Z s t w u l F B W E)(hK:b8 V F B)(hO:eF V F B W):vm ac Y (.func BU [] [.aD o 0]) (fh V W).length (NA (fh V W)) [tB fW o [.aD Z 0]] (λ_=>True) (λ_=>True):=by
 intro y J D ts us r K aw b3 ax dm m p U hR q;have hB:=ek.sm;have dr:=hB.nb;have O:=N.ro.lt;have ay:=N.ro.aE;have b4:=N.c4;have⟨ds,_,_,_⟩:=N.bl.all;have⟨dv,dx,dy,dz⟩:=N.od.all;have d0:W.length<=V.aj.length:=qR _ _ hO.nd λx hx=>hK.lt ((hO.mem x).1 hx);have d1:=ek.fm.fv.h2;have d2:=ek.fm.fv.h0;have d3:=ek.fm.fv.h1;obtain⟨np,a1⟩:∃n:Nat,V.i4=(n:Int):=⟨V.i4.toNat,aa⟩;have R:pL V=(ahq np).map λ(v:Nat)=>(v:Int):=by rw[pL,a1,aeY]
 refine YF.code T.Zb aC (ab ?_);refine RO.bZ U (λH1 a U=>?_) (ho:=by rw[ax];exact ao b3 rfl);rw[ax]at U;refine ab ?_;refine RO.cl (Nk T (n:=np) aa (by rw[U.gr.aY O,N.c1,a1];rfl) λH4 pv b6=>?_);have U:=(U.cH b6).bO (.swap ..);have a2:∀{r ts},ak Y r (tB qG a [y]::[tS 3 1 ((ahq np).map aN) np true pv,tB fW o [.aD Z 0]]++ts++us)->dh r (pL V) pv:=λh=>by
  have h9:=h.sl 1 rfl;have e2:(pL V).map aI=(ahq np).map aN:=by rw[R,aiF];rfl
  unfold dh;rw[e2,R,ahs,List.length_range];exact h9
 have⟨cx,_,_,_⟩:=(a2 U).all;refine ab ?_;refine RO.cl (NC T aw m (bY:=[]) rfl a2 (by rw[R];simp;omega) p U λH5 ts el U hc=>?_);rcases hc with⟨rfl,p⟩|⟨rfl,hD⟩;rotate_left;·refine ab ?_;exact Ru.jo (vs:=[]) trivial (q _ ts _ U.tail.tail.tail (.inr hD))
 have U:ak Y H5 (tB qG a [y]::tB fW o [.aD Z 0]::(ts++us)):=U.sub (.cons_cons _ (.cons _ (ahM _)));refine ab ?_;refine RO.aW ?_ (v:=t) (hc:=by rw[U.gr.aY O];exact b4);refine ab ?_;refine Ru.nm λS0 M hS hM=>Ru.bH hM (up (P:=λk=>∀Q ts,J (pL V++(W.take k).flatMap (gB V)).length ts->ak Y Q (tB qG a [y]::tB fW o [.aD Z 0]::(ts++us))->Ru ac _ S0 ([(pH,aN k)]++pk M [p0,p1,p2,p3,lq,lr]) Q) W.length (λk hk ih Q ts p U=>?_) 0 aa _ ts (by simpa using p) U);subst hS;subst hM;refine Ru.loop (au ?_);refine Ru.cond (λz=>?_) (λz=>?_)
 .have b7:=(hO.mem _).1 (abO z);have a6:W.take (k+1)=W.take k++[W[k]]:=(ahb z).symm;have ih:=ih (k+1) aa aa;rw[a6,ahH,ahW,<-ae0]at ih;have hl:fh V W=(pL V++(W.take k).flatMap (gB V))++(gB V W[k]++(W.drop (k+1)).flatMap (gB V)):=by conv=>lhs;rw[fh,<-aig k W,ahp z,ahH,aim,<-ae0]
  clear a6;refine ab ?_;refine RO.ic U.gr N.od (λq5 o5 d4 d5=>?_) (j:=k);generalize pL V++(W.take k).flatMap (gB V)=bY at*;generalize(W.drop (k+1)).flatMap (gB V)=post at*;generalize W[k]=ej at*;have a8:=hK.lt b7;have a':=kq a8;have d6:=hB.bl _ a';have dg:=hB.st _ a';have ba:V.aj[ej]=aE V ej:=(aZ a8 _).symm;have b0:∀j(h:j<(cB (aE V ej)).length),∃h':bY.length+j<(fh V W).length,(fh V W)[bY.length+j]=(cB (aE V ej))[j].1:=λj h=>by rw[hl];exact⟨by rw[ae8,ae8,gB,ahs];omega,by rw[List.getElem_append_right aa];simp only[Nat.add_sub_cancel_left];rw[List.getElem_append_left (by rw[gB,ahs];exact h)];simp only[gB,ahP]⟩
  refine ab ?_;refine RO.aW ?_ (v:=s) (hc:=by rw[U.gr.aY O];exact ay);refine ab ?_;refine RO.bL U.gr N.bl (λq9 o9 c' b' G ca hat hrd=>?_) (j:=ej);rw[ba]at G;obtain⟨vp,cd,jc,rfl,S,ag,_⟩:=G;have⟨d7,_,_,_⟩:=S.all;refine ab ?_;refine RO.cl (NC T aw m (X:=[tB fW o [.aD Z 0]]) (bY:=bY) (la:=(aE V ej).i4) (post:=(fF (aE V ej).aB 0).map ai6++post) (by rw[hl,NB,ae0]) (λh=>h.gr.sl S) aa p U λH5 ts el U hc=>?_);rcases hc with⟨rfl,p⟩|⟨rfl,hD⟩;rotate_left;·refine ab ?_;exact Ru.jo (vs:=[]) trivial (q _ ts _ U.tail.tail (.inr hD))
  refine ab ?_;refine RO.aW ?_ (v:=s) (hc:=by rw[U.gr.aY O];exact ay);refine ab ?_;refine RO.bL U.gr N.bl (λq9 o9 c' b' G ca hat hrd=>?_) (j:=ej);rw[ba]at G;obtain⟨vp,cd,jc,rfl,S,ag,_⟩:=G;have⟨d',_,_,cy⟩:=ag.all;refine ab ?_;refine Ru.nm λS1 M1 cf bb=>Ru.bH bb (up (P:=λi=>∀Q ts,J (bY.length+((aE V ej).i4.length+(fF ((aE V ej).aB.take i) 0).length)) ts->ak Y Q (tB qG a [y]::tB fW o [.aD Z 0]::(ts++us))->Ru ac _ S1 ([(uS,aN i)]++pk M1 [p0,p1,p2,p3,lq,lr,pH,tz,uR]) Q) (aE V ej).aB.length (λi hi C Q ts p U=>?_) 0 aa _ ts p U);subst cf;subst bb;refine Ru.loop (au ?_);refine Ru.cond (λI=>?_) (λI=>?_)
  .have C:=C (i+1) aa aa;refine ab ?_;refine RO.bL U.gr ag (λea eb ec cE L cR hat hrd=>?_) (j:=i);have c8:=L.one;obtain⟨ei,rfl,c9⟩:=L;refine ab ?_;refine RO.dL U λH7 q9 U=>ab ?_;refine RO.eT U 0 (λH8 U=>?_);refine ab ?_;by_cases P:(aE V ej).aB[i].to= -1;·refine RO.bP (λh=>absurd P h) (λ_=>?_);refine ab ?_;rw[LX _ I P]at C;exact Ru.wk (C _ ts p U.tail)
   obtain⟨cn,he,cp⟩:=FT _ I P;obtain⟨bc,cv⟩:=b0 _ cn;refine RO.bP (λ_=>?_) (λh=>absurd P h);refine ab ?_;refine RO.cl ((m _ [aI (aE V ej).aB[i].to] [] ts _ _ bc ⟨rfl,bc,by rw[cv,he]⟩ p (ak.dK (xs:=[_,_,_]) U)).mono ?_);rintro v H3⟨bv,U,hc⟩;rcases hc with⟨rfl,h⟩|⟨rfl,h⟩;·refine ab ?_;rw[cp]at C;exact Ru.wk (C _ bv h (ak.jd (xs:=[_,_,_]) U).tail)
   refine ab ?_;exact Ru.jo (vs:=[]) trivial (q _ bv _ (ak.jd (xs:=[_,_,_]) U).tail.tail.tail (.inr h))
  refine Ru.exitTo ?_;obtain rfl:i=(aE V ej).aB.length:=aa;refine ab ?_;refine Ru.wk (ih _ ts ?_ U);rw[aid]at p;simpa[NB]using p
 refine Ru.exitTo ?_;rw[aho aa]at p;refine ab ?_;exact Ru.aq (vs:=[]) trivial (q Q ts _ U.tail.tail (.inl p))
end
def mC(a:List (Int->Prop))(v w:Int):Prop:=∃C∈a,C v/\C w/\w≠v
inductive jY(np:Int)(CL:List (Int->Prop))(n:Nat):List Int->List Int->Prop
 |nil:jY np CL n [] (ab7 n (-1))
 |mz{h R:List Int}{v r:Int}:jY np CL n h R->(v<np->r=v)->(¬v<np->0<=r/\(∀w,mC CL v w->R.getD w.toNat 0≠r)/\∀k:Nat,(k:Int)<r->∃w,mC CL v w/\R.getD w.toNat 0=k)->jY np CL n (h++[v]) (R.set v.toNat r)
theorem jY.len(a:jY x D n la Q):Q.length=n:=by induction a with|nil=>simp|mz _ _ _ b=>simpa using b
theorem NF{R:List Int}{m:Nat}(h:∀k:Nat,k<m->(k:Int)∈R):m<=R.length:=by have:=qR R.length ((ahq m).map λk:Nat=>R.idxOf (k:Int)) (List.pairwise_map.2 (List.nodup_range.imp_of_mem λ{a b}d hb c e=>c (by have h1:=List.getElem_idxOf (List.idxOf_lt_length_of_mem (h a (ahR.1 d)));have h2:=List.getElem_idxOf (List.idxOf_lt_length_of_mem (h b (ahR.1 hb)));simp only[e]at h1;omega))) (λx f=>by obtain⟨k,i,rfl⟩:=ahm.1 f;exact List.idxOf_lt_length_of_mem (h k (ahR.1 i)));simpa using this
theorem adS(h0:0<=x)(h1:x<Q.length):Q.getD x.toNat 0∈Q:=by rw[aZ aa];exact abO _
theorem AB:x∈pL V↔0<=x/\x<V.i4:=by
 simp only[pL,ahm,ahR];constructor;·rintro⟨a,h,rfl⟩;omega
 intro h;exact⟨x.toNat,aa,aa⟩
theorem GR:x∈gB V n↔∃p,(x,p)∈cB (aE V n):=by simp[gB]
theorem NG:∀{l:List G.dY}{i:Nat}{x p:Int},(x,p)∈fF l i->∃(j:Nat)(hj:j<l.length),p=i+j/\l[j].to≠ -1/\l[j].to=x
 |[],_,_,_,h=>by cases h
 |s::l,i,x,p,h=>by
  simp only[fF,ac6]at h;rcases h with h|h
  .split at h;·cases h
   rename_i a;simp only[abt,afm]at h;exact⟨0,aC,aa,a,h.1.symm⟩
  have⟨j,hj,h0,h1⟩:=NG h;exact⟨j+1,by simpa using hj,aa,by simpa using h1⟩
theorem NH:x∈fh V W↔(0<=x/\x<V.i4)\/∃b∈W,∃p,(x,p)∈cB (aE V b):=by simp only[fh,ac6,AB,ahI,GR]
theorem adT(e:Vd V)(a:b8 V F B)(c:eF V F B W)(h:x∈fh V W):0<=x/\x<V.aO:=by
 have:=e.fm.fv.h1;rcases NH.1 h with h|⟨b,hb,p,d⟩;·omega
 exact e.oD _ (kq (a.lt ((c.mem b).1 hb))) _ d
theorem adU(l:Vd V)(d:b8 V F B)(e:eF V F B W)(h:x∈fh V W):∃C∈iW V B lv W,C x:=by
 have key:∀b∈W,∀C∈oP V B lv b,C x->∃C∈iW V B lv W,C x:=λb hb C f j=>⟨C,ahI.2 ⟨b,hb,f⟩,j⟩;rcases NH.1 h with h|⟨b,hb,p,a⟩;·refine key 0 ((e.mem 0).2 d.c0) (oO V B lv 0) (by simp[oP]) (.inl ?_);rw[lB,aF rfl];exact AB.2 h
 simp only[cB,ac6,ahm,afm]at a;rcases a with⟨y,c,rfl,_⟩|a
 .refine key b hb (oO V B lv b) (by simp[oP]) (.inl ?_);rw[lB,an];·exact c
  rintro rfl;rw[aE,l.fm.first]at c;cases c
 have⟨i,hi,_,k,he⟩:=NG a;refine key b hb (λx=>x=((aE V b).aB.getD i default).to/\x≠ -1\/de V B lv b ((aE V b).aB.length - (i+1)) x) ?_ (.inl ⟨by rw[aZ hi,he],by rw[<-he];exact k⟩);simp only[oP,ac6,ac2,ahI,ahR];exact .inl (.inr ⟨i,hi,by simp[pT]⟩)
structure ahc(np:Int)(CL:List (Int->Prop))(n:Nat)(h R:List Int):Prop where
 len:R.length=n
 no:∀v:Int,0<=v->v<n->v∉h->R.getD v.toNat 0= -1
 is:∀v∈h,0<=R.getD v.toNat 0/\R.getD v.toNat 0<=n
 aK:∀v∈h,v<np->R.getD v.toNat 0=v
 kh:∀v∈h,∀w∈h,mC CL v w->R.getD v.toNat 0≠R.getD w.toNat 0
end
inductive GS(W:Nat->List Nat)(b:Nat):Nat->Prop
 |one{x:Nat}(h:x∈W b):GS W b x
 |step{a x:Nat}(h:GS W b a)(hn:a≠b)(hx:x∈W a):GS W b x
section
variable{ac:Nat->aX}
section
theorem NI{H:ai}{s:AV}:∀{ks:List Int},(∀k∈ks,∃r,kg H s k=some (.int 3 r))->∃i,rL H s ks=some i|[],_=>⟨[],rfl⟩|k::ks,h=>by have⟨r,h1⟩:=h k (acj ..);have⟨i,h2⟩:=NI (s:=s) λj hj=>h j (ab8 _ hj);exact⟨r::i,by simp only[rL,h1,h2]⟩
def sw(b j i:ah)(a:ah)(n:Nat)(D:Nat->Bool)(h:Nat->ah)(S:Nat->Int->Prop):List Th:=tB fW b [.aD a 0]::tB lN j [.slice i 0 n n true]::tB dR i (gw n D h)::fg n D h S
theorem adV{H:ai}{b r s l a:ah}{D:Nat->Bool}(U:ak Y H (tM p o (λ_=>False)::tB cW s [.slice Z 0 n n true]::tS 3 1 (Q.map aI) n true (.slice Z 0 n n true)::(sw b r l a n D ids S++f)))(z:L<n)(hd:D L=true)(O:∀x,S L x->0<=x/\x<n)(hR:Q.length=n):∃H',(∀af:az AV,af.get .ai8 (sl 3)=.aD r 0->af.get .ai8 (sl 5)=aN L->af.get .ai8 (sl 4)=.aD s 0->af.get .ai8 (sl 6)=.map o->zx af H=some (jn af xf,H'))/\ak Y H' (tM false o (λx=>∃w,S L w/\Q.getD w.toNat 0=x)::tB cW s [.slice Z 0 n n true]::tS 3 1 (Q.map aI) n true (.slice Z 0 n n true)::(sw b r l a n D ids S++f)):=by
 have hat:(tM p o (λ_=>False)::tB cW s [.slice Z 0 n n true]::tS 3 1 (Q.map aI) n true (.slice Z 0 n n true)::(sw b r l a n D ids S++f))[6+L]?=some (tM false (ids L) (S L)):=by have:=oN (xs:=[tM p o (λ_=>False),tB cW s [.slice Z 0 n n true],tS 3 1 (Q.map aI) n true (.slice Z 0 n n true),tB fW b [.aD a 0],tB lN r [.slice l 0 n n true],tB dR l (gw n D ids)]) (m:=f) (CE (D:=D) (ids:=ids) (S:=S) z);rw[hd]at this;exact this
 have⟨⟨ks,C,k⟩,_,_⟩:=U.kW _ hat;have⟨⟨t0,E,F⟩,_,G⟩:=U.kW 0 rfl;obtain rfl:t0=[]:=List.eq_nil_iff_forall_not_mem.2 λx t=>(F x).1 t;have P:=(vF C).2;have T:=(vF E).1;have I:ids L≠o:=U.ne _ 0 hat rfl aa (λaw h=>h.1) (λaw h=>h.1);have J:aY H r 0=some (.slice l 0 n n true):=by obtain⟨_,m⟩:=U.get 4 rfl;exact tB.cell m rfl
 have K:aY H s 0=some (.slice Z 0 n n true):=by obtain⟨_,m⟩:=U.get 1 rfl;exact tB.cell m rfl
 have M:aY H l (0+L)=some (.map (ids L)):=by have⟨_,m⟩:=U.get 5 rfl;exact tB.cell m (by simp[gw,ahB,aiN z,jz,hd])
 have N:=U.sl 2 rfl;have q:∀x,S L x->kg H (.slice Z 0 n n true) x=some (.int 3 (Q.getD x.toNat 0)):=λx t=>by have⟨h0,h1⟩:=O x t;have:=Gy (j:=x.toNat) (v:=aI (Q.getD x.toNat 0)) N aa (by rw[aZ (by simp;omega),aZ aa];simp);rw[<-this];congr 1;simp only[ag0];omega
 have⟨B,v⟩:=NI (s:=.slice Z 0 n n true) (H:=H) (ks:=ks) λx t=>⟨_,q x ((k x).1 t)⟩;have y:=U.qT (H':=H.set o (.cK (dt (eX B [])))) (q:=o) 0 rfl (t':=tM false o λx=>∃w,S L w/\Q.getD w.toNat 0=x) rfl (λi hi=>by rw[ai.aG,an hi]) (λfp m=>m.1) ⟨abt.2 rfl,λj hj=>abt.1 hj,⟨_,by rw[ai.aG,aF rfl];exact sX (nR B aiP),λx=>?_⟩,(λh=>by cases h),G⟩;·refine⟨(H.set o (.cK (dt (eX B [])))).skip,λaf V W X e6=>?_,y.bN ⟨by show _<=(ah.succ _).ap;rw[ah.eP];omega,λj _=>rfl⟩⟩;unfold zx;rw[V,W,X,e6];simp only[l9,J,K,kg,ai5 aib z,bg,M,tV I,abH,bF,P,T,v]
 rw[lL,EI v];simp only[ahv,or_false];constructor;·rintro⟨w,u,ag⟩;rw[q w ((k w).1 u)]at ag;injection ag with ag;injection ag with _ ag;exact⟨w,(k w).1 u,ag⟩
 rintro⟨w,u,rfl⟩;exact⟨w,(k w).2 u,q w u⟩
section
variable{e:AV}
theorem adW(T:Tb ac)(cd:Vd V)(P:FX V Y Z s t w e l F B W lv)(Q:b8 V F B)(X:eF V F B W)(ag:gu V F B lv)(hn:V.aO=n)(h:∀H' R v,jY V.i4 (iW V B lv W) n (fh V W) R->aR Y H'->dh H' R v->q v H'):YN ac Wb [.aD Z 0] Y q:=by
 have aw:=P.ro.lt;have ax:=P.c2;have a':=P.c1;rw[hn]at ax;have b4:=cd.fm.fv.h2;have ba:=λ{x}=>adT (x:=x) cd Q X;have bb:=λ{x}=>adU (x:=x) (lv:=lv) cd Q X;refine YF.code T.Yy aC (ab ?_);refine RO.bZ (ak.bM Y) λH1 o U=>?_;refine ab ?_;refine RO.cl (Nv T cd (P.bN U.gr) Q X ag hn λH2 G D i S ay hl=>?_);have U:=(U.cH hl).bO ahA;refine ab ?_;refine RO.dD U λH3 I U=>ab ?_;refine RO.iE U 1 (ws:=[aI (-1)]) (n:=1) (λH4 qb U=>ab ?_);refine RO.aW ?_ (v:=aN n) (hc:=by rw[U.gr.aY aw];exact ax);refine ab ?_;refine RO.cl (LO T (u:=aI (-1)) (n:=n) rfl (U.sl 0) aa λH5 p hl=>?_);have U:=U.cH hl;refine ab ?_;refine RO.dD U λH6 z U=>ab ?_;refine RO.cl (ND T λH7 q6 hl=>?_);have U:=U.cH hl;refine ab ?_;have U:ak Y H7 ([tB fW q6 [.aD Z 0]]++(tB cW z [.slice p 0 n n true]::tS 3 1 ((ab7 n (-1)).map aI) n true (.slice p 0 n n true)::sw o I G Z n D i S)++[]):=by have ca:ab7 (n*1) (aI (-1))=(ab7 n (-1)).map aI:=aC;rw[ca]at U;have h9:=U.sub (us:=tB fW q6 [.aD Z 0]::tB cW z [.slice p 0 n n true]::tS 3 1 ((ab7 n (-1)).map aI) n true (.slice p 0 n n true)::tB lN I [.slice G 0 n n true]::tB fW o [.aD Z 0]::tB dR G (gw n D i)::fg n D i S) (.cons_cons _ (.cons_cons _ (.cons_cons _ (.cons _ (ahM _)))));rw[ah8];exact h9.bO (.cons _ (.cons _ (.cons _ (.swap ..))))
 refine Ru.wk (L:=[(pH,.func BU [] [.aD q6 0]),(p1,.aD o 0),(p3,.aD I 0),(p4,.aD z 0)]) ?_;refine Ru.mq (J:=λm ts=>∃R,jY V.i4 (iW V B lv W) n ((fh V W).take m) R/\ts=tB cW z [.slice p 0 n n true]::tS 3 1 (R.map aI) n true (.slice p 0 n n true)::sw o I G Z n D i S) (Dn:=λ_ _=>False) U (NE T cd P Q X) (λ_ _=>trivial) ⟨_,.nil,rfl⟩ (λk args ws h=>by obtain⟨_,_,rfl⟩:=h;rfl) (λ_ _ _ _ _ _=>trivial) (λm args ws ts us cf o1 o2 H' hm bc hJ U=>?_) (λH' bv dm hJ U=>?_) (λj H' bv dm _ h=>h.elim)
 .obtain⟨rfl,_,rfl⟩:=bc;obtain⟨R,u,rfl⟩:=hJ;have y:=u.len;have hx:=ba (abO hm);have b0:=bb (abO hm);have a1:(fh V W).take (m+1)=(fh V W).take m++[(fh V W)[m]]:=(ahb hm).symm;rw[a1];clear a1;generalize(fh V W)[m]=x at*;obtain⟨k,rfl⟩:∃k:Nat,x=k:=⟨x.toNat,aa⟩;have J:k<n:=aa;refine ab ?_;refine Ru.cX (xs:=tB cW z [.slice p 0 n n true]::tS 3 1 (R.map aI) n true (.slice p 0 n n true)::sw o I G Z n D i S) U λH8 U=>?_;have U:ak Y H8 (tB cW z [.slice p 0 n n true]::tS 3 1 (R.map aI) n true (.slice p 0 n n true)::(sw o I G Z n D i S++tX cf o2::us)):=U;refine ab ?_;refine RO.aW ?_ (v:=aI V.i4) (hc:=by rw[U.gr.aY aw];exact a');refine ab ?_;refine Ru.cond (λL=>?_) (λL=>?_);·refine ab ?_;refine RO.fD U 1 (k:Int) y (λH9 U=>ab ?_);refine Ru.exitTo (Ru.bx (ts:=tB cW z [.slice p 0 n n true]::tS 3 1 ((R.set k (k:Int)).map aI) n true (.slice p 0 n n true)::sw o I G Z n D i S) U ⟨_,u.mz (v:=(k:Int)) (r:=k) (λ_=>rfl) (λh=>absurd L h),rfl⟩)
  have b3:D k=true:=(ay.1 k J).2 b0;have O:=ay.2 k J;have a2:∀x,S k x->0<=x/\x<n:=λx hx=>by obtain⟨C,hC,_,h1,_⟩:=(O x).1 hx;have:=Nz cd Q X ag hC x h1;omega
  refine ab ?_;refine RO.Cl U λH9 N U=>?_;obtain⟨a6,hg,U⟩:=adV U J b3 a2 y;refine ab ?_;refine Ru.eH (co:=xf) (H':=a6) T.aaN (M:=[(p4,.aD z 0),(p5,aN k),(p6,.map N)]) (λaf E=>hg af (E.get (p:=sl 3) rfl rfl) (E.get (p:=sl 5) rfl rfl) (E.get (p:=sl 4) rfl rfl) (E.get (p:=sl 6) rfl rfl)) (ab ?_);refine Ru.nm λS0 M hS hM=>Ru.bH hM (up (P:=λr=>(∀j,j<r->∃b',S k b'/\R.getD b'.toNat 0=(j:Int))->Ru ac _ S0 ([(p8,aN r)]++pk M [p4,p5,p6]) a6) n (λr b6 ih hT=>?_) 0 aa (λj hj=>by omega));subst hS;subst hM;refine Ru.loop (ab ?_);refine RO.eZ U 0 (z:=r) λcn ht=>ab ?_;refine Ru.d9 (λh1=>?_) (λh1=>?_)
  .have a8:∀j,j<r+1->∃b',S k b'/\R.getD b'.toNat 0=(j:Int):=λj hj=>by
    by_cases ca:j=r;·rw[ca];exact ht.1 h1
    exact hT j aa
   have hp:=NF (R:=R) (m:=r+1) λj hj=>by obtain⟨b',hw,ca⟩:=a8 j hj;have:=a2 b' hw;rw[<-ca];exact adS this.1 aa
   refine ab ?_;exact Ru.wk (ih (r+1) aa aa a8)
  refine Ru.exitTo ?_;refine ab ?_;have U:=U.tail;refine RO.fD U 1 (r:Int) y (λb7 U=>?_) (k:=k);refine ab ?_;refine Ru.bx (ts:=tB cW z [.slice p 0 n n true]::tS 3 1 ((R.set k (r:Int)).map aI) n true (.slice p 0 n n true)::sw o I G Z n D i S) U ⟨_,u.mz (v:=(k:Int)) (r:=r) (λh=>absurd h L) (λ_=>⟨aa,λb' hw ca=>?_,λj hj=>?_⟩),rfl⟩;·have:=ht.2 ⟨b',(O b').2 hw,ca⟩;rw[h1]at this;cases this
  have⟨b',hw,ca⟩:=hT j aa;exact⟨b',(O b').1 hw,ca⟩
 obtain⟨R,u,rfl⟩:=hJ;rw[aid]at u;have y:=u.len;refine ab ?_;refine Ru.jf (M:=[dm]) (U.bO ahy) λH' U=>⟨[.slice p 0 n n true],⟨rfl,rfl,trivial⟩,h H' R _ u U.gr ?_⟩;have:=U.sl 1 rfl;unfold dh;rw[y];exact this
end
end
structure ClL(CL:List (Int->Prop))(n:Nat)(cl:List (List Int)):Prop where
 len:cl.length=n
 asc:∀j,j<n->(cl.getD j []).Pairwise (·<·)
 mem:∀j,j<n->∀x,x∈cl.getD j []↔∃C∈CL,C j/\C x/\x≠j
theorem NJ(h:Q.Nodup)(hl:∀x∈Q,0<=x/\x<n):Q.length<=n:=by have:=qR n (Q.map Int.toNat) (List.pairwise_map.2 (List.Pairwise.imp_of_mem (λ{x y}i j k l=>k (by have:=hl x i;have:=hl y j;omega)) h)) (λx i=>by obtain⟨y,j,rfl⟩:=ahm.1 i;have:=hl y j;omega);simpa using this
theorem adX(T:Tb ac){t0:Th}{D:Nat->Bool}(q:L<n)(s:n<=1000)(t:∀x,S L x->0<=x/\x<n)(u:D L=false->∀x,¬S L x)(U:ak r Y (tZ f::t0::tB dR Z (gw n D ids)::fg n D ids S)):YN ac KS [jz D ids L] Y λv H'=>∃l:List Int,(∀x,x∈l↔S L x)/\l.Pairwise (·<·)/\v.bk=true/\v.cY=true/\v.cells=[v]/\ak r H' (tZ (tR 1 (l.map aI) l.length v::f)::t0::tB dR Z (gw n D ids)::fg n D ids S):=by
 unfold jz;cases hd:D L with
 |true=>
  have hat:(tZ f::t0::tB dR Z (gw n D ids)::fg n D ids S)[3+L]?=some (tM false (ids L) (S L)):=by have:=oN (xs:=[tZ f,t0,tB dR Z (gw n D ids)]) (m:=[]) (CE (D:=D) (ids:=ids) (S:=S) q);rw[hd,ah8]at this;exact this
  refine adx T U _ hat (λz j w=>aiw (NJ j λx y=>t x ((w x).1 y)) s) λH' v l h1 h2 U=>?_;have k:Sl H' 1 (l.map aI) l.length v:=by obtain⟨_,i⟩:=U.get 0 rfl;exact i.1
  have⟨m,o,p,_⟩:=k.all;exact⟨l,h1,h2,m,o,p,U.ie⟩
 |false=>exact YF.ji (v:=.bj) (H':=Y) T.Fq rfl ⟨[],λx=>⟨λh=>absurd h aC,λh=>absurd h (u hd x)⟩,ai4,rfl,rfl,rfl,(((U.mZ 3 1).as 0 rfl λB i=>tS.iu i).ie)⟩
def NK(z:AV):bw:=(.seq (.region [O p2 (.box cA (T p0)),O p4 (.bf (C z)),O p5 (.bf (I 3 0))]) (.seq (.region [O p8 (.ee 4 (T p2)),O p9 (.call (C (.func Fc [] [])) [(T p8)]),O p7 (.bf (T p9)),O dS (.extract (T p7) 0),O eD (.extract (T p7) 1),O p6 (.bf (T dS)),O p5 (.bf (T eD))]) (.seq (.seq (.region [O gQ (.bf (T p5)),O iS (.arith .neq 3 (T gQ) (I 3 0))]) (.cond (T iS) (.seq (.region [O iF (.bf (T p4)),O km (.bf (T p5)),O p4 (.bf (T iF)),O p5 (.bf (T km))]) .ret) .skip)) (.seq (.region [O kU (.bf (T p1)),O lq (.bf (T p6)),O lr (.call (T kU) [(T lq)]),O p4 (.bf (T lr)),O p5 (.bf (I 3 0))]) .ret))))
def NM(z:AV)(h k:Nat):bw:=(.seq (.region [O p1 (.box cA (T p0)),O p2 (.bf (C z)),O p3 (.bf (I 3 0))]) (.seq (.region [O p4 (.ee 4 (T p1)),O p5 (.call (C (.func h [] [])) [(T p4),(C (.func k [] []))]),O p6 (.extract (T p5) 0),O p7 (.extract (T p5) 1),O p2 (.bf (T p6)),O p3 (.bf (T p7))]) .ret))
theorem adY(T:Tb ac)(ag:Vd V)(Q:u.bk=true)(z:ac k=.code 8 [.tmp p2,.tmp p3] (NM u n L))(hb:ac n=.code 19 [.tmp p4,.tmp p5] (NK u)){cs:List AV}(hg:dc Y V cs)(h:∀j Z s t av w l F B W E,b8 V F B->eF V F B W->gu V F B E->aR Y j->FX V j Z s t av w l F B W E->YN ac L [.aD Z 0] j λv x=>v.bk=true/\q (.tuple [v,aI 0]) x):YN ac k [.agg cs] Y q:=by have y:=hg.one;obtain⟨s,rfl,bz⟩:=hg;have⟨M,N,O,P⟩:=bz.all;refine YF.code z aC (au ?_);refine RO.bZ (ak.bM Y) λR o U=>ab ?_;refine RO.bT U 0 ?_;refine RO.cl (fv:=.func n [] []) (av:=[.agg [.str V.i7,aI V.i4,aI V.aO,s],.func L [] []]) (YF.code hb aC ?_);refine au ?_;refine RO.bZ U λx S U=>ab ?_;refine RO.bT U 0 ?_;refine RO.cl (Nf T ag (cs:=[.str V.i7,aI V.i4,aI V.aO,s]) ⟨s,rfl,bV.block.gK U.gr bz⟩ λC Z m t av w l F B W E D G p r I=>?_);refine ab ?_;refine RO.cl ((h C Z m t av w l F B W E D G p (U.gr.trans r) I).mono ?_);rintro v X⟨i,J⟩;refine ab ?_;refine Ru.jo (vs:=[v,aI 0]) ⟨rfl,i,rfl,rfl,trivial⟩ (ab ?_);exact Ru.jo (vs:=[v,aI 0]) ⟨rfl,i,rfl,rfl,trivial⟩ J
section
theorem adZ(T:Tb ac){a b n:Int}(i:q (.bool (decide (a<=n/\n<=b))) Y):YN ac Wo [aI a,aI b,aI n] Y q:=by
 refine YF.code T.YM aC (au ?_);refine RO.bP (λj=>?_) (λj=>?_);·refine aS ?_;refine Ru.aL ?_;simpa[j]using i
 refine aS ?_;refine Ru.aL ?_;simpa[j]using i
def lV(gv R:List Int)(v:Nat):Prop:=((v:Int)∈gv/\¬(0<=R.getD v 0/\R.getD v 0<=249))\/((v:Int)∉gv/\R.getD v 0≠ -1)
def lW(a:Int)(b:List (Int->Prop))(R:List Int)(v:Nat):Prop:=((v:Int)<a/\R.getD v 0≠v)\/∃w,mC b v w/\R.getD v 0=R.getD w.toNat 0
def oQ(a:Int)(b:List (Int->Prop))(gv:List Int)(n:Nat)(R:List Int)(i:Nat):Prop:=
 R.length≠n/\i=2\/R.length=n/\((∃v,v<n/\lV gv R v)/\i=3\/(∀v,v<n->¬lV gv R v)/\((∃v,v<n/\lW a b R v)/\i=12\/(∀v,v<n->¬lW a b R v)/\i=0))
section
variable{f:AV}
theorem ad0(T:Tb ac)(d5:Vd V)(hF:FX V Y Z t w u f l F B W E)(hK:b8 V F B)(hO:eF V F B W)(ba:gu V F B E)(hn:V.aO=n)(cd:n<=1000)(hR:dh Y Q s)(c':Q.length<=1000)(d0:∀H' d3,oQ V.i4 (iW V B E W) (fh V W) n Q d3->aR Y H'->q (aN d3) H'):YN ac Wc [.aD Z 0,s] Y q:=by
 have bb:=hF.ro.lt;have bc:=hF.c2;have cf:=hF.c1;rw[hn]at bc;have⟨hrd,cn,bv,dr⟩:=hR.all;refine YF.code T.Yz aC (ab ?_);refine RO.bZ (ak.bM Y) (λH1 q3 U=>?_) (ho:=by rw[bv];exact ao cn rfl);rw[bv]at U;refine ab ?_;refine RO.aW ?_ (v:=aN n) (hc:=by rw[U.gr.aY bb];exact bc);refine ab ?_;refine Ru.cond (λg1=>?_) (λg1=>?_);·refine ab ?_;exact Ru.aL (d0 _ 2 (.inl ⟨by simpa using g1,rfl⟩) U.gr)
 have ax:Q.length=n:=by simpa using g1
 refine ab ?_;refine RO.Cl U λH2 N U=>RO.dD U λH3 q5 U=>ab ?_;refine RO.cl (ND T λH4 q6 hl=>?_);have U:ak Y H4 ([tB fW q6 [.aD Z 0]]++[tB dR q5 [.map N],tM true N (λ_=>False)]++[tB cW q3 [s]]):=U.cH hl;refine ab ?_;refine Ru.wk (L:=[(pI,.func BU [] [.aD q6 0]),(p0,.aD Z 0),(p3,.aD q3 0),(p5,.aD q5 0)]) ?_;refine Ru.mq (J:=λm ts=>ts=[tB dR q5 [.map N],tM true N (λx=>x∈(fh V W).take m)]) (Dn:=λ_ _=>False) U (NE T d5 hF hK hO) (λ_ _=>trivial) aC (λdz args ws d0=>by obtain⟨_,_,rfl⟩:=d0;rfl) (λ_ _ _ _ _ _=>trivial) (λm args ws ts us d1 o1 o2 H' hm cp hJ U=>?_) (λH' cv dm hJ U=>?_) (λj H' cv dm _ d0=>d0.elim);·obtain⟨rfl,_,rfl⟩:=cp;subst hJ;have b0:(fh V W).take (m+1)=(fh V W).take m++[(fh V W)[m]]:=(ahb hm).symm;rw[b0];clear b0;generalize(fh V W)[m]=x at*;generalize(fh V W).take m=l0 at*;refine ab ?_;refine Ru.cX (xs:=[tB dR q5 [.map N],tM true N (λx=>x∈l0)]) U λH8 U=>?_;have U:ak Y H8 (tB dR q5 [.map N]::tM true N (λx=>x∈l0)::tX d1 o2::us):=U;refine ab ?_;refine RO.Mg U 1 (z:=x) λH9 U=>ab ?_;refine Ru.bx (ts:=[tB dR q5 [.map N],tM true N (λy=>y∈l0++[x])]) (U.Ak 1 rfl λy=>?_) rfl;rw[ac6,abt,or_comm]
 subst hJ;rw[aid]at U;have U:ak Y H' [tB dR q5 [.map N],tM true N (λx=>x∈fh V W),tX dm (.deferred false),tB cW q3 [s]]:=U;have ret:∀{z:ai}{L:Kn}{d':List SI}{d3:Nat}{us:List Th},oQ V.i4 (iW V B E W) (fh V W) n Q d3->ak Y z (tX dm (.deferred false)::us)->lk L p4=aN d3->Ru ac ⟨mc [.tmp p4] q,[dm],none⟩ (.code .ret::d') L z:=λhv U G=>Ru.jf (M:=[dm]) U λH' U=>⟨[_],⟨G,rfl,trivial⟩,d0 _ _ hv U.gr⟩;refine ab ?_;refine Ru.nm λS0 M hS hM=>Ru.bH hM (up (P:=λdz=>(∀v,v<dz->¬lV (fh V W) Q v)->Ru ac _ S0 ([(uM,aN dz)]++pk M [p0,p3,p5,qI,qJ]) H') n (λdz hk ih hB=>?_) 0 aa (λv hv=>by omega));subst hS;subst hM;refine Ru.loop (au ?_);refine Ru.cond (λaw=>?_) (λaw=>?_)
 .have ih:=ih (dz+1) aa aa;refine ab ?_;refine RO.fA U.gr hR (λO o9 hj ay=>RO.aW ?_ (hc:=ay)) (j:=dz);have a1:Q.getD dz 0=Q[dz]:=aZ aw 0;have lw:lV (fh V W) Q dz->oQ V.i4 (iW V B E W) (fh V W) n Q 3:=λhb=>.inr ⟨ax,.inl ⟨⟨dz,aa,hb⟩,rfl⟩⟩;have a:¬lV (fh V W) Q dz->∀v,v<dz+1->¬lV (fh V W) Q v:=λhb v hv=>by
   by_cases d3:v=dz;·rw[d3];exact hb
   exact hB v aa
  unfold lV at lw a;rw[a1]at lw a;generalize Q[dz]=r at*;refine ab ?_;refine RO.eZ U 1 (z:=dz) λd4 I=>?_;cases d4 with
  |true=>
   have I:=I.1 rfl;refine ab ?_;refine RO.cl (adZ T (a:=0) (b:=249) (n:=r) (RO.bP (λhw=>?_) (λhw=>?_)));·refine ab ?_;refine RO.eZ U 1 (z:=dz) λd4 a2=>?_;obtain rfl:=a2.2 I;refine ab ?_;exact Ru.wk (ih (a λhb=>hb.elim (λd0=>d0.2 hw) λd0=>d0.1 I))
   refine ab ?_;exact ret (lw (.inl ⟨I,hw⟩)) (U.drop 2) rfl
  |false=>
   have I:(dz:Int)∉fh V W:=λd0=>by have:=I.2 d0;cases this
   refine ab ?_;refine RO.eZ U 1 (z:=dz) λd4 a2=>?_;obtain rfl:d4=false:=by
    cases d4;·rfl
    exact absurd (a2.1 rfl) I
   refine ab ?_;refine Ru.cond (λhw=>?_) (λhw=>?_);·refine ab ?_;exact ret (lw (.inr ⟨I,hw⟩)) (U.drop 2) rfl
   refine ab ?_;exact Ru.wk (ih (a λhb=>hb.elim (λd0=>I d0.1) λd0=>hw d0.2))
 refine Ru.exitTo ?_;obtain rfl:dz=n:=aa;refine ab ?_;refine RO.cl (Nv T d5 (hF.bN U.gr) hK hO ba hn λH5 qs D b S b3 hl=>?_);have U:=U.cH hl;have U:ak Y H5 (tZ [tB cW q3 [s]]::tX dm (.deferred false)::tB dR qs (gw dz D b)::fg dz D b S):=by have h1:=(U.bO ahA).drop 2;exact(((h1.bO (.swap ..)).lQ.bO (.swap ..)).ie)
 refine ab ?_;refine Ru.nm λS0 M hS hM=>Ru.bH hM (up (P:=λj=>∀z d2,tB cW q3 [s]∈d2->(∀v,v<j->¬lW V.i4 (iW V B E W) Q v)->ak Y z (tZ d2::tX dm (.deferred false)::tB dR qs (gw dz D b)::fg dz D b S)->Ru ac _ S0 ([(sa,aN j)]++pk M [p0,p3,uT,oh]) z) dz (λj hj ih z d2 cx hW U=>?_) 0 aa _ _ (abt.2 rfl) (λv hv=>by omega) U);subst hS;subst hM;refine Ru.loop (au ?_);refine Ru.cond (λo=>?_) (λo=>?_)
 .have ih:=ih (j+1) aa aa;have b4:(gw dz D b)[0+j*1]?=some (jz D b j):=by rw[show 0+j*1=j by omega];simp only[gw,ahB,aiN o,ahQ]
  have cy:(jz D b j).bk=true:=by unfold jz;split<;>rfl
  have P:=b3.2 j o;have a6:∀x,S j x->0<=x/\x<dz:=λx J=>by have⟨C,hC,_,h1,_⟩:=(P x).1 J;have:=Nz d5 hK hO ba hC x h1;omega
  have p:lW V.i4 (iW V B E W) Q j->oQ V.i4 (iW V B E W) (fh V W) dz Q 12:=λhb=>.inr ⟨ax,.inr ⟨hB,.inl ⟨⟨j,o,hb⟩,rfl⟩⟩⟩;have a:¬lW V.i4 (iW V B E W) Q j->∀v,v<j+1->¬lW V.i4 (iW V B E W) Q v:=λhb v hv=>by
   by_cases d3:v=j;·rw[d3];exact hb
   exact hW v aa
  have a1:Q.getD j 0=Q[j]:=aZ aa 0;unfold lW at p a;rw[a1]at p a;obtain⟨d7,hu⟩:∃d7,d7=jz D b j:=⟨_,rfl⟩;rw[<-hu]at b4 cy;refine ab ?_;refine RO.eo U 2 (hv:=b4) (ab ?_);refine RO.dD U λH6 O U=>?_;have U:=U.ie;have X:∀{z d2 us},tB 3 O [aN j]∈d2->ak Y z (tZ d2::us)->aY z O 0=some (aN j):=λd0 U=>by obtain⟨_,G⟩:=U.jr 0 rfl d0;exact tB.cell G rfl
  have a8:∀{z d2 us},tB cW q3 [s]∈d2->ak Y z (tZ d2::us)->aY z q3 0=some s:=λd0 U=>by obtain⟨_,G⟩:=U.jr 0 rfl d0;exact tB.cell G rfl
  have m9:tB 3 O [aN j]∈tB 3 O [aN j]::d2:=acj .. ;have m3:tB cW q3 [s]∈tB 3 O [aN j]::d2:=ab8 _ cx;refine ab ?_;refine RO.aW (ab ?_) (hc:=X m9 U);refine RO.aW ?_ (v:=aI V.i4) (hc:=by rw[U.gr.aY bb];exact cf);refine ab ?_;refine RO.bP (λG=>?_) (λG=>?_);rotate_left;have b6:¬((j:Int)<V.i4/\Q[j]≠j):=λd0=>G d0.1;rotate_left;refine ab ?_;refine RO.aW (ab ?_) (hc:=a8 m3 U);refine RO.aW (ab ?_) (hc:=X m9 U);refine RO.fA U.gr hR (λq7 o7 cE ay=>ab ?_) (j:=j);refine RO.aW (ab ?_) (hc:=X m9 U);refine RO.bP (λa'=>?_) (λa'=>?_);·refine ab ?_;exact ret (p (.inl ⟨G,a'⟩)) U.tail rfl
  have b6:¬((j:Int)<V.i4/\Q[j]≠j):=λd0=>a' d0.2;all_goals
   have b7:=adX T (S:=S) o cd a6 (λhd x J=>by have⟨C,hC,h1,_⟩:=(P x).1 J;rw[(b3.1 j o).2 ⟨C,hC,h1⟩]at hd;cases hd) U;rw[<-hu]at b7;refine ab ?_;refine RO.cl (b7.mono ?_);rintro d6 H7⟨d1,ag,cR,ds,dv,dx,U⟩;refine ab ?_;refine RO.cl (FW T (ts:=[tZ (tR 1 (d1.map aI) d1.length d6::tB 3 O [aN j]::d2)]) (us:=tX dm (.deferred false)::tB dR qs (gw dz D b)::fg dz D b S) (la:=d1) (J:=λi ts=>ts=[tZ (tR 1 (d1.map aI) d1.length d6::tB 3 O [aN j]::d2)]/\∀m(d0:m<d1.length),m<i->Q[j]≠Q.getD d1[m].toNat 0) (D:=λts=>ts=[tZ (tR 1 (d1.map aI) d1.length d6::tB 3 O [aN j]::d2)]/\∃x∈d1,Q[j]=Q.getD x.toNat 0) (λhJ U=>?_) (by have:=NJ (n:=dz) (cR.imp λd0=>Int.ne_of_lt d0) λx J=>a6 x ((ag x).1 J);omega) rfl ?_ ⟨rfl,λm _ hm=>by omega⟩ U λH8 ts d4 U hc=>?_);·obtain⟨rfl,_⟩:=hJ;have⟨_,G⟩:=U.jr 0 rfl (acj ..);exact G.1
   .rintro i _ us H8 hi⟨rfl,hN⟩U;have J:=a6 _ ((ag _).1 (abO hi));obtain⟨x,b'⟩:∃x:Nat,d1[i]=x:=⟨d1[i].toNat,aa⟩;have c8:x<Q.length:=aa;rw[b'];refine YF.code T.YV aC (ab ?_);refine RO.aW (ab ?_) (hc:=a8 (ab8 _ m3) U);refine RO.aW (ab ?_) (hc:=X (ab8 _ m9) U);refine RO.fA U.gr hR (λq7 o7 cE ay=>ab ?_) (j:=j);refine RO.aW (ab ?_) (hc:=a8 (ab8 _ m3) U);refine RO.fA U.gr hR (λq8 o8 dy c9=>ab ?_) (j:=x);have ca:Q.getD d1[i].toNat 0=Q[x]:=by rw[b',aeY,aZ c8]
    refine Ru.aL ⟨_,U,?_⟩;by_cases he:Q[j]=Q[x];·exact .inr ⟨by rw[decide_eq_true he],rfl,_,abO hi,by rw[ca];exact he⟩
    refine .inl ⟨by rw[decide_eq_false he],rfl,λm d0 hm=>?_⟩;by_cases d3:m=i;·subst d3;rw[ca];exact he
    exact hN m d0 aa
   rcases hc with⟨rfl,rfl,hN⟩|⟨rfl,rfl,x,J,he⟩;·refine ab ?_;refine Ru.wk (ih _ _ (ab8 _ m3) (a λhb=>hb.elim b6 λ⟨x,J,he⟩=>?_) U);obtain⟨m,hm,rfl⟩:=ahd ((ag x).2 ((P x).2 J));exact hN m hm hm he
   refine ab ?_;exact ret (p (.inr ⟨x,(P x).1 ((ag x).1 J),he⟩)) U.tail rfl
 refine Ru.exitTo ?_;obtain rfl:j=dz:=aa;refine ab ?_;exact ret (.inr ⟨ax,.inr ⟨hB,.inr ⟨hW,rfl⟩⟩⟩) U.tail rfl
end
end
theorem ad1(T:Tb ac)(s:Vd V)(hg:dc Y V l)(o:V.aO=n)(h:∀f v R b os am j,b8 V b os->eF V b os am->gu V b os j->jY V.i4 (iW V os j am) n (fh V am) R->aR Y f->dh f R v->q (.tuple [v,aI 0]) f):YN ac KA [.agg l] Y q:=adY T s rfl T.KU T.KX hg λ_ _ _ _ _ _ _ _ _ _ _ k m c i p=>adW T s p k m c o λ_ _ _ r e d=>⟨d.all.1,h _ _ _ _ _ _ _ k m c r (i.trans e) d⟩
theorem ad4(T:Tb ac)(W:Vd V){cs:List AV}(hg:dc Y V cs)(u:V.aO=n)(j:n<=1000)(l:dh Y Q t)(k:Q.length<=1000)(h:∀m e b os am i,b8 V b os->eF V b os am->gu V b os i->oQ V.i4 (iW V os i am) (fh V am) n Q e->aR Y m->q (aN e) m):YN ac KB [.agg cs,t] Y q:=by have r:=hg.one;obtain⟨s,rfl,bz⟩:=hg;have⟨y,z,B,C⟩:=bz.all;have⟨hrd,D,E,F⟩:=l.all;refine YF.code T.KW aC (au ?_);refine RO.bZ (ak.bM Y) λL M U=>ab ?_;refine RO.bT U 0 ?_;refine RO.cl (Nf T W (cs:=[.str V.i7,aI V.i4,aI V.aO,s]) ⟨s,rfl,bV.block.gK U.gr bz⟩ λN O G P S I J b os am i o p c d v=>?_);refine ab ?_;refine RO.cl (ad0 T W v o p c u j ((U.gr.trans d).sl l) k λw e x f=>ab ?_);exact Ru.aL (h w e b os am i o p c x ((U.gr.trans d).trans f))
end
section
variable{ac:Nat->aX}
def yB(V:G.aM)(os:List (List bp))(E:List (List Int))(e:Nat):Nat->Int->Prop
 |0=>oO V os E e
 |k+1=>λx=>x=((aE V e).aB.getD k default).to/\x≠ -1\/de V os E e ((aE V e).aB.length - (k+1)) x
theorem NN(hb:n∈W)(e:k<=(aE V n).aB.length):yB V B E n k∈iW V B E W:=by refine ahI.2 ⟨n,hb,?_⟩;cases k with|zero=>exact ahj _ (acj ..)|succ k=>simp only[oP,ac6,ac2,ahI,ahR];exact .inl (.inr ⟨k,aa,by simp[pT,yB]⟩)
theorem ad5(f:c∈iW V B E W):∃l∈W,∃k,k<=(aE V l).aB.length/\∀x,c x->yB V B E l k x:=by
 have⟨l,hb,f⟩:=ahI.1 f;refine⟨l,hb,?_⟩;have key:∀k,k<=(aE V l).aB.length->∃h,h<=(aE V l).aB.length/\∀x,de V B E l ((aE V l).aB.length - k) x->yB V B E l h x:=λk j=>⟨k,j,λx e=>by cases k with|zero=>exact .inr e|succ k=>exact .inr e⟩;simp only[oP,ac6,ac2,ahI,ahR,pT,ahv,or_false]at f;rcases f with(rfl|⟨i,hi,rfl|rfl⟩)|rfl;·exact⟨0,Nat.zero_le _,λx e=>e⟩
 .exact key i aa
 .exact⟨i+1,aa,λx e=>e⟩
 have:=key (aE V l).aB.length (aeE _);rwa[Nat.sub_self]at this
def CF(g:G.aM)(come:List Bool)(os:List (List bp))(lv:List (List Int))(e:Nat)(pl:List (List Int)):Prop:=
 come.getD e false=true/\pl.length=(aE g e).aB.length+1/\(∀k,k<=(aE g e).aB.length->(pl.getD k []).Pairwise (·<·)/\∀x,x∈pl.getD k []↔de g os lv e ((aE g e).aB.length - k) x)\/come.getD e false=false/\pl=[]
end
section
theorem aeG{x:bp}(a:∃t:Nat,x.1=t/\(x.2=0\/x.2=1)):(eG x % 2==0)=(x.2==0):=by unfold eG;grind
theorem Oe:∀{l:List bp},mA l->((l.map eG).find? λx=>x % 2==0).map (λx=>((aE V (x.toNat/2)).aq.go.getD 1 default).block)=(l.find? λx=>x.2==0).map λx=>((aE V x.1.toNat).aq.go.getD 1 default).block|[],_=>rfl|x::l,h=>by have a:=h x (acj ..);rw[ahk,List.find?_cons,List.find?_cons,aeG a];cases x.2==0 with|true=>simp[a,ahQ,Au]|false=>exact Oe λy b=>h y (ab8 _ b)
theorem Of{o:List bp}(a:mA o):mD V (ff o)=jV V o:=by unfold mD jV;rw[ff,<-List.map_reverse];exact Oe λx b=>a x (List.mem_reverse.1 b)
theorem Og{o:List bp}(c:mA o){S:Nat->Prop}:(∃w∈fU V n (ff o),S w.1.toNat)↔∃w∈jU V n o,S w:=by
 rw[<-vP c];constructor;·rintro⟨w,a,h⟩;obtain⟨x,b,rfl⟩:=ahm.1 a;exact⟨_,ahm.2 ⟨x,b,rfl⟩,h⟩
 rintro⟨w,a,h⟩;obtain⟨x,b,rfl⟩:=ahm.1 a;exact⟨_,ahm.2 ⟨x,b,rfl⟩,h⟩
section
variable{B:G.dI}{v:Nat}
theorem Oh:∀i,i<=B.aB.length+1->io B X (λ_=>False) i v->(∃k,k<=B.aB.length/\(v:Int)∈di B k/\∀j,B.aB.length+1 - i<=j->j<k->(B.aB.getD j default).to≠(v:Int))\/X v/\∀j,B.aB.length+1 - i<=j->j<B.aB.length->(B.aB.getD j default).to≠(v:Int)
 |0,_,h=>.inr ⟨h,λj h1 h2=>by omega⟩
 |i+1,hi,h=>by
  simp only[io,or_false]at h;have e:B.aB.length+1 - (i+1)=B.aB.length - i:=aa;rw[e];rcases h with h|⟨h1,h2⟩;·grind
  have hj:∀j,B.aB.length - i<=j->j<B.aB.length->(B.aB.length+1 - i<=j->(B.aB.getD j default).to≠(v:Int))->(B.aB.getD j default).to≠(v:Int):=λj d a a3=>by
   by_cases b:j=B.aB.length - i;·subst b;exact λc=>h2 ⟨a,c⟩
   exact a3 aa
  rcases Oh i aa h1 with⟨k,b1,b2,f⟩|⟨b1,b2⟩;all_goals grind
theorem G8{i:Nat}(h:io B out (λ_=>False) i v):∀d,i+d<=B.aB.length+1->(∀j,B.aB.length+1 - (i+d)<=j->j<=B.aB.length - i->j<B.aB.length->(B.aB.getD j default).to≠(v:Int))->io B out (λ_=>False) (i+d) v|0,_,_=>h|d+1,hd,hj=>by rw[<-aiD];simp only[io,or_false];refine .inr ⟨G8 h d aa λj b a a3=>hj j aa a a3,λ⟨b,a⟩=>hj _ aa aa b a⟩
theorem aeH(c:n<=B.aB.length)(h:(v:Int)∈di B n)(a:∀j,j<n->(B.aB.getD j default).to≠(v:Int)):io B X (λ_=>False) (B.aB.length+1) v:=by
 have h1:io B X (λ_=>False) (B.aB.length - n+1) v:=by simp only[io,or_false];rw[show B.aB.length - (B.aB.length - n)=n by omega];exact .inl h
 by_cases b:n=0;·grind
 have:=G8 h1 n aa λj d e a3=>a j aa;grind
theorem aeI(h:out v)(a:∀j,j<B.aB.length->(B.aB.getD j default).to≠(v:Int)):io B out (λ_=>False) (B.aB.length+1) v:=by have:=G8 (i:=0) (B:=B) (out:=out) (v:=v) h (B.aB.length+1) aa λj b c a3=>a j a3;grind
end
section
variable{g:G.aM}{come:List Bool}{os:List (List bp)}{lv:List (List Int)}
theorem G9(d:(L:Int)∉(aE g n).i4)(e:∀j,j<k->j<(aE g n).aB.length->((aE g n).aB.getD j default).to≠(L:Int)):mr g n L k:=λp b=>by
 have a:=Mb b;rcases ac6.1 b with h|h;·grind
 rcases a with a|a;·have:=Ga _ _ _ h;omega
 apply ahF;intro f;obtain⟨j,rfl⟩:∃j:Nat,p=j:=⟨p.toNat,aa⟩;have hj:j<(aE g n).aB.length:=aa;have key:∀(l:List G.dY)(i:Nat),((L:Int),(j:Int))∈fF l i->∃m,j=i+m/\(l.getD m default).to=(L:Int):=by
  intro l;induction l with
  |nil=>intro i h;cases h
  |cons s l c=>
   intro i h;rw[fF]at h;rcases ac6.1 h with h|h
   .split at h;·cases h
    rw[abt]at h;injection h with h1 h2;exact⟨0,aa,h1.symm⟩
   have⟨m,h1,h2⟩:=c (i+1) h;exact⟨m+1,aa,h2⟩
 grind
theorem Hc(h:mr g n L k):(L:Int)∉(aE g n).i4/\∀j,j<k->j<(aE g n).aB.length->((aE g n).aB.getD j default).to≠(L:Int):=by
 refine⟨λa=>?_,λj hj hl e=>?_⟩;·have:=h _ (Cv a);omega
 rw[aZ hl]at e;have h2:=Ax hl aa;rw[e]at h2;have:=h _ h2;omega
structure Oi(g:G.aM)(os:List (List bp))(come:List Bool)(cR:List Bool)(oR:List (List Int)):Prop where
 cm:∀b,cR.getD b false=true↔come.getD b false=true
 op:∀b,come.getD b false=true->oR.getD b []=ff (os.getD b [])/\mA (os.getD b [])
theorem runK(k:dT g)(l:jG g)(f:fE g)(i:b8 g come os)(e:jx g (-1) F E p)(j:∀b,fc g (-1) F E p b):Oi g os come F E:=by
 have⟨c1,o1,_,_,a,c,_⟩:=l.ex;have d:=k.sh;refine⟨λb=>?_,λb hb=>?_⟩;·rw[Av d f a c i];exact⟨λh=>((e.snd b h).comp d a c).1,λh=>(a.snd b h).yt d a c e.toFlI j⟩
 have h1:=(Av d f a c i).1 hb;have h2:=(a.snd b h1).yt d a c e.toFlI j;have h3:=((e.snd b h2).comp d a c).2;grind[Cu]
theorem aeJ(M:dT g)(N:fE g)(i:b8 g come os)(Q:g.aO=L)(e:Oi g os come F E)(y:rf g F E L h)(hb:come.getD n false=true):Lv g os n x↔∃v:Nat,x=v/\v<L/\eZ h n v:=by
 have p:∀{n:Nat}{S:Nat->Prop},come.getD n false=true->((∃w∈fU g n (E.getD n []),S w.1.toNat)↔∃w∈wW g os n,S w):=λhb=>by have⟨h1,h2⟩:=e.op _ hb;rw[h1];exact Og h2
 have q:∀{n:Nat},come.getD n false=true->mD g (E.getD n [])=jV g (os.getD n []):=λhb=>by have⟨h1,h2⟩:=e.op _ hb;rw[h1];exact Of h2
 constructor
 .intro R;have key:∀n x,Lv g os n x->come.getD n false=true->∃v:Nat,x=v/\v<L/\eZ h n v:=by intro n x R;induction R with| @kl n v bq O b=>intro a;have r:=i.lt a;have⟨k,I,s,d⟩:=Gw O;simp only at s d;have P:=vN M (kq r) d;obtain⟨v,rfl⟩:∃u:Nat,v=u:=⟨v.toNat,aa⟩;subst s;have⟨l,A⟩:=Hc b;exact⟨v,rfl,aa,y.cl n r ((e.cm n).2 a) v aa ⟨.inl (aeH I d λj hj=>A j hj aa),l⟩⟩| @il n w v z _ b C=>intro a;obtain⟨v,rfl,f,m⟩:=C (i.il a z);have⟨l,A⟩:=Hc b;exact⟨v,rfl,f,y.cl n (i.lt a) ((e.cm n).2 a) v f ⟨.inl (aeI ((p (S:=λw=>eZ h w v) a).2 ⟨w,z,m⟩) λj hj=>A j hj hj),l⟩⟩| @kr n t v o _ b C=>intro a;have⟨_,_,_,_,J,_⟩:=qS N i a o;obtain⟨v,rfl,f,m⟩:=C J;have⟨l,_⟩:=Hc (k:=0) b;exact⟨v,rfl,f,y.cl n (i.lt a) ((e.cm n).2 a) v f ⟨.inr ⟨t,by rw[q a];exact o,m⟩,l⟩⟩
  grind
 rintro⟨v,rfl,_,m⟩;refine y.snd (λn v=>Lv g os n (v:Int)) (λn v a f c=>?_) n v m;have a:=(e.cm n).1 a;have⟨c,D⟩:=c;rcases c with c|⟨t,o,c⟩
 .rcases Oh _ (aeE _) c with⟨k,G,H,a3⟩|⟨G,H⟩;·exact .kl (ML G H) (G9 D λj hj _=>a3 j aC hj)
  have⟨w,z,hl⟩:=(p (S:=λw=>Lv g os w (v:Int)) a).1 G;exact .il z hl (G9 D λj hj K=>H j aC K)
 rw[q a]at o;exact .kr o c (G9 (k:=0) D λj hj=>by omega)
theorem Oj(h1:(n:Int)∈Q↔X n)(h2:c n↔(n:Int)∈jF H.aq\/y n\/X n):∀m,m<=H.aB.length->(Ay Q c H.aB m n↔io H y X (m+1) n)
 |0,_=>by simp only[Ay,io,aiW,di,Nat.lt_irrefl,bF,false_and,not_false_eq_true,and_true];rw[h2,or_assoc]
 |m+1,f=>by
  have e:=Oj h1 h2 m aa;have d:H.aB.length - (m+1)<H.aB.length:=aa;show((n:Int)∈Q\/(n:Int)∈(H.aB.getD (H.aB.length - 1 - m) default).args\/Ay Q c H.aB m n/\(n:Int)≠(H.aB.getD (H.aB.length - 1 - m) default).to)↔_;rw[io,e,h1,di,aF d,show H.aB.length - 1 - m=H.aB.length - (m+1)by omega];constructor
  .rintro(h|h|⟨h,a⟩);·exact .inr h
   .exact .inl (.inl h)
   exact .inl (.inr ⟨h,λb=>a b.2.symm⟩)
  rintro((h|⟨h,a⟩)|h);·exact .inr (.inl h)
  .exact .inr (.inr ⟨h,λb=>a ⟨d,b.symm⟩⟩)
  exact .inl h
theorem aeK(V:Vd g)(K:jG g)(f:b8 g come os)(O:eF g come os W)(j:gu g come os lv)(P:g.aO=L)(hb:n<g.aj.length){l:List (List Int)}{o2:List (List Int)}{t2:Bool}(Q:jx g (-1) F E p)(R:∀n,fc g (-1) F E p n)(s:jx g (-1) z o2 t2)(y:∀n,fc g (-1) z o2 t2 n)(S:rf g z o2 L h)(T:CP g F E h L n l):CF g come os lv n l:=by
 have q:=V.lU;have r:=runK q K V.cG f Q R;have A:=runK q K V.cG f s y;rcases T with⟨b,C,D⟩|⟨b,rfl⟩;rotate_left;·refine .inr ⟨?_,rfl⟩;cases c:come.getD n false with|false=>rfl|true=>rw[(r.cm n).2 c]at b;cases b
 have c:=(r.cm n).1 b;have⟨M,m⟩:=r.op n c;have G:=Nn V f O j c;have a:∀w,come.getD w false=true->∀v:Nat,v<L->((v:Int)∈lv.getD w []↔cz (h.getD w []) v):=λw N v i=>by rw[j.mem w N,aeJ q V.cG f P A S N];exact⟨λ⟨u,e,_,d⟩=>by obtain rfl:v=u:=aa;exact d,λd=>⟨v,rfl,i,d⟩⟩
 refine .inl ⟨c,C,λk H=>?_⟩;have⟨b1,b2⟩:=D k H;refine⟨b1,λx=>?_⟩;rw[b2];have key:∀v:Nat,v<L->(de g os lv n ((aE g n).aB.length - k) v↔io (aE g n) (qY g E h n) (qZ g E h n) ((aE g n).aB.length - k+1) v):=λv i=>by
  have o:(v:Int)∈jH g lv (os.getD n [])↔qZ g E h n v:=by unfold jH qZ;rw[M,Of m];cases X:jV g (os.getD n [])with|none=>simp|some t=>have⟨_,_,_,_,I,_⟩:=qS V.cG f c X;simp only[aa9,exists_eq_left'];exact a _ I v i
  refine Oj o ?_ _ aa;unfold Ni;rw[o];have J:(∃w∈wW g os n,(v:Int)∈lv.getD w [])↔qY g E h n v:=by unfold qY;rw[M];rw[Og (S:=λw=>cz (h.getD w []) v) m];exact⟨λ⟨w,h1,h2⟩=>⟨w,h1,(a w (f.il c h1) v i).1 h2⟩,λ⟨w,h1,h2⟩=>⟨w,h1,(a w (f.il c h1) v i).2 h2⟩⟩
  rw[J,jF,ac6,ahI];constructor
  .rintro(Z|Z|Z|Z);·exact .inr (.inr Z)
   .exact .inl (.inl Z)
   .exact .inl (.inr Z)
   exact .inr (.inl Z)
  rintro((Z|Z)|Z|Z);·exact .inr (.inl Z)
  .exact .inr (.inr (.inl Z))
  .exact .inr (.inr (.inr Z))
  exact .inl Z
 constructor;·rintro⟨v,rfl,i,d⟩;exact(key v i).2 d
 intro d;have Y:=G _ aa x d;obtain⟨v,rfl⟩:∃u:Nat,x=u:=⟨x.toNat,aa⟩;exact⟨v,rfl,aa,(key v aa).1 d⟩
end
end
end Go.al.R
end
