/- A part of the proof. No conditions. -/
import Derived.Test.YtjhkgigolpfcfaaGreatDoorA11
import Derived.ChangeArms
import Derived.DataReads
import Derived.Test.YtjhkgigolpfcfaaGreatDoorK02
import Derived.HandedShaped
set_option linter.all false
set_option maxHeartbeats 16000000
open Option renaming bind_eq_some_iff→acR,map_some→ahb
open List renaming mem_singleton→ac3,mem_cons_self→adc,mem_cons→adC,mem_cons_of_mem→adD,getElem_mem→af0,replicate→af3,mem_append→agI,append_assoc→agJ,map_cons→agN,length_append→agP,drop_eq_getElem_cons→agR,getElem_of_mem→agS,mem_append_left→agU,range→agV,take_append_getElem→agX,length_map→agZ,not_mem_nil→ag0,perm_middle→ag1,take_of_length_le→ag2,mem_map→ag3,mem_map_of_mem→ag5,mem_append_right→ag7,getElem?_map→ahc,getElem?_append_left→ahd,nodup_cons→ahg,length_singleton→ahj,map_append→ahk,length_take→ahl,flatMap_append→ahn,eq_nil_of_length_eq_zero→ahp,getElem_map→aht,flatMap_singleton→ahu,getElem?_eq_some_iff→ahv,append_nil→ahx,cons_append→ahC,perm_append_comm→ahD,nil_append→ahH,getElem?_cons_succ→ahK,range_succ→ahO,ext_getElem→ahU,mem_range→ahV,map_nil→ahX,map_congr_left→ahZ,take_zero→ah0,take_length→ah2,mem_flatMap→ah6,take_succ_cons→ah7,getElem_range→aif,length_drop→aih,map_map→aii,nodup_nil→aim
open Bool renaming false_eq_true→ac6,and_eq_true→agM,not_eq_true'→ahA,or_eq_true→ahT,and_self→aiq
open Nat renaming le_refl→adW,eq_of_beq_eq_true→agO,beq→agQ,le_of_ble_eq_true→agT,zero_add→agW,lt_of_lt_of_le→ag6,mul_le_mul_right→ahf,ble_eq_true_of_le→ahi,blt_eq→ahF,le_trans→ahY,add_assoc→ah3,mul_one→ah9,add_zero→ail
open Prod.mk renaming injEq→age
open Int renaming toNat_natCast→agK,ofNat→ahI
open List.cons renaming injEq→ag4
open Array renaming getD_eq_getD_getElem?→aho
open List.Perm renaming cons→ahq,swap→ahw,refl→ais
open List.Sublist renaming refl→ahB
open UInt8 renaming toNat→aib
open Eq renaming mpr→aiu
open List.Pairwise renaming nil→aiv
noncomputable section
namespace Go.ak.R
section
variable{ab:Nat→aE}
section
def aeG(g:G.bu)(os:List (List bU))(d:List (List Int))(b:Nat)(x:Int):Prop:=
 x∈lR g d (os.getD b [])∨x∈(aF g b).aq.args∨(∃e∈(aF g b).aq.go,x∈e.args)∨∃w∈wW g os b,x∈d.getD w []
def PJ(rN:List Int)(after:Int→Prop)(aA:List G.gW):Nat→Int→Prop
 |0=>after
 |k+1=>λx=>x∈rN∨x∈(aA.getD (aA.length - 1 - k) default).args∨PJ rN after aA k x∧x≠(aA.getD (aA.length - 1 - k) default).to
abbrev eL(g:G.bu)(os:List (List bU))(d:List (List Int))(b:Nat):Nat→Int→Prop:=PJ (lR g d (os.getD b [])) (aeG g os d b) (aF g b).aA
def Ab(a:Nat→ac)(v:AV)(n:Nat)(P:Nat→Int→Prop):List Th:=tS fV 1 ((agV n).map λi=>.map (a i)) n true v::(agV n).map λi=>tM true (a i) (P i)
theorem aeH{a:Nat→ac}{v:AV}{n k:Nat}{P:Nat→Int→Prop}(b:k<n):(Ab a v n P)[k+1]?=some (tM true (a k) (P k)):=by simp[b,Ab,ahK,ahc,List.getElem?_range,ahb]
section
variable{g:G.bu}{r y s u:AV}{h:ac}{A H:af}{p:List AV}{come:List Bool}{os:List (List bU)}{ap:List Nat}{d:List (List Int)}
theorem EK{B:G.gD}{i:Nat}(b:i<B.aA.length){x:Int}(a:x∈B.aA[i].args):(x,(i:Int))∈kp B:=by obtain⟨_,c,e⟩:=OJ B b;rw[e];exact ag7 _ (agU _ (ag5 a))
theorem Cq{B:G.gD}{x:Int}(a:x∈B.aq.args):(x,(B.aA.length:Int))∈kp B:=ag7 _ (agU _ (ag5 a))
theorem Cr{B:G.gD}{e:G.Edge}(he:e∈B.aq.go){x:Int}(a:x∈e.args):(x,(B.aA.length:Int))∈kp B:=by obtain⟨i,hi,rfl⟩:=agS he;obtain⟨_,c,e2⟩:=OL B hi;rw[e2];exact ag7 _ (agU _ (ag5 a))
theorem aeI(a:xX g come os){b:Nat}(hb:come.getD b false=true){x bC:Int}(e:(x,bC)∈kp (aF g b)):0≤x:=by obtain⟨t,c,_⟩:=a.rd b hb _ e;omega
theorem Jn(V:Vd g)(c:dA g come os)(e:iP g come os ap)(a:jJ g come os d){b:Nat}(hb:come.getD b false=true){x:Int}(f:x∈d.getD b []):0≤x:=(((a.mem b hb x).1 f).Ci V.dP c (V.rR come os c) V.gv e hb).1
theorem aeJ(V:Vd g)(c:dA g come os)(e:iP g come os ap)(a:jJ g come os d){b:Nat}(hb:come.getD b false=true){x:Int}(j:x∈lR g d (os.getD b [])):0≤x:=by
 unfold lR at j;split at j;·rename_i t f;obtain⟨_,_,_,_,i,_⟩:=wd V.dP c hb f;exact Jn V c e a i j
 grind
theorem aeK(a:jJ g come os d)(o:List bU):(lR g d o).length≤6000:=by
 unfold lR;split;·exact a.kq _
 simp
def wl(b e f:ac)(v0:AV)(a:Nat→ac)(c:AV)(k:Nat)(P:Nat→Int→Prop):List Th:=[tB pW b [c],tB fV e [.map (a k)],tB gp f [v0]]++Ab a c (k+1) P
def yj(h b c e f:ac)(g:List AV)(v0:AV)(a:ac)(S:Int→Prop):List Th:=[tB fV b [.map a],tM true a S,tB gp c [v0],tB dM e g,tB lF f [.aw h 0]]
theorem aeL(T:Tb ab)(V:Vd g)(L:FX g H h r y s u p come os ap d)(W:dA g come os)(hO:iP g come os ap)(I:jJ g come os d){b:Nat}(hb:come.getD b false=true){K:AV→af→Prop}(h5:∀H' v c,ai H H' (Ab c v ((aF g b).aA.length+1) λi=>eL g os d b ((aF g b).aA.length - i))→K v H'):YF ab (.func Vu [] []) [.aw h 0,aN b] H K:=by
 have hB:=V.sm;have g5:=hB.nb;have b6:=W.lt hb;have b':=L.ro.lt;have ec:=L.ro.aF;have g6:=L.ro.jG;have ei:=L.c6;have⟨g7,_,_,_⟩:=L.ro.sl.all;have⟨g8,_,_,_⟩:=L.bl.all;have⟨ej,_,_,_⟩:=L.sl.all;have a2:=rQ b6;have g9:=hB.bl _ a2;have dW:=hB.st _ a2;have ek:=hB.ed _ a2;have el:g.aj[b]=aF g b:=(bE b6 _).symm;have ca:=V.rR come os W;have E:∀{x bC:Int},(x,bC)∈kp (aF g b)→0≤x:=λh5=>aeI ca hb h5;have Q:∀{x:Int},x∈lR g d (os.getD b [])→0≤x:=λh5=>aeJ V W hO I hb h5;have g':=aeK I (os.getD b []);refine YF.code T.Z2 (by simp) ?_;refine au ?_;refine RO.dS (ai.cW H) λH1 X U=>?_;refine ah ?_;refine RO.aW ?_ (v:=r) (hc:=by rw[U.gr.bh b'];exact ec);refine ah ?_;refine RO.cP U.gr L.bl (λq9 o9 hY ha a6 hc hat hrd=>?_) (j:=b);rw[el]at a6;have gi:=a6.one;obtain⟨vp,B,jc,rfl,hf,hvs,Y,vk,vg,rfl,a8,_,cd⟩:=a6;have⟨er,et,ew,gn⟩:=hvs.all;have⟨e0,hh,hm,hn⟩:=a8.all;have⟨hr,_,_,hw⟩:=cd.all;refine ah ?_;refine RO.fG U λH2 O U=>?_;refine ah ?_;refine RO.cl (aeA T V U.gr L W I hb λH3 v0 ag e3=>?_);have U:=U.cV e3;have⟨hx,hy,hz,_⟩:=ag.all;refine ah ?_;refine RO.fG (us:=[v0]) U λH4 D U=>?_;refine ah ?_;refine RO.OX U λH5 qm U=>?_;have e4:bh H5 D 0=some v0:=by obtain⟨_,hp⟩:=U.get 1 rfl;exact tB.cell hp rfl
 have e5:D≠qm:=U.ne 1 0 rfl rfl (by omega) (λf h5=>h5.1) (λf h5=>h5.1);have e6:O≠qm:=U.ne 2 0 rfl rfl (by omega) (λf h5=>h5.1) (λf h5=>h5.1);refine RO.vW (is:=[qm]) e4 (by simpa using e5) λH6 e7 e8=>?_;have U:=U.bS e8 e7;refine ah ?_;have e':bh H6 O 3=some Y:=by obtain⟨_,hp⟩:=U.get 2 rfl;exact tB.cell hp rfl
 refine RO.vW (is:=[qm]) e' (by simpa using e6) λH7 fa fb=>?_;have U:=U.bS fb fa;refine RO.gk U λH8 z U=>?_;have cf:=U.zY (e:=fV) (q:=z) (vs:=[.cL]) 0;have ay:∀j∈ [z],j.al<H8.next.al:=λj hj=>by rw[ac3]at hj;subst hj;exact cf.2
 have cn:∀(HY Z:af),bf H HY→Z.next=HY.next→(∀j,j∉ [z]→Z.get j=HY.get j)→bf H Z:=λHY Z cp h1 h2=>⟨by rw[h1];exact cp.nx,λj hj=>by rw[h2 j ?_,cp.dJ j hj];simp only[ac3];exact λe=>by rw[e]at hj;have:=cf.1;omega⟩;have ar:∀(HY Z:af)(q:ac),q≠z→(∀j,j∉ [z]→Z.get j=HY.get j)→Z.get q=HY.get q:=λHY Z q hq h2=>h2 q (by simpa using hq);have cv:qm≠z:=U.ne 1 0 rfl rfl (by omega) (λf h5=>h5.1) (λf h5=>h5.1);refine RO.B8 (is:=[z]) (Q:=λv ns=>∃G S',v=.map G∧(∀x,S' x↔x∈lR g d (os.getD b []))∧ns=[tM true G S']) U ay (λZ a' hs=>?_) (λrv ns HU hQ fd U=>?_);·obtain⟨⟨ks,ba,bb⟩,bc,_⟩:=U.n9 1 rfl;refine Jk T (ks:=ks) (by rw[ar _ _ _ cv hs];exact ba) (by rw[ar _ _ _ cv hs];exact bc rfl) ((cn _ _ U.gr a' hs).sl ag) (by omega) λH9 G S' J hl=>⟨_,hl,G,S',rfl,λx=>?_,rfl⟩;rw[J,bb];simp
 obtain⟨qa,Sa,rfl,fe,rfl⟩:=hQ;refine⟨λaa cx=>gQ cx rfl rfl e0 (a8.bS) (by obtain⟨_,hp⟩:=U.get 4 rfl;exact tB.cell hp rfl) rfl,?_⟩;have cy:qa≠z:=U.ne 0 1 rfl rfl (by omega) (λf h5=>h5.1) (λf h5=>h5.1);refine RO.B8 (is:=[z]) (Q:=λv ns=>∃G S',v=.map G∧(∀x,S' x↔x∈lR g d (os.getD b [])∨x∈(aF g b).aq.args)∧ns=[tM true G S']) U (λj hj=>ag6 (ay j hj) fd.nx) (λZ a' hs=>?_) (λrv ns hA hQ gq U=>?_)
 ·obtain⟨⟨ks,ba,bb⟩,bc,_⟩:=U.n9 0 rfl;refine Jk T (ks:=ks) (by rw[ar _ _ _ cy hs];exact ba) (by rw[ar _ _ _ cy hs];exact bc rfl) ((cn _ _ U.gr a' hs).sl a8) (by omega) λH9 G S' J hl=>⟨_,hl,G,S',rfl,λx=>?_,rfl⟩;rw[J,bb,fe];constructor
  ·rintro(h5|h5);·exact .inr h5
   exact .inl h5.1
  rintro(h5|h5);·exact .inr ⟨h5,by have:=Q h5;omega⟩
  exact .inl h5
 obtain⟨qb,Sb,rfl,fk,rfl⟩:=hQ;refine⟨λaa cx=>rfl,?_⟩;refine RO.fU U 2 (λH9 U=>?_);have U:ai H H9 (yj h z D O X [vp,B,aU (aF g b).aq.op,Y,.aC (aF g b).aq.name,vk,vg] v0 qb Sb):=(U.sub (.cons_cons _ (.cons _ (.cons_cons _ (.cons _ (ahB _)))))).cO (ahw ..);refine ah ?_;refine Ru.nm λS0 M hS hM=>?_;refine Ru.cA hM (up (P:=λk=>∀HX P S,(∀x,S x↔x∈lR g d (os.getD b [])∨x∈(aF g b).aq.args∨∃e∈(aF g b).aq.go.take k,x∈e.args)→ai H HX (yj h z D O X [vp,B,aU (aF g b).aq.op,Y,.aC (aF g b).aq.name,vk,vg] v0 P S)→Ru ab _ S0 ([(bZ,aN k)]++pk M [p1,p2,p5,p6,p7,cY,cB]) HX) (aF g b).aq.go.length (λk hk ih HX P S bd U=>?_) 0 (by omega) _ qb Sb (λx=>by rw[fk];simp) U);subst hS;subst hM;refine Ru.loop ?_;refine au ?_;refine Ru.cond (λR=>?_) (λR=>?_)
 ·have hC:=ek _ (af0 R);refine ah ?_;refine RO.cP U.gr cd (λhD hE hF gx d3 gy gg hrd=>?_) (j:=k);obtain⟨ve,rfl,cE⟩:=d3;have⟨fl,fo,fp,_⟩:=cE.all;refine ah ?_;refine RO.fG U λc8 q9 U=>?_;refine ah ?_;refine RO.cl (Aa T U 2 rfl (U.gr.sl cE) (by omega) λc9 G S' J U=>?_);refine RO.fU U 2 (λav U=>?_);refine ah ?_;have U:ai H av (yj h z D O X [vp,B,aU (aF g b).aq.op,Y,.aC (aF g b).aq.name,vk,vg] v0 G S'):=(U.sub (.cons_cons _ (.cons _ (.cons_cons _ (.cons _ (ahB _)))))).cO (ahw ..);exact Ru.wk (ih (k+1) (by omega) (by omega) av G S' (λx=>by
   rw[J,bd,←agX R];constructor
   ·rintro(h5|⟨h5|h5|⟨e,he,h5⟩,_⟩);·exact .inr (.inr ⟨_,ag7 _ (ac3.2 rfl),h5⟩)
    ·exact .inl h5
    ·exact .inr (.inl h5)
    exact .inr (.inr ⟨e,agU _ he,h5⟩)
   rintro(h5|h5|⟨e,he,h5⟩);·exact .inr ⟨.inl h5,by have:=Q h5;omega⟩
   ·exact .inr ⟨.inr (.inl h5),by have:=E (Cq h5);omega⟩
   rcases agI.1 he with he|he;·exact .inr ⟨.inr (.inr ⟨e,he,h5⟩),by have:=E (Cr (List.mem_of_mem_take he) h5);omega⟩
   rw[ac3]at he;subst he;exact .inl h5) U)
 refine Ru.exitTo ?_;rw[ag2 (by omega)]at bd;have N:=W.dP b hb;have fq:(g.aj.getD b default).aq.op=68→os.getD b []≠ []:=λfs e=>by obtain⟨o,ho,_⟩:=ca.en b hb fs;rw[e]at ho;cases ho
 refine ah ?_;refine RO.cl (Px T λc8 c' dr hl=>?_);have U:ai H c8 ([tB 3 dr [aN b],tB lF c' [.aw h 0]]++yj h z D O X [vp,B,aU (aF g b).aq.op,Y,.aC (aF g b).aq.name,vk,vg] v0 P S++[]):=by rw[ahx];exact U.fF hl
 refine ah ?_;refine Ru.wk (L:=[(cK,.func D0 [] [.aw c' 0,.aw dr 0]),(p2,.aw X 0),(p5,.aw O 0),(p6,.aw D 0),(p7,.aw z 0)]) ?_;refine Ru.qz (J:=λm ts=>∃P S,(∀x,S x↔x∈lR g d (os.getD b [])∨x∈(aF g b).aq.args∨(∃e∈(aF g b).aq.go,x∈e.args)∨∃w∈(cI g b (os.getD b [])).take m,x∈d.getD w.1.toNat [])∧ts=yj h z D O X [vp,B,aU (aF g b).aq.op,Y,.aC (aF g b).aq.name,vk,vg] v0 P S) (Dn:=λ_ _=>False) U (Py T hB L.bl (b:=b) (now:=os.getD b []) (nv:=p.getD b .bX) (V.dP.aF N) (V.dP.jG N).1 (by have:=(V.dP.jG N).2;omega) fq) (λH2 hg=>⟨s,p,L.ro.cV (U.gr.trans hg),rfl,(U.gr.trans hg).sl (L.op b hb)⟩) ⟨P,S,λx=>by rw[bd];simp,rfl⟩ (λk args ws h5=>by obtain⟨_,v,rfl,_⟩:=h5;rfl) (λm ts us H' hJ U=>U.gr.sl (L.op b hb)) (λm args ws ts us l o1 o2 H' h4 bv hJ U=>?_) (λH' b0 dm hJ U=>?_) (λj H' b0 dm _ h5=>h5.elim)
 ·obtain⟨P,S,ax,rfl⟩:=hJ;obtain⟨ds,v,rfl,fl,fo,fp,_⟩:=bv;have U:=U.sub ((List.sublist_append_right _ _).append_right _);have dv:(cI g b (os.getD b []))[m]∈cI g b (os.getD b []):=af0 ds;have f0:=(agX ds).symm;obtain⟨hG,hH⟩:=V.dP.Cd N _ dv;have f1:=W.lO hb (Ez dv);generalize(cI g b (os.getD b []))[m]=w at*;obtain⟨t,ht⟩:∃t:Nat,w.1=(t:Int):=⟨w.1.toNat,by omega⟩;rw[ht,agK]at f1;have d4:t<d.length:=by rw[I.len];omega
  have gA:=I.kq t;rw[ht];refine au ?_;refine Ru.dO (xs:=yj h z D O X [vp,B,aU (aF g b).aq.op,Y,.aC (aF g b).aq.name,vk,vg] v0 P S) U λc9 U=>?_;refine ah ?_;refine RO.aW ?_ (v:=u) (hc:=by rw[U.gr.bh b'];exact ei);refine ah ?_;refine RO.cP U.gr L.sl (λC hI hK gH d5 gL b5 _=>?_) (j:=t);obtain⟨vl,rfl,b3⟩:=d5;rw[←bE d4 []]at b3;have⟨ej,hL,hN,_⟩:=b3.all;refine ah ?_;refine RO.aW (v:=vl) ?_ (hc:=b5 0 _ rfl);refine RO.cl (Aa T U 1 rfl (U.gr.sl b3) (by omega) λav G S' J U=>?_);refine RO.fU U 1 (λdx U=>?_);refine ah ?_;have U:=(U.sub (.cons_cons _ (.cons_cons _ (.cons _ (ahB _))))).cO (ahw ..);refine Ru.bD (ts:=yj h z D O X [vp,B,aU (aF g b).aq.op,Y,.aC (aF g b).aq.name,vk,vg] v0 G S') U ⟨G,S',λx=>?_,rfl⟩;rw[J,ax,f0];constructor
  ·rintro(h5|⟨h5|h5|h5|⟨w2,F,h5⟩,_⟩);·exact .inr (.inr (.inr ⟨_,ag7 _ (ac3.2 rfl),by rw[ht,agK];exact h5⟩))
   ·exact .inl h5
   ·exact .inr (.inl h5)
   ·exact .inr (.inr (.inl h5))
   exact .inr (.inr (.inr ⟨w2,agU _ F,h5⟩))
  rintro(h5|h5|⟨e,he,h5⟩|⟨w2,F,h5⟩);·exact .inr ⟨.inl h5,by have:=Q h5;omega⟩
  ·exact .inr ⟨.inr (.inl h5),by have:=E (Cq h5);omega⟩
  ·exact .inr ⟨.inr (.inr (.inl ⟨e,he,h5⟩)),by have:=E (Cr he h5);omega⟩
  rcases agI.1 F with F|F;·refine .inr ⟨.inr (.inr (.inr ⟨w2,F,h5⟩)),?_⟩;have:=Jn V W hO I (W.lO hb (Ez (List.mem_of_mem_take F))) h5;omega
  rw[ac3]at F;subst F;rw[ht,agK]at h5;exact .inl h5
 obtain⟨P,S,ax,rfl⟩:=hJ;rw[ah2]at ax;have d6:∀k,k≤(aF g b).aA.length→∀x,eL g os d b k x→0≤x:=by
  intro k;induction k with
  |zero=>
   rintro _ x(h5|h5|⟨e,he,h5⟩|⟨w,F,h5⟩);·exact Q h5
   ·exact E (Cq h5)
   ·exact E (Cr he h5)
   exact Jn V W hO I (W.lO hb F) h5
  |succ k ih=>
   rintro hk x(h5|h5|⟨h5,_⟩);·exact Q h5
   ·rw[bE (by omega)]at h5;exact E (EK _ h5)
   exact ih (by omega) x h5
 have U:=U.EE (S':=eL g os d b 0) 1 rfl λx=>by
  rw[ax];refine or_congr Iff.rfl (or_congr Iff.rfl (or_congr Iff.rfl ⟨?_,?_⟩));·rintro⟨w,F,h5⟩;exact⟨_,Ez F,h5⟩
  rintro⟨w,F,h5⟩;simp only[wW,lN,ag3]at F;obtain⟨w2,f2,rfl⟩:=F;exact⟨w2,f2,h5⟩
 refine ah ?_;refine RO.kZ U 1 (λc9 f3 U=>?_) (ws:=[.map P]) (n:=1);refine RO.fG U λav C U=>?_;refine ah ?_;refine RO.gM U 5 ?_;refine RO.cl (EC T.aaj (by decide) er et ew λdx dy hl=>?_);have U:=U.fF hl;refine ah ?_;refine Ru.wk (L:=[(ff,.func V0 [] [.aw dy 0]),(p6,.aw D 0),(p7,.aw z 0),(aQ,.aw C 0)]) ?_;have U:ai H dx ([tB MZ dy [B]]++wl C z D v0 (λ_=>P) (.slice f3 0 1 1 true) 0 (eL g os d b)++[tB dM O [vp,B,aU (aF g b).aq.op,Y,.aC (aF g b).aq.name,vk,vg],tB lF X [.aw h 0],tX dm (.deferred false)]):=(((U.fO 5 rfl).fO 4 rfl).fO 3 rfl).fO 3 rfl;refine Ru.qz (J:=λk ts=>∃c sv,sv.bB=true∧sv.dQ=true∧sv.cells=[sv]∧ts=wl C z D v0 c sv k (eL g os d b)) (Dn:=λ_ _=>False) U (EB (R:=pU H) (agg:=true) (size:=6) (la:=(aF g b).aA) (sv:=B) (e:=MZ) (nt:=19) T.aaB (by decide) (by omega) (λh5=>by cases h5) (λa cs h5=>rfl)) (λH2 hg=>by obtain⟨w,h1,h2⟩:=hvs;exact⟨w,(U.gr.trans hg).sl h1,h2⟩) ⟨_,_,rfl,rfl,rfl,rfl⟩ (λk args ws h5=>by obtain⟨_,_,_,_,rfl⟩:=h5;rfl) (λk ts us H' hJ U=>by obtain⟨w,h1,h2⟩:=hvs;exact⟨w,U.gr.sl h1,h2⟩) (λk args ws ts us l o1 o2 H' hk bv hJ U=>?_) (λH' b0 b4 hJ U=>?_) (λj H' b0 dm _ h5=>h5.elim)
 ·obtain⟨rfl,dz,cs,f4,rfl⟩:=bv;obtain⟨c,sv,d7,d',ea,rfl⟩:=hJ;have hP:=(dW _ (af0 dz)).1;have f5:(aF g b).aA.getD ((aF g b).aA.length - 1 - k) default=(aF g b).aA[(aF g b).aA.length - 1 - k]:=bE dz _;have f6:∀{x:Int},x∈(aF g b).aA[(aF g b).aA.length - 1 - k].args→0≤x:=λh5=>E (EK _ h5);have f7:=d6 k (by omega);have f8:∀x,eL g os d b (k+1) x↔x∈lR g d (os.getD b [])∨x∈(aF g b).aA[(aF g b).aA.length - 1 - k].args∨eL g os d b k x∧x≠(aF g b).aA[(aF g b).aA.length - 1 - k].to:=λx=>by rw[←f5];exact Iff.rfl
  generalize(aF g b).aA[(aF g b).aA.length - 1 - k]=st at*;obtain⟨d0,rfl,a1⟩:=f4;have⟨g0,g1,g2,_⟩:=a1.all;refine ah ?_;refine RO.fG U λd1 d2 U=>?_;refine ah ?_;refine Ru.dO (xs:=tB pV d2 [aU st.op,aI st.to,d0,aI st.n,aI st.m,.aC st.name]::wl C z D v0 c sv k (eL g os d b)) U λhR U=>?_;refine ah ?_;have hat:∀(us:List Th),(tB pV d2 [aU st.op,aI st.to,d0,aI st.n,aI st.m,.aC st.name]::(wl C z D v0 c sv k (eL g os d b)++us))[4+(k+1)]?=some (tM true (c k) (eL g os d b k)):=λus=>by simp only[wl,agJ];exact rS (xs:=[_,_,_,_]) (aeH (by omega))
  refine RO.Ed (i:=D) (o:=0) (v:=v0) (Aa T U (4+(k+1)) (hat _) (U.gr.sl a1) (by omega) λhT q1 S1 f9 U=>⟨by obtain⟨_,hp⟩:=U.get 4 rfl;exact tB.cell hp rfl,?_⟩) (hvs:=ag.bS);refine RO.cl (Aa T U 0 rfl (U.gr.sl ag) (by omega) λhU A S2 eb U=>?_);refine RO.fU U 4 (λhV U=>?_);refine ah ?_;refine RO.push U 6 (λw0 hW v2 U=>?_) (ws:=[.map A]);have⟨f',gb,gd,_⟩:=(U.sl (e:=fV) (size:=1) (n:=k+1+1) (full:=true) (sv:=v2) 6).all;refine RO.fU U 3 (λhX U=>?_);refine ah ?_;have U:=U.EE (S':=eL g os d b (k+1)) 0 rfl λx=>by
   rw[f8,eb,f9];constructor
   ·rintro(h5|⟨h5|h5,_⟩);·exact .inl h5
    ·exact .inr (.inl h5)
    exact .inr (.inr h5)
   rintro(h5|h5|h5);·exact .inl h5
   ·exact .inr ⟨.inl h5,by have:=f6 h5;omega⟩
   exact .inr ⟨.inr h5,by have:=f7 x h5.1;omega⟩
  have U:=U.sub (.cons_cons _ (.cons _ (.cons _ (ahB _))));have e1:wl C z D v0 (λj=>if j=k+1 then A else c j) v2 (k+1) (eL g os d b)=[tB pW C [v2],tB fV z [.map A],tB gp D [v0]]++((tS fV 1 ((agV (k+1)).map (λi=>AV.map (c i))++[.map A]) (k+1+1) true v2::(agV (k+1)).map λi=>tM true (c i) (eL g os d b i))++[tM true A (eL g os d b (k+1))]):=by
   have g3:(agV (k+1+1)).map (λi=>AV.map (if i=k+1 then A else c i))=(agV (k+1)).map (λi=>AV.map (c i))++[.map A]:=by
    rw[ahO,ahk];congr 1;·exact ahZ λi hi=>by rw[ahV]at hi;rw[an (by omega)]
    simp
   have g4:(agV (k+1+1)).map (λi=>tM true (if i=k+1 then A else c i) (eL g os d b i))=(agV (k+1)).map (λi=>tM true (c i) (eL g os d b i))++[tM true A (eL g os d b (k+1))]:=by
    rw[ahO,ahk];congr 1;·exact ahZ λi hi=>by rw[ahV]at hi;rw[an (by omega)]
    simp
   simp only[wl,Ab,g3,g4,aH,ahC]
  refine Ru.bD (ts:=wl C z D v0 (λj=>if j=k+1 then A else c j) v2 (k+1) (eL g os d b)) ?_ ⟨_,v2,f',gb,gd,rfl⟩;rw[e1];have U:=U.cO (ag1 (l₁:=[tB pW C [v2],tB fV z [.map A],tB gp D [v0]]++(tS fV 1 ((agV (k+1)).map (λi=>AV.map (c i))++[.map A]) (k+1+1) true v2::(agV (k+1)).map λi=>tM true (c i) (eL g os d b i))) (l₂:=tX l o2::us)).symm;simpa only[agJ,ahC,ahH]using U
 obtain⟨c,sv,d7,d',ea,rfl⟩:=hJ;refine ah ?_;obtain⟨q,cap,ex,rfl⟩:=U.uj (e:=fV) (size:=1) (n:=(aF g b).aA.length+1) (full:=true) (sv:=sv) 3 rfl (by omega);have U:=U.fO 3 rfl;refine RO.cl (aeF T.aak (n:=(aF g b).aA.length+1) (by simp) (by omega) (by omega) (λv hv=>by obtain⟨i,_,rfl⟩:=ag3.1 hv;exact⟨rfl,rfl,rfl⟩) U λd1 U=>?_);refine ah ?_;have e1:((agV ((aF g b).aA.length+1)).map λi=>AV.map (c i)).reverse=(agV ((aF g b).aA.length+1)).map λi=>AV.map (c ((aF g b).aA.length - i)):=by apply ahU (by simp);intro i h1 h2;simp only[List.length_reverse,agZ,List.length_range]at h1;simp only[List.getElem_reverse,agZ,List.length_range,aht,aif];congr 2
 have e2:((agV ((aF g b).aA.length+1)).map λi=>tM true (c i) (eL g os d b i)).reverse=(agV ((aF g b).aA.length+1)).map λi=>tM true (c ((aF g b).aA.length - i)) (eL g os d b ((aF g b).aA.length - i)):=by apply ahU (by simp);intro i h1 h2;simp only[List.length_reverse,agZ,List.length_range]at h1;simp only[List.getElem_reverse,agZ,List.length_range,aht,aif];congr 2
 rw[e1]at U;have U:ai H d1 (tS fV 1 ((agV ((aF g b).aA.length+1)).map λi=>AV.map (c ((aF g b).aA.length - i))) ((aF g b).aA.length+1) true (.slice q 0 ((aF g b).aA.length+1) cap ex)::tB pW C [.slice q 0 ((aF g b).aA.length+1) cap ex]::tB fV z [.map (c (aF g b).aA.length)]::tB gp D [v0]::(((agV ((aF g b).aA.length+1)).map λi=>tM true (c i) (eL g os d b i))++(tX b4 (.deferred false)::[tB dM O [vp,B,aU (aF g b).aq.op,Y,.aC (aF g b).aq.name,vk,vg],tB lF X [.aw h 0],tX dm (.deferred false)]))):=U;have U:=U.sub (.cons_cons _ (.cons _ (.cons _ (.cons _ ((ahB _).append (.cons_cons _ (.cons _ (.cons _ (ahB _)))))))));have U:=U.cO ((ahD (l₁:=tS fV 1 ((agV ((aF g b).aA.length+1)).map λi=>AV.map (c ((aF g b).aA.length - i))) ((aF g b).aA.length+1) true (.slice q 0 ((aF g b).aA.length+1) cap ex)::(agV ((aF g b).aA.length+1)).map λi=>tM true (c i) (eL g os d b i)) (l₂:=[tX b4 (.deferred false),tX dm (.deferred false)])).trans (List.Perm.append_left _ (ahq _ (List.reverse_perm _).symm)));rw[e2]at U;exact Ru.nu (M:=[b4,dm]) U λH' U=>⟨[.slice q 0 ((aF g b).aA.length+1) cap ex],⟨rfl,rfl,trivial⟩,h5 H' _ (λi=>c ((aF g b).aA.length - i)) U⟩
end
end
section
def Jo(ab:Nat→aE)(A:af)(y:AV)(G:(Int→Prop)→Prop)(J:List (Int→Prop)→List Th→Prop):Prop:=
 ∀b S q e us H,G S→J b e→ai A H (tM false q S::(e++us))→YF ab y [.map q] H λv H'=>v=.bool true∧∃d,J (b++[S]) d∧ai A H' (tM false q S::(d++us))
def PK(ab:Nat→aE)(A:af)(fv:AV)(G:(Int→Prop)→Prop)(e:List (Int→Prop))(f:List Th):Prop:=
 ∀y J d us H(K:AV→af→Prop),y.bB=true→y.dQ=true→y.cells=[y]→Jo ab A y G J→J [] d→ai A H (f++d++us)→(∀H' b v,ai A H' (b++us)→J e b→K v H')→YF ab fv [y] H K
theorem Ru.aeM{A H:af}{us:List Th}{L:Kn}{K:cG→Fr→af→Prop}{M:List ac}{s:List SI}{f:aG}{ag:ac}{dO body:bp}{fv:AV}{G:(Int→Prop)→Prop}{Q:List (Int→Prop)}{R u:List Th}{J:List (Int→Prop)→List Th→Prop}(U:ai A H (R++u++us))(V:PK ab A fv G Q R)(W:J [] u)(X:∀b S q g us l o1 o2 H,G S→J b g→ai A H (tM false q S::(g++tX l o1::us))→Ru ab (El ab l o1 o2 body (xJ A l o2 us (λe=>∃t2,e=tM false q S::t2∧J (b++[S]) t2) λ_ _=>False)) [.code dO] (zX [ag] [.map q] L) H)(B:∀H' e T,J Q e→ai A H' (e++tX T (.deferred false)::us)→Ru ab ⟨K,T::M,none⟩ s L H')(Y:aV L f=fv:=by(conv=>lhs;whnf)<;>rfl)(F:fv.bB=true:=by first|rfl|assumption):Ru ab ⟨K,M,none⟩ (.code (.rangeFunc f [ag] dO body)::s) L H:=by
 intro aa w;have I:=U.zT (.deferred false);have x:=I.zT (.loop .ready .none 0 aa [ag] dO body H.next);have y:=x.cO N4;generalize hl:(H.new (.deferred false)).next=l at x y;generalize N:((H.new (.deferred false)).new (.loop .ready .none 0 aa [ag] dO body H.next))=Z at x y;have key:=V (.yield l) (λb e=>∃g,e=tX l (.loop .ready .none 0 aa [ag] dO body H.next)::g∧J b g) _ _ Z (λ_ H'=>match H'.get l with
  |.loop st cq fn C ps aw bd d=>match st with|.busy=>False|_=>jU ab K s cq ⟨aa,H.next::M,none⟩ (H'.set l (.loop .exhausted cq fn C ps aw bd d))
  |_=>False) rfl rfl rfl ?_ ⟨u,rfl,W⟩ y ?_;·obtain⟨n,hn⟩:=key;refine⟨n+1,?_⟩;simp only[Xc,exec];rw[hl,N,w.gv Y F];exact hn
 ·rintro b S q _ k E hG⟨g,rfl,O⟩t;have z:ai A E ((tM false q S::g)++tX l (.loop .ready .none 0 aa [ag] dO body H.next)::k):=t.cO (Iy (ws:=[_]));have i:E.get l=.loop .ready .none 0 aa [ag] dO body H.next:=z.qy (tM false q S::g).length (by simp);have D:=X b S q g k l _ (.loop .busy .none 0 aa [ag] dO body H.next) E hG O z (ow [ag] [.map q] aa) w.pr;refine N5 i rfl D (λH' e h1 h2=>?_) (λj H' e hj h1 h2=>h2.elim);obtain⟨t2,rfl,h2⟩:=h2;refine⟨rfl,tX l _::t2,⟨t2,rfl,h2⟩,?_⟩;have:=h1.sV (q:=l) (o:=.loop .busy .none 0 aa [ag] dO body H.next) (tM false q S::t2).length (by simp) (.loop .ready .none 0 aa [ag] dO body H.next);rw[show((tM false q S::t2)++tX l (.loop .busy .none 0 aa [ag] dO body H.next)::k).set (tM false q S::t2).length (tX l (.loop .ready .none 0 aa [ag] dO body H.next))=(tM false q S::t2)++tX l (.loop .ready .none 0 aa [ag] dO body H.next)::k by simp]at this;exact this.cO (Iy (ws:=[_])).symm
 rintro H' _ v t⟨g,rfl,P⟩;have i:=t.qy 0 rfl;simp only[i];exact B _ g _ P (t.sV 0 rfl _).tail aa w
section
variable{g:G.bu}{h m o p:AV}{c:ac}{A H:af}{r:List AV}{come:List Bool}{os:List (List bU)}{ap:List Nat}{a:List (List Int)}
theorem aeN(T:Tb ab){n:Nat}(z:n≤6000)(q:bh H c 1=some (aN n)){K:AV→af→Prop}(C:∀H' v,ai H H' [tS 3 1 ((agV n).map aN) n true v]→K v H'):YF ab (.func VP [] []) [.aw c 0] H K:=by
 refine YF.code T.aaq (by simp) ?_;refine ah ?_;refine Ru.nm λg M i e=>?_;refine Ru.cA e (up (P:=λk=>∀d v,ai H d [tS 3 1 ((agV k).map aN) k true v]→Ru ab _ g ([(p9,aN k),(p2,v)]++pk M [p8]) d) n (λk A j d v U=>?_) 0 (by omega) _ .aP ((ai.cW H).oG 3 1));subst i;subst e;have⟨s,t,u,_⟩:=(U.sl (e:=3) (size:=1) (sv:=v) (vs:=(agV k).map aN) (n:=k) (full:=true) 0).all;refine Ru.loop ?_;refine au ?_;refine Ru.cond (λb=>?_) (λb=>?_);·refine au ?_;refine RO.push U 0 (λB l f U=>?_) (ws:=[aN k]);have⟨w,x,y,_⟩:=(U.sl (e:=3) (size:=1) (n:=k+1) (full:=true) (sv:=f) 0).all;refine au ?_;exact Ru.wk (j (k+1) (by omega) (by omega) l f (by rw[ahO,ahk];exact U))
 refine Ru.exitTo ?_;obtain rfl:k=n:=by omega
 refine au ?_;exact Ru.aT (C _ v U)
def qG(g:G.bu)(b:Nat):List Int:=if b=0 then(agV g.params.toNat).map λ(v:Nat)=>(v:Int)else(aF g b).params
def yl(g:G.bu)(os:List (List bU))(a:List (List Int))(b:Nat):Int→Prop:=λx=>x∈qG g b∨eL g os a b (aF g b).aA.length x
def yn(g:G.bu)(os:List (List bU))(a:List (List Int))(b i:Nat):List (Int→Prop):=[eL g os a b ((aF g b).aA.length - i),λx=>x=((aF g b).aA.getD i default).to∧x≠ -1∨eL g os a b ((aF g b).aA.length - (i+1)) x]
def Cs(g:G.bu)(os:List (List bU))(a:List (List Int))(b:Nat):List (Int→Prop):=(yl g os a b::(agV (aF g b).aA.length).flatMap (yn g os a b))++[eL g os a b 0]
def uL(g:G.bu)(os:List (List bU))(a:List (List Int))(ap:List Nat):List (Int→Prop):=ap.flatMap (Cs g os a)
def EL(g:G.bu)(S:Int→Prop):Prop:=∀x,S x→0≤x∧x<g.bi
theorem Jp(V:Vd g)(d:xX g come os){b:Nat}(hb:come.getD b false=true){x bC:Int}(i:(x,bC)∈kp (aF g b)):0≤x∧x<g.bi:=by obtain⟨t,e,f,_⟩:=d.rd b hb _ i;have:=EA V.gv.v0;simp only at e;omega
theorem PL(V:Vd g)(e:dA g come os)(f:iP g come os ap)(d:jJ g come os a){b:Nat}(hb:come.getD b false=true){x:Int}(i:x∈a.getD b []):0≤x∧x<g.bi:=
 have h1:=((d.mem b hb x).1 i).Ci V.dP e (V.rR come os e) V.gv f hb
 ⟨h1.1,h1.2.1⟩
theorem PM(V:Vd g)(e:dA g come os)(f:iP g come os ap)(d:jJ g come os a){b:Nat}(hb:come.getD b false=true){x:Int}(k:x∈lR g a (os.getD b [])):0≤x∧x<g.bi:=by
 unfold lR at k;split at k;·rename_i t i;obtain⟨_,_,_,_,j,_⟩:=wd V.dP e hb i;exact PL V e f d j k
 cases k
theorem aeO(V:Vd g)(i:dA g come os)(j:iP g come os ap)(d:jJ g come os a){b:Nat}(hb:come.getD b false=true):∀k,k≤(aF g b).aA.length→EL g (eL g os a b k):=by
 have f:=V.rR come os i;intro k;induction k with
 |zero=>
  rintro _ x(s|s|⟨e,he,s⟩|⟨w,l,s⟩);·exact PM V i j d hb s
  ·exact Jp V f hb (Cq s)
  ·exact Jp V f hb (Cr he s)
  exact PL V i j d (i.lO hb l) s
 |succ k n=>
  rintro q x(s|s|⟨s,_⟩);·exact PM V i j d hb s
  ·rw[bE (by omega)]at s;exact Jp V f hb (EK _ s)
  exact n (by omega) x s
theorem Jq{B:G.gD}{i:Nat}(f:i<B.aA.length)(b:B.aA[i].to≠ -1):(B.aA[i].to,(i:Int))∈dE B:=by obtain⟨d,e,_⟩:=OF B f b;rw[←e];exact af0 d
theorem Jr{B:G.gD}{x:Int}(b:x∈B.params):(x, -1)∈dE B:=agU _ (ag5 b)
theorem PN(V:Vd g){b:Nat}(hb:b<g.aj.length):∀x∈qG g b,0≤x∧x<g.bi:=by
 intro x d;unfold qG at d;split at d;·obtain⟨v,e,rfl⟩:=ag3.1 d;rw[ahV]at e;have:=V.fm.fv.h1;have:=V.fm.fv.h0;omega
 exact V.tg _ (rQ hb) _ (Jr d)
end
end
section
theorem Ru.PO{c:Cx}{s:List SI}{x:SI}{L:Kn}{H:af}(P:Kn→af→Prop)(h1:∀M H',P M H'→Ru ab c s M H')(h2:(∀H' a M,P M H'→kg M a→Ru ab c s a H')→Ru ab c (x::s) L H):Ru ab c (x::s) L H:=h2 λH' a M b hl=>(h1 M H' b).rh hl
def kT(a:Nat→ac)(P:Nat→Int→Prop)(ex:Nat→Bool)(n:Nat):List Th:=(agV n).map λj=>tM (ex j) (a j) (P j)
theorem Js{ids:Nat→ac}{P:Nat→Int→Prop}{ex:Nat→Bool}{n i:Nat}(hi:i<n):(kT ids P ex n)[i]?=some (tM (ex i) (ids i) (P i)):=by simp[hi,kT,ahc,List.getElem?_range,ahb]
theorem aeP{a:Nat→ac}{P:Nat→Int→Prop}{ex:Nat→Bool}{n i:Nat}(hi:i<n):(kT a P ex n).set i (tM false (a i) (P i))=kT a P (λj=>if j=i then false else ex j) n:=by apply ahU (by simp[kT]);intro j h1 h2;simp only[kT,List.getElem_set,aht,aif];grind
theorem Jt{b:Type}:∀{l:List b}{i:Nat}(c:i<l.length),(l[i]::l.eraseIdx i).Perm l|a::l,0,_=>ais _|a::l,i+1,c=>(ahw a (l[i]'(by grind)) _).trans (ahq a (Jt (l:=l) (i:=i) (by grind)))
section
variable{A H:af}{y:AV}{G:(Int→Prop)→Prop}{J:List (Int→Prop)→List Th→Prop}{X ts us:List Th}{o:List (Int→Prop)}
theorem Ju(c:Jo ab A y G J){S:Int→Prop}{q:ac}{b:Bool}(g:G S)(i:J o ts)(U:ai A H (tM b q S::(X++(ts++us)))):YF ab y [.map q] H λv H'=>v=.bool true∧∃a,J (o++[S]) a∧ai A H' (tM false q S::(X++(a++us))):=by have h1:=U.as (t':=tM false q S) 0 rfl λk e=>⟨e.1,e.2.1,e.2.2.1,(λl=>by cases l),e.2.2.2.2⟩;have h2:=h1.cO (ahq _ (List.perm_append_comm_assoc X ts us));refine(c o S q ts (X++us) H g i h2).mono ?_;rintro v H'⟨rfl,a,h3,j⟩;exact⟨rfl,a,h3,j.cO (ahq _ (List.perm_append_comm_assoc a X us))⟩
theorem Jv(b:Jo ab A y G J){ids:Nat→ac}{P:Nat→Int→Prop}{ex:Nat→Bool}{n i:Nat}(hi:i<n)(l:G (P i))(m:J o ts)(U:ai A H (X++(kT ids P ex n++(ts++us)))):YF ab y [.map (ids i)] H λv H'=>v=.bool true∧∃a,J (o++[P i]) a∧ai A H' (X++(kT ids P (λj=>if j=i then false else ex j) n++(a++us))):=by
 have hat:=Js (ids:=ids) (P:=P) (ex:=ex) hi;obtain⟨c,e⟩:=ahv.1 hat;have k:(X++(kT ids P ex n++(ts++us))).Perm (tM (ex i) (ids i) (P i)::((X++(kT ids P ex n).eraseIdx i)++(ts++us))):=by have h1:=(Jt c).symm;rw[e]at h1;have h2:=(h1.append_right (ts++us)).append_left X;refine h2.trans ?_;rw[agJ];exact ag1
 refine(Ju b l m (U.cO k)).mono ?_;rintro v H'⟨rfl,a,h3,q⟩;refine⟨rfl,a,h3,q.cO ?_⟩;rw[←aeP hi];have g:i<((kT ids P ex n).set i (tM false (ids i) (P i))).length:=by simpa using c
 have h1:=Jt g;rw[List.getElem_set_self,List.eraseIdx_set_eq]at h1;have h2:=(h1.append_right (a++us)).append_left X;refine List.Perm.trans ?_ h2;rw[agJ];exact ag1.symm
end
theorem aeQ(a:Nat→ac)(v:AV)(n:Nat)(P:Nat→Int→Prop):Ab a v n P=tS fV 1 ((agV n).map λi=>.map (a i)) n true v::kT a P (λ_=>true) n:=rfl
section
variable{g:G.bu}{r p t u:AV}{h f:ac}{A H:af}{w:List AV}{come:List Bool}{os:List (List bU)}{ap:List Nat}{d:List (List Int)}
def wm(b f h:ac)(c:List AV)(a:Nat→ac)(v:AV)(n:Nat):List Th:=[tB dM b c,tB lF f [.aw h 0],tS fV 1 ((agV n).map λi=>.map (a i)) n true v]
theorem aeR(T:Tb ab)(V:Vd g)(O:FX g A h r p t u w come os ap d)(hK:dA g come os)(hO:iP g come os ap)(bc:jJ g come os d):PK ab A (.func HD [] [.aw f 0]) (EL g) (uL g os d ap) [tB lF f [.aw h 0]]:=by
 intro y J ts us H K d7 d' ea c W U ca;have hB:=V.sm;have eb:=hB.nb;have ar:=O.ro.lt;have cv:=O.ro.aF;have cx:=O.c4;have⟨ec,_,_,_⟩:=O.bl.all;have⟨ei,ej,ek,el⟩:=O.od.all;have er:ap.length≤g.aj.length:=xV _ _ hO.nd λx hx=>hK.lt ((hO.mem x).1 hx);have et:=V.rR come os hK;have ew:=V.fm.fv.h2;have e0:=V.fm.fv.h0;have e3:=V.fm.fv.h1;obtain⟨np,bd⟩:∃n:Nat,g.params=(n:Int):=⟨g.params.toNat,by omega⟩;refine YF.code T.aap (by simp) ?_;refine ah ?_;refine RO.aW ?_ (v:=p) (hc:=by rw[U.gr.bh ar];exact cx);refine ah ?_;have U:ai A H (tB lF f [.aw h 0]::(ts++us)):=U;refine Ru.nm λS0 M hS hM=>?_;refine Ru.cA hM (up (P:=λk=>∀X ts,J ((ap.take k).flatMap (Cs g os d)) ts→ai A X (tB lF f [.aw h 0]::(ts++us))→Ru ab _ S0 ([(bo,aN k)]++pk M [p0,p1,bj,bk]) X) ap.length (λk hk ih X ts W U=>?_) 0 (by omega) _ ts W U);subst hS;subst hM;refine Ru.loop ?_;refine au ?_;refine Ru.cond (λL=>?_) (λL=>?_)
 ·have av:=(hO.mem _).1 (af0 L);have bv:ap.take (k+1)=ap.take k++[ap[k]]:=(agX L).symm;have ih:=ih (k+1) (by omega) (by omega);rw[bv,ahn,ahu]at ih;clear bv;refine ah ?_;refine RO.jX U.gr O.od (λD o5 e4 e5=>?_) (j:=k);generalize(ap.take k).flatMap (Cs g os d)=h0 at*;generalize ap[k]=b at*;have ax:=hK.lt av;have ay:=rQ ax;have e6:=hB.bl _ ay;have dW:=hB.st _ ay;have cy:g.aj[b]=aF g b:=(bE ax _).symm;refine ah ?_;refine RO.aW ?_ (v:=r) (hc:=by rw[U.gr.bh ar];exact cv);refine ah ?_;refine RO.cP U.gr O.bl (λq9 o9 fs e7 a1 e8 hat hrd=>?_) (j:=b);rw[cy]at a1;have dz:=a1.one;obtain⟨P,z,jc,rfl,b0,b3,Y,Z,vg,rfl,e',_,fa⟩:=a1;have⟨fb,fd,fe,d0⟩:=b3.all;have⟨fk,_,_,_⟩:=b0.all;refine ah ?_;refine RO.fG U λH2 D U=>?_;refine ah ?_;refine RO.cl (aeL T V (O.cV U.gr) hK hO bc av λH3 v ids hl=>?_);have U:=U.fF hl;have C:=aeO V hK hO bc av;have cE:=PN V (b:=b) ax;obtain⟨q,cap,a,rfl⟩:=U.uj (e:=fV) (size:=1) (n:=(aF g b).aA.length+1) (full:=true) (sv:=v) 0 rfl (by omega);rw[aeQ]at U;have U:ai A H3 (wm D f h [P,z,aU (aF g b).aq.op,Y,.aC (aF g b).aq.name,Z,vg] ids (.slice q 0 ((aF g b).aA.length+1) cap a) ((aF g b).aA.length+1)++(kT ids (λi=>eL g os d b ((aF g b).aA.length - i)) (λ_=>true) ((aF g b).aA.length+1)++(ts++us))):=by have h9:=U.cO (List.perm_append_comm_assoc (tS fV 1 ((agV ((aF g b).aA.length+1)).map λi=>AV.map (ids i)) ((aF g b).aA.length+1) true (.slice q 0 ((aF g b).aA.length+1) cap a)::kT ids (λi=>eL g os d b ((aF g b).aA.length - i)) (λ_=>true) ((aF g b).aA.length+1)) [tB dM D [P,z,aU (aF g b).aq.op,Y,.aC (aF g b).aq.name,Z,vg],tB lF f [.aw h 0]] (ts++us));exact h9
  have Q:∀i,i<(aF g b).aA.length+1→((agV ((aF g b).aA.length+1)).map λi=>AV.map (ids i))[0+i*1]?=some (.map (ids i)):=λi hi=>by rw[show 0+i*1=i by omega,ahc,List.getElem?_range hi];rfl
  refine ah ?_;refine Ru.PO (P:=λM H'=>∃pv,iy H' (qG g b) pv∧M=[(p7,pv),(p0,y),(p1,.aw f 0),(p4,aN b),(p5,.aw D 0),(p6,.slice q 0 ((aF g b).aA.length+1) cap a),(bj,p),(bk,aN ap.length),(bo,aN k)]∧ai A H' (wm D f h [P,z,aU (aF g b).aq.op,Y,.aC (aF g b).aq.name,Z,vg] ids (.slice q 0 ((aF g b).aA.length+1) cap a) ((aF g b).aA.length+1)++(kT ids (λi=>eL g os d b ((aF g b).aA.length - i)) (λ_=>true) ((aF g b).aA.length+1)++(ts++us)))) (λM H' hM=>?_) (λl=>?_);rotate_left
  ·refine Ru.cond (λa2=>?_) (λa2=>?_)
   ·refine ah ?_;refine RO.cl (aeN T (n:=np) (by omega) (by rw[U.gr.bh ar,O.c1,bd];rfl) λH4 pv b4=>?_);have c8:=U.cV b4.gr;have F:iy H4 (qG g b) pv:=by
     have h9:=b4.sl (e:=3) (size:=1) (sv:=pv) (vs:=(agV np).map aN) (n:=np) (full:=true) 0;have e:qG g b=(agV np).map λ(v:Nat)=>(v:Int):=by rw[qG,aH (by simpa using a2),bd,agK]
     rw[e];have e2:((agV np).map λ(v:Nat)=>(v:Int)).map aI=(agV np).map aN:=by rw[aii];rfl
     unfold iy;rw[e2,agZ,List.length_range];exact h9
    have⟨cd,_,_,_⟩:=F.all;refine RO.bg ?_;refine RO.nil ?_;refine l _ _ _ ⟨pv,F,rfl,c8⟩ ?_;repeat'(first|exact trivial|refine⟨rfl,?_⟩)
   refine Ru.skip ?_;refine l _ _ _ ⟨P,by rw[qG,an (by simpa using a2)];exact U.gr.sl b0,rfl,U⟩ ?_;repeat'(first|exact trivial|refine⟨rfl,?_⟩)
  obtain⟨pv,F,rfl,U⟩:=hM;have⟨cd,_,_,_⟩:=F.all;have d1:(qG g b).length≤6000:=by
   unfold qG;split;·simp;omega
   omega
  refine ah ?_;refine RO.eH U 2 (hv:=Q 0 (by omega)) ?_;refine ah ?_;have c9:EL g (yl g os d b):=λx hx=>hx.elim (cE x) (C _ (adW _) x);refine RO.cl (Aa T U 3 (rS (i:=0) (xs:=wm _ _ _ _ _ _ _) (Js (by omega))) F (by omega) λH5 q6 S6 c' U=>?_);have U:=U.EE (S':=yl g os d b) 0 rfl λx=>by rw[c'];exact or_congr Iff.rfl ⟨λf0=>f0.1,λf0=>⟨f0,by have:=C _ (adW _) x f0;omega⟩⟩
  have U:ai A H5 (tM true q6 (yl g os d b)::((wm D f h [P,z,aU (aF g b).aq.op,Y,.aC (aF g b).aq.name,Z,vg] ids (.slice q 0 ((aF g b).aA.length+1) cap a) ((aF g b).aA.length+1)++kT ids (λi=>eL g os d b ((aF g b).aA.length - i)) (λ_=>true) ((aF g b).aA.length+1))++(ts++us))):=by rw[agJ];exact U
  refine RO.cl ((Ju c c9 W U).mono ?_);rintro v H6⟨rfl,dm,a6,U⟩;have U:=U.tail;rw[agJ]at U;refine ah ?_;refine Ru.nm λS1 M1 dr b5=>?_;have a6:J ((h0++[yl g os d b])++(agV 0).flatMap (yn g os d b)) dm:=by simpa using a6
  refine Ru.cA b5 (up (P:=λi=>∀X ts ex,J ((h0++[yl g os d b])++(agV i).flatMap (yn g os d b)) ts→(∀j,i<j→ex j=true)→ai A X (wm D f h [P,z,aU (aF g b).aq.op,Y,.aC (aF g b).aq.name,Z,vg] ids (.slice q 0 ((aF g b).aA.length+1) cap a) ((aF g b).aA.length+1)++(kT ids (λi=>eL g os d b ((aF g b).aA.length - i)) ex ((aF g b).aA.length+1)++(ts++us)))→Ru ab _ S1 ([(dD,aN i)]++pk M1 [p0,p1,p4,p5,p6,bj,bk,bo,dh,cK]) X) (aF g b).aA.length (λi hi R X ts ex W a8 U=>?_) 0 (by omega) _ _ _ a6 (λ_ _=>rfl) U);subst dr;subst b5;refine Ru.loop ?_;refine au ?_;refine Ru.cond (λN=>?_) (λN=>?_)
  ·refine ah ?_;refine RO.cP U.gr b3 (λfl fo fp d2 bb d3 hat hrd=>?_) (j:=i);have ds:(aF g b).aA[i].to≠ -1→0≤(aF g b).aA[i].to∧(aF g b).aA[i].to<g.bi:=λs=>V.tg _ ay _ (Jq N s);have b6:(aF g b).aA.getD i default=(aF g b).aA[i]:=bE N _;have ag:yn g os d b i=[eL g os d b ((aF g b).aA.length - i),λx=>x=(aF g b).aA[i].to∧x≠ -1∨eL g os d b ((aF g b).aA.length - (i+1)) x]:=by rw[yn,b6]
   have R:=R (i+1) (by omega) (by omega);rw[ahO,ahn,ahu,ag]at R;generalize(agV i).flatMap (yn g os d b)=h1 at*;clear b6 ag;generalize(aF g b).aA[i]=st at*;obtain⟨dv,rfl,cf⟩:=bb;have⟨d4,d5,d6,_⟩:=cf.all;refine ah ?_;refine RO.gk U λH7 q9 U=>?_;refine ah ?_;refine RO.iL U 0 (λH8 U=>?_) (vs:=[ak.i 4 0,ak.i 3 0,AV.aP,ak.i 3 0,ak.i 3 0,AV.aC []]) (ws:=[aU st.op,aI st.to,dv,aI st.n,aI st.m,.aC st.name]);refine ah ?_;refine RO.eH U 3 (hv:=Q (i+1) (by omega)) ?_;refine ah ?_;refine Ru.PO (P:=λM H'=>∃B E,(E=[]∧B=ids (i+1)∧st.to= -1∨E=[tM true B λx=>x=st.to∧x≠ -1∨eL g os d b ((aF g b).aA.length - (i+1)) x])∧M=[(aO,.map B),(p0,y),(p1,.aw f 0),(p4,aN b),(p5,.aw D 0),(p6,.slice q 0 ((aF g b).aA.length+1) cap a),(p8,aN i),(bj,p),(bk,aN ap.length),(bo,aN k),(dh,z),(cK,aN (aF g b).aA.length),(dD,aN i)]∧ai A H' (E++(wm D f h [P,z,aU (aF g b).aq.op,Y,.aC (aF g b).aq.name,Z,vg] ids (.slice q 0 ((aF g b).aA.length+1) cap a) ((aF g b).aA.length+1)++(kT ids (λi=>eL g os d b ((aF g b).aA.length - i)) ex ((aF g b).aA.length+1)++(ts++us))))) (λM H' hM=>?_) (λl=>?_);rotate_left
   ·refine Ru.cond (λs=>?_) (λs=>?_)
    ·have s:st.to≠ -1:=by simpa using s
     refine ah ?_;refine RO.kZ U 1 (ws:=[aI st.to]) (n:=1) (λH9 qb U=>?_);have dx:iy H9 [st.to] (.slice qb 0 1 1 true):=U.sl (e:=3) (size:=1) (n:=1) (full:=true) 0;have hat:=Js (ids:=ids) (P:=λi=>eL g os d b ((aF g b).aA.length - i)) (ex:=ex) (n:=(aF g b).aA.length+1) (i:=i+1) (by omega);rw[a8 (i+1) (by omega)]at hat;refine RO.cl (Aa T U (5+(i+1)) (rS (i:=i+1) (xs:=[_,_,_,_,_]) hat) dx (by simp) λa' B fq cn U=>?_);have U:=U.EE (S':=λx=>x=st.to∧x≠ -1∨eL g os d b ((aF g b).aA.length - (i+1)) x) 0 rfl λx=>by rw[cn,ac3];exact or_congr ⟨λf0=>⟨f0,by omega⟩,λf0=>f0.1⟩ ⟨λf0=>f0.1,λf0=>⟨f0,by have:=C ((aF g b).aA.length - (i+1)) (by omega) x f0;omega⟩⟩
     refine RO.bg ?_;refine RO.nil ?_;refine l _ _ _ ⟨B,[tM true B _],.inr rfl,rfl,((U.sub (.cons_cons _ (.cons _ (.cons _ (ahB _))))))⟩ ?_;repeat'(first|exact trivial|refine⟨rfl,?_⟩)
    have s:st.to= -1:=by simpa using s
    refine Ru.skip ?_;refine l _ _ _ ⟨ids (i+1),[],.inl ⟨rfl,rfl,s⟩,rfl,U.tail⟩ ?_;repeat'(first|exact trivial|refine⟨rfl,?_⟩)
   obtain⟨B,E,hE,rfl,U⟩:=hM;refine ah ?_;refine RO.eH U (E.length+2) (hi:=rS (i:=2) (m:=kT ids (λi=>eL g os d b ((aF g b).aA.length - i)) ex ((aF g b).aA.length+1)++(ts++us)) rfl) (hv:=Q i (by omega)) ?_;rw[←agJ]at U;refine RO.cl ((Jv c (P:=λi=>eL g os d b ((aF g b).aA.length - i)) (n:=(aF g b).aA.length+1) (i:=i) (by omega) (C _ (by omega)) W U).mono ?_);rintro v H9⟨rfl,ba,S,U⟩;refine ah ?_;have key:YF ab y [.map B] H9 λv H'=>v=.bool true∧∃b' ex,J (h0++[yl g os d b]++(h1++[eL g os d b ((aF g b).aA.length - i),λx=>x=st.to∧x≠ -1∨eL g os d b ((aF g b).aA.length - (i+1)) x])) b'∧(∀j,i+1<j→ex j=true)∧ai A H' (wm D f h [P,z,aU (aF g b).aq.op,Y,.aC (aF g b).aq.name,Z,vg] ids (.slice q 0 ((aF g b).aA.length+1) cap a) ((aF g b).aA.length+1)++(kT ids (λi=>eL g os d b ((aF g b).aA.length - i)) ex ((aF g b).aA.length+1)++(b'++us))):=by
    rcases hE with⟨rfl,rfl,s⟩|rfl
    ·rw[ahH]at U;refine(Jv c (P:=λi=>eL g os d b ((aF g b).aA.length - i)) (n:=(aF g b).aA.length+1) (i:=i+1) (by omega) (C _ (by omega)) S U).mono ?_;rintro v a'⟨rfl,G,I,U⟩;refine⟨rfl,G,_,?_,λj hj=>?_,U⟩;·have e:(λx=>x=st.to∧x≠ -1∨eL g os d b ((aF g b).aA.length - (i+1)) x)=eL g os d b ((aF g b).aA.length - (i+1)):=funext λx=>propext ⟨λf0=>f0.elim (λf0=>absurd (f0.1.trans s) f0.2) id,.inr⟩;rw[e];simpa only[agJ,ahC,ahH]using I
     rw[an (by omega),an (by omega)];exact a8 j (by omega)
    have U:ai A H9 (tM true B (λx=>x=st.to∧x≠ -1∨eL g os d b ((aF g b).aA.length - (i+1)) x)::((wm D f h [P,z,aU (aF g b).aq.op,Y,.aC (aF g b).aq.name,Z,vg] ids (.slice q 0 ((aF g b).aA.length+1) cap a) ((aF g b).aA.length+1)++kT ids (λi=>eL g os d b ((aF g b).aA.length - i)) (λj=>if j=i then false else ex j) ((aF g b).aA.length+1))++(ba++us))):=by rw[agJ];exact U
    refine(Ju c (λx hx=>hx.elim (λf0=>by rw[f0.1];exact ds (f0.1▸f0.2)) (C _ (by omega) x)) S U).mono ?_;rintro v a'⟨rfl,G,I,U⟩;have U:=U.tail;rw[agJ]at U;refine⟨rfl,G,_,?_,λj hj=>?_,U⟩;·simpa only[agJ,ahC,ahH]using I
    rw[an (by omega)];exact a8 j (by omega)
   refine RO.cl (key.mono ?_);rintro v a'⟨rfl,G,dy,I,cp,U⟩;refine ah ?_;exact Ru.wk (R _ G dy I cp U)
  refine Ru.exitTo ?_;obtain rfl:i=(aF g b).aA.length:=by omega
  refine ah ?_;refine RO.eH U 2 (hv:=Q (aF g b).aA.length (by omega)) ?_;refine RO.cl ((Jv c (P:=λi=>eL g os d b ((aF g b).aA.length - i)) (n:=(aF g b).aA.length+1) (i:=(aF g b).aA.length) (by omega) (C _ (by omega)) W U).mono ?_);rintro v H9⟨rfl,ba,S,U⟩;refine ah ?_;exact Ru.wk (ih _ ba (by simpa only[Cs,Nat.sub_self,agJ,ahC,ahH]using S) (U.sub (.cons _ (.cons_cons _ (.cons _ (List.sublist_append_right _ _))))))
 refine Ru.exitTo ?_;rw[ag2 (by omega)]at W;refine ah ?_;exact Ru.aq (vs:=[]) trivial (ca X ts _ U.tail W)
end
end
end
section
def eA(x:bU):Int:=2*x.1+x.2
def iR(o:List bU):List Int:=o.map eA
def tm(o:List bU):Prop:=∀x∈o,∃t:Nat,x.1=t∧(x.2=0∨x.2=1)
theorem aeS{x y:bU}(a:∃t:Nat,x.1=t∧(x.2=0∨x.2=1))(b:∃t:Nat,y.1=t∧(y.2=0∨y.2=1))(h:eA x=eA y):x=y:=by grind[eA]
theorem PP:∀{o p:List bU},tm o→tm p→iR o=iR p→o=p|[],[],_,_,_=>rfl|[],_::_,_,_,h=>by cases h|_::_,[],_,_,h=>by cases h|x::o,y::p,h1,h2,h=>by simp only[iR,agN,ag4]at h;rw[aeS (h1 x (adc ..)) (h2 y (adc ..)) h.1,PP (λz a=>h1 z (adD _ a)) (λz a=>h2 z (adD _ a)) h.2]
theorem Jw{x:bU}(a:∃t:Nat,x.1=t∧(x.2=0∨x.2=1)):0≤eA x∧(eA x).toNat/2=x.1.toNat:=by grind[eA]
section
variable{g:G.bu}
theorem Ct{b:Nat}{o:List bU}(f:tm o):(cI g b o).map (λw=>(w.1,iR w.2))=kR g b (iR o):=by
 simp only[cI,kR,aF];split;·simp[iR,eA]
 split
 ·cases hl:o.getLast? with
  |none=>
   have:o=[]:=by simpa using hl
   subst this;rfl
  |some x=>
   have h:=List.mem_of_getLast? hl;have d:o≠ []:=λe=>by rw[e]at hl;cases hl
   have c:o.length≠0:=λe=>d (ahp e);have a:o[o.length - 1]'(by omega)=x:=by rw[List.getLast?_eq_getElem?,getElem?_pos o _ (by omega)]at hl;exact Option.some.inj hl
   have e1:(iR o).length=o.length:=by simp[iR]
   have e2:(iR o).getD (o.length - 1) 0=eA x:=by rw[bE (by rw[e1];omega)];simp only[iR,aht,a]
   rw[e1,an c,e2];simp only[agN,ahX,ag4,and_true,age];refine⟨?_,by simp[iR,List.map_take]⟩;rw[qE,mD,aF,(Jw (f x h)).2]
 rw[aii];rfl
theorem PQ{b:Nat}{o:List bU}(d:tm o):∀w∈cI g b o,tm w.2:=by
 intro w c;have vF:∀s,s=0∨s=1→tm (o++[((b:Int),s)]):=λs hs x a=>by
  rcases agI.1 a with a|a;·exact d x a
  rw[ac3]at a;subst a;exact⟨b,rfl,hs⟩
 simp only[cI]at c;split at c;·grind
 split at c
 ·split at c;·rw[ac3]at c;subst c;exact λx a=>d x (List.mem_of_mem_take a)
  grind
 grind
theorem kP.uM(a:me g){b:Nat}{o:List bU}(h:kP g b o):lr g (-1) b (iR o)∧tm o:=by
 induction h with
 |zero=>exact⟨.zero (by simp),λx i=>by grind⟩
 | @step b o w h c e=>
  obtain⟨h1,h2⟩:=e;obtain⟨h3,f⟩:=h1.ok a;have d:(w.1,iR w.2)∈kR g b (iR o):=by rw[←Ct h2];exact ag3.2 ⟨w,c,rfl⟩
  have:=(uJ a h3 f _ d).1;exact⟨.step h1 d (by omega),PQ h2 w c⟩
theorem lr.dP{b:Nat}{o:List Int}(h:lr g (-1) b o):∃p,kP g b p∧tm p∧iR p=o:=by induction h with|zero _=>exact⟨[],.zero,λx d=>(by grind),rfl⟩| @step b o w h a e c=>obtain⟨p,h1,h2,rfl⟩:=c;rw[←Ct h2]at a;obtain⟨w',h3,rfl⟩:=ag3.1 a;exact⟨w'.2,.step h1 h3,PQ h2 _ h3,rfl⟩
theorem lr.mono(a:me g){e:Int}{b:Nat}{o:List Int}(h:lr g e b o):lr g (-1) b o:=by induction h with|zero _=>exact .zero (by simp)|step h c _ d=>obtain⟨h3,f⟩:=d.ok a;have:=(uJ a h3 f _ c).1;exact .step d c (by omega)
theorem lr.nil(a:me g){c:Int}{b:Nat}{o:List Int}(h:lr g c b o)(hb:b=0):o=[]:=by cases h with|zero _=>rfl|step h d _=>obtain⟨h3,e⟩:=h.ok a;have:=(uJ a h3 e _ d).1;omega
theorem lr.comp(c:me g){c1:List Bool}{o1:List (List Int)}(a:kS g (-1) c1 o1)(d:∀b,nF g (-1) c1 o1 false b){b:Nat}{o:List Int}(h:lr g (-1) b o):c1.getD b false=true∧o1.getD b []=o:=by induction h with|zero h=>have h1:=a.c0 h;exact⟨h1,(a.snd 0 h1).nil c rfl⟩| @step b o w h f i e=>obtain⟨h1,h2⟩:=e;rcases d b h1 w (by grind)with h3|⟨h3,j⟩;all_goals grind
theorem lr.PR(c:me g){c1:List Bool}{o1:List (List Int)}(i:kS g (-1) c1 o1)(j:∀b,nF g (-1) c1 o1 false b){d:Int}{e:List Bool}{k:List (List Int)}{m:Bool}(a:kS g d e k)(f:∀b,nF g d e k m b){b:Nat}{o:List Int}(h:lr g d b o):e.getD b false=true:=by induction h with|zero h=>exact a.c0 h| @step b o w h n p l=>have e1:=((a.snd b l).mono c).comp c i j;have e2:=(h.mono c).comp c i j;rcases f b l w (by grind)with h3|⟨h3,_⟩;all_goals omega
variable{come:List Bool}{os:List (List bU)}{c1:List Bool}{o1:List (List Int)}
theorem aeT(a:me g)(r:g.aj.length≤30)(d:kS g (-1) c1 o1)(e:∀b,nF g (-1) c1 o1 false b):iO g:=by
 refine⟨λh j=>?_,λ{b o}h w k=>?_,λ{b o}h=>?_,λ{b o}h=>?_⟩;·obtain⟨h1,h2⟩:=h.uM a;obtain⟨h3,c⟩:=j.uM a;exact PP h2 c ((h1.comp a d e).2.symm.trans (h3.comp a d e).2)
 ·obtain⟨h1,h2⟩:=h.uM a;obtain⟨h3,c⟩:=h1.ok a;have l:(w.1,iR w.2)∈kR g b (iR o):=by rw[←Ct h2];exact ag3.2 ⟨w,k,rfl⟩
  have:=(uJ a h3 c _ l).1;omega
 ·obtain⟨h1,_⟩:=h.uM a;exact⟨(h1.ok a).1,a.t3 b (h1.ok a).1⟩
 obtain⟨h1,h2⟩:=h.uM a;obtain⟨h3,c⟩:=h1.ok a;obtain⟨m,n⟩:=h1.comp a d e;have i:=d.kq b m;rw[n]at i;simp only[iR,agZ]at i;refine⟨⟨λx f=>?_⟩,by omega⟩;obtain⟨e1,e2⟩:=Jw (h2 x f);obtain⟨_,p,q⟩:=c (eA x) (ag5 f);rw[e2]at p q;obtain⟨t,s,_⟩:=h2 x f;grind
theorem PS(a:me g)(e:iO g)(c:kS g (-1) c1 o1)(f:∀b,nF g (-1) c1 o1 false b)(d:dA g come os){b:Nat}:come.getD b false=true↔c1.getD b false=true:=by
 constructor;·intro h;exact(((d.dP b h).uM a).1.comp a c f).1
 intro h;obtain⟨p,h1,_,_⟩:=(c.snd b h).dP;exact(d.qD e h1).1
theorem PT(a:me g)(d:kS g (-1) c1 o1)(e:∀b,nF g (-1) c1 o1 false b)(c:dA g come os){b:Nat}(h:come.getD b false=true):o1.getD b []=iR (os.getD b [])∧tm (os.getD b []):=⟨(((c.dP b h).uM a).1.comp a d e).2,((c.dP b h).uM a).2⟩
theorem PU(e:me g)(i:iO g)(c:dA g come os){d b:Nat}(h:ny (wW g os) d b):come.getD b false=true∧lr g (d:Int) b (iR (os.getD b [])):=by
 induction h with
 |zero h=>refine⟨c.c0,?_⟩;have:=(c.qD i .zero).2;rw[this];exact .zero (by omega)
 | @step a x h l p m=>
  obtain⟨h1,h2⟩:=m;obtain⟨w,j,rfl⟩:=ag3.1 l;have hl:=c.dP a h1;have h3:=c.qD i (.step hl j);have f:=(hl.uM e).2;have k:(w.1,iR w.2)∈kR g a (iR (os.getD a [])):=by rw[←Ct f];exact ag3.2 ⟨w,j,rfl⟩
  obtain⟨n,o⟩:=h2.ok e;have:=(uJ e n o _ k).1;refine⟨h3.1,?_⟩;rw[h3.2];exact .step h2 k (by omega)
theorem aeU(a:me g)(l:iO g)(f:kS g (-1) c1 o1)(i:∀b,nF g (-1) c1 o1 false b)(j:dA g come os){d b:Nat}{o:List Int}(h:lr g (d:Int) b o):ny (wW g os) d b:=by induction h with|zero h=>exact .zero (by omega)| @step b o w h c q k=>have m:=(PU a l j k).1;obtain⟨h1,h2⟩:=PT a f i j m;have h3:=((h.mono a).comp a f i).2;obtain⟨n,p⟩:=h.ok a;have r:=(uJ a n p _ c).1;rw[←h3,h1,←Ct h2]at c;obtain⟨w',e,rfl⟩:=ag3.1 c;exact .step k (ag3.2 ⟨w',e,rfl⟩) (by omega)
theorem Jx(c:me g)(k:iO g)(d:kS g (-1) c1 o1)(e:∀b,nF g (-1) c1 o1 false b)(l:dA g come os){q:List (List Bool)}(m:Jg g q){a b:Nat}(r:a<g.aj.length)(hb:b<g.aj.length):(q.getD a []).getD b false=true↔come.getD a false=true∧come.getD b false=true∧eU (wW g os) a b:=by
 obtain⟨c2,o2,t2,f,n,j⟩:=m.ex;obtain⟨_,s,v,w,i,o,p⟩:=j a r;have h2:∀{x},come.getD x false=true↔c2.getD x false=true:=λ{x}=>by
  rw[PS c k d e l];constructor;·intro h;exact(d.snd x h).PR c d e f n
  intro h;exact((f.snd x h).comp c d e).1
 rw[p b hb,uK,h2,h2];simp only[agM,ahT,decide_eq_true_eq,ahA,and_assoc];refine and_congr_right λ_=>and_congr_right λu=>?_;constructor
 ·rintro(rfl|h);·exact eU.I3
  intro t;have:=(PU c k l t).2.PR c d e i o;grind
 intro hd;cases h:s.getD b false with|false=>simp|true=>exact absurd (aeU c k d e l (i.snd b h)) hd
end
end
section
variable{ab:Nat→aE}
structure Jy(g:G.bu):Prop where
 kq:Em g
 Jz:s9 g=false
 Cu:rO g
 right:Jj g
theorem JA{g:G.bu}(h:Em g)(hg:s9 g=false):g.aj.length≤30∧g.bi≤200:=by simp only[s9,Bool.or_eq_false_iff,decide_eq_false_iff_not]at hg;have h1:=h.nb;have h2:=h.nv;omega
section
variable{g:G.bu}{H:af}{cs:List AV}
theorem aeV(T:Tb ab)(hg:iD H g cs)(b:Em g)(j:Cf g){K:AV→af→Prop}(h1:∀H',bf H H'→Jy g→K (aI 0) H')(h2:∀H'(e:Int),bf H H'→e≠0→K (aI e) H'):YF ab (.func Vm [] []) [.agg cs] H K:=by
 have i:=hg.one;have a:=hg;obtain⟨o,rfl,co⟩:=hg;have⟨l,_,_,m⟩:=co.all;refine YF.code T.ZU (by simp) ?_;refine ah ?_;refine RO.dS (ai.cW H) λH1 q U=>?_;refine ah ?_;refine RO.eG U 0 ?_;refine RO.cl (acX T (dH.mU U.gr a) b.sm (λc hg f=>?_) (λc hg=>?_));rotate_left;·have U:=U.cV hg;refine ah ?_;exact Ru.aT (h2 _ 5 U.gr (by decide))
 have U:=U.cV hg;obtain⟨d,n⟩:=JA b f;refine ah ?_;refine RO.eG U 0 ?_;refine RO.cl (ads T (dH.mU U.gr a) b.sm j b.nm (by omega) (λc hg h=>?_) (λc hg=>?_));rotate_left;·have U:=U.cV hg;refine ah ?_;exact Ru.aT (h2 _ 4 U.gr (by decide))
 have U:=U.cV hg;refine ah ?_;refine RO.eG U 0 ?_;refine RO.cl (aez T (dH.mU U.gr a) b.sm h d (by omega) (λc hg k=>?_) (λc hg=>?_));rotate_left;·have U:=U.cV hg;refine ah ?_;exact Ru.aT (h2 _ 9 U.gr (by decide))
 have U:=U.cV hg;refine ah ?_;exact Ru.aT (h1 _ U.gr ⟨b,f,h,k⟩)
theorem aeW(T:Tb ab)(hg:iD H g cs)(d:Cf g){K:AV→af→Prop}(h1:∀H',bf H H'→Jy g→K (.bool true) H')(h2:∀H',bf H H'→K (.bool false) H'):YF ab (.func Vp [] []) [.agg cs] H K:=by
 have c:=hg.one;have a:=hg;obtain⟨k,rfl,co⟩:=hg;have⟨i,_,_,j⟩:=co.all;refine YF.code T.ZX (by simp) ?_;refine ah ?_;refine RO.dS (ai.cW H) λH1 q U=>?_;refine ah ?_;refine RO.eG U 0 ?_;refine RO.cl (C3 T (dH.mU U.gr a) (λb hg=>?_) (λb hg f=>?_));·have U:=U.cV hg;refine ah ?_;exact Ru.aT (h2 _ U.gr)
 have U:=U.cV hg;refine ah ?_;refine RO.eG U 0 ?_;refine ah ?_;refine RO.cl (aeV T (dH.mU U.gr a) f d (λb hg h=>?_) (λb e hg he=>?_));·have U:=U.cV hg;refine ah ?_;exact Ru.aT (h1 _ U.gr h)
 have U:=U.cV hg;refine ah ?_;rw[decide_eq_false (show¬e=ahI 0 from he)];exact Ru.aT (h2 _ U.gr)
end
end
section
theorem JB{l:List Int}{n:Nat}{p:Int×Int}(h:p∈nC l n):p.1∈l∧p.2=n:=by obtain⟨x,a,rfl⟩:=ag3.1 h;grind
theorem PV:∀{l:List G.gW}{i:Nat}{p:Int×Int},p∈jq l i→∃j,∃h:j<l.length,p.2=((i+j:Nat):Int)∧p.1∈l[j].args
 |s::l,i,p,h=>by
  rcases agI.1 h with h|h;·obtain⟨h1,h2⟩:=JB h;exact⟨0,by simp,by omega,h1⟩
  obtain⟨j,hj,h1,h2⟩:=PV h;exact⟨j+1,by grind,by omega,by grind⟩
theorem PW:∀{l:List G.Edge}{n:Nat}{p:Int×Int},p∈ko l n→p.2=n∧∃e∈l,p.1∈e.args
 |e::l,n,p,h=>by
  rcases agI.1 h with h|h;·obtain⟨h1,h2⟩:=JB h;grind
  obtain⟨h1,e2,h2,h3⟩:=PW h;grind
theorem aeX{B:G.gD}{p:Int×Int}(h:p∈kp B):∃k,k≤B.aA.length∧p.2=(k:Int)∧p.1∈kD B k:=by
 have a:p.1∈tk B.aq→p.2=(B.aA.length:Int)→∃k,k≤B.aA.length∧p.2=(k:Int)∧p.1∈kD B k:=λh1 h2=>⟨_,adW _,h2,by rw[kD,an (by omega)];exact h1⟩;rcases agI.1 h with h|h;·obtain⟨j,hj,h1,h2⟩:=PV h;exact⟨j,by omega,by omega,by simp[hj,h2,kD,aH,bE]⟩
 rcases agI.1 h with h|h;·obtain⟨h1,h2⟩:=JB h;exact a (agU _ h1) h2
 obtain⟨h1,e,h2,h3⟩:=PW h;exact a (ag7 _ (ah6.2 ⟨e,h2,h3⟩)) h1
section
variable{g:G.bu}{come:List Bool}{os:List (List bU)}
theorem JC(d:rO g)(j:uH g){gl:List Int}(a:rT g.bi.toNat g.params.toNat gl (og g g.aj.length)){v:Int}(h0:g.params≤v)(h1:v<g.bi):∃s:Nat,s<g.aj.length∧gl.getD v.toNat 0=s∧xY g v=s:=by have e:=d.all v h0 h1;rw[←ah2 (l:=g.aj),←EJ g _ (adW _)]at e;obtain⟨p,f,rfl⟩:=ag3.1 e;have h2:=a.bC p f;obtain⟨i,hi,b⟩:=ah6.1 f;rw[ahV]at hi;obtain⟨x,h,rfl⟩:=ag3.1 b;refine⟨i,hi,h2,?_⟩;have hb:=rQ hi;rw[←Pf λy k=>(d.aA _ hb y k).r.t0]at h;obtain⟨q,l,c⟩:=ag3.1 h;have:=j.at (v:=x) (p:=q.2) hi (by rw[←c];exact l);grind
theorem aeY(z:rO g)(hn:g.aj.length≤30)(h:Jj g)(S:iO g)(B:uH g)(C:dA g come os):xX g come os:=by
 obtain⟨c1,o1,W,gl,A,D,G,H,I⟩:=h.ex;have j:=z.sh;have key:∀b,come.getD b false=true→b<g.aj.length∧Cp g o1 W gl b∧o1.getD b []=iR (os.getD b [])∧tm (os.getD b [])∧wg g (iR (os.getD b [])):=λb hb=>by have h1:=(PS j S A D C).1 hb;have h2:=PT j A D C hb;have h3:=(A.snd b h1).ok j;rw[h2.1]at h3;exact⟨h3.1,I b h3.1 h1,h2.1,h2.2,h3.2⟩
 refine⟨λb hb J=>?_,λb hb K=>?_,λb hb p X=>?_⟩
 ·obtain⟨d,l,E,L,gJ⟩:=key b hb;obtain⟨h1,h2⟩:=l.en J;rw[E]at h1 h2;have hl:(iR (os.getD b [])).length=(os.getD b []).length:=by simp[iR]
  rw[hl]at h1 h2;generalize os.getD b []=o at*;have f:o.length - 1<o.length:=by omega
  have T:=af0 f;have he:(iR o).getD (o.length - 1) 0=eA o[o.length - 1]:=by rw[bE (by rw[hl];exact f)];simp only[iR,aht]
  rw[he]at h2;have m:qE g (eA o[o.length - 1])=mD g o[o.length - 1]:=by rw[qE,mD,aF,(Jw (L _ T)).2]
  obtain⟨_,Y,k3⟩:=gJ (eA o[o.length - 1]) (ag5 T);have M:=j.rg _ Y _ (af0 (l:=(aF g ((eA o[o.length - 1]).toNat/2)).aq.go) (n:=2) (by omega));have N:qE g (eA o[o.length - 1])=(aF g ((eA o[o.length - 1]).toNat/2)).aq.go[2].block:=by rw[qE,bE (by omega)]
  rw[←N,m]at M;rw[m]at h2;exact⟨o[o.length - 1],by rw[List.getLast?_eq_getElem?,getElem?_pos o _ f],by omega,by omega,h2.symm⟩
 ·obtain⟨_,l,E,_,_⟩:=key b hb;have:=l.rt K;rw[E]at this;simpa[iR]using this
 obtain⟨d,l,_,_,_⟩:=key b hb;obtain⟨k,Z,O,a⟩:=aeX X;have hrd:=l.rd k Z p.1 a;obtain⟨x,bC⟩:=p;simp only at O a hrd;have P:=B.v0;have ag:=EA P;have v:0≤x∧x<g.bi:=by
  have n:=rQ d;unfold kD at a;split at a;·rename_i V;rw[bE V]at a;have:=(z.aA _ n _ (af0 V)).r.oT x a;omega
  have u:=z.B4 _ n;rcases agI.1 a with a|a;·have:=u.oT x a;omega
  obtain⟨e,he,a⟩:=ah6.1 a;obtain⟨y,F,rfl⟩:=agS he;have:=(u.Er y F).oT x a;omega
 obtain⟨t,rfl⟩:∃t:Nat,x=t:=⟨x.toNat,by omega⟩;refine⟨t,rfl,by omega,?_⟩;by_cases w:(t:Int)<g.params;·exact .inl w
 obtain⟨s,hs,Q,R⟩:=JC z B H (v:=(t:Int)) (by omega) v.2;unfold wi at hrd;rw[Q,agK]at hrd;rcases hrd with h1|⟨h1,h2⟩|h1;·omega
 ·have h3:=(Jx j S A D C G hs d).1 h2;exact .inr (.inr ⟨s,R,by omega,h3.1,h3.2.2⟩)
 obtain⟨q,hq,ar⟩:∃q,((t:Int),q)∈dE (aF g b)∧q<(k:Int):=by
  rcases agI.1 h1 with h1|h1;·exact⟨-1,Jr h1,by omega⟩
  have h2:=h1;rw[Cl]at h2;obtain⟨y,F,c⟩:=ah6.1 h2;obtain⟨i,hi,rfl⟩:=agS F;rw[ahl]at hi;rw[List.getElem_take]at c;split at c;·rename_i h4;rw[ac3]at c;refine⟨i,?_,by omega⟩;rw[c];exact Jq (by omega) (by omega)
  cases c
 have:=B.at d hq;rw[agK]at this;exact .inr (.inl ⟨by rw[this],by rw[this];simp only;omega⟩)
theorem aeZ(h:Jy g):Vd g:=by obtain⟨a,l⟩:=JA h.kq h.Jz;obtain⟨c1,o1,m,gl,d,e,i,j,k⟩:=h.right.ex;have b:=aeT h.Cu.sh a d e;have c:=ad5 h.Cu;exact⟨h.kq.sm,ad4 h.Cu h.kq.sm (by omega),h.Jz,b,c,λcome os f=>aeY h.Cu a h.right b c f⟩
end
end
end Go.ak.R
namespace Go.ak
section
variable{ab:Nat→aE}{c:Cx}{s:List SI}{L:Kn}{A B H H':af}{d:Option ac}{l:List aS}{ts us:List Th}{q r:ac}{e n m o k i cap size bytes:Nat}{vs ws:List AV}{v w sv a:AV}{full ex:Bool}
theorem RO.ae0{x:aG}{g is:List ac}(t:fj H q o m=some vs)(p:q∉is)(h:∀i,(∀j,i.get j=H.get j)→i.next=H.next→RO ab c l s (bA L d (.agg vs)) i)(u:aV L x=.aw q o:=by(conv=>lhs;whnf)<;>rfl)(v:xL L g=is.map some:=by(conv=>lhs;whnf)<;>rfl):RO ab c (⟨d,.fZ m x,none,g,[]⟩::l) s L H:=λaa e=>by
 obtain⟨h1,h2,h3⟩:=B7 e (H:=H) v;generalize w:eM aa H g=b at h1 h2 h3;obtain⟨y,z⟩:=h3 b.1;have f:∀j,(d8 b.1 b.2).get j=H.get j:=λj=>by
  rw[z];split;·rfl
  rename_i k;exact h2 j k
 obtain⟨n,k⟩:=h _ f (y.trans h1) _ (e.set d _);refine⟨n+1,?_⟩;have r:fj b.1 q o m=some vs:=by simp only[fj,h2 q p];exact t
 have he:aB (.fZ m x) aa b.1=some (.agg vs,b.1):=by simp only[aB,e.gv u rfl,ja,r,bm,ahb]
 simp[w,he,k,Xo,Go.ak.az,ft,bm,fh]
theorem Sl.ae1{b:af}{is:List ac}(h:Sl H size vs n v)(hg:∀j,j∉is→b.get j=H.get j)(g:b.next=H.next)(k:∀q o m c e,v=.slice q o m c e→q∉is):Sl b size vs n v:=by
 rcases h with h|⟨i,o,cap,ex,f,m,e,d,aK,fz,h1,h2,h3⟩;·exact .inl h
 refine .inr ⟨i,o,cap,ex,f,m,e,d,aK,fz,h1,by grind,?_⟩;grind
theorem RO.JD(U:ai A H (tS e size vs n true sv::ts)){x y:aG}{Z:List AV}{K is:List ac}{re:List i9}(hs:Sl H size ws k a)(Q:∀q o m c e,a=.slice q o m c e→q∉is)(iW:∀j∈is,∃(m:Nat)(t:Th),ts[m]?=some t∧∀Hx f,t.P Hx f→j∈f)(h:∀M v,ai A M (tS e size (vs++ws) (n+k) true v::ts)→(∀aa,Le (bA L d v) aa→fh aa M re=true)∧RO ab c l s (bA L d v) M)(h1:dI ws=true:=by repeat first|rfl|assumption|(refine ao ?_ ?_))(N:xL L K=is.map some:=by(conv=>lhs;whnf)<;>rfl)(hx:aV L x=sv:=by(conv=>lhs;whnf)<;>rfl)(hy:aV L y=a:=by(conv=>lhs;whnf)<;>rfl)(hb:(n+k)*bytes≤70368744177664:=by omega)(u:n+k≤70368744177664:=by omega):RO ab c (⟨d,.append e bytes size Z false x y,none,K,re⟩::l) s L H:=λaa i=>by
 obtain⟨G,I,g3⟩:=B7 i (H:=H) N;generalize hh:eM aa H K=g at G I g3;obtain⟨hG,fs,hF⟩:=U;match fs,hF with
  |J::fs,⟨q1,q2,q3,O⟩=>
   have z:∀j∈is,∃f∈fs,j∈f:=λj hj=>by obtain⟨m,t,hm,ht⟩:=iW j hj;obtain⟨f,w,N⟩:=O.at hm;exact⟨f,List.mem_of_getElem? w,ht _ _ N⟩
   have C:∀j∈is,j∉J:=λj hj R=>by obtain⟨f,w,r⟩:=z j hj;exact q3 j R f w r
   have S:∀j∈is,j.al<H.next.al:=λj hj=>by obtain⟨f,w,r⟩:=z j hj;exact O.lt f w j r
   have ho:dK g.1 J e size vs n true sv:=dK.frame q1 (by rw[G];exact adW _) λj hj=>I j λu=>C j u hj;have T:Sl g.1 size ws k a:=hs.ae1 I G Q;obtain⟨b,H1,fp',a1,a2,a3,a4,a5⟩:=ho.append (bytes:=bytes) hs.length h1 hb u;rw[G]at a3 a4 a5;obtain⟨g4,g5⟩:=g3 H1;have E:∀j∈fp',j∉is:=λj hj D=>by
    rcases a4 j hj with h|h;·exact C j D h
    have:=S j D;omega
   have F:dK (d8 H1 g.2) fp' e size (vs++ws) (n+k) true b:=dK.frame a2 (by rw[g4];exact adW _) λj hj=>by rw[g5,an (E j hj)]
   have p:nT J fp' H (d8 H1 g.2):=⟨by rw[g4];exact a3,λj hj=>(a4 j hj).imp id λh=>h.1,λj hj V=>by
    rw[g5];split;·rfl
    rename_i u;rw[a5 j hj V,I j u]⟩;obtain⟨W,X,_⟩:=Fs.jV (t':=tS e size (vs++ws) (n+k) true b) hG p (fs:=J::fs) (ts:=tS e size vs n true sv::ts) (i:=0) ⟨q1,q2,q3,O⟩ rfl rfl F;have Y:ai A (d8 H1 g.2) (tS e size (vs++ws) (n+k) true b::ts):=⟨p.cV hG q2,W,X⟩;obtain⟨h4,h5⟩:=h _ b Y;obtain⟨n',ag⟩:=h5 _ (i.set d b);have he:aB (.append e bytes size Z false x y) aa g.1=some (b,H1):=by simp only[aB,ac6,bK,i.gv hx ho.sl.bB,i.gv hy hs.bB,T.iS,a1]
   refine⟨n'+1,?_⟩;simp only[Xo,Go.ak.az,ft,bm,hh,he,h4 _ (i.set d b)];omega
end
end Go.ak
namespace Go.ak.R
section
variable{ab:Nat→aE}
section
theorem PX{f:Nat→List AV}{m:Nat}(a:∀j,(f j).length=m):∀n,((agV n).flatMap f).length=n*m|0=>by simp|n+1=>by rw[ahO,ahn,agP,PX a n,ahu,a,Nat.succ_mul]
theorem EM{f:Nat→List AV}{m:Nat}(a:∀j,(f j).length=m){k:Nat}:∀{n},k<n→(((agV n).flatMap f).drop (k*m)).take m=f k
 |n+1,h=>by
  rw[ahO,ahn,ahu];have hl:=PX a n;by_cases e:k=n;·grind
  have b:k<n:=by omega
  have h1:k*m+m≤n*m:=by rw[←Nat.succ_mul];exact ahf _ b
  rw[List.drop_append_of_le_length (by omega),List.take_append_of_le_length (by grind)];exact EM a b
def JE(s:G.gW)(v:AV):List AV:=[aU s.op,aI s.to,v,aI s.n,aI s.m,.aC s.name]
def pD(l:List G.gW)(a:Nat→AV)(n:Nat):List AV:=(agV n).flatMap λk=>JE (l.getD k default) (a k)
def tn(l:List G.Edge)(es:Nat→AV)(n:Nat):List AV:=(agV n).flatMap λk=>[aI (l.getD k default).block,es k]
theorem ae2{l:List G.gW}{a:Nat→AV}{k:Nat}{v:AV}:pD l (λi=>if i=k then v else a i) (k+1)=pD l a k++JE (l.getD k default) v:=by rw[pD,ahO,ahn,ahu,aH rfl];congr 1;exact Cn λi hi=>by grind
theorem ae3{l:List G.Edge}{es:Nat→AV}{k:Nat}{v:AV}:tn l (λi=>if i=k then v else es i) (k+1)=tn l es k++[aI (l.getD k default).block,v]:=by rw[tn,ahO,ahn,ahu,aH rfl];congr 1;exact Cn λi hi=>by grind
def EN(B:G.gD)(cs:List AV)(H:af)(a:List ac):Prop:=∃(c b d e f:AV)(g es:Nat→AV),cs=[c,b,aU B.aq.op,d,.aC B.aq.name,e,f]∧(tR 1 (B.params.map aI) B.params.length c).P H a∧(tR 6 (pD B.aA g B.aA.length) B.aA.length b).P H a∧(∀k(h:k<B.aA.length),(tR 1 (B.aA[k].args.map aI) B.aA[k].args.length (g k)).P H a)∧(tR 1 (B.aq.args.map aI) B.aq.args.length d).P H a∧(tR 1 (B.aq.bY.map aU) B.aq.bY.length e).P H a∧(tR 2 (tn B.aq.go es B.aq.go.length) B.aq.go.length f).P H a∧∀k(h:k<B.aq.go.length),(tR 1 (B.aq.go[k].args.map aI) B.aq.go[k].args.length (es k)).P H a
def tK(B:G.gD)(cs:List AV):Th where
 P:=EN B cs
 fr:=by
  rintro H H' i⟨c,b,d,e,f,g,es,h0,h1,h2,h3,j,l,m,n⟩a hg
  exact⟨c,b,d,e,f,g,es,h0,(tR _ _ _ _).fr h1 a hg,(tR _ _ _ _).fr h2 a hg,λk h=>(tR _ _ _ _).fr (h3 k h) a hg,(tR _ _ _ _).fr j a hg,(tR _ _ _ _).fr l a hg,(tR _ _ _ _).fr m a hg,λk h=>(tR _ _ _ _).fr (n k h) a hg⟩
 lt:=by
  rintro H i⟨c,b,d,e,f,g,es,h0,h1,_⟩
  exact h1.2.2
theorem EN.aF{B:G.gD}{cs:List AV}{H:af}{d:List ac}(h:EN B cs H d):jW H B cs:=by
 obtain⟨e,b,f,g,i,c,es,rfl,h1,h2,h3,j,l,m,n⟩:=h;refine⟨e,b,_,rfl,h1.1,⟨_,h2.1,λk a=>?_⟩,f,g,i,rfl,j.1,l.1,⟨_,m.1,λk a=>?_⟩⟩;·rw[pD,EM (m:=6) (f:=λk=>JE (B.aA.getD k default) (c k)) (λ_=>rfl) a,bE a];exact⟨c k,rfl,(h3 k a).1⟩
 rw[tn,EM (m:=2) (f:=λk=>[aI (B.aq.go.getD k default).block,es k]) (λ_=>rfl) a,bE a];exact⟨es k,rfl,(n k a).1⟩
theorem tR.ae4{size n:Nat}{b:List AV}{v:AV}{H:af}{f a:List ac}(h:(tR size b n v).P H f)(hs:∀j∈f,j∈a)(hb:∀j∈a,j.al<H.next.al):(tR size b n v).P H a:=⟨h.1,λi o m c e d=>hs _ (h.2.1 i o m c e d),hb⟩
theorem ae5{A H:af}{F:List Th}{a:List Th}(U:ai A H (tZ F::a)){B:G.gD}{vp vst va vk vg:AV}{ss es:Nat→AV}(h1:tR 1 (B.params.map aI) B.params.length vp∈F)(h2:tR 6 (pD B.aA ss B.aA.length) B.aA.length vst∈F)(h3:∀k(h:k<B.aA.length),tR 1 (B.aA[k].args.map aI) B.aA[k].args.length (ss k)∈F)(d:tR 1 (B.aq.args.map aI) B.aq.args.length va∈F)(e:tR 1 (B.aq.bY.map aU) B.aq.bY.length vk∈F)(g:tR 2 (tn B.aq.go es B.aq.go.length) B.aq.go.length vg∈F)(i:∀k(h:k<B.aq.go.length),tR 1 (B.aq.go[k].args.map aI) B.aq.go[k].args.length (es k)∈F):ai A H (tK B [vp,vst,aU B.aq.op,va,.aC B.aq.name,vk,vg]::a):=by
 refine U.as 0 rfl λj b=>?_;have w:∀{size n c v},tR size c n v∈F→(tR size c n v).P H j:=λh=>by obtain⟨f,l,m⟩:=b.1 _ h;exact tR.ae4 m l b.2
 exact⟨vp,vst,va,vk,vg,ss,es,rfl,w h1,w h2,λk h=>w (h3 k h),w d,w e,w g,λk h=>w (i k h)⟩
theorem JF{H:af}{size n:Nat}{a:List AV}{v:AV}(h:Sl H size a n v):∀q o m c e,v=.slice q o m c e→q.al<H.next.al:=λq o m c e b=>by rcases h with⟨h,_⟩|⟨i,_,_,_,_,_,_,_,_,_,h,_,_,_,_,hi,_⟩;all_goals grind
theorem ae6{o:Nat}{n:List Nat}{a b c:AV}(d:fM a a=true)(hb:fM b b=true)(e:fM c c=true):ou [aU o,a,.aC n,b,c] [aU o,a,.aC n,b,c]=true:=by simp_all[ou,Bool.and_true,fM,pA,fA]
section
variable{g:G.bu}{H:af}{cs:List AV}
theorem ae7(T:Tb ab){B:G.gD}(hb:jW H B cs)(hl:B' B){K:AV→af→Prop}(h:∀H' L,L.length=7→dI L=true→ai H H' [tK B L]→K (.agg L) H'):YF ab (.func Vs [] []) [.agg cs] H K:=by
 have dz:=hb.one;obtain⟨l1,l2,l3,l4,l5,_⟩:=hl.bl;obtain⟨vp,vst,jc,rfl,ag,a',va,vk,vg,rfl,N,O,ar⟩:=hb;have⟨e0,e2,_,_⟩:=ag.all;have⟨e3,_,_,_⟩:=a'.all;have⟨e4,e5,_,_⟩:=N.all;have⟨c8,e6,_,_⟩:=O.all;have⟨ba,e7,_,_⟩:=ar.all;obtain⟨e8,av,_⟩:=id ar;have c9:=ae6 (o:=B.aq.op) (n:=B.aq.name) (Sl.fM N) (Sl.fM O) (Sl.fM av);refine YF.code T.Z0 (by simp) ?_;refine au ?_;refine RO.dS (ai.cW H) λH1 u U=>?_;refine RO.gk U λH2 Q U=>?_;refine ah ?_;refine RO.kZ U 1 (ws:=[]) (n:=0) (λH3 q7 U=>?_);refine ah ?_;have U:ai H H3 [tS 3 1 [] 0 true (.slice q7 0 0 0 true),tB dM Q [.aP,.aP,i 4 0,.aP,.aC [],.aP,.aP],tB dM u [vp,vst,aU B.aq.op,va,.aC B.aq.name,vk,vg]]:=U;obtain⟨_,b⟩:=U.get 2 rfl;have p:u∉ [q7]:=λh=>U.ne 2 0 rfl rfl (by omega) (λf h=>h.1) (λf h=>(dK.mem h).1) (ac3.1 h);refine RO.vW (o:=0) (v:=vp) (tB.cell b rfl) p (λR z A=>?_);have U:=U.bS A z;refine ah ?_;obtain⟨_,b⟩:=U.get 2 rfl;refine RO.ae0 (o:=2) (m:=5) (vs:=[aU B.aq.op,va,.aC B.aq.name,vk,vg]) (tB.pj b (by show 2+5≤7;omega)) p (λR z A=>?_);have U:=U.bS A z;refine RO.gk U λH4 S U=>?_;have V:=U.zY 0;refine RO.JD (U.cO (ahw _ _ _)) (is:=[S]) (U.gr.sl ag) (λq o m c e hv X=>?_) (λj hj=>⟨0,_,rfl,λHx f g=>by rw[ac3]at hj;subst hj;exact g.1⟩) (λR a U=>⟨λaa r=>?_,?_⟩) (h1:=ri _);·have:=JF ag q o m c e hv;rw[ac3]at X;subst X;omega
 ·obtain⟨_,b⟩:=U.get 3 rfl;exact Ji (i:=u) (o:=2) (vs:=[aU B.aq.op,va,.aC B.aq.name,vk,vg]) r (by(conv=>lhs;whnf)<;>rfl) (by(conv=>lhs;whnf)<;>rfl) c9 (tB.pj b (by show 2+5≤7;omega)) rfl
 have⟨b3,b4,b5,_⟩:=(U.sl (e:=3) (size:=1) (sv:=a) (vs:=[]++B.params.map aI) (n:=0+B.params.length) (full:=true) 0).all;refine ah ?_;refine RO.build (vs:=[a,.aP,aU B.aq.op,va,.aC B.aq.name,vk,vg]) ?_ (hl:=kr rfl b3 b5 rfl rfl (kr rfl rfl rfl rfl rfl rfl));refine RO.iL U 1 (ws:=[a,.aP,aU B.aq.op,va,.aC B.aq.name,vk,vg]) (λH5 U=>?_);have U:ai H H5 [tS 3 1 (B.params.map aI) B.params.length true a,tB dM S [a,.aP,aU B.aq.op,va,.aC B.aq.name,vk,vg],tB dM Q [.aP,.aP,i 4 0,.aP,.aC [],.aP,.aP],tB dM u [vp,vst,aU B.aq.op,va,.aC B.aq.name,vk,vg]]:=by rw[agW]at U;exact U
 have U:=(U.oG pV 6).rH;refine ah ?_;refine Ru.nm λS0 M hS hM=>?_;refine Ru.cA hM (up (P:=λk=>∀Y F ss sv,(∀x(h:x<B.aA.length),x<k→tR 1 (B.aA[x].args.map aI) B.aA[x].args.length (ss x)∈F)→ai H Y [tZ F,tS pV 6 (pD B.aA ss k) k true sv,tS 3 1 (B.params.map aI) B.params.length true a,tB dM S [a,sv,aU B.aq.op,va,.aC B.aq.name,vk,vg],tB dM Q [.aP,.aP,i 4 0,.aP,.aC [],.aP,.aP],tB dM u [vp,vst,aU B.aq.op,va,.aC B.aq.name,vk,vg]]→Ru ab _ S0 ([(p4,aN k)]++pk M [p1,p2,p3]) Y) B.aA.length (λk hk Z Y F ss sv bb U=>?_) 0 (by omega) _ [] (λ_=>.aP) _ (λx _ C=>by omega) U);subst hS;subst hM;have⟨d0,b6,d1,_⟩:=(U.sl (e:=pV) (size:=6) (sv:=sv) (vs:=pD B.aA ss k) (n:=k) (full:=true) 1).all;refine Ru.loop ?_;refine ah ?_;refine RO.gM U 5 ?_;refine ah ?_;refine Ru.cond (λl=>?_) (λl=>?_)
 ·have dW:=hl.st _ (af0 l);have Z:=Z (k+1) (by omega) (by omega);have ba:B.aA.getD k default=B.aA[k]:=bE l _;refine ah ?_;refine RO.gM U 5 ?_;refine ah ?_;refine RO.cP U.gr a' (λq8 o8 fo e' c' fa hat hrd=>?_) (j:=k);generalize dm:B.aA[k]=s at*;obtain⟨fb,rfl,W⟩:=c';have⟨fd,fe,_,_⟩:=W.all;refine ah ?_;refine RO.fG U λH6 q5 U=>?_;refine ah ?_;refine RO.rj U 1 λH7 dr U=>?_;have⟨d2,_,_,_⟩:=(U.sl (e:=3) (size:=1) (sv:=dr) (vs:=[]) (n:=0) (full:=true) 0).all;refine ah ?_;refine RO.pT U 0 (U.gr.sl W) (λH8 E U=>?_) (h1:=ri _);have⟨d3,d4,d5,_⟩:=(U.sl (e:=3) (size:=1) (sv:=E) (vs:=[]++s.args.map aI) (n:=0+s.args.length) (full:=true) 0).all;refine ah ?_;refine RO.fU U 1 (λH9 U=>?_);refine ah ?_;refine RO.gM U 5 ?_;refine ah ?_;refine RO.eG U 1 ?_;refine RO.push U 3 (λw0 HA bc U=>?_) (ws:=[aU s.op,aI s.to,E,aI s.n,aI s.m,.aC s.name]) (hl:=kr rfl rfl rfl rfl rfl rfl);have⟨d6,d7,d',_⟩:=(U.sl (e:=pV) (size:=6) (sv:=bc) (n:=k+1) (full:=true) 3).all;refine ah ?_;refine RO.fU U 5 (λHB U=>?_);refine ah ?_;have ax:=((U.sub (.cons_cons _ (.cons _ (ahB _)))).as (t':=tR 1 (s.args.map aI) s.args.length E) 0 rfl λfp g=>by have D:=tS.lL g;rw[agW]at D;exact D).lJ;exact Ru.wk (Z HB (tR 1 (s.args.map aI) s.args.length E::F) (λi=>if i=k then E else ss i) bc (λx C ds=>by
   by_cases e:x=k;·subst e;simp only[aH,dm];exact adc ..
   simp only[an e];exact adD _ (bb x C (by omega))) (by rw[ae2,ba];exact ax))
 refine Ru.exitTo ?_;obtain rfl:k=B.aA.length:=by omega
 refine ah ?_;refine RO.kZ U 1 (ws:=[]) (n:=0) (λH6 P U=>?_);refine ah ?_;have U:ai H H6 [tS 3 1 [] 0 true (.slice P 0 0 0 true),tZ F,tS pV 6 (pD B.aA ss B.aA.length) B.aA.length true sv,tS 3 1 (B.params.map aI) B.params.length true a,tB dM S [a,sv,aU B.aq.op,va,.aC B.aq.name,vk,vg],tB dM Q [.aP,.aP,i 4 0,.aP,.aC [],.aP,.aP],tB dM u [vp,vst,aU B.aq.op,va,.aC B.aq.name,vk,vg]]:=U;have p:u∉ [P]:=λh=>U.ne 6 0 rfl rfl (by omega) (λf h=>h.1) (λf h=>(dK.mem h).1) (ac3.1 h);obtain⟨_,b⟩:=U.get 6 rfl;refine RO.vW (o:=3) (v:=va) (tB.cell b rfl) p (λR z A=>?_);have U:=U.bS A z;refine RO.kZ U 1 (ws:=[]) (n:=0) (λH7 ay U=>?_);refine ah ?_;have U:ai H H7 [tS 5 1 [] 0 true (.slice ay 0 0 0 true),tS 3 1 [] 0 true (.slice P 0 0 0 true),tZ F,tS pV 6 (pD B.aA ss B.aA.length) B.aA.length true sv,tS 3 1 (B.params.map aI) B.params.length true a,tB dM S [a,sv,aU B.aq.op,va,.aC B.aq.name,vk,vg],tB dM Q [.aP,.aP,i 4 0,.aP,.aC [],.aP,.aP],tB dM u [vp,vst,aU B.aq.op,va,.aC B.aq.name,vk,vg]]:=U;have b':u∉ [ay,P]:=λh=>by
  rcases adC.1 h with h|h;·exact U.ne 7 0 rfl rfl (by omega) (λf h=>h.1) (λf h=>(dK.mem h).1) h
  exact p h
 obtain⟨_,b⟩:=U.get 7 rfl;refine RO.vW (o:=5) (v:=vk) (tB.cell b rfl) b' (λR z A=>?_);have U:=U.bS A z;have V:=U.B9 0;refine RO.JD (U.cO (ahw _ _ _)) (is:=[ay]) (U.gr.sl N) (λq o m c e hv X=>?_) (λj hj=>⟨0,_,rfl,λHx f g=>by rw[ac3]at hj;subst hj;exact(dK.mem g).1⟩) (λR d U=>⟨λaa r=>?_,?_⟩) (h1:=ri _);·have:=JF N q o m c e hv;rw[ac3]at X;subst X;omega
 ·obtain⟨_,b⟩:=U.get 7 rfl;exact gQ (i:=u) (o:=5) (v:=vk) r (by(conv=>lhs;whnf)<;>rfl) (by(conv=>lhs;whnf)<;>rfl) c8 (Sl.bS O) (tB.cell b rfl) rfl
 have⟨ea,ca,eb,_⟩:=(U.sl (e:=3) (size:=1) (sv:=d) (vs:=[]++B.aq.args.map aI) (n:=0+B.aq.args.length) (full:=true) 0).all;refine ah ?_;refine RO.pT U 1 (U.gr.sl O) (λH8 v46 U=>?_) (h1:=G4.2 λv hv=>by obtain⟨x,_,rfl⟩:=ag3.1 hv;rfl);have⟨ec,cd,ei,_⟩:=(U.sl (e:=5) (size:=1) (sv:=v46) (vs:=[]++B.aq.bY.map aU) (n:=0+B.aq.bY.length) (full:=true) 1).all;refine ah ?_;refine RO.fU U 5 (λH9 U=>?_);refine ah ?_;refine RO.fU U 5 (λH9 U=>?_);refine ah ?_;refine RO.fU U 5 (λHE U=>?_);refine ah ?_;have z1:=(((U.fO 2 rfl).fO 1 rfl).as (t':=tR 1 (B.aq.args.map aI) B.aq.args.length d) 0 rfl λfp g=>by have D:=tS.lL g;rw[agW]at D;exact D).lJ;have z2:=((z1.fO 1 rfl).as (t':=tR 1 (B.aq.bY.map aU) B.aq.bY.length v46) 0 rfl λfp g=>by have D:=tS.lL g;rw[agW]at D;exact D).lJ;have z3:=((z2.fO 1 rfl).as 0 rfl λfp g=>tS.lL g).lJ;have z4:=((z3.fO 1 rfl).as 0 rfl λfp g=>tS.lL g).lJ;have U:=(z4.oG xk 2).cO (ahw _ _ _);have m1:∀t∈ [tR 1 (B.params.map aI) B.params.length a,tR 6 (pD B.aA ss B.aA.length) B.aA.length sv,tR 1 (B.aq.bY.map aU) B.aq.bY.length v46,tR 1 (B.aq.args.map aI) B.aq.args.length d]++F,t∈tR 1 (B.params.map aI) B.params.length a::tR 6 (pD B.aA ss B.aA.length) B.aA.length sv::tR 1 (B.aq.bY.map aU) B.aq.bY.length v46::tR 1 (B.aq.args.map aI) B.aq.args.length d::F:=λt ht=>ht;clear z1 z2 z3 z4;refine Ru.nm λS1 M1 dv bd=>?_;refine Ru.cA bd (up (P:=λj=>∀Y F2 es gv,(∀t∈ [tR 1 (B.params.map aI) B.params.length a,tR 6 (pD B.aA ss B.aA.length) B.aA.length sv,tR 1 (B.aq.bY.map aU) B.aq.bY.length v46,tR 1 (B.aq.args.map aI) B.aq.args.length d]++F,t∈F2)→(∀x(h:x<B.aq.go.length),x<j→tR 1 (B.aq.go[x].args.map aI) B.aq.go[x].args.length (es x)∈F2)→ai H Y [tZ F2,tS xk 2 (tn B.aq.go es j) j true gv,tB dM S [a,sv,aU B.aq.op,d,.aC B.aq.name,v46,gv],tB dM Q [.aP,.aP,i 4 0,.aP,.aC [],.aP,.aP],tB dM u [vp,vst,aU B.aq.op,va,.aC B.aq.name,vk,vg]]→Ru ab _ S1 ([(p6,aN j)]++pk M1 [p1,p2,p3]) Y) B.aq.go.length (λj hj Z Y F2 es gv w kI U=>?_) 0 (by omega) _ _ (λ_=>.aP) _ m1 (λx _ C=>by omega) U);subst dv;subst bd;have⟨cf,cn,ej,_⟩:=(U.sl (e:=xk) (size:=2) (sv:=gv) (vs:=tn B.aq.go es j) (n:=j) (full:=true) 1).all;have cp:=Sl.bS (U.sl (e:=xk) (size:=2) (sv:=gv) (vs:=tn B.aq.go es j) (n:=j) (full:=true) 1);refine Ru.loop ?_;refine ah ?_;refine Ru.cond (λl=>?_) (λl=>?_)
 ·have dW:=hl.ed _ (af0 l);have Z:=Z (j+1) (by omega) (by omega);have cv:B.aq.go.getD j default=B.aq.go[j]:=bE l _;have cx:=Sl.bS av;have a8:=JF av;obtain⟨qe,oe,I,a1,ce,rfl,he,fk,J,ek⟩:=ar.at l;have a2:=a8 qe oe _ _ _ rfl;generalize dx:B.aq.go[j]=e at*;obtain⟨ve,rfl,bv⟩:=he;have⟨fl,_,_,_⟩:=bv.all;refine ah ?_;refine RO.aW (v:=aI e.block) ?_ (hc:=by rw[U.gr.bh a2];exact J 0 _ rfl);refine RO.kZ U 1 (ws:=[]) (n:=0) (λH6 a6 U=>?_);refine ah ?_;have U:ai H H6 [tS 3 1 [] 0 true (.slice a6 0 0 0 true),tZ F2,tS xk 2 (tn B.aq.go es j) j true gv,tB dM S [a,sv,aU B.aq.op,d,.aC B.aq.name,v46,gv],tB dM Q [.aP,.aP,i 4 0,.aP,.aC [],.aP,.aP],tB dM u [vp,vst,aU B.aq.op,va,.aC B.aq.name,vk,.slice qe oe B.aq.go.length I a1]]:=U;have p:u∉ [a6]:=λh=>U.ne 5 0 rfl rfl (by omega) (λf h=>h.1) (λf h=>(dK.mem h).1) (ac3.1 h);have V:=U.B9 0;obtain⟨_,b⟩:=U.get 5 rfl;refine RO.vW (o:=6) (v:=.slice qe oe B.aq.go.length I a1) (tB.cell b rfl) p (λR z A=>?_);have U:=U.bS A z;refine ah ?_;refine RO.vW (is:=[a6]) (o:=oe+j*2+1) (v:=ve) (by rw[U.gr.bh a2];exact J 1 _ rfl) (λh=>by rw[ac3]at h;subst h;omega) (λR z A=>?_);have U:=U.bS A z;refine RO.JD U (is:=[]) (U.gr.sl bv) (λq o m c e hv X=>by cases X) (λj hj=>by cases hj) (λR y U=>⟨λaa r=>?_,?_⟩) (h1:=ri _);·obtain⟨_,b⟩:=U.get 5 rfl;obtain⟨_,dy⟩:=U.get 3 rfl;refine gQ (i:=qe) (o:=oe+j*2+0) (v:=aI e.block) r (by(conv=>lhs;whnf)<;>rfl) (by(conv=>lhs;whnf)<;>rfl) rfl (by simp[hZ,fM,fA]) (by rw[U.gr.bh a2];exact J 0 _ rfl) ?_;refine gQ (i:=u) (o:=6) (v:=.slice qe oe B.aq.go.length I a1) r (by(conv=>lhs;whnf)<;>rfl) (by(conv=>lhs;whnf)<;>rfl) rfl cx (tB.cell b rfl) ?_;exact gQ (i:=S) (o:=6) (v:=gv) r (by(conv=>lhs;whnf)<;>rfl) (by(conv=>lhs;whnf)<;>rfl) cf cp (tB.cell dy rfl) rfl
  have⟨cy,el,cE,_⟩:=(U.sl (e:=3) (size:=1) (sv:=y) (vs:=[]++e.args.map aI) (n:=0+e.args.length) (full:=true) 0).all;refine RO.build (vs:=[aI e.block,y]) ?_ (hl:=kr rfl rfl rfl rfl rfl (kr rfl cy cE rfl rfl rfl));refine RO.push U 2 (λw0 HA b0 U=>?_) (ws:=[aI e.block,y]) (hl:=kr rfl rfl rfl rfl rfl rfl);have⟨er,et,ew,_⟩:=(U.sl (e:=xk) (size:=2) (sv:=b0) (n:=j+1) (full:=true) 2).all;refine ah ?_;refine RO.fU U 3 (λHB U=>?_);refine ah ?_;have ax:=(U.as (t':=tR 1 (e.args.map aI) e.args.length y) 0 rfl λfp g=>by have D:=tS.lL g;rw[agW]at D;exact D).lJ;exact Ru.wk (Z HB (tR 1 (e.args.map aI) e.args.length y::F2) (λi=>if i=j then y else es i) b0 (λt ht=>adD _ (w t ht)) (λx C ds=>by
   by_cases e:x=j;·subst e;simp only[aH,dx];exact adc ..
   simp only[an e];exact adD _ (kI x C (by omega))) (by rw[ae3,cv];exact ax))
 refine Ru.exitTo ?_;obtain rfl:j=B.aq.go.length:=by omega
 refine ah ?_;refine RO.eG U 2 ?_;refine RO.iL U 3 (λHF U=>?_) (ws:=[a,sv,aU B.aq.op,d,.aC B.aq.name,v46,gv]);refine ah ?_;have y1:=((U.fO 1 rfl).as 0 rfl λfp g=>tS.lL g).lJ;have y2:=ae5 y1 (B:=B) (vp:=a) (vst:=sv) (va:=d) (vk:=v46) (vg:=gv) (ss:=ss) (es:=es) (.tail _ (w _ (by simp))) (.tail _ (w _ (by simp))) (λx C=>.tail _ (w _ (ag7 _ (bb x C C)))) (.tail _ (w _ (by simp))) (.tail _ (w _ (by simp))) (.head _) (λx C=>.tail _ (kI x C C));exact Ru.lj (vs:=[_]) ⟨⟨Q,0,rfl,U.agg 3⟩,trivial⟩ (h HF _ rfl (ao b4 (ao b6 (ao rfl (ao ca (ao rfl (ao cd (ao cn rfl))))))) (y2.sub (.cons_cons _ (.cons _ (.cons _ (.cons _ .slnil))))))
end
end
section
section
variable{g:G.bu}{H:af}{cs:List AV}
theorem ae8(T:Tb ab)(hg:iD H g cs)(hn:g.aj.length≤5000)(O:∀b∈g.aj,B' b){K:AV→af→Prop}(h:∀H' a,bf H H'→iD H' g a→K (.agg a) H'):YF ab (.func Vl [] []) [.agg cs] H K:=by
 have J:=hg.one;obtain⟨C,rfl,co⟩:=hg;have⟨Y,Z,ag,ar⟩:=co.all;refine YF.code T.ZT (by simp) ?_;refine au ?_;refine RO.dS (ai.cW H) λH1 D U=>?_;refine RO.gk U λH2 o U=>?_;refine ah ?_;refine RO.eG U 1 ?_;refine RO.fG U λH3 p U=>?_;refine ah ?_;refine RO.fU U 0 (λP U=>?_);have U:ai H P [tB fC p [.aC g.name,aI g.params,aI g.bi,.aP],tB fC o [.aC [],i 3 0,i 3 0,.aP],tB fC D [.aC g.name,aI g.params,aI g.bi,C]]:=U;have U:=(U.oG dM 7).rH;refine ah ?_;refine Ru.nm λQ M R E=>?_;refine Ru.cA E (up (P:=λk=>∀q F(cc:Nat→List AV)sv,(∀x,(cc x).length=7)→(∀x(h:x<g.aj.length),x<k→tK g.aj[x] (cc x)∈F)→ai H q [tZ F,tS dM 7 ((agV k).flatMap cc) k true sv,tB fC p [.aC g.name,aI g.params,aI g.bi,sv],tB fC o [.aC [],i 3 0,i 3 0,.aP],tB fC D [.aC g.name,aI g.params,aI g.bi,C]]→Ru ab _ Q ([(p4,aN k)]++pk M [p1,p2,p3]) q) g.aj.length (λk n r q F cc sv c d U=>?_) 0 (by omega) _ [] (λ_=>af3 7 .aP) _ (λ_=>rfl) (λx _ G=>by omega) U);subst R;subst E;have f:=U.sl (e:=dM) (size:=7) (sv:=sv) (vs:=(agV k).flatMap cc) (n:=k) (full:=true) 1;have⟨l,L,N,_⟩:=f.all;have m:=Sl.bS f;refine Ru.loop ?_;refine ah ?_;refine Ru.cond (λj=>?_) (λj=>?_)
 ·have r:=r (k+1) (by omega) (by omega);have v:=O _ (af0 j);refine ah ?_;refine RO.cP U.gr co (λq8 o8 c8 av w ax hat hrd=>?_) (j:=k);generalize y:g.aj[k]=B at*;refine ah ?_;refine RO.Jh (ae7 T (dH.block U.gr w) v λH5 a S h1 hl=>⟨λaa z=>?_,?_⟩);·obtain⟨_,A⟩:=(U.fF hl).get 3 rfl;exact gQ (i:=p) (o:=3) (v:=sv) z (by(conv=>lhs;whnf)<;>rfl) (by(conv=>lhs;whnf)<;>rfl) l m (tB.cell A rfl) rfl
  have U:=(U.fF hl).lJ;match a,S with
   |[s,t,a3,a4,a5,u,a7],_=>
    refine RO.push U 1 (λw0 H6 I U=>?_) (ws:=[s,t,a3,a4,a5,u,a7]) (hl:=kr rfl rfl rfl rfl rfl rfl);have⟨ay,a1,a2,_⟩:=(U.sl (e:=dM) (size:=7) (n:=k+1) (full:=true) (sv:=I) 1).all;refine ah ?_;refine RO.fU U 2 (λV U=>?_);refine ah ?_;exact Ru.wk (r V (tK B [s,t,a3,a4,a5,u,a7]::F) (λi=>if i=k then[s,t,a3,a4,a5,u,a7]else cc i) I (λx=>by
     by_cases e:x=k;·simp only[aH e];rfl
     simp only[an e];exact c x) (λx G a6=>by
     by_cases e:x=k;·subst e;simp only[aH,y];exact adc ..
     simp only[an e];exact adD _ (d x G (by omega))) (by rw[ahO,ahn,ahu,aH rfl];rw[Cn (g:=cc) λi hi=>by rw[ahV]at hi;rw[an (by omega)]];exact U))
 refine Ru.exitTo ?_;obtain rfl:k=g.aj.length:=by omega
 refine ah ?_;refine RO.eG U 2 ?_;refine RO.iL U 3 (λW U=>?_) (ws:=[.aC g.name,aI g.params,aI g.bi,sv]);refine ah ?_;refine Ru.lj (vs:=[_]) ⟨⟨o,0,rfl,U.agg 3⟩,trivial⟩ (h W _ U.gr ⟨sv,rfl,_,U.sl (e:=dM) (size:=7) (sv:=sv) (vs:=(agV g.aj.length).flatMap cc) (n:=g.aj.length) (full:=true) 1,λk n=>?_⟩);rw[EM c n];obtain⟨_,X⟩:=U.mC 0 rfl (d k n n);exact EN.aF X
end
end
section
def tN:Th where
 P _ c:=c=[]
 fr h _ _:=h
 lt h:=λj hj=>by rw[h]at hj;cases hj
def tO(D:Bool)(q:ac)(S:Int→Prop):Th:=if D then tM false q S else tN
def ie(n:Nat)(D:Nat→Bool)(ids:Nat→ac)(S:Nat→Int→Prop):List Th:=(agV n).map λv=>tO (D v) (ids v) (S v)
def kU(D:Nat→Bool)(ids:Nat→ac)(v:Nat):AV:=if D v then .map (ids v)else .cL
def jK(n:Nat)(D:Nat→Bool)(ids:Nat→ac):List AV:=(agV n).map (kU D ids)
section
variable{n:Nat}{D a:Nat→Bool}{ids b:Nat→ac}{S S':Nat→Int→Prop}{f d m:ac}{us:List Th}{A H:af}
theorem EO:(jK n D ids).length=n:=by simp[jK]
theorem ae9:(ie n D ids S).length=n:=by simp[ie]
theorem JG{v:Nat}(c:v<n):(ie n D ids S)[v]?=some (tO (D v) (ids v) (S v)):=by simp[c,ie,ahc,List.getElem?_range,ahb]
theorem afa{v:Nat}(c:v<n){q:ac}{P:Int→Prop}:(ie n D ids S).set v (tM false q P)=ie n (λx=>if x=v then true else D x) (λx=>if x=v then q else ids x) (eV S v P):=by
 apply ahU (by simp[ie]);intro j h1 h2;simp only[ie,List.getElem_set,aht,aif,eV];by_cases e:v=j;·simp[e,tO]
 grind
theorem PY{v y:Int}{l:List Int}:y∈im v l↔y∈l∧y≠v:=ui v y l
theorem PZ{A H0:af}{c:am AV}{ks:List Int}{t1 t2 t3:Th}(C:ks.Nodup)(E:∀j,j<n→D j=true→∃t0:List Int,jB H0 (ids j)=some t0∧t0.Nodup∧(∀x,x∈t0↔S j x)∧ids j≠m)(M:∀j,j<n→c.bq .aiw (0+j)=kU D ids j)(N:∀j,j<n→D j=false→∀x,¬S j x):∀(l:List Int)(B:am AV)(H':af)(a:Nat→Bool)(b:Nat→ac)(S':Nat→Int→Prop),l.Nodup→(∀k∈l,0≤k∧k<n)→(∀j,j<n→(j:Int)∈l→a j=D j∧b j=ids j∧S' j=S j)→(∀j,j<n→B.bq .aiw (0+j)=kU a b j)→ai A H' (t1::t2::t3::(ie n a b S'++us))→∃u v r g w,vh c 0 n m ks H0 l B H'=some (u,v)∧ai A v (t1::t2::t3::(ie n r g w++us))∧(∀j,j<n→u.bq .aiw (0+j)=kU r g j)∧(∀j,j<n→(r j=true↔a j=true∨(j:Int)∈l))∧∀j,j<n→∀x,w j x↔S' j x∨(j:Int)∈l∧x∈ks∧x≠j
 |[],B,H',a,b,S',_,_,_,H,U=>⟨B,H',a,b,S',rfl,U,H,λj _=>by simp,λj _ x=>by simp⟩
 |k::l,B,H',a,b,S',s,F,h3,H,U=>by
  rw[ahg]at s;obtain⟨ag,ar⟩:=F k (adc ..);obtain⟨j,rfl⟩:∃j:Nat,k=(j:Int):=⟨k.toNat,by omega⟩;have o:j<n:=by omega
  obtain⟨e1,e2,O⟩:=h3 j o (adc ..);have hat:(t1::t2::t3::(ie n a b S'++us))[3+j]?=some (tO (a j) (b j) (S' j)):=rS (xs:=[_,_,_]) (JG o);have t:∀{q:ac}{P:Int→Prop},(t1::t2::t3::(ie n a b S'++us)).set (3+j) (tM false q P)=t1::t2::t3::(ie n (λx=>if x=j then true else a x) (λx=>if x=j then q else b x) (eV S' j P)++us):=λ{q P}=>by refine(Pg (xs:=[t1,t2,t3]) (l:=ie n a b S') (by rw[ae9];exact o)).trans ?_;rw[afa o];rfl
  have z:∀i,i<n→(i:Int)∈l→i≠j:=λi _ hi e=>s.1 (e▸hi);have aq:∀{q:ac}{P:Int→Prop}{c2:am AV}{I:af},ai A I (t1::t2::t3::(ie n (λx=>if x=j then true else a x) (λx=>if x=j then q else b x) (eV S' j P)++us))→(∀i,i<n→c2.bq .aiw (0+i)=kU (λx=>if x=j then true else a x) (λx=>if x=j then q else b x) i)→(∀x,P x↔S' j x∨x∈ks∧x≠(j:Int))→∃u v r g w,vh c 0 n m ks H0 l c2 I=some (u,v)∧ai A v (t1::t2::t3::(ie n r g w++us))∧(∀j,j<n→u.bq .aiw (0+j)=kU r g j)∧(∀i,i<n→(r i=true↔a i=true∨(i:Int)∈(j:Int)::l))∧∀i,i<n→∀x,w i x↔S' i x∨(i:Int)∈(j:Int)::l∧x∈ks∧x≠i:=by
   intro q P c2 I p K R;obtain⟨u,v,r,g,w,T,V,W,X,Y⟩:=PZ C E M N l c2 I _ _ _ s.2 (λk Z=>F k (adD _ Z)) (λi hi Q=>by have:=z i hi Q;obtain⟨a1,a2,a3⟩:=h3 i hi (adD _ Q);simp only[an this,eV];exact⟨a1,a2,a3⟩) K p;refine⟨u,v,r,g,w,T,V,W,λi hi=>?_,λi hi x=>?_⟩
   ·rw[X i hi,adC];by_cases e:i=j;·subst e;simp
    rw[an e];have:¬((i:Int)=(j:Int)):=by omega
    simp[this]
   rw[Y i hi,adC];by_cases e:i=j;·subst e;simp only[eV,bm,R,true_or,true_and];have:=s.1;simp[this]
   have h9:¬((i:Int)=(j:Int)):=by omega
   simp only[eV,an e,h9,false_or]
  simp only[vh];simp only[aiu ahF o,bm,M j o];cases y:D j with
  |false=>
   simp only[kU,y,ac6,bK];obtain⟨fp,J,_,hu⟩:=U.jV (3+j) hat;rw[e1,y]at J;have L:(im (ahI j) ks).Nodup:=Dt C;have p:=hu (H':=H'.new (.dB (eE (im (ahI j) ks)))) (fp':=[H'.next]) (t':=tM false H'.next λx=>x∈ks∧x≠(j:Int)) ⟨by rw[af.mT];omega,λi hi=>by rw[ac3]at hi;exact .inr (by rw[hi];exact adW _),λi _ hi=>by rw[af.dt,an (λe=>by rw[e]at hi;omega)]⟩ ⟨ac3.2 rfl,λj hj=>ac3.1 hj,⟨_,by rw[af.dt,aH rfl];exact wV L,λx=>PY⟩,(λh=>by cases h),by rw[af.mT];omega⟩;rw[t]at p;refine aq p (λi hi=>?_) (λx=>?_)
   ·rw[mL];simp only[ahj,kU];by_cases e:i=j;·subst e;simp
    rw[an (by omega),an e,an e,H i hi,kU]
   rw[O];have:=N j o y x;simp[this]
  |true=>
   obtain⟨t0,q1,q2,d,q4⟩:=E j o y;simp only[kU,y,bm,ye q4,ac6,bK,q1];rw[e1,y,e2]at hat;obtain⟨_,_,G⟩:=U.n9 _ hat;have p:=U.uI (H':=H'.set (ids j) (.dB (eE (gU (im (ahI j) ks) t0)))) (q:=ids j) _ hat (t':=tM false (ids j) λx=>S' j x∨x∈ks∧x≠(j:Int)) rfl (λi hi=>by rw[af.aD,an hi]) (λfp J=>J.1) ⟨ac3.2 rfl,λj hj=>ac3.1 hj,⟨_,by rw[af.aD,aH rfl];exact wV (rc _ q2),λx=>by rw[oE,PY,d,O,or_comm];rfl⟩,(λh=>by cases h),G⟩;rw[t]at p;refine aq p (λi hi=>?_) (λx=>Iff.rfl);rw[H i hi];simp only[kU];by_cases e:i=j;·subst e;simp[e1,y,e2]
   rw[an e,an e]
end
end
section
section
variable{n:Nat}{D:Nat→Bool}{ids:Nat→ac}{S:Nat→Int→Prop}{a b m:ac}{us:List Th}{A H:af}{M:Int→Prop}
theorem afb(U:ai A H (tM false m M::tB pW b [.slice a 0 n n true]::tB fV a (jK n D ids)::(ie n D ids S++us)))(W:∀x,M x→0≤x∧x<n)(X:∀j,j<n→D j=false→∀x,¬S j x):∃H' s d C,(∀aa:am AV,aa.get .aiw (sl 4)=.map m→aa.get .aiw (sl 3)=.aw b 0→wR aa H=some (kJ aa pM,H'))∧(∀j,j<n→(s j=true↔D j=true∨M j))∧(∀j,j<n→∀x,C j x↔S j x∨M j∧M x∧x≠j)∧ai A H' (tM false m M::tB pW b [.slice a 0 n n true]::tB fV a (jK n s d)::(ie n s d C++us)):=by
 obtain⟨⟨ks,p,w⟩,_,T⟩:=U.n9 0 rfl;obtain⟨k1,u⟩:=Cj p;have hat:∀{j},j<n→D j=true→(tM false m M::tB pW b [.slice a 0 n n true]::tB fV a (jK n D ids)::(ie n D ids S++us))[3+j]?=some (tM false (ids j) (S j)):=λ{j}hj hd=>by have:=rS (xs:=[tM false m M,tB pW b [.slice a 0 n n true],tB fV a (jK n D ids)]) (m:=us) (JG (D:=D) (ids:=ids) (S:=S) hj);rw[hd]at this;exact this
 obtain⟨f2,K⟩:=U.get 2 rfl;obtain⟨c,Y,Z,V⟩:=tB.I5 K;rw[EO]at Y;have q:∀j,j<n→c.bq .aiw (0+j)=kU D ids j:=λj hj=>by rw[agW,Z j (by rw[EO];exact hj)];simp[jK]
 have ag:bh H b 0=some (.slice a 0 n n true):=by obtain⟨_,r⟩:=U.get 1 rfl;exact tB.cell r rfl
 have ar:b≠a:=U.ne 1 2 rfl rfl (by omega) (λf h=>h.1) (λf h=>h.1);have fS:∀{l:List Int},l.Nodup→(∀k∈l,0≤k∧k<n)→(kK c 0 l).Nodup:=by
  intro l;induction l with
  |nil=>intro _ _;exact aim
  |cons k l E=>
   intro G g;rw[ahg]at G;have E:=E G.2 λk I=>g k (adD _ I);simp only[kK];split
   ·rename_i N t;rw[ahg];refine⟨λL=>?_,E⟩;obtain⟨u,y,o⟩:=vm.1 L;have h1:=g k (adc ..);have h2:=g u (adD _ y);have z:k.toNat<n:=by omega
    have B:u.toNat<n:=by omega
    rw[q _ z,kU]at t;rw[q _ B,kU]at o;split at t
    ·rename_i d1;split at o;·rename_i d2;injection t with t;injection o with o;have av:k.toNat≠u.toNat:=λe=>G.1 (by rw[show k=u by omega];exact y);exact U.ne _ _ (hat z d1) (hat B d2) (by omega) (λf h=>h.1) (λf h=>h.1) (t.trans o.symm)
     cases o
    cases t
   exact E
 have g:∀k∈ks,0≤k∧k<n:=λk I=>W k ((w k).1 I);obtain⟨F,v,s,d,C,g1,J,g3,g4,g5⟩:=PZ (m:=m) (H0:=H) p.1 (λj hj hd=>by obtain⟨⟨t0,R,O⟩,_,_⟩:=U.n9 _ (hat hj hd);exact⟨t0,(Cj R).1,R.1,O,U.ne _ 0 (hat hj hd) rfl (by simp) (λf h=>h.1) (λf h=>h.1)⟩) q X ks c H D ids S p.1 g (λ_ _ _=>⟨rfl,rfl,rfl⟩) q U;have P:a.al<v.next.al:=by obtain⟨_,r⟩:=J.get 2 rfl;obtain⟨_,_,_,_,_,h⟩:=r;exact h
 have Q:m.al<v.next.al:=(J.n9 0 rfl).2.2;have L1:=J.uI (H':=v.set a (.cells F n fV true [] 0)) (q:=a) 2 rfl (t':=tB fV a (jK n s d)) rfl (λi hi=>by rw[af.aD,an hi]) (λfp r=>r.1) ⟨ac3.2 rfl,λj hj=>ac3.1 hj,F,by rw[af.aD,aH rfl,EO],λj hj=>by rw[EO]at hj;have:=g3 j hj;rw[agW]at this;rw[this];simp[jK],P⟩;have L2:=L1.uI (H':=(v.set a (.cells F n fV true [] 0)).set m (.dB (eE ks))) (q:=m) 0 rfl (t':=tM false m M) rfl (λi hi=>by rw[af.aD,an hi]) (λfp r=>r.1) ⟨ac3.2 rfl,λj hj=>ac3.1 hj,⟨ks,by rw[af.aD,aH rfl];exact wV p.1,w⟩,(λh=>by cases h),Q⟩;refine⟨((v.set a (.cells F n fV true [] 0)).set m (.dB (eE ks))).skip,s,d,C,λaa e4 e3=>?_,λj hj=>?_,λj hj x=>?_,?_⟩;·unfold wR;rw[e4,e3];have ho:=(GU _).2 (fS p.1 g);simp_all[ye,agW,ahi,adW,Bool.not_false,aiq,bm]
 ·simp_all
 ·simp_all
 exact L2.cV ⟨by show _≤(ac.succ _).al;simp[ac.gz],λj _=>rfl⟩
end
end
section
theorem RO.afc{A H:af}{j:List Th}{c:Cx}{s:List SI}{L:Kn}{d:Option ac}{l:List aS}{e bytes size n:Nat}(U:ai A H j){g:List AV}{x y:aG}(u:∀H' q,ai A H' (tB e q (fx g n)::j)→RO ab c l s (bA L d (.slice q 0 n n true)) H')(p:aV L x=.int 3 (.ofNat n):=by(conv=>lhs;whnf)<;>rfl)(r:aV L y=.int 3 (.ofNat n):=by(conv=>lhs;whnf)<;>rfl)(hz:(fx g n).length=n*size)(hb:n*bytes≤70368744177664:=by omega)(t:n≤70368744177664:=by omega):RO ab c (⟨d,.jr e bytes size g x y,none,[],[]⟩::l) s L H:=by have:=U.G9 e (fx g n);rw[hz]at this;exact RO.jr (u _ _ this) p r
section
variable{g:G.bu}{h i k m:AV}{a b:ac}{A H:af}{o:List AV}{come:List Bool}{os:List (List bU)}{ap:List Nat}{f:List (List Int)}
theorem _root_.Go.ak.ai.P1{A H:af}{c:List Th}(U:ai A H c):∀n,ai A H (c++af3 n tN)
 |0=>by rw[List.replicate_zero,ahx];exact U
 |n+1=>by
  have:=(U.P1 n).push (bf.refl H) (t:=tN) (fp:=[]) rfl λj hj=>by cases hj
  exact this.cO ag1.symm
theorem afd(T:Tb ab){K:AV→af→Prop}(c:∀H' q,ai H H' [tB lF q [.aw a 0]]→K (.func HD [] [.aw q 0]) H'):YF ab (.func VA [] []) [.aw a 0] H K:=by refine YF.code T.Z8 (by simp) ?_;refine au ?_;refine RO.dS (ai.cW H) λH1 q U=>?_;refine ah ?_;exact Ru.aT (c _ _ U)
def P3(c:List (Int→Prop))(n:Nat)(D:Nat→Bool)(S:Nat→Int→Prop):Prop:=(∀j,j<n→(D j=true↔∃C∈c,C j))∧∀j,j<n→∀x,S j x↔∃C∈c,C j∧C x∧x≠j
theorem afe(T:Tb ab)(V:Vd g)(v:FX g A a h i k m o come os ap f)(J:dA g come os)(L:iP g come os ap)(B:jJ g come os f){n:Nat}(M:g.bi=n){K:AV→af→Prop}(ar:∀H' d D c S,P3 (uL g os f ap) n D S→ai A H' (tB fV d (jK n D c)::ie n D c S)→K (.slice d 0 n n true) H'):YF ab (.func VC [] []) [.aw a 0] A K:=by
 have Y:=v.ro.lt;have E:=v.c2;rw[M]at E;have Z:=V.fm.fv.h2;refine YF.code T.aaa (by simp) ?_;refine ah ?_;refine RO.afc (ai.cW A) (n:=n) (λH2 d U=>?_) (hz:=by rw[iM];simp);refine RO.fG U λH3 t U=>?_;refine ah ?_;refine RO.cl (afd T λN b hl=>?_);have U:=U.fF hl;refine ah ?_;refine Ru.wk (L:=[(bj,.func HD [] [.aw b 0]),(p3,.aw t 0)]) ?_;have F:fx [AV.cL] n=jK n (λ_=>false) (λ_=>d):=by rw[iM];apply ahU (by simp[jK]);intro j h1 h2;simp[jK,kU]
 rw[F]at U;have U:=U.P1 n;have U:ai A N ([tB lF b [.aw a 0]]++(tB pW t [.slice d 0 n n true]::tB fV d (jK n (λ_=>false) λ_=>d)::ie n (λ_=>false) (λ_=>d) λ_ _=>False)++[]):=by
  have e:ie n (λ_=>false) (λ_=>d) (λ_ _=>False)=af3 n tN:=by apply ahU (by simp[ie]);intro j h1 h2;simp[ie,tO]
  rw[e,ahx];exact U
 refine Ru.aeM (J:=λs ts=>∃D c S,P3 s n D S∧ts=tB pW t [.slice d 0 n n true]::tB fV d (jK n D c)::ie n D c S) U (aeR T V v J L B) ⟨_,_,_,⟨λj hj=>by simp,λj hj x=>by simp⟩,rfl⟩ (λs C q ts us l o1 o2 H O w U=>?_) λH' ag P w U=>?_
 ·obtain⟨D,c,S,p,rfl⟩:=w;refine ah ?_;refine Ru.dO (xs:=tM false q C::tB pW t [.slice d 0 n n true]::tB fV d (jK n D c)::ie n D c S) U λH6 U=>?_;obtain⟨Q,y,r,I,hg,R,W,U⟩:=afb U (λx z=>by have:=O x z;omega) (λj hj hd x z=>by obtain⟨X,G,h1,_⟩:=(p.2 j hj x).1 z;rw[(p.1 j hj).2 ⟨X,G,h1⟩]at hd;cases hd);refine ah ?_;refine Ru.eB (cH:=pM) (H':=Q) T.abZ (M:=[(p3,.aw t 0)]) (λaa u=>hg aa (u.get (p:=sl 4) rfl rfl) (u.get (p:=sl 3) rfl rfl)) ?_;refine ah ?_;refine Ru.bD (ts:=tM false q C::tB pW t [.slice d 0 n n true]::tB fV d (jK n y r)::ie n y r I) U ⟨_,rfl,y,r,I,⟨λj hj=>?_,λj hj x=>?_⟩,rfl⟩;·rw[R j hj,p.1 j hj];simp only[agI,ac3,or_and_right,exists_or,exists_eq_left]
  rw[W j hj,p.2 j hj];simp only[agI,ac3,or_and_right,exists_or,exists_eq_left]
 obtain⟨D,c,S,p,rfl⟩:=w;refine ah ?_;have U:=U.tail;refine Ru.nu (M:=[P]) (U.cO (ag1 (l₁:=tB fV d (jK n D c)::ie n D c S) (l₂:=[]))) λH' U=>⟨[.slice d 0 n n true],⟨rfl,rfl,trivial⟩,ar H' d D c S p ((ahx (ie n D c S))▸U)⟩
end
end
section
section
variable{g:G.bu}{come:List Bool}{os:List (List bU)}{ap:List Nat}{a:List (List Int)}
theorem JH(V:Vd g)(d:xX g come os){b:Nat}(hb:come.getD b false=true){x bC:Int}(h:(x,bC)∈kp (aF g b)):xZ g come os b x:=by
 obtain⟨t,e,i,c⟩:=d.rd b hb _ h;subst e;have:=EA V.gv.v0;refine⟨by simp,by omega,?_⟩;rcases c with c|⟨h1,_⟩|⟨s,h1,_,h3,f⟩;·omega
 ·exact .inr ⟨b,by grind,hb,.I3⟩
 exact .inr ⟨s,by grind,h3,f⟩
theorem P4(V:Vd g)(c:dA g come os)(i:iP g come os ap)(d:jJ g come os a){b w:Nat}(hb:come.getD b false=true)(e:w∈wW g os b){x:Int}(h:x∈a.getD w []):xZ g come os b x:=by have f:=c.lO hb e;obtain⟨h0,h1,h2⟩:=((d.mem w f x).1 h).Ci V.dP c (V.rR come os c) V.gv i f;exact⟨h0,h1,h2.imp id λ⟨s,h3,j,k,l⟩=>⟨s,h3,k,l.da e j⟩⟩
theorem P5(V:Vd g)(c:dA g come os)(i:iP g come os ap)(d:jJ g come os a){b:Nat}(hb:come.getD b false=true){x:Int}(h:x∈lR g a (os.getD b [])):xZ g come os b x:=by
 unfold lR at h;split at h;·rename_i t j;obtain⟨u,hu,e,f,m,_⟩:=wd V.dP c hb j;obtain⟨h0,h1,h2⟩:=P4 V c i d e f h;exact⟨h0,h1,h2.imp id λ⟨s,h3,k,l⟩=>⟨s,h3,k,l.trans (OV V.dP c hu)⟩⟩
 grind
theorem aff(V:Vd g)(d:dA g come os)(i:iP g come os ap)(f:jJ g come os a){b:Nat}(hb:come.getD b false=true):∀k,k≤(aF g b).aA.length→∀x,eL g os a b k x→xZ g come os b x:=by
 have c:=V.rR come os d;intro k;induction k with
 |zero=>
  rintro _ x(h|h|⟨e,he,h⟩|⟨w,j,h⟩);·grind[P5]
  ·exact JH V c hb (Cq h)
  ·exact JH V c hb (Cr he h)
  grind[P4]
 |succ k l=>
  rintro m x(h|h|⟨h,_⟩);·grind[P5]
  ·rw[bE (by omega)]at h;exact JH V c hb (EK _ h)
  grind
theorem P6(V:Vd g)(c:dA g come os){b:Nat}(hb:come.getD b false=true){x p:Int}(h:(x,p)∈dE (aF g b)):xZ g come os b x:=by have h1:=V.tg _ (rQ (c.lt hb)) _ h;exact⟨h1.1,h1.2,.inr ⟨b,by rw[xY,V.gv.at (c.lt hb) h],hb,.I3⟩⟩
theorem afg(V:Vd g)(c:dA g come os){b:Nat}(hb:come.getD b false=true){x:Int}(h:x∈qG g b):xZ g come os b x:=by
 have d:=PN V (c.lt hb) x h;unfold qG at h;split at h;·obtain⟨v,e,rfl⟩:=ag3.1 h;rw[ahV]at e;exact⟨d.1,d.2,.inl (by omega)⟩
 exact P6 V c hb (Jr h)
theorem P7(V:Vd g)(e:dA g come os)(h:iP g come os ap)(f:jJ g come os a){C:Int→Prop}(d:C∈uL g os a ap):∃b,come.getD b false=true∧∀x,C x→xZ g come os b x:=by
 obtain⟨b,hb,d⟩:=ah6.1 d;have c:=(h.mem b).1 hb;refine⟨b,c,λx j=>?_⟩;have k:=aff V e h f c;simp only[Cs,agI,adC,ah6,ahV,yn,ag0,or_false]at d;rcases d with(rfl|⟨i,hi,rfl|rfl⟩)|rfl;·exact j.elim (afg V e c) (k _ (adW _) x)
 ·grind
 ·refine j.elim (λ⟨h1,h2⟩=>?_) (k _ (by simp) x);rw[bE hi]at h1;subst h1;exact P6 V e c (Jq hi h2)
 grind
theorem afh(V:Vd g)(e:dA g come os)(i:iP g come os ap)(d:jJ g come os a){C:Int→Prop}(j:C∈uL g os a ap){x y:Int}(c:C x)(k:C y):x<g.params∨y<g.params∨∃s t:Nat,xY g x=s∧xY g y=t∧come.getD s false=true∧come.getD t false=true∧(eU (wW g os) s t∨eU (wW g os) t s):=by
 obtain⟨b,hb,h⟩:=P7 V e i d j;rcases(h x c).2.2 with h1|⟨s,h1,h2,h3⟩;·omega
 rcases(h y k).2.2 with f|⟨t,f,l,m⟩;·omega
 refine .inr (.inr ⟨s,t,h1,f,h2,l,eU.adJ (C:=λ_=>False) (c:=b) (λ_ c=>c.elim) (λP h0 h1=>e.ind V.dP h0 h1 hb) h3 m⟩)
theorem P8(V:Vd g)(e:dA g come os)(f:iP g come os ap)(c:jJ g come os a){C:Int→Prop}(i:C∈uL g os a ap):EL g C:=λx d=>by obtain⟨b,_,h⟩:=P7 V e f c i;exact⟨(h x d).1,(h x d).2.1⟩
end
end
section
structure JI(CL:List (Int→Prop))(n:Nat)(cl:List (List Int)):Prop where
 len:cl.length=n
 asc:∀j,j<n→(cl.getD j []).Pairwise (·<·)
 mem:∀j,j<n→∀x,x∈cl.getD j []↔∃C∈CL,C j∧C x∧x≠j
theorem P9{n:Nat}{l:List Int}(k:l.Nodup)(hl:∀x∈l,0≤x∧x<n):l.length≤n:=by have:=xV n (l.map Int.toNat) (List.pairwise_map.2 (List.Pairwise.imp_of_mem (λ{x y}b g j e=>j (by have:=hl x b;have:=hl y g;omega)) k)) (λx b=>by obtain⟨y,g,rfl⟩:=ag3.1 b;have:=hl y g;omega);simpa using this
theorem lq.Jf{a:List (List Int)}{g:List AV}{F:List Th}(j:lq a g F){l:List Int}{v:AV}:lq (a++[l]) (g++[v]) (tR 1 (l.map aI) l.length v::F):=by
 have hl:=j.len;refine⟨by simp[hl],λb hb=>?_⟩;simp only[agP,ahj]at hb;by_cases e:b=a.length
 ·subst e;have e1:(a++[l]).getD a.length []=l:=by simp
  have e2:(g++[v]).getD a.length .bX=v:=by rw[←hl];simp
  rw[e1,e2];exact adc ..
 have e1:(a++[l]).getD b []=a.getD b []:=by simp[ahd (show b<a.length by omega)]
 have e2:(g++[v]).getD b .bX=g.getD b .bX:=by simp[ahd (show b<g.length by omega)]
 rw[e1,e2];exact adD _ (j.mem b (by omega))
theorem afj(T:Tb ab){A H:af}{F:List Th}{t0:Th}{b:ac}{n k:Nat}{D:Nat→Bool}{ids:Nat→ac}{S:Nat→Int→Prop}(s:k<n)(t:n≤1000)(u:∀x,S k x→0≤x∧x<n)(w:D k=false→∀x,¬S k x)(U:ai A H (tZ F::t0::tB fV b (jK n D ids)::ie n D ids S)):YF ab (.func Nw [] []) [kU D ids k] H λv H'=>∃l:List Int,(∀x,x∈l↔S k x)∧l.Pairwise (·<·)∧v.bB=true∧v.dQ=true∧v.cells=[v]∧ai A H' (tZ (tR 1 (l.map aI) l.length v::F)::t0::tB fV b (jK n D ids)::ie n D ids S):=by
 unfold kU;cases hd:D k with
 |true=>
  have hat:(tZ F::t0::tB fV b (jK n D ids)::ie n D ids S)[3+k]?=some (tM false (ids k) (S k)):=by have:=rS (xs:=[tZ F,t0,tB fV b (jK n D ids)]) (m:=[]) (JG (D:=D) (ids:=ids) (S:=S) s);rw[hd,ahx]at this;exact this
  refine aeC T U _ hat (λks g y=>ahY (P9 g λx z=>u x ((y x).1 z)) t) λH' v l h1 h2 U=>?_;have j:Sl H' 1 (l.map aI) l.length v:=by obtain⟨_,e⟩:=U.get 0 rfl;exact e.1
  have⟨p,q,r,_⟩:=j.all;exact⟨l,h1,h2,p,q,r,U.lJ⟩
 |false=>refine YF.gZ (v:=.aP) (H':=H) T.Ik rfl ⟨[],λx=>⟨λC=>absurd C (by simp),λC=>absurd C (w hd x)⟩,aiv,rfl,rfl,rfl,?_⟩;exact((U.oG 3 1).as 0 rfl λB e=>tS.lL e).lJ
section
variable{g:G.bu}{c f h i:AV}{d m:ac}{A H:af}{o:List AV}{come:List Bool}{os:List (List bU)}{ap:List Nat}{a:List (List Int)}
theorem afk(T:Tb ab)(V:Vd g)(hF:FX g A d c f h i o come os ap a)(Z:dA g come os)(hO:iP g come os ap)(B:jJ g come os a){n:Nat}(hn:g.bi=n)(L:n≤1000){K:AV→af→Prop}(a6:∀H' v cl,JI (uL g os a ap) n cl→bf A H'→Cm H' cl v→K v H'):YF ab (.func Nj [] []) [.aw d 0] A K:=by
 refine YF.code T.Z' (by simp) ?_;refine ah ?_;refine RO.cl (afe T V hF Z hO B hn λH1 qs D q S s U=>?_);refine ah ?_;have U:=(U.oG gp 1).rH;refine Ru.nm λS0 M hS hM=>?_;refine Ru.cA hM (up (P:=λk=>∀G r(cl:List (List Int))F v,cl.length=k→lq cl r F→(∀j,j<k→(cl.getD j []).Pairwise (·<·)∧∀x,x∈cl.getD j []↔∃C∈uL g os a ap,C j∧C x∧x≠j)→ai A G (tZ F::tS gp 1 r k true v::tB fV qs (jK n D q)::ie n D q S)→Ru ab _ S0 ([(p8,aN k),(p2,v)]++pk M [p6,p7]) G) n (λk hk H G r cl F v t y z U=>?_) 0 (by omega) _ [] [] [] .aP rfl ⟨rfl,λb hb=>absurd hb (by simp)⟩ (λj hj=>by omega) U);subst hS;subst hM;have⟨ag,ar,av,_⟩:=(U.sl (e:=gp) (size:=1) (sv:=v) (vs:=r) (n:=k) (full:=true) 1).all;refine Ru.loop ?_;refine au ?_;refine Ru.cond (λp=>?_) (λp=>?_)
 ·have N:(jK n D q)[0+k*1]?=some (kU D q k):=by rw[show 0+k*1=k by omega];simp only[jK,ahc,List.getElem?_range p,ahb]
  have H:=H (k+1) (by omega) (by omega);have E:=afj T (S:=S) p L (λx I=>by obtain⟨C,J,_,h2,_⟩:=(s.2 k p x).1 I;have:=P8 V Z hO B J x h2;omega) (λhd x I=>by obtain⟨C,J,h1,_⟩:=(s.2 k p x).1 I;rw[(s.1 k p).2 ⟨C,J,h1⟩]at hd;cases hd) U;have O:(kU D q k).bB=true:=by unfold kU;split<;>rfl
  refine ah ?_;refine RO.gM U 2 (hv:=N) ?_;generalize kU D q k=u at O E⊢;refine ah ?_;refine RO.cl (E.mono ?_);rintro w H7⟨l,P,Q,R,ax,W,U⟩;refine ah ?_;refine RO.push U 1 (λw0 H8 v2 U=>?_) (ws:=[w]) (hl:=kr rfl R W rfl rfl rfl);have⟨ay,a1,a2,_⟩:=(U.sl (e:=gp) (size:=1) (n:=k+1) (full:=true) (sv:=v2) 1).all;refine ah ?_;exact Ru.wk (H _ (r++[w]) (cl++[l]) _ v2 (by simp[t]) y.Jf (λj hj=>by
   by_cases e:j=k
   ·subst e;have e1:(cl++[l]).getD j []=l:=by rw[←t];simp
    rw[e1];exact⟨Q,λx=>(P x).trans (s.2 j p x)⟩
   have e1:(cl++[l]).getD j []=cl.getD j []:=by simp[ahd (show j<cl.length by omega)]
   rw[e1];exact z j (by omega)) U)
 refine Ru.exitTo ?_;obtain rfl:k=n:=by omega
 refine ah ?_;have X:=y.len;have Y:=U.sl (e:=gp) (size:=1) (sv:=v) (vs:=r) (n:=k) (full:=true) 1;refine Ru.aT (a6 _ v cl ⟨t,λj hj=>(z j hj).1,λj hj=>(z j hj).2⟩ U.gr (y.sl U 0 rfl (by rw[X,t];exact Y)))
theorem afl(T:Tb ab)(V:Vd g){cs:List AV}(hg:iD H g cs){n:Nat}(u:g.bi=n)(k:n≤1000){K:AV→af→Prop}(G:∀H' v cl come os ap a,dA g come os→iP g come os ap→jJ g come os a→JI (uL g os a ap) n cl→bf H H'→Cm H' cl v→K (.tuple [v,aI 0]) H'):YF ab (.func VB [] []) [.agg cs,.func Nj [] []] H K:=by have t:=hg.one;obtain⟨c,rfl,co⟩:=hg;have⟨y,z,A,B⟩:=co.all;refine YF.code T.Z9 (by simp) ?_;refine au ?_;refine RO.dS (ai.cW H) λH1 m U=>?_;refine ah ?_;refine RO.eG U 0 ?_;refine RO.cl (aeo T V (cs:=[.aC g.name,aI g.params,aI g.bi,c]) ⟨c,rfl,dH.block.jD U.gr co⟩ λF d C f h i o come os ap a r s b l w=>?_);refine ah ?_;refine RO.cl (afk T V w r s b u k λx v cl p j e=>?_);have⟨q,D,E,_⟩:=e.all;refine ah ?_;exact Ru.nS (vs:=[v,aI 0]) ⟨rfl,q,rfl,rfl,trivial⟩ (G x v cl come os ap a r s b p ((U.gr.trans l).trans j) e)
theorem afm(T:Tb ab)(V:Vd g){cs:List AV}(hg:iD H g cs){n:Nat}(r:g.bi=n)(e:n≤1000){K:AV→af→Prop}(C:∀H' v cl come os ap a,dA g come os→iP g come os ap→jJ g come os a→JI (uL g os a ap) n cl→bf H H'→Cm H' cl v→K (.tuple [v,aI 0]) H'):YF ab (.func Vn [] []) [.agg cs] H K:=by have q:=hg.one;obtain⟨c,rfl,co⟩:=hg;have⟨w,x,y,z⟩:=co.all;refine YF.code T.ZV (by simp) ?_;refine au ?_;refine RO.dS (ai.cW H) λH1 m U=>?_;refine ah ?_;refine RO.eG U 0 ?_;refine RO.cl (afl T V (cs:=[.aC g.name,aI g.params,aI g.bi,c]) ⟨c,rfl,dH.block.jD U.gr co⟩ r e λs v cl come os ap a t u j k l b=>?_);have⟨p,A,B,_⟩:=b.all;refine ah ?_;exact Ru.nS (vs:=[v,aI 0]) ⟨rfl,p,rfl,rfl,trivial⟩ (C s v cl come os ap a t u j k (U.gr.trans l) b)
end
end
section
section
variable{g:G.bu}{H:af}{cs:List AV}
theorem afn(T:Tb ab)(ag:∀{H:af}{K:AV→af→Prop},(∀H',bf H H'→K (.bool true) H')→YF ab (.func Ni [] []) [] H K)(hg:iD H g cs)(hY:Cf g){K:AV→af→Prop}(h:∀H',bf H H'→K (.bool true) H'):YF ab (.func Vj [] []) [.agg cs] H K:=by
 have dv:=hg.one;have u:=hg;obtain⟨vb,rfl,co⟩:=hg;have bb:=co;have⟨d1,_,_,d2⟩:=co.all;refine YF.code T.ZR (by simp) ?_;refine ah ?_;refine RO.dS (ai.cW H) λH1 q1 U=>?_;refine ah ?_;refine RO.eG U 0 ?_;refine RO.cl (aeW T (dH.mU U.gr u) hY (λH2 hg q=>?_) (λH2 hg=>?_));rotate_left;·have U:=U.cV hg;refine ah ?_;refine RO.cl (ag λH3 hg=>?_);have U:=U.cV hg;refine ah ?_;exact Ru.aT (h _ U.gr)
 have U:=U.cV hg;have V:=aeZ q;obtain⟨bc,c9⟩:=JA q.kq q.Jz;have W:=q.Cu;have d4:=W.p0;have d5:=W.p1;obtain⟨n,hn⟩:∃n:Nat,g.bi=n:=⟨g.bi.toNat,by omega⟩;have hN:g.bi.toNat=n:=by omega
 refine ah ?_;refine RO.eG U 0 ?_;refine RO.cl (ae8 T (dH.mU U.gr u) (by omega) (λb hb=>⟨q.kq.sm.bl b hb,q.kq.sm.st b hb,q.kq.sm.ed b hb⟩) λH3 d7 hg ar=>?_);have U:=U.cV hg;have c':=ar.one;refine RO.cl (afm T V ar hn (by omega) λH4 e6 cl dx os ap lv hK hO av J hg d=>?_);have U:=U.cV hg;have⟨d',_,_,ec⟩:=d.all;have hE:=V.dP;obtain⟨c1,o1,ei,ej,hI,hD,_,_,_⟩:=q.right.ex;have hS:=W.sh;have bd:=J.len;have U:ai H H4 [tB fC q1 [.aC g.name,aI g.params,aI g.bi,vb]]:=U;refine ah ?_;refine Ru.cond (λg1=>absurd (show ahI cl.length=g.bi by rw[bd,hn];rfl) g1) (λ_=>?_);refine ah ?_;refine RO.eG U 0 ?_;refine RO.eG U 0 ?_;refine RO.Jh (PD T (dH.mU U.gr u) q.kq.sm hS bc λH5 dz r Fd i w ax hl=>⟨λaa b6=>?_,?_⟩);·obtain⟨_,hp⟩:=(U.fF hl).get 2 rfl;obtain⟨_,d,_⟩:=bb;exact Ji (i:=q1) (o:=0) (vs:=[.aC g.name,aI g.params,aI g.bi,vb]) b6 (by(conv=>lhs;whnf)<;>rfl) (by(conv=>lhs;whnf)<;>rfl) (PE (Sl.fM d)) (tB.pj hp (m:=4) (by show 0+4≤4;omega)) rfl
 have b':=hl.gr;have U:=U.fF hl;obtain⟨qd,cap,ex,rfl⟩:=U.uj (e:=61) (size:=1) (n:=g.aj.length) (full:=true) (sv:=dz) 1 rfl (by have:=hS.ne;omega);refine RO.cl (PB T (dH.mU U.gr u) q.kq.sm W (by omega) λH6 qg gl z hl=>?_);have d:=dH.Pp.jD (b'.trans hl.gr) d;have U:ai H H6 [tS 3 1 (gl.map aI) g.bi.toNat true (.slice qg 0 g.bi.toNat g.bi.toNat true),tZ Fd,tS 61 1 r g.aj.length true (.slice qd 0 g.aj.length cap ex),tB fC q1 [.aC g.name,aI g.params,aI g.bi,vb]]:=U.fF hl;have ca:=z.len;rw[hN]at U ca;refine ah ?_;have A:∀y(h:y<gl.length),(gl.map aI)[0+y*1]?=some (aI gl[y]):=λy h=>by rw[show 0+y*1=y by omega,ahc,getElem?_pos gl y h];rfl
 have ek:=w.len;have dy:=ax.len;obtain⟨_,_,_,_,_,R⟩:=w.ex;have B:∀y,y<g.aj.length→r[0+y*1]?=some (r.getD y .bX)∧Sl H6 1 ((i.getD y []).map .bool) (i.getD y []).length (r.getD y .bX)∧(i.getD y []).length=g.aj.length:=λy h=>by obtain⟨_,hp,_,_⟩:=U.mC 1 rfl (ax.mem y (by omega));exact⟨by rw[show 0+y*1=y by omega,getElem?_pos r y (by omega),bE (by omega)],hp,(R y h).len⟩
 have bv:∀v,v<n→∀x∈cl.getD v [],(0≤x∧x<n)∧∀a b:Int,a=gl.getD v 0→b=gl.getD x.toNat 0→0≤a→0≤b→∃s t:Nat,a=s∧b=t∧s<g.aj.length∧t<g.aj.length∧((i.getD s []).getD t false=true∨(i.getD t []).getD s false=true):=λv hv x hx=>by
  obtain⟨C,ay,cd,a1,_⟩:=(J.mem v hv x).1 hx;have e:=P8 V hK hO av ay x a1;refine⟨by rw[←hn];exact e,λa b ha hb h0 h1=>?_⟩;have f:∀y:Int,0≤y→y<g.params→gl.getD y.toNat 0= -1:=λy el hy=>z.aK _ (by omega);rcases afh V hK hO av ay cd a1 with h2|h2|⟨s,t,h2,h3,h4,h5,X⟩;·have:=f v (by omega) h2;rw[agK]at this;omega
  ·have:=f x e.1 h2;omega
  have cf:g.params≤(v:Int):=by refine Int.not_lt.1 λh=>?_;have:=f v (by omega) h;rw[agK]at this;omega
  have cn:g.params≤x:=by refine Int.not_lt.1 λh=>?_;have:=f x e.1 h;omega
  obtain⟨s',L,e1,e2⟩:=JC W V.gv z cf (by omega);obtain⟨t',N,e3,e4⟩:=JC W V.gv z cn e.2;rw[agK]at e1;obtain rfl:s=s':=by rw[h2]at e2;omega
  obtain rfl:t=t':=by rw[h3]at e4;omega
  refine⟨s,t,by rw[ha,e1],by rw[hb,e3],L,N,?_⟩;rcases X with X|X;·exact .inl ((Jx hS hE hI hD hK w L N).2 ⟨h4,h5,X⟩)
  exact .inr ((Jx hS hE hI hD hK w N L).2 ⟨h5,h4,X⟩)
 refine Ru.nm λS0 M cp hM=>?_;refine Ru.cA hM (up (P:=λv=>Ru ab _ S0 ([(p7,aN v)]++pk M [p1,p3,p5,p6]) H6) n (λv hv ih=>?_) 0 (by omega));subst cp;subst hM;refine Ru.loop ?_;refine ah ?_;refine Ru.cond (λa2=>?_) (λa2=>?_)
 ·have a6:v<n:=by omega
  have ih:=ih (v+1) (by omega) (by omega);have O:=bv v a6;have m:=J.asc v a6;have cv:cl.getD v []=cl[v]:=bE a2 _;rw[cv]at O m;have er:cl[v].length≤300:=by have:=P9 (n:=n) (m.imp λh=>Int.ne_of_lt h) λx hx=>(O x hx).1;omega
  refine ah ?_;refine Ru.nm λS1 M1 cx a8=>?_;refine Ru.cA a8 (up (P:=λk=>Ru ab _ S1 ([(p8,aN k)]++pk M1 [p1,p3,p5,p6,p7]) H6) cl[v].length (λk hk c=>?_) 0 (by omega));subst cx;subst a8;refine Ru.loop ?_;refine ah ?_;refine RO.cP (bf.refl _) d (λq9 o9 ds a' j ba hat hrd=>?_) (j:=v);obtain⟨rv,rfl,D⟩:=j;have⟨b0,_,_,b3⟩:=D.all;refine RO.aW (v:=rv) ?_ (hc:=hat 0 _ rfl);refine ah ?_;refine Ru.cond (λP=>?_) (λP=>?_)
  ·have c:=c (k+1) (by omega) (by omega);have E:=O _ (af0 P);refine ah ?_;refine RO.cP (bf.refl _) d (λq9 o9 ds a' j ba hat hrd=>?_) (j:=v);obtain⟨rv,rfl,D⟩:=j;have⟨b0,_,_,b3⟩:=D.all;refine RO.aW (v:=rv) ?_ (hc:=hat 0 _ rfl);refine ah ?_;refine RO.oH (bf.refl _) D (λq8 o8 cy cE=>?_) (j:=k);have S:∀(h0:0<k),cl[v][k - 1]<cl[v][k]:=λh0=>List.pairwise_iff_getElem.1 m (k - 1) k (by omega) P (by omega);generalize et:cl[v][k]=x at*;obtain⟨⟨ew,e0⟩,E⟩:=E;obtain⟨x,rfl⟩:∃y:Nat,x=y:=⟨x.toNat,by omega⟩;refine ah ?_;refine RO.cX (λb1=>absurd (show g.bi≤(x:Int)from b1) (by omega)) (λ_=>?_);refine ah ?_;refine RO.cX (λb2=>?_) (λb2=>?_)
   ·have b2:0<k:=b2;have e5:=S b2;refine ah ?_;refine RO.cP (bf.refl _) d (λq9 o9 ds a' j ba hat hrd=>?_) (j:=v);obtain⟨c8,rfl,F⟩:=j;have⟨dm,_,_,dr⟩:=F.all;refine ah ?_;refine RO.aW (v:=c8) ?_ (hc:=hat 0 _ rfl);refine ah ?_;refine RO.arith (v:=aN (k - 1)) ?_ (hv:=nU (k:=k) (by omega) (by omega));refine ah ?_;refine RO.oH (bf.refl _) F (λq8 o8 cy cE=>?_) (j:=k - 1);refine ah ?_;refine Ru.cond (p:=(x:Int)≤cl[v][k - 1]) (λd0=>absurd d0 (by omega)) (λ_=>?_);refine ah ?_;refine RO.eH U 0 (hv:=A v (by omega)) ?_;refine ah ?_;refine RO.eH U 0 (hv:=A x (by omega)) ?_;have ea:gl[v]=gl.getD v 0:=(bE (by omega) _).symm;have eb:gl[x]=gl.getD x 0:=(bE (by omega) _).symm;have o:=E gl[v] gl[x] ea (by rw[agK];exact eb);generalize gl[v]=a at*;generalize gl[x]=b at*;refine ah ?_;refine RO.cX (λc1=>?_) (λc1=>?_);rotate_left;·refine ah ?_;exact Ru.wk c
    have c1:0≤a:=c1;refine ah ?_;refine RO.cX (λc2=>?_) (λc2=>?_);rotate_left;·refine ah ?_;exact Ru.wk c
    have c2:0≤b:=c2;obtain⟨s,t,rfl,rfl,hs,ht,l⟩:=o c1 c2;obtain⟨Y,G,d3⟩:=B s hs;obtain⟨Z,I,d6⟩:=B t ht;generalize r.getD s .bX=rs at Y G;generalize r.getD t .bX=rt at Z I;have⟨b4,_,_,_⟩:=G.all;have⟨b5,_,_,_⟩:=I.all;have f1:(i.getD s []).getD t false=(i.getD s [])[t]'(by omega):=bE _ _;have f2:(i.getD t []).getD s false=(i.getD t [])[s]'(by omega):=bE _ _;rw[f1,f2]at l;refine ah ?_;refine RO.eH U 2 (hv:=Y) ?_;refine ah ?_;refine RO.jX (bf.refl _) G (λq7 o7 Q p=>?_) (j:=t);refine ah ?_;refine RO.pR (λc3=>?_) (λc3=>?_);rotate_left;·refine ah ?_;exact Ru.wk c
    refine ah ?_;refine RO.eH U 2 (hv:=Z) ?_;refine ah ?_;refine RO.jX (bf.refl _) I (λq7 o7 Q p=>?_) (j:=s);refine ah ?_;refine Ru.kh (λc4=>?_) (λc4=>?_)
    ·exfalso;rcases l with h|h;·rw[h]at c3;cases c3
     rw[h]at c4;cases c4
    refine ah ?_;exact Ru.wk c
   refine ah ?_;refine RO.eH U 0 (hv:=A v (by omega)) ?_;refine ah ?_;refine RO.eH U 0 (hv:=A x (by omega)) ?_;have ea:gl[v]=gl.getD v 0:=(bE (by omega) _).symm;have eb:gl[x]=gl.getD x 0:=(bE (by omega) _).symm;have o:=E gl[v] gl[x] ea (by rw[agK];exact eb);generalize gl[v]=a at*;generalize gl[x]=b at*;refine ah ?_;refine RO.cX (λc1=>?_) (λc1=>?_);rotate_left;·refine ah ?_;exact Ru.wk c
   have c1:0≤a:=c1;refine ah ?_;refine RO.cX (λc2=>?_) (λc2=>?_);rotate_left;·refine ah ?_;exact Ru.wk c
   have c2:0≤b:=c2;obtain⟨s,t,rfl,rfl,hs,ht,l⟩:=o c1 c2;obtain⟨Y,G,d3⟩:=B s hs;obtain⟨Z,I,d6⟩:=B t ht;generalize r.getD s .bX=rs at Y G;generalize r.getD t .bX=rt at Z I;have⟨b4,_,_,_⟩:=G.all;have⟨b5,_,_,_⟩:=I.all;have f1:(i.getD s []).getD t false=(i.getD s [])[t]'(by omega):=bE _ _;have f2:(i.getD t []).getD s false=(i.getD t [])[s]'(by omega):=bE _ _;rw[f1,f2]at l;refine ah ?_;refine RO.eH U 2 (hv:=Y) ?_;refine ah ?_;refine RO.jX (bf.refl _) G (λq7 o7 Q p=>?_) (j:=t);refine ah ?_;refine RO.pR (λc3=>?_) (λc3=>?_);rotate_left;·refine ah ?_;exact Ru.wk c
   refine ah ?_;refine RO.eH U 2 (hv:=Z) ?_;refine ah ?_;refine RO.jX (bf.refl _) I (λq7 o7 Q p=>?_) (j:=s);refine ah ?_;refine Ru.kh (λc4=>?_) (λc4=>?_)
   ·exfalso;rcases l with h|h;·rw[h]at c3;cases c3
    rw[h]at c4;cases c4
   refine ah ?_;exact Ru.wk c
  refine Ru.exitTo ?_;refine ah ?_;exact Ru.wk ih
 refine Ru.exitTo ?_;refine ah ?_;refine RO.cl (ag λH7 hg=>?_);have U:=U.cV hg;refine ah ?_;exact Ru.aT (h _ U.gr)
end
end
end
end Go.ak.R
namespace Go.ak
section
variable[Ov]
section
variable{P:Program}
def afo(w:World):cJ:=⟨λb=>w.heap.size≤b,λ_=>True,λ_=>False,λ_=>False⟩
end
section
variable{P:Program}
def mE(n c:Nat):Value→AV
 |.int k m=>.int (kc k) m
 |.bool b=>.bool b
 |.string t=>.aC (t.data.toList.map aib)
 |.slice none 0 0=>.aP
 |.slice (some a) len cap=>if len≤cap then(if cap=0 then(if 0<c then .slice (ac.dj n) 0 0 0 true else .bX)else match a with
   |⟨b,off,none⟩=>if b<c then .slice (ac.dj (n+b)) off len cap true else .bX
   |_=>.bX)else .bX
 |_=>.bX
def yo(P:Program)(n:Nat)(w:World):aL:=⟨λj=>if j.al≤n then some (j.al - 1,0)else if j.al≤n+w.heap.size then some (j.al - n - 1,0)else none,λb=>match w.heap[b]? with
 |some (.cells cs e _)=>(cs.size,(fE P e).getD 0)
 |_=>(0,0)⟩
theorem JJ{n b:Nat}{w:World}(h:b<w.heap.size):yo P n w (ac.dj (n+b))=some (b,0):=by show(if(ac.dj (n+b)).al≤n then _ else _)=_;rw[ac.lS,an (by omega),aH (by omega)];congr 2;omega
theorem Qa{n:Nat}{w:World}(v:Value):VR (yo P n w) (mE n w.heap.size v) v:=by
 unfold mE;split;·trivial
 ·rfl
 ·rfl
 ·trivial
 ·split
  ·rename_i h1;split
   ·rename_i h2;subst h2;split;·rename_i h3;simp only[VR];exact⟨by omega,adW _,adW _,λ_=>trivial,0,0,by have:=JJ (P:=P) (n:=n) h3;omega,λh=>absurd rfl h,λh=>by simp⟩
    trivial
   split;·rename_i b off;split;all_goals simp_all[VR,trivial,adW,JJ,agW]
   trivial
  trivial
 trivial
def qH(n:Nat)(w:World)(b:Nat):b9:=match w.heap[b]? with
 |some (.cells cs e _)=>.cells (cM (cs.toList.map (mE n w.heap.size))) cs.size e false [] 0
 |_=>.none
def EP(n:Nat)(w:World):Nat→am b9
 |0=>.aJ
 |k+1=>(EP n w k).set .none (ac.dj (n+k)) (qH n w k)
def mF(n:Nat)(w:World):af:=⟨EP n w w.heap.size,ac.dj (n+w.heap.size)⟩
theorem Qb(n:Nat)(w:World)(j:ac):∀k,am.get b9.none j (EP n w k)=if n<j.al∧j.al≤n+k then qH n w (j.al - n - 1)else .none
 |0=>by rw[an (by omega)];exact qV j j
 |k+1=>by
  rw[EP,am.aD,Qb n w j k];have e:j=ac.dj (n+k)↔j.al=n+k+1:=⟨λe=>by rw[e,ac.lS],λe=>ac.tL (by rw[ac.lS];exact e)⟩;by_cases h:j.al=n+k+1;·rw[aH (e.2 h),aH (by omega)];congr 1;omega
  rw[an λa=>h (e.1 a)];by_cases h2:n<j.al∧j.al≤n+k;·rw[aH h2,aH (by omega)]
  rw[an h2,an (by omega)]
theorem Qc(n:Nat)(w:World)(j:ac):(mF n w).get j=if n<j.al∧j.al≤n+w.heap.size then qH n w (j.al - n - 1)else .none:=Qb n w j _
theorem Qd{n b:Nat}{w:World}(h:b<w.heap.size):(mF n w).get (ac.dj (n+b))=qH n w b:=by rw[Qc,ac.lS,aH (by omega)];congr 1;omega
theorem afp{n b:Nat}{w:World}{cs:Array Value}{e:TypeId}{fr:Nat×Nat}(h:w.heap[b]?=some (.cells cs e fr)):OR P (yo P n w) (qH n w b) 0 (.cells cs e fr):=by simp only[qH,h,OR];simp_all[trivial,i,agW,getElem?_pos,zE,aht,Array.getElem_toList,Qa]
theorem afq{n:Nat}{w:World}(E:P.globals.size=n)(F:n≤w.heap.size):bt P (afo w) (yo P n w) (mF n w) w:=by
 have hg:=Qc n w;have key:∀i,(mF n w).get i≠.none→∃b c e f,i.al=n+b+1∧b<w.heap.size∧w.heap[b]?=some (.cells c e f)∧(mF n w).get i=qH n w b∧yo P n w i=some (b,0):=by
  intro i hi;have r:=hg i;rw[r]at hi;split at hi
  ·rename_i h;have hb:i.al - n - 1<w.heap.size:=by omega
   have p:=hi;unfold qH at p;split at p;·rename_i cs e f z;refine⟨i.al - n - 1,cs,e,f,by omega,hb,z,by rw[r,aH h],?_⟩;rw[show i=ac.dj (n+(i.al - n - 1))from ac.tL (by rw[ac.lS];omega)];have:=JJ (P:=P) (n:=n) hb;rw[this,ac.lS];congr 2;omega
   exact absurd rfl p
  exact absurd rfl hi
 have l:∀b c e f,w.heap[b]?=some (.cells c e f)→qH n w b=.cells (cM (c.toList.map (mE n w.heap.size))) c.size e false [] 0:=λb c e f h=>by simp only[qH,h]
 have s:∀i j,i∉((mF n w).get j).aK:=λi j h=>by
  by_cases hj:(mF n w).get j=.none;·rw[hj]at h;cases h
  obtain⟨b,c,e,f,_,_,h3,o,_⟩:=key j hj;rw[o,l b c e f h3]at h;cases h
 refine⟨λi hi=>?_,λi j b x y u hi hj a m=>?_,λi j h=>absurd h (s i j),λi b x hi v q=>?_,λi hi=>?_,λk A=>⟨A,trivial⟩,λg h=>?_,λi b x G hi a m=>?_,λi b x q=>?_,λi b x _ _=>trivial,λi h=>h.elim,λi h=>h.elim⟩;·obtain⟨b,c,e,f,_,_,h3,o,t⟩:=key i hi;exact⟨b,0,_,t,h3,by rw[o];exact afp h3⟩
 ·exfalso;obtain⟨b1,_,_,_,i1,_,_,_,B⟩:=key i hi;obtain⟨b2,_,_,_,i2,_,_,_,C⟩:=key j hj;rw[B]at a;rw[C]at m;injection a with a;injection a with a;injection m with m;injection m with m;exact u (ac.tL (by omega))
 ·obtain⟨b1,c,e,f,_,_,h3,o,_⟩:=key i hi;rw[o,l b1 c e f h3]at v;cases v
 ·have D:n+w.heap.size+1≤i.al:=by have:(ac.dj (n+w.heap.size)).al≤i.al:=hi;rw[ac.lS]at this;exact this
  refine⟨by rw[hg,an (by omega)],?_⟩;show(if i.al≤n then _ else _)=_;rw[an (by omega),an (by omega)]
 ·show(if(ac.dj g).al≤n then _ else _)=_;rw[ac.lS,aH (by omega)];simp
 ·obtain⟨b1,c,e,f,_,_,h3,o,t⟩:=key i hi;rw[t]at a;injection a with a;injection a with a;subst a;rw[h3]at m;injection m with m;subst m;rw[o,l b1 c e f h3];simp only[gB];show(match w.heap[b1]? with|some (.cells cs e _)=>(cs.size,(fE P e).getD 0)|_=>(0,0))=_;rw[h3]
 have d:(if i.al≤n then some (i.al - 1,0)else if i.al≤n+w.heap.size then some (i.al - n - 1,0)else none)=some (b,x):=q;have:=ac.tJ i;split at d;·injection d with d;injection d with d;omega
 split at d;·injection d with d;injection d with d;omega
 cases d
end
section
variable{P:Program}{K:Type}{eA:TypeId×Value→K}{w:World}{n:Nat}
def nG(eA:TypeId×Value→K)(P:Program)(w:World)(t:TypeId)(cs:List Value):Prop:=∃fuel x,DataW.trod eA P w 0 (λ_=>true) true fuel t cs=some x
theorem Qe{a:Addr}{v:Value}(h:w.cell? a=some v):∃c e f,a.spot=none∧w.heap[a.block]?=some (.cells c e f)∧c[a.off]?=some v:=by unfold World.cell? at h;split at h;all_goals simp_all
theorem Qf{b off i:Nat}:(⟨b,off,none⟩:Addr).add i=⟨b,off+i,none⟩:=by simp[Addr.add]
theorem Qg{c:Type}{Q:Nat→c→Prop}:∀{len:Nat},(∀i,i<len→∃a,Q i a)→∃b:List c,b.length=len∧∀i(h:i<b.length),Q i b[i]|0,_=>⟨[],rfl,λi h=>absurd h (by simp)⟩|len+1,h=>by obtain⟨b,h1,h2⟩:=Qg (len:=len) λi hi=>h i (by omega);obtain⟨a,d⟩:=h len (by simp);refine⟨b++[a],by grind,λi hi=>?_⟩;grind
theorem Cv{M:Type}{R:af→M→List AV→Prop}{X:M→Prop}{t e:TypeId}{size:Nat}(ht:P.underlying t=some (.slice e))(A:P.cellsOf e=size)(S:0<size)(hg:∃c e f,w.heap[0]?=some (.cells c e f))(T:∀cs,nG eA P w e cs→∃a:M,R (mF n w) a (cs.map (mE n w.heap.size))∧X a){cs:List Value}(h:nG eA P w t cs):∃v N,cs=[v]∧dL size R (mF n w) N (mE n w.heap.size v)∧∀a∈N,X a:=by
 obtain⟨fuel,x,h⟩:=h;obtain⟨c0,e0,f0,V⟩:=hg;have B:0<w.heap.size:=(Array.getElem?_eq_some_iff.1 V).1;rcases DataW.trod_slice ht h with⟨rfl,_⟩|⟨a,len,cap,r,I,m,_,rfl,_,_,C,_,ax,J,s,_⟩;·exact⟨_,[],rfl,⟨[],.inl ⟨rfl,rfl,rfl⟩,λk l=>absurd l (by simp)⟩,λa h=>by grind⟩
 have D:∀i,i<cap→∃cs,w.cells? 0 (a.add (i*size)) size=some cs∧(i<len→∃y,DataW.trod eA P w 0 (λ_=>true) true m e cs=some y):=λi hi=>by
  by_cases hl:i<len;·have h1:=J i hl;rw[getElem?_pos r i (by omega),acR]at h1;obtain⟨cs,h2,h3⟩:=h1;rw[A]at h2;exact⟨cs,h2,λ_=>⟨_,h3⟩⟩
  obtain⟨h0,h1⟩:=s rfl;have h1:=h1 (i - len) (by omega);rw[getElem?_pos I _ (by omega),acR]at h1;obtain⟨cs,h2,_⟩:=h1;rw[A,show len+(i - len)=i by omega]at h2;exact⟨cs,h2,λh=>absurd h hl⟩
 by_cases E:cap=0
 ·subst E;obtain rfl:len=0:=by omega
  refine⟨_,[],rfl,⟨[],?_,λk l=>absurd l (by simp)⟩,λa h=>by grind⟩;simp only[mE,adW,bm,B];refine .inr ⟨ac.dj n,0,0,true,cM (c0.toList.map (mE n w.heap.size)),c0.size,e0,false,[],0,rfl,?_,by simp,by simp,λj hj=>absurd hj (by simp),?_,adW _⟩;·have:=Qd (n:=n) B;simp_all[ail,qH]
  show(ac.dj n).al<(ac.dj (n+w.heap.size)).al;simp_all[ac.lS]
 obtain⟨W,h1,_⟩:=D 0 (by omega);obtain⟨_,ay,Y⟩:=World.cells?_some h1;have F:=Y 0 S;rw[getElem?_pos W 0 (by omega)]at F;obtain⟨c,e',f',q,d,g⟩:=Qe F;have Z:(a.add (0*size)).add 0=a:=by rw[Nat.zero_mul];unfold Addr.add;simp
 rw[Z]at q d g;obtain⟨b,off,sp⟩:=a;simp only at q d g;subst q;have co:b<w.heap.size:=(Array.getElem?_eq_some_iff.1 d).1;have cell:∀i,i<cap→∃cs,cs.length=size∧(∀j(h:j<cs.length),c[off+i*size+j]?=some cs[j])∧(i<len→∃y,DataW.trod eA P w 0 (λ_=>true) true m e cs=some y):=λi hi=>by obtain⟨cs,O,u⟩:=D i hi;obtain⟨_,z,Q⟩:=World.cells?_some O;refine⟨cs,z,λj hj=>?_,u⟩;have g5:=Q j (by omega);rw[getElem?_pos cs j hj,Qf,Qf]at g5;obtain⟨c',_,_,_,o,g7⟩:=Qe g5;simp only at o g7;rw[d]at o;injection o with o;injection o with o;subst o;exact g7
 have K:off+len*size≤c.size:=by
  by_cases ag:len=0;·subst ag;have:=(Array.getElem?_eq_some_iff.1 g).1;omega
  obtain⟨cs,O,u,_⟩:=cell (len - 1) (by omega);have:=(Array.getElem?_eq_some_iff.1 (u (size - 1) (by omega))).1;have e:len*size=(len - 1)*size+size:=by conv=>lhs;rw[show len=len - 1+1 by omega,Nat.succ_mul]
  omega
 have L:mE n w.heap.size (.slice (some ⟨b,off,none⟩) len cap)=.slice (ac.dj (n+b)) off len cap true:=by simp only[mE,C,E,co,bm,bK]
 let p:List AV:=(agV (len*size)).map λj=>mE n w.heap.size (c.getD (off+j) default);have G:p.length=len*size:=by simp[p]
 have ar:∀i,i<len→∃a:M,R (mF n w) a ((p.drop (i*size)).take size)∧X a:=λi hi=>by
  obtain⟨cs,O,u,z⟩:=cell i (by omega);obtain⟨y,z⟩:=z hi;obtain⟨a,r1,r2⟩:=T cs ⟨m,y,z⟩;refine⟨a,?_,r2⟩;suffices e:(p.drop (i*size)).take size=cs.map (mE n w.heap.size)by rw[e];exact r1
  have a1:i*size+size≤len*size:=by rw[←Nat.succ_mul];exact ahf _ hi
  apply ahU;·rw[ahl,aih,G,agZ,O];omega
  intro j h1 h2;rw[agZ]at h2;have Q:=u j h2;simp only[List.getElem_take,List.getElem_drop,p,aht,aif];rw[←ah3,aho,Q];rfl
 obtain⟨N,av,hq⟩:=Qg ar;refine⟨_,N,rfl,⟨p,?_,λk l=>(hq k l).1⟩,λa ha=>?_⟩
 ·rw[L,av];refine .inr ⟨ac.dj (n+b),off,cap,true,cM (c.toList.map (mE n w.heap.size)),c.size,e',false,[],0,rfl,?_,K,G,λj hj=>?_,?_,C⟩;·rw[Qd co];simp only[qH,d]
  ·have H:off+j<c.size:=by omega
   rw[zE (by simpa using H)];simp only[aht,Array.getElem_toList,p,aif];rw[aho,getElem?_pos c _ H];rfl
  show(ac.dj (n+b)).al<(ac.dj (n+w.heap.size)).al;rw[ac.lS,ac.lS];omega
 obtain⟨k,l,rfl⟩:=agS ha;exact(hq k l).2
end
section
variable{P:Program}{K:Type}{eA:TypeId×Value→K}{w:World}{n:Nat}
def Ac(P:Program)(t:TypeId)(l:List (TypeId×Nat)):Prop:=∃fs,P.underlying t=some (.struct fs)∧fs.toList.map (λf=>(f.type,f.offset))=l
theorem Cw{t:TypeId}{l:List (TypeId×Nat)}(c:Ac P t l){cs:List Value}(h:nG eA P w t cs):cs.length=P.cellsOf t∧∀p∈l,nG eA P w p.1 ((cs.drop p.2).take (P.cellsOf p.1)):=by
 obtain⟨fs,d,rfl⟩:=c;obtain⟨fuel,x,h⟩:=h;obtain⟨e,m,_,_,h1,h2,h3⟩:=DataW.trod_struct d h;refine⟨h1,λp g=>?_⟩;obtain⟨f,a,rfl⟩:=ag3.1 g;obtain⟨i,hi,rfl⟩:=agS a;have b:i<fs.size:=by simpa using hi
 have:=h3 i fs[i] (getElem?_pos fs i b);rw[getElem?_pos e i (by omega)]at this;exact⟨m,_,this⟩
structure Qh(P:Program)where
 i:TypeId
 u:TypeId
 s:TypeId
 is:TypeId
 us:TypeId
 e:TypeId
 es:TypeId
 st:TypeId
 Cy:TypeId
 j:TypeId
 b:TypeId
 bs:TypeId
 g:TypeId
 hi:P.underlying i=some (.int .i64)
 hu:P.underlying u=some (.int .u8)
 hs:P.underlying s=some .string
 iW:P.underlying is=some (.slice i)
 Qi:P.underlying us=some (.slice u)
 kI:P.underlying es=some (.slice e)
 Qj:P.underlying Cy=some (.slice st)
 co:P.underlying bs=some (.slice b)
 he:Ac P e [(i,0),(is,1)]
 dW:Ac P st [(u,0),(i,1),(is,2),(i,3),(i,4),(s,5)]
 hj:Ac P j [(u,0),(is,1),(s,2),(us,3),(es,4)]
 hb:Ac P b [(is,0),(Cy,1),(j,2)]
 hg:Ac P g [(s,0),(i,1),(i,2),(bs,3)]
 ci:P.cellsOf i=1
 cu:P.cellsOf u=1
 cs:P.cellsOf s=1
 Cz:P.cellsOf is=1
 Qk:P.cellsOf us=1
 br:P.cellsOf es=1
 Ql:P.cellsOf Cy=1
 Qm:P.cellsOf bs=1
 ce:P.cellsOf e=2
 JK:P.cellsOf st=6
 cj:P.cellsOf j=5
 cb:P.cellsOf b=7
 cg:P.cellsOf g=4
abbrev AW(n:Nat)(w:World)(cs:List Value):List AV:=cs.map (mE n w.heap.size)
theorem dL.Qn{g:Type}{f:g→AV}{H:af}{c:List g}{v:AV}(h:dL 1 (λ_ a cs=>cs=[f a]) H c v):Sl H 1 (c.map f) c.length v:=by
 obtain⟨i,h1,h2⟩:=h;have hl:=h1.length;have e:i=c.map f:=by apply ahU (by rw[hl,agZ];omega);intro k d b;rw[agZ]at b;have:=h2 k b;rw[ah9,agR d]at this;simp only[ah7,ah0,ag4,and_true]at this;rw[aht,this]
 grind
variable(Y:Qh P)
section
variable{Y}
theorem yp{cs:List Value}(h:nG eA P w Y.i cs):∃m:Int,AW n w cs=[aI m]:=by obtain⟨fuel,x,h⟩:=h;obtain⟨m,rfl,_⟩:=DataW.trod_int Y.hi h;exact⟨m,rfl⟩
theorem JL{cs:List Value}(h:nG eA P w Y.u cs):∃m:Nat,AW n w cs=[aU m]∧m<256:=by obtain⟨fuel,x,h⟩:=h;obtain⟨m,rfl,_,a⟩:=DataW.trod_int Y.hu h;simp only[Lit.wf,agM,decide_eq_true_eq]at a;obtain⟨m,rfl⟩:∃k:Nat,m=k:=⟨m.toNat,by have:(0:Int)≤m:=a.1;omega⟩;exact⟨m,rfl,by have:(m:Int)≤255:=a.2;omega⟩
theorem JM{cs:List Value}(h:nG eA P w Y.s cs):∃t:List Nat,AW n w cs=[.aC t]∧∀c∈t,c<256:=by obtain⟨fuel,x,h⟩:=h;obtain⟨t,rfl,_⟩:=DataW.trod_string Y.hs h;exact⟨_,rfl,λc a=>by obtain⟨b,_,rfl⟩:=ag3.1 a;exact b.toNat_lt⟩
variable(hg:∃c e f,w.heap[0]?=some (.cells c e f))
include hg
theorem EQ{cs:List Value}(h:nG eA P w Y.is cs):∃(v:AV)(l:List Int),AW n w cs=[v]∧iy (mF n w) l v:=by obtain⟨v,a,rfl,h1,_⟩:=Cv (n:=n) (R:=λ_(m:Int)cs=>cs=[aI m]) (X:=λ_=>True) Y.iW Y.ci (by simp) hg (λcs h=>by obtain⟨m,e⟩:=yp (Y:=Y) (n:=n) h;grind) h;exact⟨_,a,rfl,dL.Qn h1⟩
theorem afr{cs:List Value}(h:nG eA P w Y.us cs):∃(v:AV)(l:List Nat),AW n w cs=[v]∧Hc (mF n w) l v∧∀c∈l,c<256:=by obtain⟨v,a,rfl,h1,h2⟩:=Cv (n:=n) (R:=λ_(m:Nat)cs=>cs=[aU m]) (X:=λc=>c<256) Y.Qi Y.cu (by simp) hg (λcs h=>by obtain⟨m,e,e2⟩:=JL (Y:=Y) (n:=n) h;grind) h;exact⟨_,a,rfl,dL.Qn h1,h2⟩
theorem afs{cs:List Value}(h:nG eA P w Y.e cs):∃e:G.Edge,rl (mF n w) e (AW n w cs):=by obtain⟨hl,a⟩:=Cw Y.he h;rw[Y.ce]at hl;match cs,hl with|[c0,c1],_=>have b:=a (Y.i,0) (by simp);have c:=a (Y.is,1) (by simp);simp only[Y.ci,Y.Cz]at b c;obtain⟨m,d⟩:=yp (Y:=Y) (n:=n) b;obtain⟨v,l,e1,h1⟩:=EQ (Y:=Y) (n:=n) hg c;simp only[List.drop_zero,ah7,ah0,agN,ahX,List.drop_succ_cons,ag4,and_true]at d e1;exact⟨⟨m,l⟩,v,by grind,h1⟩
theorem afu{cs:List Value}(h:nG eA P w Y.st cs):∃s:G.gW,pU (mF n w) s (AW n w cs)∧∀c∈s.name,c<256:=by obtain⟨hl,a⟩:=Cw Y.dW h;rw[Y.JK]at hl;match cs,hl with|[c0,c1,c2,c3,c4,c5],_=>have b:=a (Y.u,0) (by simp);have d:=a (Y.i,1) (by simp);have e:=a (Y.is,2) (by simp);have f:=a (Y.i,3) (by simp);have g:=a (Y.i,4) (by simp);have j:=a (Y.s,5) (by simp);simp only[Y.ci,Y.Cz,Y.cu,Y.cs]at b d e f g j;obtain⟨k,m,_⟩:=JL (Y:=Y) (n:=n) b;obtain⟨o,e1⟩:=yp (Y:=Y) (n:=n) d;obtain⟨v,l,e2,h2⟩:=EQ (Y:=Y) (n:=n) hg e;obtain⟨p,q⟩:=yp (Y:=Y) (n:=n) f;obtain⟨r,x⟩:=yp (Y:=Y) (n:=n) g;obtain⟨t,y,z⟩:=JM (Y:=Y) (n:=n) j;simp only[List.drop_zero,ah7,ah0,agN,ahX,List.drop_succ_cons,ag4,and_true]at m e1 e2 q x y;exact⟨⟨k,o,l,p,r,t⟩,⟨v,by grind,h2⟩,z⟩
theorem afv{cs:List Value}(h:nG eA P w Y.j cs):∃j:G.k6,sG (mF n w) j (AW n w cs)∧(∀c∈j.name,c<256)∧∀c∈j.bY,c<256:=by obtain⟨hl,a⟩:=Cw Y.hj h;rw[Y.cj]at hl;match cs,hl with|[c0,c1,c2,c3,c4],_=>have d:=a (Y.u,0) (by simp);have f:=a (Y.is,1) (by simp);have g:=a (Y.s,2) (by simp);have i:=a (Y.us,3) (by simp);have k:=a (Y.es,4) (by simp);simp only[Y.Cz,Y.cu,Y.cs,Y.Qk,Y.br]at d f g i k;obtain⟨m,o,_⟩:=JL (Y:=Y) (n:=n) d;obtain⟨p,q,e1,h1⟩:=EQ (Y:=Y) (n:=n) hg f;obtain⟨t,e2,h2⟩:=JM (Y:=Y) (n:=n) g;obtain⟨v3,r,v,h3,b⟩:=afr (Y:=Y) (n:=n) hg i;obtain⟨v4,x,l,y,_⟩:=Cv (n:=n) (R:=rl) (X:=λ_=>True) Y.kI Y.ce (by simp) hg (λcs h=>by obtain⟨e,h⟩:=afs (Y:=Y) (n:=n) hg h;grind) k;simp only[List.drop_zero,ah7,ah0,agN,ahX,List.drop_succ_cons,ag4,and_true]at o e1 e2 v l;subst l;exact⟨⟨m,q,t,r,x⟩,⟨p,v3,mE n w.heap.size c4,by grind,h1,h3,y⟩,h2,b⟩
structure JN(b:G.gD):Prop where
 st:∀s∈b.aA,∀c∈s.name,c<256
 fn:∀c∈b.aq.name,c<256
 kd:∀c∈b.aq.bY,c<256
theorem afw{cs:List Value}(h:nG eA P w Y.b cs):∃b:G.gD,jW (mF n w) b (AW n w cs)∧JN b:=by obtain⟨hl,a⟩:=Cw Y.hb h;rw[Y.cb]at hl;match cs,hl with|[c0,c1,c2,c3,c4,c5,c6],_=>have g:=a (Y.is,0) (by simp);have i:=a (Y.Cy,1) (by simp);have k:=a (Y.j,2) (by simp);simp only[Y.Cz,Y.Ql,Y.cj]at g i k;obtain⟨v0,l,m,h0⟩:=EQ (Y:=Y) (n:=n) hg g;obtain⟨p,o,e1,h1,d⟩:=Cv (n:=n) (R:=pU) (X:=λs=>∀c∈s.name,c<256) Y.Qj Y.JK (by simp) hg (λcs h=>afu (Y:=Y) (n:=n) hg h) i;obtain⟨j,h2,e,f⟩:=afv (Y:=Y) (n:=n) hg k;simp only[List.drop_zero,ah7,ah0,agN,ahX,List.drop_succ_cons,ag4,and_true]at m e1 h2;subst e1;exact⟨⟨l,o,j⟩,⟨v0,mE n w.heap.size c1,_,by simp_all,h0,h1,h2⟩,d,e,f⟩
structure Qo(g:G.bu):Prop where
 nm:∀c∈g.name,c<256
 bl:∀b∈g.aj,JN b
theorem afx{cs:List Value}(h:nG eA P w Y.g cs):∃g:G.bu,iD (mF n w) g (AW n w cs)∧Qo g:=by obtain⟨hl,a⟩:=Cw Y.hg h;rw[Y.cg]at hl;match cs,hl with|[c0,c1,c2,c3],_=>have c:=a (Y.s,0) (by simp);have d:=a (Y.i,1) (by simp);have e:=a (Y.i,2) (by simp);have f:=a (Y.bs,3) (by simp);simp only[Y.cs,Y.ci,Y.Qm]at c d e f;obtain⟨t,k,h0⟩:=JM (Y:=Y) (n:=n) c;obtain⟨l,e1⟩:=yp (Y:=Y) (n:=n) d;obtain⟨m,e2⟩:=yp (Y:=Y) (n:=n) e;obtain⟨v3,o,j,h3,b⟩:=Cv (n:=n) (R:=jW) (X:=JN) Y.co Y.cb (by simp) hg (λcs h=>afw (Y:=Y) (n:=n) hg h) f;simp only[List.drop_zero,ah7,ah0,agN,ahX,List.drop_succ_cons,ag4,and_true]at k e1 e2 j;subst j;exact⟨⟨t,l,m,o⟩,⟨mE n w.heap.size c3,by grind,h3⟩,h0,b⟩
end
end
end
end Go.ak
end
