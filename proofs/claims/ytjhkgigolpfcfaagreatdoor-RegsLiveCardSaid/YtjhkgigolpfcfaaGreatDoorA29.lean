/- A part of the proof. No conditions. -/
import Derived.Test.YtjhkgigolpfcfaaGreatDoorA28
set_option linter.all false
set_option maxHeartbeats 16000000
open List renaming mem_singleton->aep,mem_cons_of_mem->aey,mem_cons_self->aeU,replicate->ahr,length_map->akg,nodup_cons->akz,length_cons->akA,pairwise_cons->alq
open Nat renaming le_of_ble_eq_true->akc,ble_eq_true_of_le->akB,ble->ak2
open List.Perm renaming cons->akO,swap->akS
open List.Pairwise renaming nil->alQ
noncomputable section
namespace Go.am.R
section
variable{ac:Nat->aG}
section
structure FX(g:G.bu)(H:ai)(fq:ab)(vb ov av lvv:AV)(svs:List AV)(come:List Bool)(os:List (List bV))(ak:List Nat)(lv:List (List Int)):Prop where
 ro:yX H fq vb av svs g.al.length
 bl:dV 7 kj H g.al vb
 c1:bh H fq 1=some (aI g.params)
 c2:bh H fq 2=some (aI g.bp)
 c4:bh H fq 4=some ov
 od:Sl H 1 (ak.map aN) ak.length ov
 c6:bh H fq 6=some lvv
 sl:CX H lv lvv
 op:∀b,come.getD b false=true->pJ H (os.getD b []) (svs.getD b .co)
section
variable{g:G.bu}{come q:List Bool}{os p:List (List bV)}
theorem cX.bX(e:jm g)(j:cX g come os)(f:cX g q p){b:Nat}(hb:come.getD b false=true):q.getD b false=true/\p.getD b []=os.getD b []:=f.sF e (j.dO b hb)
theorem Lv.bX(f:jm g)(s:cX g come os)(l:cX g q p){b:Nat}{v:Int}(hl:Lv g os b v):come.getD b false=true->Lv g p b v:=by
 induction hl with
 |qQ h1 h2=>intro _;exact .qQ h1 h2
 | @ls b w v m _ j k=>
  intro hb;have e:wW g p b=wW g os b:=by simp only[wW,(s.bX f l hb).2]
  exact .ls (by rw[e];exact m) (k (s.ls hb m)) j
 | @sC b t v o _ j k=>intro hb;obtain⟨_,_,_,_,r,_⟩:=vD f s hb o;exact .sC (by rw[(s.bX f l hb).2];exact o) (k r) j
theorem gP.bX{k:List (List Int)}(f:jm g)(m:cX g come os)(j:cX g q p)(hl:gP g come os k):gP g q p k:=by
 refine⟨hl.len,λb hb v=>?_,λb hb=>hl.JN b ?_,hl.jx⟩;·have e:=(j.bX f m hb).1;rw[hl.mem b e];exact⟨λx=>x.bX f m j e,λx=>x.bX f j m hb⟩
 cases l:come.getD b false with|false=>rfl|true=>rw[(m.bX f j l).1]at hb;cases hb
end
section
variable{g:G.bu}{a d h:AV}{c n i:ab}{A H:ai}{us:List Th}
def wV(g:G.bu)(a d h:AV)(c n i:ab)(ak:List Nat)(b:List AV)(F:List Th):List Th:=[tB Wc c [.str g.name,aI g.params,aI g.bp,a,d,.slice i 0 g.al.length g.al.length true,h],tS Ik 1 b g.al.length true (.slice i 0 g.al.length g.al.length true),tB iH n [.az c 0],tZ F,tS 3 1 (ak.map aN) ak.length true d]
theorem Qf(T:Tb ac)(V:Vd g){cs:List AV}(hg:iG H g cs){K:KT}(hK:∀D c a d cx h s come os ak lv,cX g come os->e9 g come os ak->gP g come os lv->bm H D->FX g D c a d cx h s come os ak lv->K (.tuple [.az c 0,aI 0]) D):YN ac NU [.agg cs] H K:=by
 have cp:=hg.one;have hB:=V.sm;have cy:=hB.nb;obtain⟨a,rfl,cA⟩:=hg;have⟨cE,c3,c5,a3⟩:=cA.all;refine YF.code T.aa9 aB ?_;refine au ?_;refine RO.dL (aj.dc H) λH1 q1 U=>?_;refine ah ?_;refine RO.eQ U 0 ?_;refine RO.cl (aff T V (cs:=[.str g.name,aI g.params,aI g.bp,a]) ⟨a,rfl,dQ.block.jU U.gr cA⟩ λH2 d come os ak u Q hl=>?_);have U:=U.fC hl;have⟨a4,c8,a5,c9⟩:=(hl.sl (e:=3) (size:=1) (sv:=d) (vs:=ak.map aN) (n:=ak.length) (full:=true) 0).all;have c':ak.length<=g.al.length:=vB _ _ Q.nd λx N=>u.lt ((Q.mem x).1 N);refine ah ?_;refine RO.eQ U 1 ?_;refine ah ?_;refine RO.oT U (n:=g.al.length) (λH3 i U=>?_) (hz:=by rw[iZ];simp);rw[iZ]at U;refine ah ?_;refine RO.build (vs:=[.str g.name,aI g.params,aI g.bp,a,d,.slice i 0 g.al.length g.al.length true,.aS]) ?_ (hl:=kG rfl rfl rfl rfl rfl (kG rfl a4 a5 rfl rfl (kG rfl rfl rfl rfl rfl rfl)));refine RO.dL U (λH4 c U=>?_) (v:=.agg [.str g.name,aI g.params,aI g.bp,a,d,.slice i 0 g.al.length g.al.length true,.aS]);refine RO.fx U λH5 n U=>?_;refine ah ?_;refine RO.eQ U 4 ?_;have dr:c.an<H5.next.an:=by obtain⟨_,A⟩:=U.get 1 rfl;obtain⟨_,_,_,_,_,d2⟩:=A;exact d2
 have a6:n.an<H5.next.an:=by obtain⟨_,A⟩:=U.get 0 rfl;obtain⟨_,_,_,_,_,d2⟩:=A;exact d2
 have a8:bh H5 n 0=some (.az c 0):=by obtain⟨_,A⟩:=U.get 0 rfl;exact tB.cell A rfl
 refine RO.EN (afy T V (cs:=[.str g.name,aI g.params,aI g.bp,a]) ⟨a,rfl,dQ.block.jU U.gr cA⟩ λH6 h cn ds lv z F2 a9 R a' S=>⟨by rw[S.gr.bh a6];exact a8,?_⟩) (hvs:=by simp[iy,gz,ab.ip]);have R:=R.bX V.dO a9 u;have⟨ba,bb,bc,_⟩:=(S.sl (e:=eH) (size:=1) (sv:=h) (vs:=z) (n:=z.length) (full:=true) 1).all;have U:aj H H6 ([_,_,_,_,_]++[tZ F2,tS eH 1 z z.length true h]):=(U.fC S).cM akH;refine ah ?_;refine RO.gG U 1 (λH7 U=>?_);refine ah ?_;have U:=(((((U.py 222 2).as 0 rfl λfp A=>tS.mg A).rl.cM (akS ..)).lq.gk 1 rfl).gk 3 rfl).gk 3 rfl;have U:aj H H7 (wV g a d h c n i ak (ahr g.al.length .aS) [tR 2 (jn []) 0 .aS]++(i9 []++[tB fI q1 [.str g.name,aI g.params,aI g.bp,a],tZ F2,tS eH 1 z z.length true h])):=U;refine Ru.nm λS0 M hS hM=>?_;refine Ru.cC hM (up (P:=λk=>∀HX X s F,s.length=g.al.length->(∀x,come.getD x false=true->(x=0\/∃y∈ak.take k,x∈wW g os y)->tR 2 (jn (os.getD x [])) (os.getD x []).length (s.getD x .co)∈F)->aj H HX (wV g a d h c n i ak s F++(i9 X++[tB fI q1 [.str g.name,aI g.params,aI g.bp,a],tZ F2,tS eH 1 z z.length true h]))->Ru ac ⟨pu [.tmp p2,.tmp p3] K,X,none⟩ S0 ([(dl,aN k)]++pk M [p6,cD,bZ]) HX) ak.length (λk hk ih HX X s F bd hF U=>?_) 0 af _ [] _ _ aB (λx N d2=>?_) U);rotate_left
 .rcases d2 with rfl|⟨y,G,_⟩;·have bv:=u.lt u.c0;rw[(u.sF V.dO .zero).2,bF (by simpa using bv)];simp
  simp at G
 subst hS;subst hM;refine Ru.loop ?_;refine au ?_;refine Ru.cond (λC=>?_) (λC=>?_)
 .have b0:=agB C;have L:=(Q.mem _).1 b0;have ag:ak.take (k+1)=ak.take k++[ak[k]]:=(akd C).symm;have O:=Q.aM (ak.take k) ak[k] (ak.drop (k+1)) (by conv=>lhs;rw[<-ala k ak,aj9 C]);have av:=hF _ L O;refine ah ?_;refine RO.lg (bm.refl _) (U.sl (e:=3) (size:=1) (sv:=d) (vs:=ak.map aN) (n:=ak.length) (full:=true) 4) (λq5 o5 dv dx=>?_) (j:=k);have ih:=ih (k+1) af af;rw[ag]at ih;clear ag O;generalize ak[k]=b at*;have B:=u.dO b L;have a3:=u.lt L;have b3:(g.al.getD b default).aA.op=68->os.getD b []≠ []:=λb4 e=>by obtain⟨o,ho,_⟩:=(V.sG come os u).en b L b4;rw[e]at ho;cases ho
  generalize a1:os.getD b []=now at*;generalize b5:s.getD b .co=nv at*;refine ah ?_;refine RO.cl (Qc T λH8 aw ax hl=>?_);have U:aj H H8 ([tB 3 ax [aN b],tB iH aw [.az c 0]]++wV g a d h c n i ak s F++(i9 X++[tB fI q1 [.str g.name,aI g.params,aI g.bp,a],tZ F2,tS eH 1 z z.length true h])):=U.fC hl;refine ah ?_;refine Ru.wk (L:=[(dj,.func Ex [] [.az aw 0,.az ax 0]),(p6,.az n 0),(cD,d),(bZ,aN ak.length),(dl,aN k)]) ?_;refine Ru.pG (J:=λm ts=>∃r I,r.length=g.al.length/\tR 2 (jn now) now.length nv∈I/\(∀x,come.getD x false=true->(x=0\/(∃y∈ak.take k,x∈wW g os y)\/∃w∈(cS g b now).take m,x=w.1.toNat)->tR 2 (jn (os.getD x [])) (os.getD x []).length (r.getD x .co)∈I)/\ts=wV g a d h c n i ak r I) (Dn:=λ_ _=>False) U (Qd T hB cA (b:=b) (now:=now) (nv:=nv) (V.dO.aH B) (V.dO.jY B).1 (by have:=(V.dO.jY B).2;omega) b3) (λH2 hg=>?_) ⟨s,F,bd,av,λx N d2=>hF x N (by rcases d2 with d2|d2|⟨w,E,_⟩;exact .inl d2;exact .inr d2;simp at E),rfl⟩ (λk args ws d2=>by obtain⟨_,v,rfl,_⟩:=d2;rfl) (λm ts us D Y U=>?_) (λm args ws ts us l o1 o2 D hm b6 Y U=>?_) (λD b' dm Y U=>?_) (λj D b' dm _ d2=>d2.elim)
  .have U:=U.cI hg;have J:∀(o:Nat)(v:AV),([.str g.name,aI g.params,aI g.bp,a,d,.slice i 0 g.al.length g.al.length true,h]:List AV)[o]?=some v->bh H2 c o=some v:=λo v d2=>by obtain⟨_,A⟩:=U.get 2 rfl;exact tB.cell A d2
   have W:c.an<H2.next.an:=by obtain⟨_,A⟩:=U.get 2 rfl;obtain⟨_,_,_,_,_,d2⟩:=A;exact d2
   obtain⟨f,Z,_⟩:=U.mf 5 rfl av;exact⟨_,s,⟨W,J 3 _ rfl,J 5 _ rfl,U.sl 3⟩,b5,Z⟩
  .obtain⟨r,I,_,h2,_,rfl⟩:=Y;obtain⟨f,Z,_⟩:=U.mf 3 rfl h2;exact Z
  .obtain⟨r,I,g1,g2,g3,rfl⟩:=Y;obtain⟨ay,v,rfl,ba,bb,bc,ca⟩:=b6;have U:aj H D (wV g a d h c n i ak r (tR 2 (jn (cS g b now)[m].2) (cS g b now)[m].2.length v::I)++tX l o1::us):=by
    rcases ca with⟨rfl,a2⟩|rfl;·exact((U.gk 3 rfl).OO g2 (t':=tR 2 (jn (cS g b now)[m].2) (cS g b now)[m].2.length v) λf d2=>Qe a2 d2).cM (akj (l₁:=[_,_,_])).symm
    have h5:=U.as 0 rfl λfp A=>tS.mg A;have h6:=h5.cM (akO _ (akj (l₁:=[_,_,_])));exact(aj.lq h6).cM (akj (l₁:=[_,_,_])).symm
   have a0:(cS g b now)[m]∈cS g b now:=agB ay;obtain⟨dy,dz⟩:=V.dO.CP B _ a0;have cd:=lN.step B a0;obtain⟨t,ht⟩:∃t:Nat,(cS g b now)[m].1=(t:Int):=⟨(cS g b now)[m].1.toNat,af⟩;have d0:t<g.al.length:=af;have cf:(cS g b now).take (m+1)=(cS g b now).take m++[(cS g b now)[m]]:=(akd ay).symm;have P:=(u.sF V.dO cd).2;rw[ht,aj3]at P;rw[ht];refine au ?_;refine Ru.dN (xs:=wV g a d h c n i ak r (tR 2 (jn (cS g b now)[m].2) (cS g b now)[m].2.length v::I)) U λH9 U=>?_;refine ah ?_;refine RO.yK U 1 g1 (λd1 U=>?_) (k:=t);refine ah ?_;refine Ru.bG (ts:=wV g a d h c n i ak (r.set t v) (tR 2 (jn (cS g b now)[m].2) (cS g b now)[m].2.length v::I)) U ⟨_,_,by simpa using g1,aey _ g2,λx N d2=>?_,rfl⟩;rw[fu af];by_cases e:x=t;·rw[aK e,e,P];exact aeU ..
   rw[aq e];refine aey _ (g3 x N ?_);rcases d2 with d2|d2|⟨w,E,d2⟩;·exact .inl d2
   .exact .inr (.inl d2)
   rw[cf]at E;rcases ahp.1 E with E|E;·exact .inr (.inr ⟨w,E,d2⟩)
   rw[aep]at E;subst E;rw[ht,aj3]at d2;exact absurd d2 e
  obtain⟨r,I,g1,g2,g3,rfl⟩:=Y;rw[ak7]at g3;refine ah ?_;exact Ru.wk (ih D (dm::X) r I g1 (λx N d2=>g3 x N (by
   rcases d2 with d2|⟨y,G,d2⟩;·exact .inl d2
   rcases ahp.1 G with G|G;·exact .inr (.inl ⟨y,G,d2⟩)
   rw[aep]at G;subst G;simp only[wW,mK,a1,akk]at d2;obtain⟨w,E,d2⟩:=d2;exact .inr (.inr ⟨w,E,d2.symm⟩))) U)
 refine Ru.exitTo ?_;rw[akl af]at hF;refine ah ?_;have U:=aj.gF (xs:=wV g a d h c n i ak s F) (by rw[aj2];exact U);refine Ru.mI (M:=X) U λD U=>⟨[.az c 0,aI 0],⟨rfl,rfl,rfl,rfl,trivial⟩,?_⟩;have J:∀(o:Nat)(v:AV),([.str g.name,aI g.params,aI g.bp,a,d,.slice i 0 g.al.length g.al.length true,h]:List AV)[o]?=some v->bh D c o=some v:=λo v d2=>by obtain⟨_,A⟩:=U.get 0 rfl;exact tB.cell A d2
 have W:c.an<D.next.an:=by obtain⟨_,A⟩:=U.get 0 rfl;obtain⟨_,_,_,_,_,d2⟩:=A;exact d2
 refine hK D c a d _ h s come os ak lv u Q R U.gr ⟨⟨W,J 3 _ rfl,J 5 _ rfl,U.sl 1⟩,dQ.block.jU U.gr cA,J 1 _ rfl,J 2 _ rfl,J 4 _ rfl,U.sl 4,J 6 _ rfl,a'.sl U 6 rfl (U.sl (e:=eH) (size:=1) (full:=true) 7),λb hb=>?_⟩;have:b=0\/∃y∈ak,b∈wW g os y:=by
  obtain⟨cO,cv,e⟩:=List.append_of_mem ((Q.mem b).2 hb);rcases Q.aM _ _ _ e with d2|⟨y,G,d2⟩;·exact .inl d2
  exact .inr ⟨y,by rw[e];exact akf _ G,d2⟩
 obtain⟨f,Z,_⟩:=U.mf 3 rfl (hF b hb this);exact Z
end
end
section
section
variable{g:G.bu}{i p m n:AV}{f:ab}{A H:ai}{h:List AV}{come:List Bool}{os:List (List bV)}{ak:List Nat}{d:List (List Int)}
def kV(g:G.bu)(d:List (List Int))(o:List bV):List Int:=match oD g o with
 |some t=>d.getD t.toNat []
 |none=>[]
theorem afQ(T:Tb ac)(V:Vd g){B:ai}(c:bm B H)(s:FX g B f i p m n h come os ak d)(M:cX g come os)(X:gP g come os d){b:Nat}(hb:come.getD b false=true){K:KT}(c3:∀w v,fZ B (kV g d (os.getD b [])) v->bm H w->K v w):YN ac WJ [.az f 0,aN b] H K:=by
 have hB:=V.sm;have a':=hB.nb;have ba:=M.lt hb;have⟨hO,bb⟩:=V.dO.jY (M.dO b hb);have hs:=s.op b hb;have⟨Y,Z,ag,bc⟩:=hs.all;have x:=s.ro.lt;have av:=s.ro.aH;have aw:=s.ro.jY;have ax:=s.c6;have⟨bd,_,_,_⟩:=s.ro.sl.all;have⟨bv,_,_,_⟩:=s.bl.all;have⟨b0,_,_,_⟩:=s.sl.all;have I:∀t,oD g (os.getD b [])=some t->0<=t/\t.toNat<d.length:=λt R=>by obtain⟨_,_,_,_,hc,h0⟩:=vD V.dO M hb R;exact⟨h0,by rw[X.len];exact M.lt hc⟩
 refine YF.code T.abu aB ?_;refine au ?_;refine RO.dL (aj.dc H) λH1 N U=>?_;refine RO.gI U λH2 O U=>?_;refine ah ?_;refine RO.aW ?_ (v:=m) (hc:=by rw[(c.trans U.gr).bh x];exact aw);refine ah ?_;refine RO.vu (c.trans U.gr) s.ro.sl (λq8 o8 b3 _=>?_) (j:=b);refine ah ?_;refine RO.cl (Fc T.abO bA Y Z ag λH4 q hl=>?_);have U:=U.fC hl;refine ah ?_;generalize os.getD b []=o at*;refine Ru.wk (L:=[(bi,.func Xg [] [.az q 0]),(p2,.az N 0),(p4,.az O 0)]) ?_;have U:aj H H4 ([tB Ik q [h.getD b .co]]++[tB eH O [.aS],tB iH N [.az f 0]]++[]):=U;refine Ru.pG (J:=λk ts=>ts=[tB eH O [.aS],tB iH N [.az f 0]]/\∀j(hj:o.length - 1 - j<o.length),j<k->o[o.length - 1 - j].2≠0) (Dn:=λj ts=>j=.ret/\∃t v,oD g o=some t/\fZ B (d.getD t.toNat []) v/\ts=[tB eH O [v],tB iH N [.az f 0]]) U (Fb (R:=Qa) (agg:=true) (size:=2) (la:=o) (sv:=h.getD b .co) (e:=Ik) (nt:=19) T.ab7 bA af (λc3=>by cases c3) (λa cs c3=>by cases c3;rfl)) (λH2 hg=>pJ.r (((c.trans U.gr).trans hg).sl hs)) ⟨rfl,λj _ hj=>absurd hj af⟩ (λk args ws c3=>by obtain⟨_,_,_,_,rfl⟩:=c3;rfl) (λk ts us w P U=>pJ.r ((c.trans U.gr).sl hs)) (λk args ws ts us l o1 o2 w hk ay P U=>?_) (λw a0 S P U=>?_) (λj w a0 S hj hD U=>?_)
 .obtain⟨rfl,C,cs,a1,rfl⟩:=ay;obtain⟨rfl,eZ⟩:=P;have a2:=agB C;generalize y:o[o.length - 1 - k]=oo at*;obtain⟨ob,D⟩:=oo;subst a1;refine ah ?_;refine RO.fx U λH5 q7 U=>?_;refine ah ?_;refine Ru.dN (xs:=[_,_,_]) U λH6 U=>?_;refine ah ?_;refine Ru.kN (λh0=>?_) (λh0=>?_)
  .have a3:D=0:=by simpa using h0
   obtain⟨g1,g2,W⟩:=hO.ok _ a2;simp only at g1 g2 W;obtain⟨t,rfl⟩:∃t:Nat,ob=(t:Int):=⟨ob.toNat,af⟩;rw[aj3]at W;have E:t<g.al.length:=af;have g4:g.al[t].aA.go.length=3:=by rw[<-W,bF E]
   have u:=PQ (g:=g) C hk eZ (by rw[y];exact a3);rw[y]at u;simp only[aH,aj3,bF E]at u;rw[bF af]at u;obtain⟨i0,i1⟩:=I _ u;refine ah ?_;refine RO.aW ?_ (v:=n) (hc:=by rw[(c.trans U.gr).bh x];exact ax);refine ah ?_;refine RO.aW ?_ (v:=i) (hc:=by rw[(c.trans U.gr).bh x];exact av);refine ah ?_;refine RO.cZ (c.trans U.gr) s.bl (λq9 o9 c9 b4 a4 b5 hat _=>?_) (j:=t);obtain⟨vp,vs,jc,rfl,_,_,va,vk,vg,rfl,_,_,F⟩:=a4;have⟨b6,_,_,_⟩:=F.all;refine ah ?_;refine RO.aW (v:=vg) ?_ (hc:=hat 6 _ rfl);refine RO.cZ (c.trans U.gr) F (λb' ca cd a5 J a6 z _=>?_) (j:=1) (hj:=by omega);obtain⟨ve,rfl,_⟩:=J;generalize g.al[t].aA.go[1].block=tt at*;obtain⟨Q,rfl⟩:∃Q:Nat,tt=(Q:Int):=⟨tt.toNat,af⟩;rw[aj3]at i1;refine ah ?_;refine RO.aW (v:=aN Q) ?_ (hc:=z 0 _ rfl);refine RO.cZ (c.trans U.gr) s.sl (λcf cn cp a8 L a9 A _=>?_) (j:=Q);obtain⟨vl,rfl,G⟩:=L;have⟨cv,cx,cy,_⟩:=G.all;refine ah ?_;refine RO.aW (v:=vl) ?_ (hc:=A 0 _ rfl);refine RO.gG U 1 (λH7 U=>?_);refine ah ?_;have U:=U.tail (t:=tB NE q7 [aN t,.bool (D==0)]);refine Ru.OL (ts:=[_,_]) U ⟨rfl,_,vl,u,?_,rfl⟩;rw[aj3,bF i1];exact G
  refine ah ?_;refine Ru.bG (ts:=[_,_]) U.tail ⟨rfl,λj hj cE=>?_⟩;by_cases e:j=k;·subst e;rw[y];simpa using h0
  exact eZ j hj af
 .obtain⟨rfl,eZ⟩:=P;refine ah ?_;refine RO.gG U 0 (λH5 U=>?_);refine ah ?_;refine Ru.mI (M:=[S]) (ts:=[_,_]) (U.cM (akj (l₁:=[_,_]))) λw U=>⟨[.aS],⟨⟨_,_,rfl,U.one 0⟩,trivial⟩,c3 w .aS ?_ U.gr⟩;rw[kV,PP eZ];exact .inl ⟨rfl,rfl,rfl⟩
 obtain⟨rfl,t,v,R,hv,rfl⟩:=hD;refine RJ.wp (RJ.mI (M:=[S]) (ts:=[_,_]) (.inr rfl) (U.cM (akj (l₁:=[_,_]))) λw U=>⟨[v],⟨⟨_,_,rfl,U.one 0⟩,trivial⟩,c3 w v ?_ U.gr⟩);rw[kV,R];exact hv
end
section
variable{H:ai}{q:ab}{ks:List Int}
theorem afR(T:Tb ac)(hs:ib (H.get q) ks){es:List aT}{cc:Nat}(he:H.get q=.map es cc){K:KT}(e:∀b c,aj H b [tM true c λx=>x∈ks]->K (.map c) b):YN ac WY [.map q] H K:=by
 refine YF.code T.abP aB ?_;refine au ?_;refine RO.eq (t:=false) ?_ (ht:=rfl);refine au ?_;have hg:xQ [.iface eT (.map q)] H=some (.iface eT (.map H.next),H.new (.map es cc)):=by simp only[xQ,he]
 refine RO.cl (YF.ix T.adi hg ?_);refine RO.typeAssert (u:=eT) (v:=.map H.next) rfl rfl ?_;refine au ?_;have a:ib (.map es cc) ks:=by rw[<-he];exact hs
 exact Ru.aV (e _ _ ((aj.dc H).PJ (S:=λx=>x∈ks) (ex:=true) a (λ_=>Iff.rfl) λ_=>⟨es,cc,rfl⟩))
theorem JU(T:Tb ac)(hs:ib (H.get q) ks)(he:∃es c,H.get q=.map es c){w:Int}{l:List Int}{d:AV}(hl:fZ H l d)(y:l.length<=1000000){K:KT}(r:∀j b S,(∀x,S x↔x∈l\/x∈ks/\x≠w)->aj H j [tM true b S]->K (.map b) j):YN ac NV [.map q,aI w,d] H K:=by
 have⟨z,_,_,A⟩:=hl.all;obtain⟨es,cc,he⟩:=he;refine YF.code T.abv aB ?_;refine au ?_;refine RO.cl (afR T hs he λH1 b U=>?_);refine au ?_;refine RO.eq (t:=false) ?_ (ht:=rfl);refine au ?_;refine RO.afa U 0 (z:=w) (λC U=>?_);refine au ?_;refine Ru.nm λs M t o=>?_;refine Ru.cC o (up (P:=λk=>∀g S,(∀x,S x↔x∈l.take k\/x∈ks/\x≠w)->aj H g [tM true b S]->Ru ac _ s ([(bJ,aN k)]++pk M [p7,aZ,br]) g) l.length (λk D u g S a U=>?_) 0 af _ _ (λx=>by simp) U);subst t;subst o;refine Ru.loop ?_;refine au ?_;refine Ru.cond (λe=>?_) (λe=>?_)
 .refine au ?_;refine RO.kz U.gr hl (λE o1 hj B=>?_) (j:=k);refine au ?_;refine RO.PK U 0 (z:=l[k]) (λv U=>?_);refine au ?_;exact Ru.wk (u (k+1) af af v _ (λx=>by
   rw[a,<-akd e,ahp,aep];constructor
   .rintro(F|F|F);·exact .inl (.inr F)
    .exact .inl (.inl F)
    exact .inr F
   rintro((F|F)|F);·exact .inr (.inl F)
   .exact .inl F
   exact .inr (.inr F)) U)
 refine Ru.exitTo ?_;rw[akl af]at a;refine au ?_;exact Ru.aV (r g b S a U)
end
end
section
section
variable{A H:ai}{ts:List Th}{q:ab}{S:Int->Prop}
theorem A4(T:Tb ac)(U:aj A H ts)(i:Nat)(hi:ts[i]?=some (tM true q S)){w:Int}{l:List Int}{f:AV}(hl:fZ H l f)(d:l.length<=1000000){K:KT}(g:∀a b c,(∀x,c x↔x∈l\/S x/\x≠w)->aj A a (tM true b c::ts)->K (.map b) a):YN ac NV [.map q,aI w,f] H K:=by obtain⟨⟨ks,hs,h⟩,he,_⟩:=U.nf i hi;refine JU T hs (he rfl) hl d λa b c h1 e=>g a b c (λx=>?_) (U.fC e);rw[h1,h]
theorem JV:∀(l:List Int)(x:Int),x∈gj l↔x∈l
 |[],x=>by simp[gj]
 |y::l,x=>by
  have h:∀(z:Int)(l:List Int),x∈nJ z l↔x=z\/x∈l:=by
   intro z l;induction l with
   |nil=>simp[nJ]
   |cons a l b=>
    simp only[nJ];split
    .simp only[aeV,b];constructor
     .rintro(h|h|h);·exact .inr (.inl h)
      .exact .inl h
      exact .inr (.inr h)
     rintro(h|h|h);·exact .inr (.inl h)
     .exact .inl h
     exact .inr (.inr h)
    simp
  simp only[gj,h,JV l,aeV]
theorem Ql:∀l:List Int,(gj l).length=l.length
 |[]=>rfl
 |y::l=>by
  have h:∀(z:Int)(l:List Int),(nJ z l).length=l.length+1:=by intro z l;induction l with|nil=>rfl|cons a l b=>simp only[nJ];split<;>simp[b]
  simp only[gj,h,Ql l,akA]
theorem Qm:∀l:List Int,l.Nodup->(gj l).Pairwise (·<·)
 |[],_=>alQ
 |y::l,k=>by
  obtain⟨h1,h2⟩:=akz.1 k;have g:=Qm l h2;have e:y∉gj l:=by rw[JV];exact h1
  simp only[gj];generalize gj l=m at*;clear k h1 h2;induction m with
  |nil=>simp[nJ]
  |cons a m f=>
   obtain⟨i,n⟩:=alq.1 g;simp only[aeV,not_or]at e;simp only[nJ];split
   .rename_i d;rw[nG,decide_eq_true_eq]at d;refine alq.2 ⟨λb hb=>?_,f n e.2⟩;have:b=y\/b∈m:=by
     clear f g i n e d;induction m with
     |nil=>simpa[nJ]using hb
     |cons c m j=>
      simp only[nJ]at hb;split at hb
      .rcases aeV.1 hb with h|h;·exact .inr (h▸aeU ..)
       exact(j h).imp id (aey _)
      exact aeV.1 hb
    rcases this with rfl|h;·exact d
    exact i b h
   rename_i d;rw[nG,Bool.not_eq_true,decide_eq_false_iff_not]at d;refine alq.2 ⟨λb hb=>?_,g⟩;rcases aeV.1 hb with rfl|h;·have:=e.1;omega
   have:=i b h;have:=e.1;omega
theorem afS(T:Tb ac)(U:aj A H ts)(i:Nat){ex:Bool}(hi:ts[i]?=some (tM ex q S))(m:∀ks:List Int,ks.Nodup->(∀x,x∈ks↔S x)->ks.length<=1000){K:KT}(g:∀(H':ai)(v:AV)(l:List Int),(∀x,x∈l↔S x)->l.Pairwise (·<·)->aj A H' (tR 1 (l.map aI) l.length v::ts)->K v H'):YN ac N6 [.map q] H K:=by
 obtain⟨⟨ks,hs,d⟩,_,_⟩:=U.nf i hi;obtain⟨_,h⟩:=yV hs;have b:=hs.1;have f:=m ks b d;have c:∀x,x∈gj ks↔S x:=λx=>by rw[JV,d]
 cases ks with
 |nil=>
  refine YF.ix (v:=.aS) (H':=H) T.IV (by simp[xP,h]) (g H .aS [] (λx=>?_) alQ ?_);·rw[<-d]
  exact(U.py 3 1).as 0 rfl λo e=>tS.mg e
 |cons k ks=>have hb:ak2 (k::ks).length 1000=true:=akB f;have a:=Ql (k::ks);refine YF.ix (v:=.slice H.next 0 (k::ks).length (k::ks).length false) (H':=H.new (.cells (db ((gj (k::ks)).map λn=>.int 3 n)) (k::ks).length 3 true [] 0)) T.IV (by simp only[xP,ak0,akT,h,hb,bq]) (g _ _ (gj (k::ks)) c (Qm _ b) ?_);have j:=dU.new (H:=H) (e:=3) (size:=1) (n:=(k::ks).length) (vs:=(gj (k::ks)).map aI) (by rw[akg,a];simp) false true;rw[alt]at j;have:=(U.push (bm.new H _) (t:=tS 3 1 ((gj (k::ks)).map aI) (k::ks).length true (.slice H.next 0 (k::ks).length (k::ks).length false)) j (uU H)).as 0 rfl λo e=>tS.mg e;rw[a];exact this
end
def afT:bt:=(.seq (.region [O p4 (.bg (T p0)),O p5 (.j7 (T p4)),O p6 (.arith .sub 3 (T p5) (I 3 1)),O p2 (.bg (I 3 0)),O p3 (.bg (T p6))]) (.block 0 (.loop (.seq (.seq (.region [O p7 (.bg (T p2)),O p8 (.bg (T p3)),O p9 (.arith .lss 3 (T p7) (T p8))]) (.cond (T p9) .skip (.exit 0))) (.seq (.block 1 (.region [O bi (.bg (T p0)),O bk (.bg (T p2)),O bo (.bg (T p0)),O aZ (.bg (T p3)),O br (.bg (T p0)),O bJ (.bg (T p3)),O bN (.dG 1 (T br) (T bJ)),O bR (.aW (T bN)),O bO (.bg (T p0)),O bL (.bg (T p2)),O bK (.dG 1 (T bO) (T bL)),O bT (.aW (T bK)),O ch (.dG 1 (T bi) (T bk)),N (.store 1 (T ch) (T bR)),O bY (.dG 1 (T bo) (T aZ)),N (.store 1 (T bY) (T bT))])) (.region [O aO (.bg (T p2)),O aR (.arith .add 3 (T aO) (I 3 1)),O aY (.bg (T p3)),O aX (.arith .sub 3 (T aY) (I 3 1)),O p2 (.bg (T aR)),O p3 (.bg (T aX))]))))))
theorem afU{l:List AV}{i j x:Nat}{a b:AV}(hi:i<l.length)(hj:j<l.length):((l.set i a).set j b).getD x .co=if x=j then b else if x=i then a else l.getD x .co:=by rw[fu (by simpa using hj),fu hi]
theorem afV{f e:Nat}(s:ac f=.code 28 [] afT){A H:ai}{us:List Th}{l:List AV}{n cap:Nat}{q:ab}{ex:Bool}(o:l.length=n)(h0:0<n)(C:n<1000000)(hv:∀v∈l,v.ee=true/\v.cells=[v]/\v.bB=true)(U:aj A H (tS e 1 l n true (.slice q 0 n cap ex)::us)){K:KT}(t:∀p,aj A p (tS e 1 l.reverse n true (.slice q 0 n cap ex)::us)->K (iL []) p):YN ac f [.slice q 0 n cap ex] H K:=by
 have g:∀x,x<n->(l.getD x .co).ee=true/\(l.getD x .co).cells=[l.getD x .co]/\(l.getD x .co).bB=true:=λx d=>by rw[bF af];exact hv _ (agB _)
 refine YF.code s aB ?_;refine au ?_;refine RO.arith (v:=aN (n - 1)) ?_ (hv:=px (k:=n) af af);refine au ?_;refine Ru.nm λS M u r=>?_;refine Ru.cC r (up (P:=λk=>∀j a,a.length=n->(∀x,x<n->a.getD x .co=if x<k\/n<=x+k then l.getD (n - 1 - x) .co else l.getD x .co)->aj A j (tS e 1 a n true (.slice q 0 n cap ex)::us)->Ru ac _ S ([(p2,aN k),(p3,aN (n - 1 - k))]++pk M [p0]) j) (n - 1) (λk D w j a c d U=>?_) 0 af _ l o (λx d=>by rw[aq af]) U);subst u;subst r;refine Ru.loop ?_;refine au ?_;refine Ru.cond (λm=>?_) (λm=>?_)
 .have h:∀x,x<n->(a.getD x .co).ee=true/\(a.getD x .co).cells=[a.getD x .co]/\(a.getD x .co).bB=true:=λx b=>by
   rw[d x b];split;·exact g _ af
   exact g _ b
  have i:∀x,x<n->a[0+x*1]?=some (a.getD x .co):=λx b=>by rw[show 0+x*1=x by omega,bF af];simp
  obtain⟨E,F,G⟩:=h k af;obtain⟨b1,b2,I⟩:=h (n - 1 - k) af;refine tn ?_;refine RO.fD U 0 (hv:=i (n - 1 - k) af) ?_;refine tn ?_;refine RO.fD U 0 (hv:=i k af) ?_;refine tn ?_;refine RO.yK U 0 c (λJ U=>?_) (k:=k);refine tn ?_;refine RO.yK (vs:=a.set k (a.getD (n - 1 - k) .co)) (n:=n) U 0 (by rw[ak4];exact c) (λy U=>?_) (k:=n - 1 - k) (ho:=by rw[ak4];omega);refine tn ?_;refine RO.arith (v:=aN (n - 1 - (k+1))) ?_ (hv:=by rw[show n - 1 - (k+1)=n - 1 - k - 1 by omega];exact px (k:=n - 1 - k) af af);refine au ?_;have z:∀x,x<n->((a.set k (a.getD (n - 1 - k) .co)).set (n - 1 - k) (a.getD k .co)).getD x .co=if x<k+1\/n<=x+(k+1)then l.getD (n - 1 - x) .co else l.getD x .co:=λx b=>by
   rw[afU af af];by_cases h1:x=n - 1 - k;·rw[aK h1,aK af,d k af,aq af,h1];congr 1;omega
   rw[aq h1];by_cases h2:x=k;·rw[aK h2,aK af,d _ af,aq af,h2]
   rw[aq h2,d x b];by_cases h3:x<k\/n<=x+k;·rw[aK h3,aK af]
   rw[aq h3,aq af]
  have B:((a.set k (a.getD (n - 1 - k) .co)).set (n - 1 - k) (a.getD k .co)).length=n:=by simpa using c
  exact Ru.wk (w (k+1) af af y _ B z U)
 refine Ru.exitTo ?_;refine au ?_;have e:a=l.reverse:=by
  apply alg (by simp[c,o]);intro x h1 h2;have h3:=d x af;rw[bF h1]at h3;rw[h3,List.getElem_reverse];split;·rw[bF af];congr 1;omega
  rw[bF af];congr 1;omega
 subst e;exact Ru.aA (vs:=[]) trivial (t _ U)
end
end
end Go.am.R
end
