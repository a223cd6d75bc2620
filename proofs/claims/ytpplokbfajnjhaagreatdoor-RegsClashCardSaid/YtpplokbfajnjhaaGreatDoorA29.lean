/- A part. No conditions. -/
import Derived.Test.YtpplokbfajnjhaaGreatDoorA28
set_option linter.all false
set_option maxHeartbeats 16000000
open List renaming replicate->acJ
open Nat renaming ble->ai0
open List.Perm renaming swap->aiK,cons->aiP
open List.Pairwise renaming nil->ajO
noncomputable section
namespace Go.al.R
section
variable{ab:Nat->aV}
section
structure FX(g:G.aP)(H:ai)(fq:ah)(vb ov av lvv:AV)(svs:List AV)(come:List Bool)(os:List (List bt))(ap:List Nat)(lv:List (List Int)):Prop where
 ro:vF H fq vb av svs g.aj.length
 bl:cQ 7 iP H g.aj vb
 c1:aY H fq 1=some (aI g.params)
 c2:aY H fq 2=some (aI g.aQ)
 c4:aY H fq 4=some ov
 od:Sl H 1 (ap.map aN) ap.length ov
 c6:aY H fq 6=some lvv
 sl:pD H lv lvv
 op:∀b,come.getD b false=true->mD H (os.getD b []) (svs.getD b .bM)
theorem FX.bR{g:G.aP}{H H':ai}{c:ah}{a d f h:AV}{e:List AV}{come:List Bool}{os:List (List bt)}{ap:List Nat}{j:List (List Int)}(t:FX g H c a d f h e come os ap j)(hg:aS H H'):FX g H' c a d f h e come os ap j:=by have hl:=t.ro.lt;have⟨h1,h2,h3,k,l,m,o,r,s⟩:=t;exact⟨h1.bR hg,bX.block.gp hg h2,by rw[hg.aY hl];exact h3,by rw[hg.aY hl];exact k,by rw[hg.aY hl];exact l,hg.sl m,by rw[hg.aY hl];exact o,bX.zZ.gp hg r,λb hb=>hg.sl (s b hb)⟩
section
variable{g:G.aP}{come q:List Bool}{os p:List (List bt)}
theorem b9.bK(e:fy g)(j:b9 g come os)(f:b9 g q p){b:Nat}(hb:come.getD b false=true):q.getD b false=true/\p.getD b []=os.getD b []:=f.oF e (j.cK b hb)
theorem Lv.bK(f:fy g)(s:b9 g come os)(l:b9 g q p){b:Nat}{v:Int}(hl:Lv g os b v):come.getD b false=true->Lv g p b v:=by
 induction hl with
 |kU h1 h2=>intro _;exact .kU h1 h2
 | @iq b w v m _ j k=>
  intro hb;have e:wW g p b=wW g os b:=by simp only[wW,(s.bK f l hb).2]
  exact .iq (by rw[e];exact m) (k (s.iq hb m)) j
 | @kl b t v o _ j k=>intro hb;have⟨_,_,_,_,r,_⟩:=qG f s hb o;exact .kl (by rw[(s.bK f l hb).2];exact o) (k r) j
theorem fN.bK{k:List (List Int)}(f:fy g)(m:b9 g come os)(j:b9 g q p)(hl:fN g come os k):fN g q p k:=by
 refine⟨hl.len,λb hb v=>?_,λb hb=>hl.Gf b ?_,hl.iD⟩;·have e:=(j.bK f m hb).1;rw[hl.mem b e];exact⟨λx=>x.bK f m j e,λx=>x.bK f j m hb⟩
 cases l:come.getD b false with|false=>rfl|true=>rw[(m.bK f j l).1]at hb;cases hb
end
section
variable{g:G.aP}{a d h:AV}{c n i:ah}{A H:ai}{us:List Th}
def tL(g:G.aP)(a d h:AV)(c n i:ah)(ap:List Nat)(b:List AV)(F:List Th):List Th:=[tB WJ c [.str g.name,aI g.params,aI g.aQ,a,d,.slice i 0 g.aj.length g.aj.length true,h],tS E6 1 b g.aj.length true (.slice i 0 g.aj.length g.aj.length true),tB jQ n [.aD c 0],tZ F,tS 3 1 (ap.map aN) ap.length true d]
theorem aen(T:Tb ab)(V:Vd g){cs:List AV}(hg:dt H g cs){K:KT}(hK:∀H' c a d c9 h s come os ap lv,b9 g come os->eT g come os ap->fN g come os lv->aS H H'->FX g H' c a d c9 h s come os ap lv->K (.tuple [.aD c 0,aI 0]) H'):YN ab E' [.agg cs] H K:=by
 have cR:=hg.one;have hB:=V.sm;have c':=hB.nb;obtain⟨a,rfl,bG⟩:=hg;have⟨dr,ds,dv,a6⟩:=bG.all;refine YF.code T.La aC (au ?_);refine RO.ct (ak.bN H) λH1 q1 U=>af ?_;refine RO.co U 0 ?_;refine RO.cl (ad1 T V (cs:=[.str g.name,aI g.params,aI g.aQ,a]) ⟨a,rfl,bX.block.gp U.gr bG⟩ λH2 d come os ap u P hl=>?_);have U:=U.dq hl;have⟨a8,dx,a',dy⟩:=(hl.sl (e:=3) (size:=1) (sv:=d) (vs:=ap.map aN) (n:=ap.length) (full:=true) 0).all;have dz:ap.length<=g.aj.length:=rX _ _ P.nd λx L=>u.lt ((P.mem x).1 L);refine af ?_;refine RO.co U 1 (af ?_);refine RO.jy U (n:=g.aj.length) (λH3 i U=>?_) (hz:=by rw[eK];simp);rw[eK]at U;refine af ?_;refine RO.build (vs:=[.str g.name,aI g.params,aI g.aQ,a,d,.slice i 0 g.aj.length g.aj.length true,.bh]) ?_ (hl:=gT rfl rfl rfl rfl rfl (gT rfl a8 a' rfl rfl (gT rfl rfl rfl rfl rfl rfl)));refine RO.ct U (λH4 c U=>?_) (v:=.agg [.str g.name,aI g.params,aI g.aQ,a,d,.slice i 0 g.aj.length g.aj.length true,.bh]);refine RO.dS U λH5 n U=>?_;refine af ?_;refine RO.co U 4 ?_;have d0:c.am<H5.next.am:=by obtain⟨_,A⟩:=U.get 1 rfl;obtain⟨_,_,_,_,_,d'⟩:=A;exact d'
 have ba:n.am<H5.next.am:=by obtain⟨_,A⟩:=U.get 0 rfl;obtain⟨_,_,_,_,_,d'⟩:=A;exact d'
 have bb:aY H5 n 0=some (.aD c 0):=by obtain⟨_,A⟩:=U.get 0 rfl;exact tB.cell A rfl
 refine RO.B3 (aej T V (cs:=[.str g.name,aI g.params,aI g.aQ,a]) ⟨a,rfl,bX.block.gp U.gr bG⟩ λH6 h cE d1 lv z F2 bc Q bv R=>⟨by rw[R.gr.aY ba];exact bb,?_⟩) (hvs:=by simp[eV,cC,ah.fg]);have Q:=Q.bK V.cK bc u;have⟨b0,b3,b4,_⟩:=(R.sl (e:=cB) (size:=1) (sv:=h) (vs:=z) (n:=z.length) (full:=true) 1).all;have U:ak H H6 ([_,_,_,_,_]++[tZ F2,tS cB 1 z z.length true h]):=(U.dq R).bV aiq;refine af ?_;refine RO.dJ U 1 (λH7 U=>af ?_);have U:=(((((U.mh 222 2).as 0 rfl λfp A=>tS.io A).lU.bV (aiK ..)).iC.eh 1 rfl).eh 3 rfl).eh 3 rfl;have U:ak H H7 (tL g a d h c n i ap (acJ g.aj.length .bh) [tR 2 (gV []) 0 .bh]++(fC []++[tB cJ q1 [.str g.name,aI g.params,aI g.aQ,a],tZ F2,tS cB 1 z z.length true h])):=U;refine Ru.nm λS0 M hS hM=>Ru.bI hM (up (P:=λk=>∀HX W s F,s.length=g.aj.length->(∀x,come.getD x false=true->(x=0\/∃y∈ap.take k,x∈wW g os y)->tR 2 (gV (os.getD x [])) (os.getD x []).length (s.getD x .bM)∈F)->ak H HX (tL g a d h c n i ap s F++(fC W++[tB cJ q1 [.str g.name,aI g.params,aI g.aQ,a],tZ F2,tS cB 1 z z.length true h]))->Ru ab ⟨mZ [.tmp p2,.tmp p3] K,W,none⟩ S0 ([(rP,aN k)]++pk M [p6,n6,qy]) HX) ap.length (λk hk ih HX W s F b6 hF U=>?_) 0 aa _ [] _ _ aC (λx L d'=>?_) U);rotate_left
 .rcases d' with rfl|⟨y,E,_⟩;·have b7:=u.lt u.c0;rw[(u.oF V.cK .zero).2,bf (by simpa using b7)];simp
  simp at E
 subst hS;subst hM;refine Ru.loop (au ?_);refine Ru.cond (λC=>?_) (λC=>?_)
 .have b':=acm C;have J:=(P.mem _).1 b';have Z:ap.take (k+1)=ap.take k++[ap[k]]:=(ah9 C).symm;have N:=P.aK (ap.take k) ap[k] (ap.drop (k+1)) (by conv=>lhs;rw[<-ai1 k ap,ah6 C]);have ag:=hF _ J N;refine af ?_;refine RO.iQ (aS.refl _) (U.sl (e:=3) (size:=1) (sv:=d) (vs:=ap.map aN) (n:=ap.length) (full:=true) 4) (λq5 o5 d2 d3=>?_) (j:=k);have ih:=ih (k+1) aa aa;rw[Z]at ih;clear Z N;generalize ap[k]=b at*;have B:=u.cK b J;have a6:=u.lt J;have ca:(g.aj.getD b default).aq.op=68->os.getD b []≠ []:=λcd e=>by have⟨o,ho,_⟩:=(V.oG come os u).en b J cd;rw[e]at ho;cases ho
  generalize a1:os.getD b []=now at*;generalize cf:s.getD b .bM=nv at*;refine af ?_;refine RO.cl (NQ T λH8 av aw hl=>?_);have U:ak H H8 ([tB 3 aw [aN b],tB jQ av [.aD c 0]]++tL g a d h c n i ap s F++(fC W++[tB cJ q1 [.str g.name,aI g.params,aI g.aQ,a],tZ F2,tS cB 1 z z.length true h])):=U.dq hl;refine af ?_;refine Ru.wk (L:=[(uO,.func BX [] [.aD av 0,.aD aw 0]),(p6,.aD n 0),(n6,d),(qy,aN ap.length),(rP,aN k)]) ?_;refine Ru.oh (J:=λm ts=>∃r G,r.length=g.aj.length/\tR 2 (gV now) now.length nv∈G/\(∀x,come.getD x false=true->(x=0\/(∃y∈ap.take k,x∈wW g os y)\/∃w∈(bU g b now).take m,x=w.1.toNat)->tR 2 (gV (os.getD x [])) (os.getD x []).length (r.getD x .bM)∈G)/\ts=tL g a d h c n i ap r G) (Dn:=λ_ _=>False) U (NR T hB bG (b:=b) (now:=now) (nv:=nv) (V.cK.aE B) (V.cK.jm B).1 (by have:=(V.cK.jm B).2;omega) ca) (λH2 hg=>?_) ⟨s,F,b6,ag,λx L d'=>hF x L (by rcases d' with d'|d'|⟨w,D,_⟩;exact .inl d';exact .inr d';simp at D),rfl⟩ (λk args ws d'=>by obtain⟨_,v,rfl,_⟩:=d';rfl) (λm ts us H' X U=>?_) (λm args ws ts us l o1 o2 H' hm cn X U=>?_) (λH' cp dm X U=>?_) (λj H' cp dm _ d'=>d'.elim)
  .have U:=U.bR hg;have I:∀(o:Nat)(v:AV),([.str g.name,aI g.params,aI g.aQ,a,d,.slice i 0 g.aj.length g.aj.length true,h]:List AV)[o]?=some v->aY H2 c o=some v:=λo v d'=>by obtain⟨_,A⟩:=U.get 2 rfl;exact tB.cell A d'
   have S:c.am<H2.next.am:=by obtain⟨_,A⟩:=U.get 2 rfl;obtain⟨_,_,_,_,_,d'⟩:=A;exact d'
   have⟨f,Y,_⟩:=U.kj 5 rfl ag;exact⟨_,s,⟨S,I 3 _ rfl,I 5 _ rfl,U.sl 3⟩,cf,Y⟩
  .obtain⟨r,G,_,h2,_,rfl⟩:=X;have⟨f,Y,_⟩:=U.kj 3 rfl h2;exact Y
  .obtain⟨r,G,g1,g2,g3,rfl⟩:=X;obtain⟨ax,v,rfl,b0,b3,b4,cv⟩:=cn;have U:ak H H' (tL g a d h c n i ap r (tR 2 (gV (bU g b now)[m].2) (bU g b now)[m].2.length v::G)++tX l o1::us):=by
    rcases cv with⟨rfl,a2⟩|rfl;·exact((U.eh 3 rfl).LI g2 (t':=tR 2 (gV (bU g b now)[m].2) (bU g b now)[m].2.length v) λf d'=>MI a2 d').bV (aii (l₁:=[_,_,_])).symm
    have h5:=U.as 0 rfl λfp A=>tS.io A;have h6:=h5.bV (aiP _ (aii (l₁:=[_,_,_])));exact(ak.iC h6).bV (aii (l₁:=[_,_,_])).symm
   have ay:(bU g b now)[m]∈bU g b now:=acm ax;have⟨d4,d5⟩:=V.cK.zV B _ ay;have cx:=fJ.step B ay;obtain⟨t,ht⟩:∃t:Nat,(bU g b now)[m].1=(t:Int):=⟨(bU g b now)[m].1.toNat,aa⟩;have d6:t<g.aj.length:=aa;have cy:(bU g b now).take (m+1)=(bU g b now).take m++[(bU g b now)[m]]:=(ah9 ax).symm;have O:=(u.oF V.cK cx).2;rw[ht,ahX]at O;rw[ht];refine au ?_;refine Ru.cY (xs:=tL g a d h c n i ap r (tR 2 (gV (bU g b now)[m].2) (bU g b now)[m].2.length v::G)) U λH9 U=>af ?_;refine RO.uX U 1 g1 (λd7 U=>af ?_) (k:=t);refine Ru.bz (ts:=tL g a d h c n i ap (r.set t v) (tR 2 (gV (bU g b now)[m].2) (bU g b now)[m].2.length v::G)) U ⟨_,_,by simpa using g1,adT _ g2,λx L d'=>?_,rfl⟩;rw[dD aa];by_cases e:x=t;·rw[aG e,e,O];exact acI ..
   rw[an e];refine adT _ (g3 x L ?_);rcases d' with d'|d'|⟨w,D,d'⟩;·exact .inl d'
   .exact .inr (.inl d')
   rw[cy]at D;rcases adX.1 D with D|D;·exact .inr (.inr ⟨w,D,d'⟩)
   rw[abP]at D;subst D;rw[ht,ahX]at d';exact absurd d' e
  obtain⟨r,G,g1,g2,g3,rfl⟩:=X;rw[ajg]at g3;refine af ?_;exact Ru.wk (ih H' (dm::W) r G g1 (λx L d'=>g3 x L (by
   rcases d' with d'|⟨y,E,d'⟩;·exact .inl d'
   rcases adX.1 E with E|E;·exact .inr (.inl ⟨y,E,d'⟩)
   rw[abP]at E;subst E;simp only[wW,kn,a1,aia]at d';have⟨w,D,d'⟩:=d';exact .inr (.inr ⟨w,D,d'.symm⟩))) U)
 refine Ru.exitTo ?_;rw[aic aa]at hF;refine af ?_;have U:=ak.dR (xs:=tL g a d h c n i ap s F) (by rw[ahD];exact U);refine Ru.jl (M:=W) U λH' U=>⟨[.aD c 0,aI 0],⟨rfl,rfl,rfl,rfl,trivial⟩,?_⟩;have I:∀(o:Nat)(v:AV),([.str g.name,aI g.params,aI g.aQ,a,d,.slice i 0 g.aj.length g.aj.length true,h]:List AV)[o]?=some v->aY H' c o=some v:=λo v d'=>by obtain⟨_,A⟩:=U.get 0 rfl;exact tB.cell A d'
 have S:c.am<H'.next.am:=by obtain⟨_,A⟩:=U.get 0 rfl;obtain⟨_,_,_,_,_,d'⟩:=A;exact d'
 refine hK H' c a d _ h s come os ap lv u P Q U.gr ⟨⟨S,I 3 _ rfl,I 5 _ rfl,U.sl 1⟩,bX.block.gp U.gr bG,I 1 _ rfl,I 2 _ rfl,I 4 _ rfl,U.sl 4,I 6 _ rfl,bv.sl U 6 rfl (U.sl (e:=cB) (size:=1) (full:=true) 7),λb hb=>?_⟩;have:b=0\/∃y∈ap,b∈wW g os y:=by
  have⟨cz,c8,e⟩:=List.append_of_mem ((P.mem b).2 hb);rcases P.aK _ _ _ e with d'|⟨y,E,d'⟩;·exact .inl d'
  exact .inr ⟨y,by rw[e];exact ah1 _ E,d'⟩
 have⟨f,Y,_⟩:=U.kj 3 rfl (hF b hb this);exact Y
end
end
section
section
variable{g:G.aP}{i n av m:AV}{f:ah}{A H:ai}{h:List AV}{come:List Bool}{os:List (List bt)}{ap:List Nat}{d:List (List Int)}
def jE(g:G.aP)(d:List (List Int))(o:List bt):List Int:=match jU g o with
 |some t=>d.getD t.toNat []
 |none=>[]
theorem aeo(T:Tb ab)(V:Vd g){B:ai}(c:aS B H)(p:FX g B f i n av m h come os ap d)(J:b9 g come os)(S:fN g come os d){b:Nat}(hb:come.getD b false=true){K:KT}(ds:∀H' v,eE B (jE g d (os.getD b [])) v->aS H H'->K v H'):YN ab Xk [.aD f 0,aN b] H K:=by
 have hB:=V.sm;have bv:=hB.nb;have b0:=J.lt hb;have⟨hO,b3⟩:=V.cK.jm (J.cK b hb);have hs:=p.op b hb;have⟨W,X,Y,b4⟩:=hs.all;have u:=p.ro.lt;have Z:=p.ro.aE;have ag:=p.ro.jm;have aw:=p.c6;have⟨b6,_,_,_⟩:=p.ro.sl.all;have⟨b7,_,_,_⟩:=p.bl.all;have⟨b',_,_,_⟩:=p.sl.all;have F:∀t,jU g (os.getD b [])=some t->0<=t/\t.toNat<d.length:=λt P=>by obtain⟨_,_,_,_,hc,h0⟩:=qG V.cK J hb P;exact⟨h0,by rw[S.len];exact J.lt hc⟩
 refine YF.code T.Zw aC (au ?_);refine RO.ct (ak.bN H) λH1 L U=>?_;refine RO.dN U λH2 M U=>?_;refine af ?_;refine RO.be ?_ (v:=av) (hc:=by rw[(c.trans U.gr).aY u];exact ag);refine af ?_;refine RO.rW (c.trans U.gr) p.ro.sl (λq8 o8 ca _=>?_) (j:=b);refine af ?_;refine RO.cl (Cu T.ZR bx W X Y λH4 q hl=>?_);have U:=U.dq hl;refine af ?_;generalize os.getD b []=o at*;refine Ru.wk (L:=[(ic,.func XO [] [.aD q 0]),(p2,.aD L 0),(p4,.aD M 0)]) ?_;have U:ak H H4 ([tB E6 q [h.getD b .bM]]++[tB cB M [.bh],tB jQ L [.aD f 0]]++[]):=U;refine Ru.oh (J:=λk ts=>ts=[tB cB M [.bh],tB jQ L [.aD f 0]]/\∀j(hj:o.length - 1 - j<o.length),j<k->o[o.length - 1 - j].2≠0) (Dn:=λj ts=>j=.ret/\∃t v,jU g o=some t/\eE B (d.getD t.toNat []) v/\ts=[tB cB M [v],tB jQ L [.aD f 0]]) U (Ct (R:=NO) (agg:=true) (size:=2) (la:=o) (sv:=h.getD b .bM) (e:=E6) (nt:=19) T.Z3 bx aa (λds=>by cases ds) (λa cs ds=>by cases ds;rfl)) (λH2 hg=>mD.r (((c.trans U.gr).trans hg).sl hs)) ⟨rfl,λj _ hj=>absurd hj aa⟩ (λk args ws ds=>by obtain⟨_,_,_,_,rfl⟩:=ds;rfl) (λk ts us H' N U=>mD.r ((c.trans U.gr).sl hs)) (λk args ws ts us l o1 o2 H' hk ax N U=>?_) (λH' ay Q N U=>?_) (λj H' ay Q hj hD U=>?_)
 .obtain⟨rfl,z,cs,a1,rfl⟩:=ax;obtain⟨rfl,eB⟩:=N;have a2:=acm z;generalize w:o[o.length - 1 - k]=oo at*;have⟨ob,A⟩:=oo;subst a1;refine af ?_;refine RO.dS U λH5 q7 U=>af ?_;refine Ru.cY (xs:=[_,_,_]) U λH6 U=>af ?_;refine Ru.eC (λh0=>?_) (λh0=>?_)
  .have a6:A=0:=by simpa using h0
   have⟨g1,g2,R⟩:=hO.ok _ a2;simp only at g1 g2 R;obtain⟨t,rfl⟩:∃t:Nat,ob=(t:Int):=⟨ob.toNat,aa⟩;rw[ahX]at R;have C:t<g.aj.length:=aa;have g4:g.aj[t].aq.go.length=3:=by rw[<-R,bf C]
   have s:=Nx (g:=g) z hk eB (by rw[w];exact a6);rw[w]at s;simp only[aE,ahX,bf C]at s;rw[bf aa]at s;have⟨i0,i1⟩:=F _ s;refine af ?_;refine RO.be ?_ (v:=m) (hc:=by rw[(c.trans U.gr).aY u];exact aw);refine af ?_;refine RO.be ?_ (v:=i) (hc:=by rw[(c.trans U.gr).aY u];exact Z);refine af ?_;refine RO.bO (c.trans U.gr) p.bl (λq9 o9 dr cd a8 cf hat _=>?_) (j:=t);obtain⟨vp,vs,jc,rfl,_,_,va,vk,vg,rfl,_,_,D⟩:=a8;have⟨cn,_,_,_⟩:=D.all;refine af ?_;refine RO.be (v:=vg) (RO.bO (c.trans U.gr) D (λcp cv cx a' G ba x _=>?_) (j:=1) (hj:=by omega)) (hc:=hat 6 _ rfl);obtain⟨ve,rfl,_⟩:=G;generalize g.aj[t].aq.go[1].block=tt at*;obtain⟨O,rfl⟩:∃O:Nat,tt=(O:Int):=⟨tt.toNat,aa⟩;rw[ahX]at i1;refine af ?_;refine RO.be (v:=aN O) (RO.bO (c.trans U.gr) p.sl (λcy cE cR bb I bc y _=>?_) (j:=O)) (hc:=x 0 _ rfl);obtain⟨vl,rfl,E⟩:=I;have⟨c8,c9,c',_⟩:=E.all;refine af ?_;refine RO.be (v:=vl) (RO.dJ U 1 (λH7 U=>af ?_)) (hc:=y 0 _ rfl);have U:=U.tail (t:=tB Kj q7 [aN t,.bool (A==0)]);refine Ru.zN (ts:=[_,_]) U ⟨rfl,_,vl,s,?_,rfl⟩;rw[ahX,bf i1];exact E
  refine af ?_;refine Ru.bz (ts:=[_,_]) U.tail ⟨rfl,λj hj dm=>?_⟩;by_cases e:j=k;·subst e;rw[w];simpa using h0
  exact eB j hj aa
 .obtain⟨rfl,eB⟩:=N;refine af ?_;refine RO.dJ U 0 (λH5 U=>af ?_);refine Ru.jl (M:=[Q]) (ts:=[_,_]) (U.bV (aii (l₁:=[_,_]))) λH' U=>⟨[.bh],⟨⟨_,_,rfl,U.one 0⟩,trivial⟩,ds H' .bh ?_ U.gr⟩;rw[jE,Nw eB];exact .inl ⟨rfl,rfl,rfl⟩
 obtain⟨rfl,t,v,P,hv,rfl⟩:=hD;refine RJ.rE (RJ.jl (M:=[Q]) (ts:=[_,_]) (.inr rfl) (U.bV (aii (l₁:=[_,_]))) λH' U=>⟨[v],⟨⟨_,_,rfl,U.one 0⟩,trivial⟩,ds H' v ?_ U.gr⟩);rw[jE,P];exact hv
end
section
variable{H:ai}{q:ah}{ks:List Int}
theorem aep(T:Tb ab)(hs:fi (H.get q) ks){es:List aW}{cc:Nat}(he:H.get q=.map es cc){K:KT}(c:∀H' b,ak H H' [tM true b λx=>x∈ks]->K (.map b) H'):YN ab Xn [.map q] H K:=by
 refine YF.code T.ZA aC (au ?_);refine RO.eq (t:=false) (au ?_) (ht:=rfl);have hg:uu [.iface eL (.map q)] H=some (.iface eL (.map H.next),H.new (.map es cc)):=by simp only[uu,he]
 refine RO.cl (YF.fF T.aa8 hg ?_);refine RO.typeAssert (u:=eL) (v:=.map H.next) rfl rfl ?_;refine au ?_;have a:fi (.map es cc) ks:=by rw[<-he];exact hs
 exact Ru.aL (c _ _ ((ak.bN H).M8 (S:=λx=>x∈ks) (ex:=true) a (λ_=>ajH) λ_=>⟨es,cc,rfl⟩))
theorem GL(T:Tb ab)(hs:fi (H.get q) ks)(he:∃es c,H.get q=.map es c){w:Int}{l:List Int}{d:AV}(hl:eE H l d)(u:l.length<=1000000){K:KT}(o:∀H' b S,(∀x,S x↔x∈l\/x∈ks/\x≠w)->ak H H' [tM true b S]->K (.map b) H'):YN ab KM [.map q,aI w,d] H K:=by
 have⟨v,_,_,y⟩:=hl.all;have⟨es,cc,he⟩:=he;refine YF.code T.Zi aC (au ?_);refine RO.cl (aep T hs he λH1 b U=>au ?_);refine RO.eq (t:=false) (au ?_) (ht:=rfl);refine RO.ady U 0 (z:=w) (λA U=>au ?_);refine Ru.nm λp M r j=>Ru.bI j (up (P:=λk=>∀g S,(∀x,S x↔x∈l.take k\/x∈ks/\x≠w)->ak H g [tM true b S]->Ru ab _ p ([(rI,aN k)]++pk M [p7,ml,mq]) g) l.length (λk B s g S a U=>?_) 0 aa _ _ (λx=>by simp) U);subst r;subst j;refine Ru.loop (au ?_);refine Ru.cond (λe=>?_) (λe=>?_)
 .refine au ?_;refine RO.jk U.gr hl (λC o1 hj z=>au ?_) (j:=k);refine RO.adv U 0 (z:=l[k]) (λt U=>au ?_);exact Ru.wk (s (k+1) aa aa t _ (λx=>by
   rw[a,<-ah9 e,adX,abP];constructor
   .rintro(D|D|D);·exact .inl (.inr D)
    .exact .inl (.inl D)
    exact .inr D
   rintro((D|D)|D);·exact .inr (.inl D)
   .exact .inl D
   exact .inr (.inr D)) U)
 refine Ru.exitTo ?_;rw[aic aa]at a;refine au ?_;exact Ru.aL (o g b S a U)
end
end
section
section
variable{A H:ai}{ts:List Th}{q:ah}{S:Int->Prop}
theorem xY(T:Tb ab)(U:ak A H ts)(i:Nat)(hi:ts[i]?=some (tM true q S)){w:Int}{l:List Int}{e:AV}(hl:eE H l e)(c:l.length<=1000000){K:KT}(f:∀H' a b,(∀x,b x↔x∈l\/S x/\x≠w)->ak A H' (tM true a b::ts)->K (.map a) H'):YN ab KM [.map q,aI w,e] H K:=by have⟨⟨ks,hs,g⟩,he,_⟩:=U.lE i hi;refine GL T hs (he rfl) hl c λH' a b h1 d=>f H' a b (λx=>?_) (U.dq d);rw[h1,g]
theorem GM:∀(l:List Int)(x:Int),x∈eI l↔x∈l
 |[],x=>by simp[eI]
 |y::l,x=>by
  have h:∀(z:Int)(l:List Int),x∈lq z l↔x=z\/x∈l:=by
   intro z l;induction l with
   |nil=>simp[lq]
   |cons a l b=>
    simp only[lq];split
    .simp only[acT,b];constructor
     .rintro(h|h|h);·exact .inr (.inl h)
      .exact .inl h
      exact .inr (.inr h)
     rintro(h|h|h);·exact .inr (.inl h)
     .exact .inl h
     exact .inr (.inr h)
    simp
  simp only[eI,h,GM l,acT]
theorem NS:∀l:List Int,(eI l).length=l.length
 |[]=>rfl
 |y::l=>by
  have h:∀(z:Int)(l:List Int),(lq z l).length=l.length+1:=by intro z l;induction l with|nil=>rfl|cons a l b=>simp only[lq];split<;>simp[b]
  simp only[eI,h,NS l,air]
theorem NT:∀l:List Int,l.Nodup->(eI l).Pairwise (·<·)
 |[],_=>ajO
 |y::l,k=>by
  have⟨h1,h2⟩:=aiz.1 k;have g:=NT l h2;have e:y∉eI l:=by rw[GM];exact h1
  simp only[eI];generalize eI l=m at*;clear k h1 h2;induction m with
  |nil=>simp[lq]
  |cons a m f=>
   have⟨i,n⟩:=ajc.1 g;simp only[acT,not_or]at e;simp only[lq];split
   .rename_i d;rw[kR,decide_eq_true_eq]at d;refine ajc.2 ⟨λb hb=>?_,f n e.2⟩;have:b=y\/b∈m:=by
     clear f g i n e d;induction m with
     |nil=>simpa[lq]using hb
     |cons c m j=>
      simp only[lq]at hb;split at hb
      .rcases acT.1 hb with h|h;·exact .inr (h▸acI ..)
       exact(j h).imp id (adT _)
      exact acT.1 hb
    rcases this with rfl|h;·exact d
    exact i b h
   rename_i d;rw[kR,Bool.not_eq_true,decide_eq_false_iff_not]at d;refine ajc.2 ⟨λb hb=>?_,g⟩;rcases acT.1 hb with rfl|h;·have:=e.1;omega
   have:=i b h;have:=e.1;omega
theorem aeq(T:Tb ab)(U:ak A H ts)(i:Nat){ex:Bool}(hi:ts[i]?=some (tM ex q S))(m:∀ks:List Int,ks.Nodup->(∀x,x∈ks↔S x)->ks.length<=1000){K:KT}(g:∀(H':ai)(v:AV)(l:List Int),(∀x,x∈l↔S x)->l.Pairwise (·<·)->ak A H' (tR 1 (l.map aI) l.length v::ts)->K v H'):YN ab K4 [.map q] H K:=by
 have⟨⟨ks,hs,d⟩,_,_⟩:=U.lE i hi;have⟨_,h⟩:=Ae hs;have b:=hs.1;have f:=m ks b d;have c:∀x,x∈eI ks↔S x:=λx=>by rw[GM,d]
 cases ks with
 |nil=>
  refine YF.fF (v:=.bh) (H':=H) T.Fk (by simp[ut,h]) (g H .bh [] (λx=>?_) ajO ?_);·rw[<-d]
  exact(U.mh 3 1).as 0 rfl λo e=>tS.io e
 |cons k ks=>have hb:ai0 (k::ks).length 1000=true:=aiB f;have a:=NS (k::ks);refine YF.fF (v:=.slice H.next 0 (k::ks).length (k::ks).length false) (H':=H.new (.cells (cq ((eI (k::ks)).map λn=>.int 3 n)) (k::ks).length 3 true [] 0)) T.Fk (by simp only[ut,aiY,aiS,h,hb,bi]) (g _ _ (eI (k::ks)) c (NT _ b) ?_);have j:=cP.new (H:=H) (e:=3) (size:=1) (n:=(k::ks).length) (vs:=(eI (k::ks)).map aI) (by rw[aig,a];simp) false true;rw[ajo]at j;have:=(U.push (aS.new H _) (t:=tS 3 1 ((eI (k::ks)).map aI) (k::ks).length true (.slice H.next 0 (k::ks).length (k::ks).length false)) j (rG H)).as 0 rfl λo e=>tS.io e;rw[a];exact this
end
def aer:bm:=(.seq (.region [O p4 (.bg (T p0)),O p5 (.jd (T p4)),O p6 (.arith .sub 3 (T p5) (I 3 1)),O p2 (.bg (I 3 0)),O p3 (.bg (T p6))]) (.block 0 (.loop (.seq (.seq (.region [O p7 (.bg (T p2)),O p8 (.bg (T p3)),O p9 (.arith .lss 3 (T p7) (T p8))]) (.cond (T p9) .skip (.exit 0))) (.seq (.block 1 (.region [O ic (.bg (T p0)),O ki (.bg (T p2)),O kV (.bg (T p0)),O ml (.bg (T p3)),O mq (.bg (T p0)),O rI (.bg (T p3)),O rJ (.dI 1 (T mq) (T rI)),O rL (.be (T rJ)),O qq (.bg (T p0)),O tb (.bg (T p2)),O tc (.dI 1 (T qq) (T tb)),O qv (.be (T tc)),O rM (.dI 1 (T ic) (T ki)),N (.store 1 (T rM) (T rL)),O rN (.dI 1 (T kV) (T ml)),N (.store 1 (T rN) (T qv))])) (.region [O eM (.bg (T p2)),O eS (.arith .add 3 (T eM) (I 3 1)),O ib (.bg (T p3)),O jA (.arith .sub 3 (T ib) (I 3 1)),O p2 (.bg (T eS)),O p3 (.bg (T jA))]))))))
theorem aes{l:List AV}{i j x:Nat}{a b:AV}(hi:i<l.length)(hj:j<l.length):((l.set i a).set j b).getD x .bM=if x=j then b else if x=i then a else l.getD x .bM:=by rw[dD (by simpa using hj),dD hi]
theorem aet{f e:Nat}(r:ab f=.code 28 [] aer){A H:ai}{us:List Th}{l:List AV}{n cap:Nat}{q:ah}{ex:Bool}(o:l.length=n)(h0:0<n)(B:n<1000000)(hv:∀v∈l,v.cW=true/\v.cells=[v]/\v.br=true)(U:ak A H (tS e 1 l n true (.slice q 0 n cap ex)::us)){K:KT}(s:∀H',ak A H' (tS e 1 l.reverse n true (.slice q 0 n cap ex)::us)->K (fZ []) H'):YN ab f [.slice q 0 n cap ex] H K:=by
 have g:∀x,x<n->(l.getD x .bM).cW=true/\(l.getD x .bM).cells=[l.getD x .bM]/\(l.getD x .bM).br=true:=λx d=>by rw[bf aa];exact hv _ (acm _)
 refine YF.code r aC (au ?_);refine RO.arith (v:=aN (n - 1)) (au ?_) (hv:=mg (k:=n) aa aa);refine Ru.nm λS M t p=>Ru.bI p (up (P:=λk=>∀j a,a.length=n->(∀x,x<n->a.getD x .bM=if x<k\/n<=x+k then l.getD (n - 1 - x) .bM else l.getD x .bM)->ak A j (tS e 1 a n true (.slice q 0 n cap ex)::us)->Ru ab _ S ([(p2,aN k),(p3,aN (n - 1 - k))]++pk M [p0]) j) (n - 1) (λk C u j a c d U=>?_) 0 aa _ l o (λx d=>by rw[an aa]) U);subst t;subst p;refine Ru.loop (au ?_);refine Ru.cond (λm=>?_) (λm=>?_)
 .have h:∀x,x<n->(a.getD x .bM).cW=true/\(a.getD x .bM).cells=[a.getD x .bM]/\(a.getD x .bM).br=true:=λx b=>by
   rw[d x b];split;·exact g _ aa
   exact g _ b
  have i:∀x,x<n->a[0+x*1]?=some (a.getD x .bM):=λx b=>by rw[show 0+x*1=x by omega,bf aa];simp
  have⟨D,E,a3⟩:=h k aa;have⟨b1,b2,F⟩:=h (n - 1 - k) aa;refine af ?_;refine RO.cZ U 0 (hv:=i (n - 1 - k) aa) (af ?_);refine RO.cZ U 0 (hv:=i k aa) (af ?_);refine RO.uX U 0 c (λG U=>af ?_) (k:=k);refine RO.uX (vs:=a.set k (a.getD (n - 1 - k) .bM)) (n:=n) U 0 (by rw[aja];exact c) (λw U=>?_) (k:=n - 1 - k) (ho:=by rw[aja];omega);refine af ?_;refine RO.arith (v:=aN (n - 1 - (k+1))) ?_ (hv:=by rw[show n - 1 - (k+1)=n - 1 - k - 1 by omega];exact mg (k:=n - 1 - k) aa aa);refine au ?_;have y:∀x,x<n->((a.set k (a.getD (n - 1 - k) .bM)).set (n - 1 - k) (a.getD k .bM)).getD x .bM=if x<k+1\/n<=x+(k+1)then l.getD (n - 1 - x) .bM else l.getD x .bM:=λx b=>by
   rw[aes aa aa];by_cases h1:x=n - 1 - k;·rw[aG h1,aG aa,d k aa,an aa,h1];congr 1;omega
   rw[an h1];by_cases h2:x=k;·rw[aG h2,aG aa,d _ aa,an aa,h2]
   rw[an h2,d x b];by_cases h3:x<k\/n<=x+k;·rw[aG h3,aG aa]
   rw[an h3,an aa]
  have z:((a.set k (a.getD (n - 1 - k) .bM)).set (n - 1 - k) (a.getD k .bM)).length=n:=by simpa using c
  exact Ru.wk (u (k+1) aa aa w _ z y U)
 refine Ru.exitTo (au ?_);have e:a=l.reverse:=by
  apply ai2 (by simp[c,o]);intro x h1 h2;have h3:=d x aa;rw[bf h1]at h3;rw[h3,List.getElem_reverse];split;·rw[bf aa];congr 1;omega
  rw[bf aa];congr 1;omega
 subst e;exact Ru.aq (vs:=[]) trivial (s _ U)
end
end
end Go.al.R
end
