/- A part. No conditions. -/
import Derived.Test.YtjapbgcbkolgmaaGreatDoorA21
set_option linter.all false
set_option maxHeartbeats 16000000
noncomputable section
namespace Go.al.R
section
variable{ac:Nat->aX}
def uy(g:G.be)(come:List Bool)(os:List (List bK))(b:Nat)(p:Int×Int):Prop:=
 ∃t:Nat,p.1=(t:Int)/\t<(gO g).length/\((t:Int)<g.i4\/(((gO g).getD t (-1, -1)).1=(b:Int)/\((gO g).getD t (-1, -1)).2<p.2)\/∃s:Nat,((gO g).getD t (-1, -1)).1=(s:Int)/\s≠b/\come.getD s false=true/\dX (wW g os) s b)
structure qP(g:G.be)(come:List Bool)(os:List (List bK)):Prop where
 en:∀b,come.getD b false=true->(g.aj.getD b default).aB.op=68->∃o,(os.getD b []).getLast?=some o/\0<=ip g o/\ip g o<g.aj.length/\(g.aj.getD (ip g o).toNat default).i4.length=(g.aj.getD b default).aB.args.length
 rt:∀b,come.getD b false=true->(g.aj.getD b default).aB.op=69->os.getD b []=[]
 rd:∀b,come.getD b false=true->∀p∈gw (g.aj.getD b default),uy g come os b p
section
variable{g:G.be}{c d:AV}{a:af}{H:ah}{come:List Bool}{os:List (List bK)}{e:List AV}
def kl(g:G.be)(a h i j k:af)(up:List Int)(b f:AV):List Th:=[tB tP k [f],tB V1 j [b],tB j6 h [.aE a 0],tB 4 i [.bool false],tS oC 2 (gz (gO g)) (gO g).length true f,tS 3 1 ((up.set 0 (-1)).map aI) g.aj.length true b]
theorem Ru.cut{j:Cx}{s:List SI}{x:SI}{L:Kn}{H:ah}{P:ah->Prop}(h:List af)(h1:∀b,P b->Ru ac j s (pk L h) b)(h2:(∀b f,P b->iW (pk L h) f->Ru ac j s f b)->Ru ac j (x::s) L H):Ru ac j (x::s) L H:=h2 λb f i hl=>(h1 b i).pv hl
structure qQ(g:G.be)(come:List Bool)(os:List (List bK))(b:Nat):Prop where
 en:(g.aj.getD b default).aB.op=68->∃o,(os.getD b []).getLast?=some o/\0<=ip g o/\ip g o<g.aj.length/\(g.aj.getD (ip g o).toNat default).i4.length=(g.aj.getD b default).aB.args.length
 rt:(g.aj.getD b default).aB.op=69->os.getD b []=[]
 rd:∀p∈gw (g.aj.getD b default),uy g come os b p
theorem acq{g:G.be}{come:List Bool}{os:List (List bK)}:qP g come os↔∀b,come.getD b false=true->qQ g come os b:=⟨λh b hb=>⟨h.en b hb,h.rt b hb,h.rd b hb⟩,λh=>⟨λb hb=>(h b hb).en,λb hb=>(h b hb).rt,λb hb=>(h b hb).rd⟩⟩
theorem acr{b:Nat}{f:List bK}{o:bK}(h:(g.aj.getD b default).aB.op=68)(i:f.getLast?=some o):∃l,(ip g o,l)∈cU g b f:=by unfold cU;rw[ap ab,aJ h,i];exact⟨_,abx.2 rfl⟩
def NK(g:G.be):Prop:=(gO g).length=g.bc.toNat/\∀t:Nat,g.i4<=t->(t:Int)<g.bc->∃s:Nat,s<g.aj.length/\((gO g).getD t (-1, -1)).1=(s:Int)
theorem acs(T:Tb ac)(hB:G.Sm g)(hE:fK g)(z:GX g H a c d come os e)(hK:dw g come os)(c9:0<=g.bc)(c':g.bc<=6000)(hG:∀b∈g.aj,∀p∈cK b,0<=p.1/\p.1<g.bc)(hW:∀b∈g.aj,∀p∈gw b,0<=p.1/\p.1<g.bc)(b':NK g){K:KT}(h:∀B(b:Bool),aZ H B->(b=true↔qP g come os)->K (.bool b) B):YN ac Mi [.aE a 0] H K:=by
 rw[acq]at h;have yV:∀{B:ah}{k:Nat},aZ H B->come.getD k false=true->¬qQ g come os k->K (.bool false) B:=λhg hc hn=>h _ false hg ⟨λf=>(by cases f),λf=>absurd (f _ hc) hn⟩;have e6:=hB.nb;have⟨hd,_,_,hn⟩:=z.bl.all;have ca:=z.iZ.bm;have dr:=z.c6;have A:=z.iZ.lt;refine YF.code T.Mx aF ?_;refine au ?_;refine RO.dp (aq.ct H) λH1 D U=>?_;refine RO.eL U λH2 C U=>?_;refine ai ?_;refine RO.bi ?_ (v:=.bool false) (hc:=by rw[U.gr.bx A];exact dr);refine ai ?_;refine RO.eL U λH3 n U=>?_;refine RO.eL U λH4 q U=>?_;have ds:=U.ut 1 rfl;have dv:=U.ut 0 rfl;have a6:∀j∈ [q,n],j.am<H4.next.am:=λj hj=>by
  simp only[acn,afy,or_false]at hj;rcases hj with rfl|rfl;·exact dv.2
  exact ds.2
 have a8:∀HY H0:ah,aZ H HY->H0.next=HY.next->(∀j,j∉ [q,n]->H0.get j=HY.get j)->aZ H H0:=λHY H0 cd h1 h2=>⟨by rw[h1];exact cd.nx,λj hj=>by rw[h2 j ?_,cd.cG j hj];simp only[acn,afy,or_false,not_or];exact⟨λgx=>by rw[gx]at hj;omega,λgx=>by rw[gx]at hj;omega⟩⟩;refine RO.AF (is:=[q,n]) (Q:=λv ns=>∃aA F up,nu g come os aA/\AP (wW g os) aA F g.aj.length up/\ns=[tS 3 1 ((up.set 0 (-1)).map aI) g.aj.length true v]) U a6 (λH0 R hs=>ab7 T hB hE (z.cq (a8 _ _ U.gr R hs)) hK λB v aA F up h1 h2 h3 h4 h5 U=>⟨_,U,aA,F,up,h1,⟨h3,h4,h2.zero.1,λy hy x hx=>(h1.mem x).2 (hK.lC ((h1.mem y).1 hy) hx),h5⟩,rfl⟩) (λI ns HU hQ dx U=>?_);obtain⟨aA,F,up,hO,dy,rfl⟩:=hQ;have⟨e7,e8,e',cf⟩:=(U.sl 0 rfl).all;refine⟨λaa cn=>iX (v:=.aE a 0) cn rfl rfl rfl (by simp[gT,fy,af.eS]) (by obtain⟨_,hp⟩:=U.get 4 rfl;exact tB.cell hp rfl) rfl,?_⟩;refine RO.AF (is:=[q,n]) (Q:=λv ns=>ns=[tS oC 2 (gz (gO g)) (gO g).length true v]) U (λj hj=>afT (a6 j hj) dx.nx) (λH0 R hs=>acp T hB (z.cq (a8 _ _ U.gr R hs)) c9 c' hG λB v U=>⟨_,U,rfl⟩) (λJ ns fa hQ e2 U=>?_);subst hQ;have⟨fb,fd,fe,fk⟩:=(U.sl 0 rfl).all;refine⟨λaa cn=>rfl,?_⟩;refine RO.ez U 3 (λH5 U=>?_);refine RO.ez U 2 (λH6 U=>?_);refine ai ?_;have U:aq H H6 (kl g a D C n q up I J++fJ []):=(((U.fI 4 rfl).fI 5 rfl).fI 5 rfl).fI 5 rfl;refine RO.iC U 2 ?_;refine ai ?_;refine RO.bi ?_ (v:=c) (hc:=by rw[U.gr.bx A];exact ca);refine ai ?_;have b7:∀b∈aA,b<g.aj.length:=λb hb=>hK.lt ((hO.mem b).1 hb);refine Ru.nm λS M hS hM=>?_;refine Ru.bT hM (Go.al.up (P:=λk=>∀HX L,(∀j,j<k->come.getD j false=true->qQ g come os j)->aq H HX (kl g a D C n q up I J++fJ L)->Ru ac ⟨mV [.cell p2 false 1] K,L,none⟩ S ([(rX,aN k)]++pk M [p1,p2,p3,p4,qG,tW]) HX) g.aj.length (λk hk ih HX L bd U=>?_) 0 ab _ [] (λj hj=>by omega) U);subst hS;subst hM;refine Ru.loop ?_;refine au ?_;refine Ru.cond (λX=>?_) (λX=>?_)
 .have ay:=adq X;have fl:=hB.bl _ ay;refine ai ?_;refine RO.bY U.gr z.bl (λq5 o5 c5 hj bv fo hat hrd=>?_);have cE:=bv.one;have dz:=bv;obtain⟨vp,vs,jc,rfl,_,_,d0⟩:=bv;obtain⟨va,vk,vg,rfl,d1,_,_⟩:=d0;have⟨fp,_,_,fq⟩:=d1.all;refine ai ?_;refine RO.eL U λH7 q5 U=>?_;refine RO.eL U λH8 q6 U=>?_;refine RO.ez U 1 (λH9 U=>?_);refine RO.fc U 0 (λd2 U=>?_);refine ai ?_;have⟨fs,_,_,_⟩:=z.cm.all;have d3:=hK.cl;refine RO.bi ?_ (v:=d) (hc:=by rw[U.gr.bx A];exact z.c4);refine ai ?_;refine RO.fO U.gr z.cm (λq7 o7 f0 E=>?_) (j:=k) (hj:=by omega);have d4:come[k]'ab=come.getD k false:=(bB _ _).symm;rw[d4]at E;cases u:come.getD k false with
  |false=>
   rw[u]at E;refine RO.bi ?_ (hc:=E);refine ai ?_;refine Ru.exitTo ?_;refine ai ?_;exact Ru.wk (ih (k+1) ab ab d2 L (λj hj hc=>by
    by_cases gx:j=k;·subst gx;rw[u]at hc;cases hc
    exact bd j ab hc) U.tail.tail)
  |true=>
   rw[u]at E;refine RO.bi ?_ (hc:=E);refine ai ?_;have b0:k<os.length:=by rw[hK.ol];exact X
   have V:os.getD k []=os[k]:=bB b0 _;have hs:=z.iZ.bz k b0;have⟨f1,_,_,f2⟩:=hs.all;obtain⟨ov,d5,cp⟩:=z.iZ.oJ;have⟨f3,_,_,_⟩:=cp.all;have N:g.aj.getD k default=g.aj[k]:=bB X _;refine Ru.cut (P:=λB=>(((g.aj[k]).aB.op=68->∃o,(os.getD k []).getLast?=some o/\0<=ip g o/\ip g o<g.aj.length/\(g.aj.getD (ip g o).toNat default).i4.length=(g.aj[k]).aB.args.length)/\((g.aj[k]).aB.op=69->os.getD k []=[]))/\aq H B (tB de q6 [vp,vs,aU (g.aj[k]).aB.op,va,.str (g.aj[k]).aB.i7,vk,vg]::tB 3 q5 [aN k]::(kl g a D C n q up I J++fJ L))) [p1,p2,p3,p4,p5,p6,qG,tW,rX] (λB hP=>?_) (λW=>?_)
   .obtain⟨⟨d6,d7⟩,U⟩:=hP;have cD:=hB.st _ ay;have d':=hB.ed _ ay;have ea:=hW _ ay;refine ai ?_;refine RO.dj U 0 ?_;refine RO.cl (NF T (cs:=[vp,vs,aU (g.aj[k]).aB.op,va,.str (g.aj[k]).aB.i7,vk,vg]) cE λH8 q8 hl=>?_);have U:aq H H8 ([tB de q8 [vp,vs,aU (g.aj[k]).aB.op,va,.str (g.aj[k]).aB.i7,vk,vg]]++(tB 3 q5 [aN k]::kl g a D C n q up I J)++fJ L):=U.tail.eO hl;refine ai ?_;refine Ru.wk (L:=[(Al,.func DM [] [.aE q8 0]),(p1,.aE D 0),(p2,.aE C 0),(p3,.aE n 0),(p4,.aE q 0),(p5,.aE q5 0),(qG,c),(tW,aN g.aj.length),(rX,aN k)]) ?_;refine Ru.so (J:=λi ts=>ts=tB 3 q5 [aN k]::kl g a D C n q up I J/\∀j(hj:j<(gw g.aj[k]).length),j<i->uy g come os k (gw g.aj[k])[j]) (Dn:=λj ts=>j=.ret/\ts=tB 3 q5 [aN k]::kl g a D C n q up I J/\¬qQ g come os k) U (NG T dz ab (λs hs=>by have:=(cD s hs).1;omega) ab ab (λgx he=>by have:=d' gx he;omega)) (λ_ _=>trivial) ⟨rfl,λj _ hj=>by omega⟩ (λk args ws h=>by obtain⟨_,_,rfl⟩:=h;rfl) (λ_ _ _ _ _ _=>trivial) (λj args ws ts us l o1 o2 B hj eb hJ U=>?_) (λB ec dm hJ U=>?_) (λj B ec dm f4 hD U=>?_)
    .obtain⟨rfl,cv,rfl⟩:=eb;obtain⟨rfl,ax⟩:=hJ;have cx:=ea _ (adq cv);have R:uy g come os k (gw g.aj[k])[j]->∀i(hi:i<(gw g.aj[k]).length),i<j+1->uy g come os k (gw g.aj[k])[i]:=λf i hi f6=>by
      by_cases gx:i=j;·subst gx;exact f
      exact ax i hi ab
     have a':¬uy g come os k (gw g.aj[k])[j]->¬qQ g come os k:=λf hb=>f (hb.rd _ (by rw[N];exact adq cv));clear ax;generalize(gw g.aj[k])[j]=w at*;obtain⟨w1,w2⟩:=w;simp only at cx;obtain⟨t,rfl⟩:∃t:Nat,w1=(t:Int):=⟨w1.toNat,ab⟩;have b3:t<(gO g).length:=by rw[b'.1];omega
     have ba:=b'.2 t;refine au ?_;refine Ru.dS U λH2 U=>?_;refine ai ?_;refine RO.bY (aZ.refl _) (SlD.r (U.sl 5 rfl)) (λq9 o9 e5 f7 ei f8 hat hrd=>?_) (j:=t) (hj:=b3);have ej:e5=[aI ((gO g).getD t (-1, -1)).1,aI ((gO g).getD t (-1, -1)).2]:=by rw[bB b3];exact ei
     subst ej;have O:∀{P:Prop},(P↔(t:Int)<g.i4\/(((gO g).getD t (-1, -1)).1=(k:Int)/\((gO g).getD t (-1, -1)).2<w2)\/∃s:Nat,((gO g).getD t (-1, -1)).1=(s:Int)/\s≠k/\come.getD s false=true/\dX (wW g os) s k)->(uy g come os k ((t:Int),w2)↔P):=λhP=>by
      rw[hP];constructor;·rintro⟨t',gx,_,f⟩;simp only at gx f;obtain rfl:t=t':=ab;exact f
      exact λf=>⟨t,rfl,b3,f⟩
     have O:=O Iff.rfl;generalize(gO g).getD t (-1, -1)=pw at*;obtain⟨wb,wa⟩:=pw;simp only at O ba;refine ai ?_;refine RO.ff U λf9 f' U=>?_;refine ai ?_;by_cases hA:(t:Int)<g.i4
     .have dF:=R (O.2 (.inl hA));refine RO.bR (λ_=>?_) (λ_=>?_);·refine ai ?_;refine RO.bi ?_ (v:=aI g.i4) (hc:=by rw[U.gr.bx A];exact z.c1);refine ai ?_;refine RO.bR (λ(h:g.i4<=(t:Int))=>absurd hA ab) (λ_=>?_);refine ai ?_;exact Ru.bw (ts:=_::kl g a D C n q up I J) U.tail ⟨rfl,dF⟩
      refine ai ?_;refine RO.bi ?_ (v:=aI g.i4) (hc:=by rw[U.gr.bx A];exact z.c1);refine ai ?_;refine RO.bR (λ(h:g.i4<=(t:Int))=>absurd hA ab) (λ_=>?_);refine ai ?_;exact Ru.bw (ts:=_::kl g a D C n q up I J) U.tail ⟨rfl,dF⟩
     obtain⟨Z,cR,rfl⟩:=ba ab cx.2;by_cases Y:Z=k
     .subst Y;refine RO.bR (λ_=>?_) (λh=>absurd rfl h);refine ai ?_;refine RO.bi ?_ (v:=aI g.i4) (hc:=by rw[U.gr.bx A];exact z.c1);by_cases a1:wa<w2
      .have dF:=R (O.2 (.inr (.inl ⟨rfl,a1⟩)));rw[show decide (wa<w2)=true from decide_eq_true a1];refine ai ?_;refine RO.bR (λ(h:g.i4<=(t:Int))=>?_) (λ_=>?_);·refine ai ?_;exact Ru.bw (ts:=_::kl g a D C n q up I J) U.tail ⟨rfl,dF⟩
       refine ai ?_;exact Ru.bw (ts:=_::kl g a D C n q up I J) U.tail ⟨rfl,dF⟩
      have m:=a' λf=>by
       rcases O.1 f with f|⟨_,f⟩|⟨s,gx,f,_⟩;·exact hA f
       .exact a1 f
       exact f ab
      rw[show decide (wa<w2)=false from decide_eq_false a1];refine ai ?_;refine RO.bR (λ(h:g.i4<=(t:Int))=>?_) (λh=>absurd ab h);refine ai ?_;refine RO.bR (λ_=>?_) (λh=>absurd rfl h);refine ai ?_;refine RO.ez U 5 (λag U=>?_);refine ai ?_;exact Ru.DV (ts:=_::kl g a D C n q up I J) U.tail ⟨rfl,rfl,m⟩
     have m:¬(come.getD Z false=true/\dX (wW g os) Z k)->¬qQ g come os k:=λh8=>a' λf=>by
      rcases O.1 f with f|⟨f,_⟩|⟨s,gx,_,f⟩;·exact hA f
      .exact Y ab
      obtain rfl:s=Z:=ab;exact h8 f
     refine RO.bR (λ(h:(Z:Int)=(k:Int))=>absurd ab Y) (λ_=>?_);refine ai ?_;refine RO.bi ?_ (v:=aI g.i4) (hc:=by rw[U.gr.bx A];exact z.c1);refine ai ?_;refine RO.bR (λ(h:g.i4<=(t:Int))=>?_) (λh=>absurd ab h);refine ai ?_;refine RO.bR (λ(h:Z=k)=>absurd h Y) (λ_=>?_);refine ai ?_;refine RO.bi ?_ (v:=d) (hc:=by rw[U.gr.bx A];exact z.c4);refine ai ?_;refine RO.fO U.gr z.cm (λgb gd bb E=>?_) (j:=Z) (hj:=by rw[d3];exact cR);have ek:come[Z]'bb=come.getD Z false:=(bB bb false).symm;rw[ek]at E;cases a2:come.getD Z false with
     |false=>
      have m:=m λf=>by rw[a2]at f;cases f.1
      rw[a2]at E;refine ai ?_;refine RO.ez U 5 (λag U=>?_);refine ai ?_;exact Ru.DV (ts:=_::kl g a D C n q up I J) U.tail ⟨rfl,rfl,m⟩
     |true=>
      rw[a2]at E;refine ai ?_;refine RO.cl (acg T dy b7 (aZ.refl _) (U.sl 7 rfl) (d:=Z) (b:=k) ((hO.mem k).2 u) λgy hr=>?_);cases gy with
      |true=>have dF:=R (O.2 (.inr (.inr ⟨Z,rfl,Y,a2,(hr.1 rfl).2⟩)));refine ai ?_;exact Ru.bw (ts:=_::kl g a D C n q up I J) U.tail ⟨rfl,dF⟩
      |false=>
       have m:=m λf=>by have:=hr.2 ⟨Y,f.2⟩;cases this
       refine ai ?_;refine RO.ez U 5 (λag U=>?_);refine ai ?_;exact Ru.DV (ts:=_::kl g a D C n q up I J) U.tail ⟨rfl,rfl,m⟩
    .obtain⟨rfl,eJ⟩:=hJ;refine ai ?_;exact Ru.wk (ih (k+1) ab ab B (dm::L) (λj hj hc=>by
      by_cases gx:j=k;·subst gx;refine⟨by rw[N];exact d6,by rw[N];exact d7,λp hp=>?_⟩;rw[N]at hp;obtain⟨i,hi,rfl⟩:=afr hp;exact eJ i hi hi
      exact bd j ab hc) U.tail)
    obtain⟨rfl,rfl,m⟩:=hD;exact RJ.rL (RJ.kS (M:=dm::L) (ts:=_::kl g a D C n q up I J) (.inr rfl) (U.cJ (afV (l₁:=[_,_,_,_,_,_,_]) (l₂:=fJ (dm::L)))) λB U=>⟨[.bool false],⟨⟨_,_,rfl,U.one 4⟩,trivial⟩,yV U.gr u m⟩)
   refine Ru.cond (λ(av:(g.aj[k]).aB.op=68)=>?_) (λ(av:¬(g.aj[k]).aB.op=68)=>?_)
   .refine ai ?_;refine RO.cl (Nf T hB z.bl U.gr (z.iZ.cq U.gr) b0 (by rw[<-V];exact(hE.oJ (hK.eh k u)).1) (by rw[<-V];have:=(hE.oJ (hK.eh k u)).2;omega) ?_);cases ho:os[k].getLast? with
    |none=>
     have m:¬qQ g come os k:=λhb=>by obtain⟨o,f,_⟩:=hb.en (by rw[N];exact av);rw[V,ho]at f;cases f
     simp only;refine ai ?_;refine RO.ez U 5 (λag U=>?_);refine ai ?_;exact Ru.kS (M:=L) (ts:=_::_::kl g a D C n q up I J) (U.cJ (afV (l₁:=[_,_,_,_,_,_,_,_]) (l₂:=fJ L))) λB U=>⟨[.bool false],⟨⟨_,_,rfl,U.one 5⟩,trivial⟩,yV U.gr u m⟩
    |some o=>
     obtain⟨ow,el⟩:=acr (g:=g) (b:=k) (by rw[N];exact av) (by rw[V];exact ho:(os.getD k []).getLast?=some o);obtain⟨cy,b4⟩:=hE.HH (hK.eh k u) _ el;simp only at cy b4;have Q:((g.aj[k]).aB.op=68->∃o,(os.getD k []).getLast?=some o/\0<=ip g o/\ip g o<g.aj.length/\(g.aj.getD (ip g o).toNat default).i4.length=(g.aj[k]).aB.args.length)↔(g.aj.getD (ip g o).toNat default).i4.length=(g.aj[k]).aB.args.length:=by
      rw[V,ho];constructor;·intro f;obtain⟨o2,gx,_,_,f⟩:=f av;injection gx with gx;subst gx;exact f
      exact λf _=>⟨o,rfl,cy,b4,f⟩
     have m:¬(g.aj.getD (ip g o).toNat default).i4.length=(g.aj[k]).aB.args.length->¬qQ g come os k:=λh8 hb=>h8 (Q.1 (by rw[<-N];exact hb.en));simp only;obtain⟨t,ht⟩:∃t:Nat,ip g o=(t:Int):=⟨(ip g o).toNat,ab⟩;rw[ht]at b4 Q m⊢;rw[afs]at Q m;have cf:t<g.aj.length:=ab;rw[bB cf]at Q m;refine ai ?_;refine RO.bi ?_ (v:=c) (hc:=by rw[U.gr.bx A];exact ca);refine ai ?_;refine RO.bY U.gr z.bl (λq8 o8 c8 gg et _ hat _=>?_) (j:=t);obtain⟨gi,gn,gq,rfl,ew,_,_⟩:=et;have⟨e3,_,_,e4⟩:=ew.all;refine ai ?_;refine Ru.cond (λaw=>?_) (λe0=>?_);·refine ai ?_;refine RO.ez U 5 (λag U=>?_);refine ai ?_;exact Ru.kS (M:=L) (ts:=_::_::kl g a D C n q up I J) (U.cJ (afV (l₁:=[_,_,_,_,_,_,_,_]) (l₂:=fJ L))) λB U=>⟨[.bool false],⟨⟨_,_,rfl,U.one 5⟩,trivial⟩,yV U.gr u (m aw)⟩
     refine Ru.skip ?_;exact W _ _ ⟨⟨Q.2 (agJ.1 e0),λf=>by omega⟩,U⟩ ey
   refine ai ?_;refine Ru.cond (λ(b6:(g.aj[k]).aB.op=69)=>?_) (λ(b6:¬(g.aj[k]).aB.op=69)=>?_)
   .refine ai ?_;refine RO.bi ?_ (v:=ov) (hc:=by rw[U.gr.bx A];exact d5);refine ai ?_;refine RO.AN U.gr cp (λq8 o8 e1 _=>?_) (j:=k);refine RO.bi ?_ (hc:=e1);refine ai ?_;refine Ru.cond (λ(aw:0<os[k].length)=>?_) (λ(aw:¬0<os[k].length)=>?_)
    .have m:¬qQ g come os k:=λhb=>by have:=hb.rt (by rw[N];exact b6);rw[V]at this;rw[this]at aw;cases aw
     refine ai ?_;refine RO.ez U 5 (λag U=>?_);refine ai ?_;exact Ru.kS (M:=L) (ts:=_::_::kl g a D C n q up I J) (U.cJ (afV (l₁:=[_,_,_,_,_,_,_,_]) (l₂:=fJ L))) λB U=>⟨[.bool false],⟨⟨_,_,rfl,U.one 5⟩,trivial⟩,yV U.gr u m⟩
    refine Ru.skip ?_;exact W _ _ ⟨⟨λf=>by omega,λ_=>by rw[V];exact afQ ab⟩,U⟩ ey
   refine Ru.skip ?_;exact W _ _ ⟨⟨λf=>absurd f av,λf=>absurd f b6⟩,U⟩ ey
 refine Ru.exitTo ?_;refine ai ?_;refine RO.ez U 3 (λH7 U=>?_);refine ai ?_;refine Ru.kS (M:=L) (ts:=[_,_,_,tB 4 C [.bool true],_,_]) (U.cJ (afV (l₁:=[_,_,_,_,_,_]) (l₂:=fJ L))) λB U=>⟨[.bool true],⟨⟨_,_,rfl,U.one 3⟩,trivial⟩,h B true U.gr ⟨λ_ j hj=>bd j (by have:=hK.lt hj;omega) hj,λ_=>rfl⟩⟩
end
end
end Go.al.R
end
