/- A part. No conditions. -/
import Derived.Test.YtcipmlnpjkngpaaGreatDoorA21
set_option linter.all false
set_option maxHeartbeats 16000000
noncomputable section
namespace Go.ak.R
section
variable{ac:Nat->aX}
def ud(g:G.aY)(come:List Bool)(os:List (List bI))(b:Nat)(p:Int×Int):Prop:=
 ∃t:Nat,p.1=(t:Int)/\t<(fS g).length/\((t:Int)<g.i4\/(((fS g).getD t (-1, -1)).1=(b:Int)/\((fS g).getD t (-1, -1)).2<p.2)\/∃s:Nat,((fS g).getD t (-1, -1)).1=(s:Int)/\s≠b/\come.getD s false=true/\dZ (wW g os) s b)
structure pD(g:G.aY)(come:List Bool)(os:List (List bI)):Prop where
 en:∀b,come.getD b false=true->(g.aj.getD b default).aA.op=68->∃o,(os.getD b []).getLast?=some o/\0<=gG g o/\gG g o<g.aj.length/\(g.aj.getD (gG g o).toNat default).i4.length=(g.aj.getD b default).aA.args.length
 rt:∀b,come.getD b false=true->(g.aj.getD b default).aA.op=69->os.getD b []=[]
 rd:∀b,come.getD b false=true->∀p∈eO (g.aj.getD b default),ud g come os b p
section
variable{g:G.aY}{c d:AV}{a:af}{H:ai}{come:List Bool}{os:List (List bI)}{e:List AV}
def jY(g:G.aY)(a h i j k:af)(up:List Int)(b f:AV):List Th:=[tB tp k [f],tB T' j [b],tB iw h [.aD a 0],tB 4 i [.bool false],tS nY 2 (gi (fS g)) (fS g).length true f,tS 3 1 ((up.set 0 (-1)).map aI) g.aj.length true b]
theorem Ru.cut{j:Cx}{s:List SI}{x:SI}{L:Kn}{H:ai}{P:ai->Prop}(h:List af)(h1:∀b,P b->Ru ac j s (pk L h) b)(h2:(∀b f,P b->iR (pk L h) f->Ru ac j s f b)->Ru ac j (x::s) L H):Ru ac j (x::s) L H:=h2 λb f i hl=>(h1 b i).ph hl
structure qG(g:G.aY)(come:List Bool)(os:List (List bI))(b:Nat):Prop where
 en:(g.aj.getD b default).aA.op=68->∃o,(os.getD b []).getLast?=some o/\0<=gG g o/\gG g o<g.aj.length/\(g.aj.getD (gG g o).toNat default).i4.length=(g.aj.getD b default).aA.args.length
 rt:(g.aj.getD b default).aA.op=69->os.getD b []=[]
 rd:∀p∈eO (g.aj.getD b default),ud g come os b p
theorem Zt{g:G.aY}{come:List Bool}{os:List (List bI)}:pD g come os↔∀b,come.getD b false=true->qG g come os b:=⟨λh b hb=>⟨h.en b hb,h.rt b hb,h.rd b hb⟩,λh=>⟨λb hb=>(h b hb).en,λb hb=>(h b hb).rt,λb hb=>(h b hb).rd⟩⟩
theorem Zu{b:Nat}{f:List bI}{o:bI}(h:(g.aj.getD b default).aA.op=68)(i:f.getLast?=some o):∃l,(gG g o,l)∈cU g b f:=by unfold cU;rw[ap ab,aH h,i];exact⟨_,aaN.2 rfl⟩
def KW(g:G.aY):Prop:=(fS g).length=g.aW.toNat/\∀t:Nat,g.i4<=t->(t:Int)<g.aW->∃s:Nat,s<g.aj.length/\((fS g).getD t (-1, -1)).1=(s:Int)
theorem Zv(T:Tb ac)(hB:G.Sm g)(hE:ff g)(z:GX g H a c d come os e)(hK:dq g come os)(c':0<=g.aW)(dr:g.aW<=6000)(hG:∀b∈g.aj,∀p∈cD b,0<=p.1/\p.1<g.aW)(hW:∀b∈g.aj,∀p∈eO b,0<=p.1/\p.1<g.aW)(b':KW g){K:KT}(h:∀B(b:Bool),aZ H B->(b=true↔pD g come os)->K (.bool b) B):YN ac JD [.aD a 0] H K:=by
 rw[Zt]at h;have wB:∀{B:ai}{k:Nat},aZ H B->come.getD k false=true->¬qG g come os k->K (.bool false) B:=λhg hc hn=>h _ false hg ⟨λf=>(by cases f),λf=>absurd (f _ hc) hn⟩;have e7:=hB.nb;have⟨hd,_,_,hn⟩:=z.bl.all;have ca:=z.iz.be;have ds:=z.c6;have A:=z.iz.lt;refine YF.code T.JU aC ?_;refine au ?_;refine RO.cG (al.bY H) λH1 D U=>?_;refine RO.dM U λH2 C U=>?_;refine ah ?_;refine RO.bk ?_ (v:=.bool false) (hc:=by rw[U.gr.bx A];exact ds);refine ah ?_;refine RO.dM U λH3 n U=>?_;refine RO.dM U λH4 q U=>?_;have dv:=U.r9 1 rfl;have dx:=U.r9 0 rfl;have a6:∀j∈ [q,n],j.az<H4.next.az:=λj hj=>by
  simp only[aer,aeS,or_false]at hj;rcases hj with rfl|rfl;·exact dx.2
  exact dv.2
 have a8:∀HY H0:ai,aZ H HY->H0.next=HY.next->(∀j,j∉ [q,n]->H0.get j=HY.get j)->aZ H H0:=λHY H0 cd h1 h2=>⟨by rw[h1];exact cd.nx,λj hj=>by rw[h2 j ?_,cd.cM j hj];simp only[aer,aeS,or_false,not_or];exact⟨λgH=>by rw[gH]at hj;omega,λgH=>by rw[gH]at hj;omega⟩⟩;refine RO.yM (is:=[q,n]) (Q:=λv ns=>∃aB F up,pz g come os aB/\yN (wW g os) aB F g.aj.length up/\ns=[tS 3 1 ((up.set 0 (-1)).map aI) g.aj.length true v]) U a6 (λH0 R hs=>Zj T hB hE (z.bZ (a8 _ _ U.gr R hs)) hK λB v aB F up h1 h2 h3 h4 h5 U=>⟨_,U,aB,F,up,h1,⟨h3,h4,h2.zero.1,λy hy x hx=>(h1.mem x).2 (hK.kG ((h1.mem y).1 hy) hx),h5⟩,rfl⟩) (λI ns HU hQ dy U=>?_);obtain⟨aB,F,up,hO,dz,rfl⟩:=hQ;have⟨e8,e9,e',cf⟩:=(U.sl 0 rfl).all;refine⟨λaa cn=>gh (v:=.aD a 0) cn rfl rfl rfl (by simp[fC,de,af.fo]) (by obtain⟨_,hp⟩:=U.get 4 rfl;exact tB.cell hp rfl) rfl,?_⟩;refine RO.yM (is:=[q,n]) (Q:=λv ns=>ns=[tS nY 2 (gi (fS g)) (fS g).length true v]) U (λj hj=>ae2 (a6 j hj) dy.nx) (λH0 R hs=>Zs T hB (z.bZ (a8 _ _ U.gr R hs)) c' dr hG λB v U=>⟨_,U,rfl⟩) (λJ ns fa hQ e3 U=>?_);subst hQ;have⟨fb,fd,fe,fl⟩:=(U.sl 0 rfl).all;refine⟨λaa cn=>rfl,?_⟩;refine RO.eo U 3 (λH5 U=>?_);refine RO.eo U 2 (λH6 U=>?_);refine ah ?_;have U:al H H6 (jY g a D C n q up I J++eN []):=(((U.eL 4 rfl).eL 5 rfl).eL 5 rfl).eL 5 rfl;refine RO.gR U 2 ?_;refine ah ?_;refine RO.bk ?_ (v:=c) (hc:=by rw[U.gr.bx A];exact ca);refine ah ?_;have b7:∀b∈aB,b<g.aj.length:=λb hb=>hK.lt ((hO.mem b).1 hb);refine Ru.nm λS M hS hM=>?_;refine Ru.bM hM (Go.ak.up (P:=λk=>∀HX L,(∀j,j<k->come.getD j false=true->qG g come os j)->al H HX (jY g a D C n q up I J++eN L)->Ru ac ⟨l9 [.cell p2 false 1] K,L,none⟩ S ([(tA,aN k)]++pk M [p1,p2,p3,p4,qv,tz]) HX) g.aj.length (λk hk ih HX L bd U=>?_) 0 ab _ [] (λj hj=>by omega) U);subst hS;subst hM;refine Ru.loop ?_;refine au ?_;refine Ru.cond (λX=>?_) (λX=>?_)
 .have ay:=acI X;have fp:=hB.bl _ ay;refine ah ?_;refine RO.bW U.gr z.bl (λq5 o5 c5 hj bv fq hat hrd=>?_);have cR:=bv.one;have d0:=bv;obtain⟨vp,vs,jc,rfl,_,_,d1⟩:=bv;obtain⟨va,vk,vg,rfl,d2,_,_⟩:=d1;have⟨fs,_,_,f0⟩:=d2.all;refine ah ?_;refine RO.dM U λH7 q5 U=>?_;refine RO.dM U λH8 q6 U=>?_;refine RO.eo U 1 (λH9 U=>?_);refine RO.eQ U 0 (λd3 U=>?_);refine ah ?_;have⟨f1,_,_,_⟩:=z.cm.all;have d4:=hK.cl;refine RO.bk ?_ (v:=d) (hc:=by rw[U.gr.bx A];exact z.c4);refine ah ?_;refine RO.iE U.gr z.cm (λq7 o7 f2 E=>?_) (j:=k) (hj:=by omega);have d5:come[k]'ab=come.getD k false:=(bm _ _).symm;rw[d5]at E;cases u:come.getD k false with
  |false=>
   rw[u]at E;refine RO.bk ?_ (hc:=E);refine ah ?_;refine Ru.exitTo ?_;refine ah ?_;exact Ru.wk (ih (k+1) ab ab d3 L (λj hj hc=>by
    by_cases gH:j=k;·subst gH;rw[u]at hc;cases hc
    exact bd j ab hc) U.tail.tail)
  |true=>
   rw[u]at E;refine RO.bk ?_ (hc:=E);refine ah ?_;have b0:k<os.length:=by rw[hK.ol];exact X
   have V:os.getD k []=os[k]:=bm b0 _;have hs:=z.iz.bt k b0;have⟨f3,_,_,f4⟩:=hs.all;obtain⟨ov,d6,cp⟩:=z.iz.oq;have⟨f6,_,_,_⟩:=cp.all;have N:g.aj.getD k default=g.aj[k]:=bm X _;refine Ru.cut (P:=λB=>(((g.aj[k]).aA.op=68->∃o,(os.getD k []).getLast?=some o/\0<=gG g o/\gG g o<g.aj.length/\(g.aj.getD (gG g o).toNat default).i4.length=(g.aj[k]).aA.args.length)/\((g.aj[k]).aA.op=69->os.getD k []=[]))/\al H B (tB cL q6 [vp,vs,aU (g.aj[k]).aA.op,va,.str (g.aj[k]).aA.i7,vk,vg]::tB 3 q5 [aN k]::(jY g a D C n q up I J++eN L))) [p1,p2,p3,p4,p5,p6,qv,tz,tA] (λB hP=>?_) (λW=>?_)
   .obtain⟨⟨d7,d'⟩,U⟩:=hP;have cz:=hB.st _ ay;have ea:=hB.ed _ ay;have eb:=hW _ ay;refine ah ?_;refine RO.cr U 0 ?_;refine RO.cl (EJ T (cs:=[vp,vs,aU (g.aj[k]).aA.op,va,.str (g.aj[k]).aA.i7,vk,vg]) cR λH8 q8 hl=>?_);have U:al H H8 ([tB cL q8 [vp,vs,aU (g.aj[k]).aA.op,va,.str (g.aj[k]).aA.i7,vk,vg]]++(tB 3 q5 [aN k]::jY g a D C n q up I J)++eN L):=U.tail.eK hl;refine ah ?_;refine Ru.wk (L:=[(D9,.func yq [] [.aD q8 0]),(p1,.aD D 0),(p2,.aD C 0),(p3,.aD n 0),(p4,.aD q 0),(p5,.aD q5 0),(qv,c),(tz,aN g.aj.length),(tA,aN k)]) ?_;refine Ru.qF (J:=λi ts=>ts=tB 3 q5 [aN k]::jY g a D C n q up I J/\∀j(hj:j<(eO g.aj[k]).length),j<i->ud g come os k (eO g.aj[k])[j]) (Dn:=λj ts=>j=.ret/\ts=tB 3 q5 [aN k]::jY g a D C n q up I J/\¬qG g come os k) U (EK T d0 ab (λs hs=>by have:=(cz s hs).1;omega) ab ab (λgH he=>by have:=ea gH he;omega)) (λ_ _=>trivial) ⟨rfl,λj _ hj=>by omega⟩ (λk args ws h=>by obtain⟨_,_,rfl⟩:=h;rfl) (λ_ _ _ _ _ _=>trivial) (λj args ws ts us l o1 o2 B hj ec hJ U=>?_) (λB ei dm hJ U=>?_) (λj B ei dm f7 hD U=>?_)
    .obtain⟨rfl,cv,rfl⟩:=ec;obtain⟨rfl,ax⟩:=hJ;have cx:=eb _ (acI cv);have R:ud g come os k (eO g.aj[k])[j]->∀i(hi:i<(eO g.aj[k]).length),i<j+1->ud g come os k (eO g.aj[k])[i]:=λf i hi f8=>by
      by_cases gH:i=j;·subst gH;exact f
      exact ax i hi ab
     have a':¬ud g come os k (eO g.aj[k])[j]->¬qG g come os k:=λf hb=>f (hb.rd _ (by rw[N];exact acI cv));clear ax;generalize(eO g.aj[k])[j]=w at*;obtain⟨w1,w2⟩:=w;simp only at cx;obtain⟨t,rfl⟩:∃t:Nat,w1=(t:Int):=⟨w1.toNat,ab⟩;have b3:t<(fS g).length:=by rw[b'.1];omega
     have ba:=b'.2 t;refine au ?_;refine Ru.dN U λH2 U=>?_;refine ah ?_;refine RO.bW (aZ.refl _) (Zq.r (U.sl 5 rfl)) (λq9 o9 e6 f9 ej f' hat hrd=>?_) (j:=t) (hj:=b3);have ek:e6=[aI ((fS g).getD t (-1, -1)).1,aI ((fS g).getD t (-1, -1)).2]:=by rw[bm b3];exact ej
     subst ek;have O:∀{P:Prop},(P↔(t:Int)<g.i4\/(((fS g).getD t (-1, -1)).1=(k:Int)/\((fS g).getD t (-1, -1)).2<w2)\/∃s:Nat,((fS g).getD t (-1, -1)).1=(s:Int)/\s≠k/\come.getD s false=true/\dZ (wW g os) s k)->(ud g come os k ((t:Int),w2)↔P):=λhP=>by
      rw[hP];constructor;·rintro⟨t',gH,_,f⟩;simp only at gH f;obtain rfl:t=t':=ab;exact f
      exact λf=>⟨t,rfl,b3,f⟩
     have O:=O Iff.rfl;generalize(fS g).getD t (-1, -1)=pw at*;obtain⟨wb,wa⟩:=pw;simp only at O ba;refine ah ?_;refine RO.eR U λgb gd U=>?_;refine ah ?_;by_cases hA:(t:Int)<g.i4
     .have dL:=R (O.2 (.inl hA));refine RO.bT (λ_=>?_) (λ_=>?_);·refine ah ?_;refine RO.bk ?_ (v:=aI g.i4) (hc:=by rw[U.gr.bx A];exact z.c1);refine ah ?_;refine RO.bT (λ(h:g.i4<=(t:Int))=>absurd hA ab) (λ_=>?_);refine ah ?_;exact Ru.bB (ts:=_::jY g a D C n q up I J) U.tail ⟨rfl,dL⟩
      refine ah ?_;refine RO.bk ?_ (v:=aI g.i4) (hc:=by rw[U.gr.bx A];exact z.c1);refine ah ?_;refine RO.bT (λ(h:g.i4<=(t:Int))=>absurd hA ab) (λ_=>?_);refine ah ?_;exact Ru.bB (ts:=_::jY g a D C n q up I J) U.tail ⟨rfl,dL⟩
     obtain⟨Z,c9,rfl⟩:=ba ab cx.2;by_cases Y:Z=k
     .subst Y;refine RO.bT (λ_=>?_) (λh=>absurd rfl h);refine ah ?_;refine RO.bk ?_ (v:=aI g.i4) (hc:=by rw[U.gr.bx A];exact z.c1);by_cases a1:wa<w2
      .have dL:=R (O.2 (.inr (.inl ⟨rfl,a1⟩)));rw[show decide (wa<w2)=true from decide_eq_true a1];refine ah ?_;refine RO.bT (λ(h:g.i4<=(t:Int))=>?_) (λ_=>?_);·refine ah ?_;exact Ru.bB (ts:=_::jY g a D C n q up I J) U.tail ⟨rfl,dL⟩
       refine ah ?_;exact Ru.bB (ts:=_::jY g a D C n q up I J) U.tail ⟨rfl,dL⟩
      have m:=a' λf=>by
       rcases O.1 f with f|⟨_,f⟩|⟨s,gH,f,_⟩;·exact hA f
       .exact a1 f
       exact f ab
      rw[show decide (wa<w2)=false from decide_eq_false a1];refine ah ?_;refine RO.bT (λ(h:g.i4<=(t:Int))=>?_) (λh=>absurd ab h);refine ah ?_;refine RO.bT (λ_=>?_) (λh=>absurd rfl h);refine ah ?_;refine RO.eo U 5 (λag U=>?_);refine ah ?_;exact Ru.A7 (ts:=_::jY g a D C n q up I J) U.tail ⟨rfl,rfl,m⟩
     have m:¬(come.getD Z false=true/\dZ (wW g os) Z k)->¬qG g come os k:=λh8=>a' λf=>by
      rcases O.1 f with f|⟨f,_⟩|⟨s,gH,_,f⟩;·exact hA f
      .exact Y ab
      obtain rfl:s=Z:=ab;exact h8 f
     refine RO.bT (λ(h:(Z:Int)=(k:Int))=>absurd ab Y) (λ_=>?_);refine ah ?_;refine RO.bk ?_ (v:=aI g.i4) (hc:=by rw[U.gr.bx A];exact z.c1);refine ah ?_;refine RO.bT (λ(h:g.i4<=(t:Int))=>?_) (λh=>absurd ab h);refine ah ?_;refine RO.bT (λ(h:Z=k)=>absurd h Y) (λ_=>?_);refine ah ?_;refine RO.bk ?_ (v:=d) (hc:=by rw[U.gr.bx A];exact z.c4);refine ah ?_;refine RO.iE U.gr z.cm (λgg gn bb E=>?_) (j:=Z) (hj:=by rw[d4];exact c9);have el:come[Z]'bb=come.getD Z false:=(bm bb false).symm;rw[el]at E;cases a2:come.getD Z false with
     |false=>
      have m:=m λf=>by rw[a2]at f;cases f.1
      rw[a2]at E;refine ah ?_;refine RO.eo U 5 (λag U=>?_);refine ah ?_;exact Ru.A7 (ts:=_::jY g a D C n q up I J) U.tail ⟨rfl,rfl,m⟩
     |true=>
      rw[a2]at E;refine ah ?_;refine RO.cl (Zl T dz b7 (aZ.refl _) (U.sl 7 rfl) (d:=Z) (b:=k) ((hO.mem k).2 u) λgL hr=>?_);cases gL with
      |true=>have dL:=R (O.2 (.inr (.inr ⟨Z,rfl,Y,a2,(hr.1 rfl).2⟩)));refine ah ?_;exact Ru.bB (ts:=_::jY g a D C n q up I J) U.tail ⟨rfl,dL⟩
      |false=>
       have m:=m λf=>by have:=hr.2 ⟨Y,f.2⟩;cases this
       refine ah ?_;refine RO.eo U 5 (λag U=>?_);refine ah ?_;exact Ru.A7 (ts:=_::jY g a D C n q up I J) U.tail ⟨rfl,rfl,m⟩
    .obtain⟨rfl,eG⟩:=hJ;refine ah ?_;exact Ru.wk (ih (k+1) ab ab B (dm::L) (λj hj hc=>by
      by_cases gH:j=k;·subst gH;refine⟨by rw[N];exact d7,by rw[N];exact d',λp hp=>?_⟩;rw[N]at hp;obtain⟨i,hi,rfl⟩:=aeB hp;exact eG i hi hi
      exact bd j ab hc) U.tail)
    obtain⟨rfl,rfl,m⟩:=hD;exact RJ.rD (RJ.ke (M:=dm::L) (ts:=_::jY g a D C n q up I J) (.inr rfl) (U.cH (ae4 (l₁:=[_,_,_,_,_,_,_]) (l₂:=eN (dm::L)))) λB U=>⟨[.bool false],⟨⟨_,_,rfl,U.one 4⟩,trivial⟩,wB U.gr u m⟩)
   refine Ru.cond (λ(av:(g.aj[k]).aA.op=68)=>?_) (λ(av:¬(g.aj[k]).aA.op=68)=>?_)
   .refine ah ?_;refine RO.cl (Kr T hB z.bl U.gr (z.iz.bZ U.gr) b0 (by rw[<-V];exact(hE.oq (hK.dY k u)).1) (by rw[<-V];have:=(hE.oq (hK.dY k u)).2;omega) ?_);cases ho:os[k].getLast? with
    |none=>
     have m:¬qG g come os k:=λhb=>by obtain⟨o,f,_⟩:=hb.en (by rw[N];exact av);rw[V,ho]at f;cases f
     simp only;refine ah ?_;refine RO.eo U 5 (λag U=>?_);refine ah ?_;exact Ru.ke (M:=L) (ts:=_::_::jY g a D C n q up I J) (U.cH (ae4 (l₁:=[_,_,_,_,_,_,_,_]) (l₂:=eN L))) λB U=>⟨[.bool false],⟨⟨_,_,rfl,U.one 5⟩,trivial⟩,wB U.gr u m⟩
    |some o=>
     obtain⟨ow,et⟩:=Zu (g:=g) (b:=k) (by rw[N];exact av) (by rw[V];exact ho:(os.getD k []).getLast?=some o);obtain⟨cy,b4⟩:=hE.Ew (hK.dY k u) _ et;simp only at cy b4;have Q:((g.aj[k]).aA.op=68->∃o,(os.getD k []).getLast?=some o/\0<=gG g o/\gG g o<g.aj.length/\(g.aj.getD (gG g o).toNat default).i4.length=(g.aj[k]).aA.args.length)↔(g.aj.getD (gG g o).toNat default).i4.length=(g.aj[k]).aA.args.length:=by
      rw[V,ho];constructor;·intro f;obtain⟨o2,gH,_,_,f⟩:=f av;injection gH with gH;subst gH;exact f
      exact λf _=>⟨o,rfl,cy,b4,f⟩
     have m:¬(g.aj.getD (gG g o).toNat default).i4.length=(g.aj[k]).aA.args.length->¬qG g come os k:=λh8 hb=>h8 (Q.1 (by rw[<-N];exact hb.en));simp only;obtain⟨t,ht⟩:∃t:Nat,gG g o=(t:Int):=⟨(gG g o).toNat,ab⟩;rw[ht]at b4 Q m⊢;rw[aeA]at Q m;have cf:t<g.aj.length:=ab;rw[bm cf]at Q m;refine ah ?_;refine RO.bk ?_ (v:=c) (hc:=by rw[U.gr.bx A];exact ca);refine ah ?_;refine RO.bW U.gr z.bl (λq8 o8 c8 gq ew _ hat _=>?_) (j:=t);obtain⟨gx,gy,gA,rfl,e0,_,_⟩:=ew;have⟨e4,_,_,e5⟩:=e0.all;refine ah ?_;refine Ru.cond (λaw=>?_) (λe1=>?_);·refine ah ?_;refine RO.eo U 5 (λag U=>?_);refine ah ?_;exact Ru.ke (M:=L) (ts:=_::_::jY g a D C n q up I J) (U.cH (ae4 (l₁:=[_,_,_,_,_,_,_,_]) (l₂:=eN L))) λB U=>⟨[.bool false],⟨⟨_,_,rfl,U.one 5⟩,trivial⟩,wB U.gr u (m aw)⟩
     refine Ru.skip ?_;exact W _ _ ⟨⟨Q.2 (afP.1 e1),λf=>by omega⟩,U⟩ eg
   refine ah ?_;refine Ru.cond (λ(b6:(g.aj[k]).aA.op=69)=>?_) (λ(b6:¬(g.aj[k]).aA.op=69)=>?_)
   .refine ah ?_;refine RO.bk ?_ (v:=ov) (hc:=by rw[U.gr.bx A];exact d6);refine ah ?_;refine RO.yI U.gr cp (λq8 o8 e2 _=>?_) (j:=k);refine RO.bk ?_ (hc:=e2);refine ah ?_;refine Ru.cond (λ(aw:0<os[k].length)=>?_) (λ(aw:¬0<os[k].length)=>?_)
    .have m:¬qG g come os k:=λhb=>by have:=hb.rt (by rw[N];exact b6);rw[V]at this;rw[this]at aw;cases aw
     refine ah ?_;refine RO.eo U 5 (λag U=>?_);refine ah ?_;exact Ru.ke (M:=L) (ts:=_::_::jY g a D C n q up I J) (U.cH (ae4 (l₁:=[_,_,_,_,_,_,_,_]) (l₂:=eN L))) λB U=>⟨[.bool false],⟨⟨_,_,rfl,U.one 5⟩,trivial⟩,wB U.gr u m⟩
    refine Ru.skip ?_;exact W _ _ ⟨⟨λf=>by omega,λ_=>by rw[V];exact aeQ ab⟩,U⟩ eg
   refine Ru.skip ?_;exact W _ _ ⟨⟨λf=>absurd f av,λf=>absurd f b6⟩,U⟩ eg
 refine Ru.exitTo ?_;refine ah ?_;refine RO.eo U 3 (λH7 U=>?_);refine ah ?_;refine Ru.ke (M:=L) (ts:=[_,_,_,tB 4 C [.bool true],_,_]) (U.cH (ae4 (l₁:=[_,_,_,_,_,_]) (l₂:=eN L))) λB U=>⟨[.bool true],⟨⟨_,_,rfl,U.one 3⟩,trivial⟩,h B true U.gr ⟨λ_ j hj=>bd j (by have:=hK.lt hj;omega) hj,λ_=>rfl⟩⟩
end
end
end Go.ak.R
end
