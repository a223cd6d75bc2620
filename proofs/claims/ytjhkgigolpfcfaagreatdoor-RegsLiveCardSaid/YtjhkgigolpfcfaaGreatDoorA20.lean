/- A part of the proof. No conditions. -/
import Derived.Test.YtjhkgigolpfcfaaGreatDoorA19
set_option linter.all false
set_option maxHeartbeats 16000000
open List renaming mem_singleton->aep
open Nat renaming le_of_ble_eq_true->akc
noncomputable section
namespace Go.am.R
section
variable{ac:Nat->aG}
def aeX(g:G.bu)(come:List Bool)(os:List (List bV))(b:Nat)(p:Int×Int):Prop:=
 ∃t:Nat,p.1=(t:Int)/\t<(jZ g).length/\((t:Int)<g.params\/(((jZ g).getD t (-1, -1)).1=(b:Int)/\((jZ g).getD t (-1, -1)).2<p.2)\/∃s:Nat,((jZ g).getD t (-1, -1)).1=(s:Int)/\s≠b/\come.getD s false=true/\gO (wW g os) s b)
structure yT(g:G.bu)(come:List Bool)(os:List (List bV)):Prop where
 en:∀b,come.getD b false=true->(g.al.getD b default).aA.op=68->∃o,(os.getD b []).getLast?=some o/\0<=na g o/\na g o<g.al.length/\(g.al.getD (na g o).toNat default).params.length=(g.al.getD b default).aA.args.length
 rt:∀b,come.getD b false=true->(g.al.getD b default).aA.op=69->os.getD b []=[]
 rd:∀b,come.getD b false=true->∀p∈kF (g.al.getD b default),aeX g come os b p
section
variable{g:G.bu}{d f:AV}{a:ab}{H:ai}{come:List Bool}{os:List (List bV)}{h:List AV}
def sE(g:G.bu)(a e i j k:ab)(up:List Int)(b c:AV):List Th:=[tB wA k [c],tB ND j [b],tB mE e [.az a 0],tB 4 i [.bool false],tS nN 2 (iV (jZ g)) (jZ g).length true c,tS 3 1 ((up.set 0 (-1)).map aI) g.al.length true b]
theorem Ru.cut{c:Cx}{s:List SI}{x:SI}{L:Kn}{H:ai}{P:ai->Prop}(g:List ab)(h1:∀b,P b->Ru ac c s (pk L g) b)(h2:(∀b e,P b->ky (pk L g) e->Ru ac c s e b)->Ru ac c (x::s) L H):Ru ac c (x::s) L H:=h2 λb e i hl=>(h1 b i).rZ hl
structure oq(g:G.bu)(come:List Bool)(os:List (List bV))(b:Nat):Prop where
 en:(g.al.getD b default).aA.op=68->∃o,(os.getD b []).getLast?=some o/\0<=na g o/\na g o<g.al.length/\(g.al.getD (na g o).toNat default).params.length=(g.al.getD b default).aA.args.length
 rt:(g.al.getD b default).aA.op=69->os.getD b []=[]
 rd:∀p∈kF (g.al.getD b default),aeX g come os b p
theorem ZG{g:G.bu}{come:List Bool}{os:List (List bV)}:yT g come os↔∀b,come.getD b false=true->oq g come os b:=⟨λc b hb=>⟨c.en b hb,c.rt b hb,c.rd b hb⟩,λc=>⟨λb hb=>(c b hb).en,λb hb=>(c b hb).rt,λb hb=>(c b hb).rd⟩⟩
theorem ZH{b:Nat}{c:List bV}{o:bV}(i:(g.al.getD b default).aA.op=68)(e:c.getLast?=some o):∃l,(na g o,l)∈cS g b c:=by unfold cS;rw[aq af,aK i,e];exact⟨_,aep.2 rfl⟩
def Nd(g:G.bu):Prop:=(jZ g).length=g.bp.toNat/\∀t:Nat,g.params<=t->(t:Int)<g.bp->∃s:Nat,s<g.al.length/\((jZ g).getD t (-1, -1)).1=(s:Int)
theorem aeY(T:Tb ac)(hB:G.Sm g)(hE:jm g)(z:GX g H a d f come os h)(hK:cX g come os)(cp:0<=g.bp)(cv:g.bp<=6000)(hG:∀b∈g.al,∀p∈dC b,0<=p.1/\p.1<g.bp)(hW:∀b∈g.al,∀p∈kF b,0<=p.1/\p.1<g.bp)(bv:Nd g){K:KT}(f8:∀B(b:Bool),bm H B->(b=true↔yT g come os)->K (.bool b) B):YN ac Xl [.az a 0] H K:=by
 rw[ZG]at f8;have tQ:∀{B:ai}{k:Nat},bm H B->come.getD k false=true->¬oq g come os k->K (.bool false) B:=λhg hc hn=>f8 _ false hg ⟨λc=>(by cases c),λc=>absurd (c _ hc) hn⟩;have el:=hB.nb;have⟨hd,_,_,hn⟩:=z.bl.all;have b0:=z.kS.aH;have cx:=z.c6;have A:=z.kS.lt;refine YF.code T.ace aB ?_;refine au ?_;refine RO.dL (aj.dc H) λH1 F U=>?_;refine RO.gI U λH2 C U=>?_;refine ah ?_;refine RO.aW ?_ (v:=.bool false) (hc:=by rw[U.gr.bh A];exact cx);refine ah ?_;refine RO.gI U λH3 n U=>?_;refine RO.gI U λH4 q U=>?_;have cy:=U.AU (e:=ND) (q:=n) (vs:=[.aS]) 1;have cE:=U.AU (e:=wA) (q:=q) (vs:=[.aS]) 0;have a2:∀j∈ [q,n],j.an<H4.next.an:=λj hj=>by
  simp only[aeV,aki,or_false]at hj;rcases hj with rfl|rfl;·exact cE.2
  exact cy.2
 have a3:∀HY H0:ai,bm H HY->H0.next=HY.next->(∀j,j∉ [q,n]->H0.get j=HY.get j)->bm H H0:=λHY H0 b3 h1 h2=>⟨by rw[h1];exact b3.nx,λj hj=>by rw[h2 j ?_,b3.dT j hj];simp only[aeV,aki,or_false,not_or];exact⟨λe=>by rw[e]at hj;omega,λe=>by rw[e]at hj;omega⟩⟩;refine RO.CH (is:=[q,n]) (Q:=λv ns=>∃ak J up,e9 g come os ak/\wK (wW g os) ak J g.al.length up/\ns=[tS 3 1 ((up.set 0 (-1)).map aI) g.al.length true v]) U a2 (λH0 R hs=>aeL T hB hE (z.cI (a3 _ _ U.gr R hs)) hK λB v ak J up h1 h2 h3 h4 h5 U=>⟨_,U,ak,J,up,h1,⟨h3,h4,h2.zero.1,λy hy x hx=>(h1.mem x).2 (hK.ls ((h1.mem y).1 hy) hx),h5⟩,rfl⟩) (λD ns HU hQ c3 U=>?_);obtain⟨ak,J,up,hO,c5,rfl⟩:=hQ;have⟨et,ew,eY,b4⟩:=(U.sl (e:=3) (size:=1) (sv:=D) (vs:=(up.set 0 (-1)).map aI) (n:=g.al.length) (full:=true) 0).all;refine⟨λaa b5=>il (v:=.az a 0) b5 rfl rfl rfl (by simp[iy,gz,ab.ip]) (by obtain⟨_,hp⟩:=U.get 4 rfl;exact tB.cell hp rfl) rfl,?_⟩;refine RO.CH (is:=[q,n]) (Q:=λv ns=>ns=[tS nN 2 (iV (jZ g)) (jZ g).length true v]) U (λj hj=>ako (a2 j hj) c3.nx) (λH0 R hs=>aeW T hB (z.cI (a3 _ _ U.gr R hs)) cp cv hG λB v U=>⟨_,U,rfl⟩) (λE ns e0 hQ ec U=>?_);subst hQ;have⟨e1,e2,e3,e4⟩:=(U.sl (e:=nN) (size:=2) (sv:=E) (vs:=iV (jZ g)) (n:=(jZ g).length) (full:=true) 0).all;refine⟨λaa b5=>rfl,?_⟩;refine RO.gG U 3 (λH5 U=>?_);refine RO.gG U 2 (λH6 U=>?_);refine ah ?_;have U:aj H H6 (sE g a F C n q up D E++i9 []):=(((U.gk 4 rfl).gk 5 rfl).gk 5 rfl).gk 5 rfl;refine RO.gU U 2 ?_;refine ah ?_;refine RO.aW ?_ (v:=d) (hc:=by rw[U.gr.bh A];exact b0);refine ah ?_;have bd:∀b∈ak,b<g.al.length:=λb hb=>hK.lt ((hO.mem b).1 hb);refine Ru.nm λS M hS hM=>?_;refine Ru.cC hM (Go.am.up (P:=λk=>∀HX L,(∀j,j<k->come.getD j false=true->oq g come os j)->aj H HX (sE g a F C n q up D E++i9 L)->Ru ac ⟨pu [.cell p2 false 1] K,L,none⟩ S ([(bY,aN k)]++pk M [p1,p2,p3,p4,bT,ch]) HX) g.al.length (λk hk ih HX L a8 U=>?_) 0 af _ [] (λj hj=>by omega) U);subst hS;subst hM;refine Ru.loop ?_;refine au ?_;refine Ru.cond (λX=>?_) (λX=>?_)
 .have ay:=agB X;have e5:=hB.bl _ ay;refine ah ?_;refine RO.cZ U.gr z.bl (λq5 o5 f6 hj a9 e6 hat hrd=>?_);have cf:=a9.one;have c8:=a9;obtain⟨vp,vs,jc,rfl,_,_,c9⟩:=a9;obtain⟨va,vk,vg,rfl,c',_,_⟩:=c9;have⟨e7,_,_,e8⟩:=c'.all;refine ah ?_;refine RO.gI U λH7 q5 U=>?_;refine RO.gI U λH8 q6 U=>?_;refine RO.gG U 1 (λH9 U=>?_);refine RO.iT U 0 (λdr U=>?_);refine ah ?_;have⟨e',_,_,_⟩:=z.cm.all;have ds:=hK.cl;refine RO.aW ?_ (v:=f) (hc:=by rw[U.gr.bh A];exact z.c4);refine ah ?_;refine RO.lg U.gr z.cm (λq7 o7 fa I=>?_) (j:=k) (hj:=by omega);have dv:come[k]'af=come.getD k false:=(bF _ _).symm;rw[dv]at I;cases u:come.getD k false with
  |false=>
   rw[u]at I;refine RO.aW ?_ (hc:=I);refine ah ?_;refine Ru.exitTo ?_;refine ah ?_;exact Ru.wk (ih (k+1) af af dr L (λj hj hc=>by
    by_cases e:j=k;·subst e;rw[u]at hc;cases hc
    exact a8 j af hc) U.tail.tail)
  |true=>
   rw[u]at I;refine RO.aW ?_ (hc:=I);refine ah ?_;have a':k<os.length:=by rw[hK.ol];exact X
   have V:os.getD k []=os[k]:=bF a' _;have hs:=z.kS.bH k a';have⟨fb,_,_,fd⟩:=hs.all;obtain⟨ov,dx,b6⟩:=z.kS.jY;have⟨fe,_,_,_⟩:=b6.all;have N:g.al.getD k default=g.al[k]:=bF X _;refine Ru.cut (P:=λB=>(((g.al[k]).aA.op=68->∃o,(os.getD k []).getLast?=some o/\0<=na g o/\na g o<g.al.length/\(g.al.getD (na g o).toNat default).params.length=(g.al[k]).aA.args.length)/\((g.al[k]).aA.op=69->os.getD k []=[]))/\aj H B (tB dW q6 [vp,vs,aU (g.al[k]).aA.op,va,.str (g.al[k]).aA.name,vk,vg]::tB 3 q5 [aN k]::(sE g a F C n q up D E++i9 L))) [p1,p2,p3,p4,p5,p6,bT,ch,bY] (λB hP=>?_) (λW=>?_)
   .obtain⟨⟨dy,dz⟩,U⟩:=hP;have eh:=hB.st _ ay;have d0:=hB.ed _ ay;have d1:=hW _ ay;refine ah ?_;refine RO.eQ U 0 ?_;refine RO.cl (Pz T (cs:=[vp,vs,aU (g.al[k]).aA.op,va,.str (g.al[k]).aA.name,vk,vg]) cf λH8 q8 hl=>?_);have U:aj H H8 ([tB dW q8 [vp,vs,aU (g.al[k]).aA.op,va,.str (g.al[k]).aA.name,vk,vg]]++(tB 3 q5 [aN k]::sE g a F C n q up D E)++i9 L):=U.tail.fC hl;refine ah ?_;refine Ru.wk (L:=[(ir,.func EB [] [.az q8 0]),(p1,.az F 0),(p2,.az C 0),(p3,.az n 0),(p4,.az q 0),(p5,.az q5 0),(bT,d),(ch,aN g.al.length),(bY,aN k)]) ?_;refine Ru.pG (J:=λi ts=>ts=tB 3 q5 [aN k]::sE g a F C n q up D E/\∀j(hj:j<(kF g.al[k]).length),j<i->aeX g come os k (kF g.al[k])[j]) (Dn:=λj ts=>j=.ret/\ts=tB 3 q5 [aN k]::sE g a F C n q up D E/\¬oq g come os k) U (PA T c8 af (λs hs=>by have:=(eh s hs).1;omega) af af (λe he=>by have:=d0 e he;omega)) (λ_ _=>trivial) ⟨rfl,λj _ hj=>by omega⟩ (λk args ws f8=>by obtain⟨_,_,rfl⟩:=f8;rfl) (λ_ _ _ _ _ _=>trivial) (λj args ws ts us l o1 o2 B hj d2 hJ U=>?_) (λB d3 dm hJ U=>?_) (λj B d3 dm fk hD U=>?_)
    .obtain⟨rfl,b',rfl⟩:=d2;obtain⟨rfl,ax⟩:=hJ;have ca:=d1 _ (agB b');have R:aeX g come os k (kF g.al[k])[j]->∀i(hi:i<(kF g.al[k]).length),i<j+1->aeX g come os k (kF g.al[k])[i]:=λc i hi fl=>by
      by_cases e:i=j;·subst e;exact c
      exact ax i hi af
     have a4:¬aeX g come os k (kF g.al[k])[j]->¬oq g come os k:=λc hb=>c (hb.rd _ (by rw[N];exact agB b'));clear ax;generalize(kF g.al[k])[j]=w at*;obtain⟨w1,w2⟩:=w;simp only at ca;obtain⟨t,rfl⟩:∃t:Nat,w1=(t:Int):=⟨w1.toNat,af⟩;have ba:t<(jZ g).length:=by rw[bv.1];omega
     have a5:=bv.2 t;refine au ?_;refine Ru.dN U λH2 U=>?_;refine ah ?_;refine RO.cZ (bm.refl _) (SlD.r (U.sl (e:=nN) (size:=2) (sv:=E) (vs:=iV (jZ g)) (n:=(jZ g).length) (full:=true) 5)) (λq9 o9 ek fo d4 fp hat hrd=>?_) (j:=t) (hj:=ba);have d5:ek=[aI ((jZ g).getD t (-1, -1)).1,aI ((jZ g).getD t (-1, -1)).2]:=by rw[bF ba];exact d4
     subst d5;have O:∀{P:Prop},(P↔(t:Int)<g.params\/(((jZ g).getD t (-1, -1)).1=(k:Int)/\((jZ g).getD t (-1, -1)).2<w2)\/∃s:Nat,((jZ g).getD t (-1, -1)).1=(s:Int)/\s≠k/\come.getD s false=true/\gO (wW g os) s k)->(aeX g come os k ((t:Int),w2)↔P):=λhP=>by
      rw[hP];constructor;·rintro⟨t',e,_,c⟩;simp only at e c;obtain rfl:t=t':=af;exact c
      exact λc=>⟨t,rfl,ba,c⟩
     have O:=O Iff.rfl;generalize(jZ g).getD t (-1, -1)=pw at*;obtain⟨wb,wa⟩:=pw;simp only at O a5;refine ah ?_;refine RO.fx U λfq fs U=>?_;refine ah ?_;by_cases hA:(t:Int)<g.params
     .have ia:=R (O.2 (.inl hA));refine RO.de (λ_=>?_) (λ_=>?_);·refine ah ?_;refine RO.aW ?_ (v:=aI g.params) (hc:=by rw[U.gr.bh A];exact z.c1);refine ah ?_;refine RO.de (λ(f8:g.params<=(t:Int))=>absurd hA af) (λ_=>?_);refine ah ?_;exact Ru.bG (ts:=_::sE g a F C n q up D E) U.tail ⟨rfl,ia⟩
      refine ah ?_;refine RO.aW ?_ (v:=aI g.params) (hc:=by rw[U.gr.bh A];exact z.c1);refine ah ?_;refine RO.de (λ(f8:g.params<=(t:Int))=>absurd hA af) (λ_=>?_);refine ah ?_;exact Ru.bG (ts:=_::sE g a F C n q up D E) U.tail ⟨rfl,ia⟩
     obtain⟨Z,cn,rfl⟩:=a5 af ca.2;by_cases Y:Z=k
     .subst Y;refine RO.de (λ_=>?_) (λf8=>absurd rfl f8);refine ah ?_;refine RO.aW ?_ (v:=aI g.params) (hc:=by rw[U.gr.bh A];exact z.c1);by_cases a0:wa<w2
      .have ia:=R (O.2 (.inr (.inl ⟨rfl,a0⟩)));rw[show decide (wa<w2)=true from decide_eq_true a0];refine ah ?_;refine RO.de (λ(f8:g.params<=(t:Int))=>?_) (λ_=>?_);·refine ah ?_;exact Ru.bG (ts:=_::sE g a F C n q up D E) U.tail ⟨rfl,ia⟩
       refine ah ?_;exact Ru.bG (ts:=_::sE g a F C n q up D E) U.tail ⟨rfl,ia⟩
      have m:=a4 λc=>by
       rcases O.1 c with c|⟨_,c⟩|⟨s,e,c,_⟩;·exact hA c
       .exact a0 c
       exact c af
      rw[show decide (wa<w2)=false from decide_eq_false a0];refine ah ?_;refine RO.de (λ(f8:g.params<=(t:Int))=>?_) (λf8=>absurd af f8);refine ah ?_;refine RO.de (λ_=>?_) (λf8=>absurd rfl f8);refine ah ?_;refine RO.gG U 5 (λag U=>?_);refine ah ?_;exact Ru.OL (ts:=_::sE g a F C n q up D E) U.tail ⟨rfl,rfl,m⟩
     have m:¬(come.getD Z false=true/\gO (wW g os) Z k)->¬oq g come os k:=λh8=>a4 λc=>by
      rcases O.1 c with c|⟨c,_⟩|⟨s,e,_,c⟩;·exact hA c
      .exact Y af
      obtain rfl:s=Z:=af;exact h8 c
     refine RO.de (λ(f8:(Z:Int)=(k:Int))=>absurd af Y) (λ_=>?_);refine ah ?_;refine RO.aW ?_ (v:=aI g.params) (hc:=by rw[U.gr.bh A];exact z.c1);refine ah ?_;refine RO.de (λ(f8:g.params<=(t:Int))=>?_) (λf8=>absurd af f8);refine ah ?_;refine RO.de (λ(f8:Z=k)=>absurd f8 Y) (λ_=>?_);refine ah ?_;refine RO.aW ?_ (v:=f) (hc:=by rw[U.gr.bh A];exact z.c4);refine ah ?_;refine RO.lg U.gr z.cm (λf0 f1 a6 I=>?_) (j:=Z) (hj:=by rw[ds];exact cn);have d6:come[Z]'a6=come.getD Z false:=(bF a6 false).symm;rw[d6]at I;cases a1:come.getD Z false with
     |false=>
      have m:=m λc=>by rw[a1]at c;cases c.1
      rw[a1]at I;refine ah ?_;refine RO.gG U 5 (λag U=>?_);refine ah ?_;exact Ru.OL (ts:=_::sE g a F C n q up D E) U.tail ⟨rfl,rfl,m⟩
     |true=>
      rw[a1]at I;refine ah ?_;refine RO.cl (aeR T c5 bd (bm.refl _) (U.sl (e:=3) (size:=1) (sv:=D) (vs:=(up.set 0 (-1)).map aI) (n:=g.al.length) (full:=true) 7) (d:=Z) (b:=k) ((hO.mem k).2 u) λr hr=>?_);cases r with
      |true=>have ia:=R (O.2 (.inr (.inr ⟨Z,rfl,Y,a1,(hr.1 rfl).2⟩)));refine ah ?_;exact Ru.bG (ts:=_::sE g a F C n q up D E) U.tail ⟨rfl,ia⟩
      |false=>
       have m:=m λc=>by have:=hr.2 ⟨Y,c.2⟩;cases this
       refine ah ?_;refine RO.gG U 5 (λag U=>?_);refine ah ?_;exact Ru.OL (ts:=_::sE g a F C n q up D E) U.tail ⟨rfl,rfl,m⟩
    .obtain⟨rfl,eZ⟩:=hJ;refine ah ?_;exact Ru.wk (ih (k+1) af af B (dm::L) (λj hj hc=>by
      by_cases e:j=k;·subst e;refine⟨by rw[N];exact dy,by rw[N];exact dz,λp hp=>?_⟩;rw[N]at hp;obtain⟨i,hi,rfl⟩:=aka hp;exact eZ i hi hi
      exact a8 j af hc) U.tail)
    obtain⟨rfl,rfl,m⟩:=hD;exact RJ.wp (RJ.mI (M:=dm::L) (ts:=_::sE g a F C n q up D E) (.inr rfl) (U.cM (akH (l₁:=[_,_,_,_,_,_,_]) (l₂:=i9 (dm::L)))) λB U=>⟨[.bool false],⟨⟨_,_,rfl,U.one 4⟩,trivial⟩,tQ U.gr u m⟩)
   refine Ru.cond (λ(av:(g.al[k]).aA.op=68)=>?_) (λ(av:¬(g.al[k]).aA.op=68)=>?_)
   .refine ah ?_;refine RO.cl (Pc T hB z.bl U.gr (z.kS.cI U.gr) a' (by rw[<-V];exact(hE.jY (hK.dO k u)).1) (by rw[<-V];have:=(hE.jY (hK.dO k u)).2;omega) ?_);cases ho:os[k].getLast? with
    |none=>
     have m:¬oq g come os k:=λhb=>by obtain⟨o,c,_⟩:=hb.en (by rw[N];exact av);rw[V,ho]at c;cases c
     simp only;refine ah ?_;refine RO.gG U 5 (λag U=>?_);refine ah ?_;exact Ru.mI (M:=L) (ts:=_::_::sE g a F C n q up D E) (U.cM (akH (l₁:=[_,_,_,_,_,_,_,_]) (l₂:=i9 L))) λB U=>⟨[.bool false],⟨⟨_,_,rfl,U.one 5⟩,trivial⟩,tQ U.gr u m⟩
    |some o=>
     obtain⟨ow,d7⟩:=ZH (g:=g) (b:=k) (by rw[N];exact av) (by rw[V];exact ho:(os.getD k []).getLast?=some o);obtain⟨cd,bb⟩:=hE.CP (hK.dO k u) _ d7;simp only at cd bb;have Q:((g.al[k]).aA.op=68->∃o,(os.getD k []).getLast?=some o/\0<=na g o/\na g o<g.al.length/\(g.al.getD (na g o).toNat default).params.length=(g.al[k]).aA.args.length)↔(g.al.getD (na g o).toNat default).params.length=(g.al[k]).aA.args.length:=by
      rw[V,ho];constructor;·intro c;obtain⟨o2,e,_,_,c⟩:=c av;injection e with e;subst e;exact c
      exact λc _=>⟨o,rfl,cd,bb,c⟩
     have m:¬(g.al.getD (na g o).toNat default).params.length=(g.al[k]).aA.args.length->¬oq g come os k:=λh8 hb=>h8 (Q.1 (by rw[<-N];exact hb.en));simp only;obtain⟨t,ht⟩:∃t:Nat,na g o=(t:Int):=⟨(na g o).toNat,af⟩;rw[ht]at bb Q m⊢;rw[aj3]at Q m;have b4:t<g.al.length:=af;rw[bF b4]at Q m;refine ah ?_;refine RO.aW ?_ (v:=d) (hc:=by rw[U.gr.bh A];exact b0);refine ah ?_;refine RO.cZ U.gr z.bl (λq8 o8 f7 f2 d8 _ hat _=>?_) (j:=t);obtain⟨f3,f4,f5,rfl,d',_,_⟩:=d8;have⟨ei,_,_,ej⟩:=d'.all;refine ah ?_;refine Ru.cond (λaw=>?_) (λea=>?_);·refine ah ?_;refine RO.gG U 5 (λag U=>?_);refine ah ?_;exact Ru.mI (M:=L) (ts:=_::_::sE g a F C n q up D E) (U.cM (akH (l₁:=[_,_,_,_,_,_,_,_]) (l₂:=i9 L))) λB U=>⟨[.bool false],⟨⟨_,_,rfl,U.one 5⟩,trivial⟩,tQ U.gr u (m aw)⟩
     refine Ru.skip ?_;exact W _ _ ⟨⟨Q.2 (Classical.not_not.1 ea),λc=>by omega⟩,U⟩ fB
   refine ah ?_;refine Ru.cond (λ(bc:(g.al[k]).aA.op=69)=>?_) (λ(bc:¬(g.al[k]).aA.op=69)=>?_)
   .refine ah ?_;refine RO.aW ?_ (v:=ov) (hc:=by rw[U.gr.bh A];exact dx);refine ah ?_;refine RO.vu U.gr b6 (λq8 o8 eb _=>?_) (j:=k);refine RO.aW ?_ (hc:=eb);refine ah ?_;refine Ru.cond (λ(aw:0<os[k].length)=>?_) (λ(aw:¬0<os[k].length)=>?_)
    .have m:¬oq g come os k:=λhb=>by have:=hb.rt (by rw[N];exact bc);rw[V]at this;rw[this]at aw;cases aw
     refine ah ?_;refine RO.gG U 5 (λag U=>?_);refine ah ?_;exact Ru.mI (M:=L) (ts:=_::_::sE g a F C n q up D E) (U.cM (akH (l₁:=[_,_,_,_,_,_,_,_]) (l₂:=i9 L))) λB U=>⟨[.bool false],⟨⟨_,_,rfl,U.one 5⟩,trivial⟩,tQ U.gr u m⟩
    refine Ru.skip ?_;exact W _ _ ⟨⟨λc=>by omega,λ_=>by rw[V];exact akM af⟩,U⟩ fB
   refine Ru.skip ?_;exact W _ _ ⟨⟨λc=>absurd c av,λc=>absurd c bc⟩,U⟩ fB
 refine Ru.exitTo ?_;refine ah ?_;refine RO.gG U 3 (λH7 U=>?_);refine ah ?_;refine Ru.mI (M:=L) (ts:=[_,_,_,tB 4 C [.bool true],_,_]) (U.cM (akH (l₁:=[_,_,_,_,_,_]) (l₂:=i9 L))) λB U=>⟨[.bool true],⟨⟨_,_,rfl,U.one 3⟩,trivial⟩,f8 B true U.gr ⟨λ_ j hj=>a8 j (by have:=hK.lt hj;omega) hj,λ_=>rfl⟩⟩
end
end
end Go.am.R
end
