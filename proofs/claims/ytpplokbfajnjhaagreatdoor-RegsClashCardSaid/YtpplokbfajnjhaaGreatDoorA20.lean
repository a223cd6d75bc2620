/- A part. No conditions. -/
import Derived.Test.YtpplokbfajnjhaaGreatDoorA19
set_option linter.all false
set_option maxHeartbeats 16000000
noncomputable section
namespace Go.al.R
section
variable{ab:Nat->aV}
def vn(g:G.aP)(come:List Bool)(os:List (List bt))(b:Nat)(p:Int×Int):Prop:=
 ∃t:Nat,p.1=(t:Int)/\t<(fK g).length/\((t:Int)<g.params\/(((fK g).getD t (-1, -1)).1=(b:Int)/\((fK g).getD t (-1, -1)).2<p.2)\/∃s:Nat,((fK g).getD t (-1, -1)).1=(s:Int)/\s≠b/\come.getD s false=true/\ep (wW g os) s b)
structure ny(g:G.aP)(come:List Bool)(os:List (List bt)):Prop where
 en:∀b,come.getD b false=true->(g.aj.getD b default).aq.op=68->∃o,(os.getD b []).getLast?=some o/\0<=gu g o/\gu g o<g.aj.length/\(g.aj.getD (gu g o).toNat default).params.length=(g.aj.getD b default).aq.args.length
 rt:∀b,come.getD b false=true->(g.aj.getD b default).aq.op=69->os.getD b []=[]
 rd:∀b,come.getD b false=true->∀p∈fD (g.aj.getD b default),vn g come os b p
section
variable{g:G.aP}{d f:AV}{a:ah}{H:ai}{come:List Bool}{os:List (List bt)}{h:List AV}
def kN(g:G.aP)(a e i j k:ah)(up:List Int)(b c:AV):List Th:=[tB s9 k [c],tB Ki j [b],tB kK e [.aD a 0],tB 4 i [.bool false],tS lu 2 (gD (fK g)) (fK g).length true c,tS 3 1 ((up.set 0 (-1)).map aI) g.aj.length true b]
theorem Ru.cut{c:Cx}{s:List SI}{x:SI}{L:Kn}{H:ai}{P:ai->Prop}(e:List ah)(h1:∀H',P H'->Ru ab c s (pk L e) H')(h2:(∀H' b,P H'->iZ (pk L e) b->Ru ab c s b H')->Ru ab c (x::s) L H):Ru ab c (x::s) L H:=h2 λH' b g hl=>(h1 H' g).ph hl
structure rY(g:G.aP)(come:List Bool)(os:List (List bt))(b:Nat):Prop where
 en:(g.aj.getD b default).aq.op=68->∃o,(os.getD b []).getLast?=some o/\0<=gu g o/\gu g o<g.aj.length/\(g.aj.getD (gu g o).toNat default).params.length=(g.aj.getD b default).aq.args.length
 rt:(g.aj.getD b default).aq.op=69->os.getD b []=[]
 rd:∀p∈fD (g.aj.getD b default),vn g come os b p
theorem acL{g:G.aP}{come:List Bool}{os:List (List bt)}:ny g come os↔∀b,come.getD b false=true->rY g come os b:=⟨λc b hb=>⟨c.en b hb,c.rt b hb,c.rd b hb⟩,λc=>⟨λb hb=>(c b hb).en,λb hb=>(c b hb).rt,λb hb=>(c b hb).rd⟩⟩
theorem acM{b:Nat}{c:List bt}{o:bt}(i:(g.aj.getD b default).aq.op=68)(e:c.getLast?=some o):∃l,(gu g o,l)∈bU g b c:=by unfold bU;rw[an aa,aG i,e];exact⟨_,abP.2 rfl⟩
def MD(g:G.aP):Prop:=(fK g).length=g.aQ.toNat/\∀t:Nat,g.params<=t->(t:Int)<g.aQ->∃s:Nat,s<g.aj.length/\((fK g).getD t (-1, -1)).1=(s:Int)
theorem acN(T:Tb ab)(hB:G.Sm g)(hE:fy g)(z:GX g H a d f come os h)(hK:b9 g come os)(cR:0<=g.aQ)(c8:g.aQ<=6000)(hG:∀b∈g.aj,∀p∈cD b,0<=p.1/\p.1<g.aQ)(hW:∀b∈g.aj,∀p∈fD b,0<=p.1/\p.1<g.aQ)(b7:MD g){K:KT}(gi:∀H'(b:Bool),aS H H'->(b=true↔ny g come os)->K (.bool b) H'):YN ab KR [.aD a 0] H K:=by
 rw[acL]at gi;have xM:∀{H':ai}{k:Nat},aS H H'->come.getD k false=true->¬rY g come os k->K (.bool false) H':=λhg hc hn=>gi _ false hg ⟨λc=>(by cases c),λc=>absurd (c _ hc) hn⟩;have e4:=hB.nb;have⟨hd,_,_,hn⟩:=z.bl.all;have b':=z.jn.aE;have c9:=z.c6;have A:=z.jn.lt;refine YF.code T.Lf aC (au ?_);refine RO.ct (ak.bN H) λH1 E U=>?_;refine RO.dN U λH2 B U=>?_;refine af ?_;refine RO.be ?_ (v:=.bool false) (hc:=by rw[U.gr.aY A];exact c9);refine af ?_;refine RO.dN U λH3 n U=>?_;refine RO.dN U λH4 q U=>?_;have c':=U.px (e:=Ki) (q:=n) (vs:=[.bh]) 1;have dr:=U.px (e:=s9) (q:=q) (vs:=[.bh]) 0;have a2:∀j∈ [q,n],j.am<H4.next.am:=λj hj=>by
  simp only[acT,aie,or_false]at hj;rcases hj with rfl|rfl;·exact dr.2
  exact c'.2
 have a6:∀HY H0:ai,aS H HY->H0.next=HY.next->(∀j,j∉ [q,n]->H0.get j=HY.get j)->aS H H0:=λHY H0 ca h1 h2=>⟨by rw[h1];exact ca.nx,λj hj=>by rw[h2 j ?_,ca.cM j hj];simp only[acT,aie,or_false,not_or];exact⟨λe=>by rw[e]at hj;omega,λe=>by rw[e]at hj;omega⟩⟩;refine RO.uZ (is:=[q,n]) (Q:=λv ns=>∃ap I up,eT g come os ap/\zW (wW g os) ap I g.aj.length up/\ns=[tS 3 1 ((up.set 0 (-1)).map aI) g.aj.length true v]) U a2 (λH0 Q hs=>acA T hB hE (z.bR (a6 _ _ U.gr Q hs)) hK λH' v ap I up h1 h2 h3 h4 h5 U=>⟨_,U,ap,I,up,h1,⟨h3,h4,h2.zero.1,λy hy x hx=>(h1.mem x).2 (hK.iq ((h1.mem y).1 hy) hx),h5⟩,rfl⟩) (λC ns HU hQ ds U=>?_);obtain⟨ap,I,up,hO,dv,rfl⟩:=hQ;have⟨e5,e6,e7,cd⟩:=(U.sl (e:=3) (size:=1) (sv:=C) (vs:=(up.set 0 (-1)).map aI) (n:=g.aj.length) (full:=true) 0).all;refine⟨λac cf=>eo (v:=.aD a 0) cf rfl rfl rfl (by simp[eV,cC,ah.fg]) (by obtain⟨_,hp⟩:=U.get 4 rfl;exact tB.cell hp rfl) rfl,?_⟩;refine RO.uZ (is:=[q,n]) (Q:=λv ns=>ns=[tS lu 2 (gD (fK g)) (fK g).length true v]) U (λj hj=>aim (a2 j hj) ds.nx) (λH0 Q hs=>acK T hB (z.bR (a6 _ _ U.gr Q hs)) cR c8 hG λH' v U=>⟨_,U,rfl⟩) (λD ns e8 hQ e0 U=>?_);subst hQ;have⟨e9,e',fa,fb⟩:=(U.sl (e:=lu) (size:=2) (sv:=D) (vs:=gD (fK g)) (n:=(fK g).length) (full:=true) 0).all;refine⟨λac cf=>rfl,(RO.dJ U 3 (λH5 U=>RO.dJ U 2 (λH6 U=>af ?_)))⟩;have U:ak H H6 (kN g a E B n q up C D++fC []):=(((U.eh 4 rfl).eh 5 rfl).eh 5 rfl).eh 5 rfl;refine RO.eD U 2 ?_;refine af ?_;refine RO.be ?_ (v:=d) (hc:=by rw[U.gr.aY A];exact b');refine af ?_;have b6:∀b∈ap,b<g.aj.length:=λb hb=>hK.lt ((hO.mem b).1 hb);refine Ru.nm λS M hS hM=>Ru.bI hM (Go.al.up (P:=λk=>∀HX J,(∀j,j<k->come.getD j false=true->rY g come os j)->ak H HX (kN g a E B n q up C D++fC J)->Ru ab ⟨mZ [.cell p2 false 1] K,J,none⟩ S ([(rN,aN k)]++pk M [p1,p2,p3,p4,qv,rM]) HX) g.aj.length (λk hk ih HX J bb U=>?_) 0 aa _ [] (λj hj=>by omega) U);subst hS;subst hM;refine Ru.loop (au ?_);refine Ru.cond (λW=>?_) (λW=>?_)
 .have ax:=acm W;have fd:=hB.bl _ ax;refine af ?_;refine RO.bO U.gr z.bl (λq5 o5 c5 hj bc fe hat hrd=>?_);have cy:=bc.one;have dx:=bc;obtain⟨vp,vs,jc,rfl,_,_,dy⟩:=bc;obtain⟨va,vk,vg,rfl,dz,_,_⟩:=dy;have⟨fk,_,_,fl⟩:=dz.all;refine af ?_;refine RO.dN U λH7 q5 U=>RO.dN U λH8 q6 U=>RO.dJ U 1 (λH9 U=>RO.eY U 0 (λd0 U=>af ?_));have⟨fo,_,_,_⟩:=z.cm.all;have d1:=hK.cl;refine RO.be ?_ (v:=f) (hc:=by rw[U.gr.aY A];exact z.c4);refine af ?_;refine RO.iQ U.gr z.cm (λq7 o7 fp F=>?_) (j:=k) (hj:=by omega);have d2:come[k]'aa=come.getD k false:=(bf _ _).symm;rw[d2]at F;cases u:come.getD k false with
  |false=>
   rw[u]at F;refine RO.be (af ?_) (hc:=F);refine Ru.exitTo ?_;refine af ?_;exact Ru.wk (ih (k+1) aa aa d0 J (λj hj hc=>by
    by_cases e:j=k;·subst e;rw[u]at hc;cases hc
    exact bb j aa hc) U.tail.tail)
  |true=>
   rw[u]at F;refine RO.be (af ?_) (hc:=F);have bv:k<os.length:=by rw[hK.ol];exact W
   have R:os.getD k []=os[k]:=bf bv _;have hs:=z.jn.bu k bv;have⟨fq,_,_,fs⟩:=hs.all;obtain⟨ov,d3,cn⟩:=z.jn.jm;have⟨f0,_,_,_⟩:=cn.all;have L:g.aj.getD k default=g.aj[k]:=bf W _;refine Ru.cut (P:=λH'=>(((g.aj[k]).aq.op=68->∃o,(os.getD k []).getLast?=some o/\0<=gu g o/\gu g o<g.aj.length/\(g.aj.getD (gu g o).toNat default).params.length=(g.aj[k]).aq.args.length)/\((g.aj[k]).aq.op=69->os.getD k []=[]))/\ak H H' (tB cH q6 [vp,vs,aU (g.aj[k]).aq.op,va,.str (g.aj[k]).aq.name,vk,vg]::tB 3 q5 [aN k]::(kN g a E B n q up C D++fC J))) [p1,p2,p3,p4,p5,p6,qv,rM,rN] (λH' hP=>?_) (λV=>?_)
   .obtain⟨⟨d4,d5⟩,U⟩:=hP;have de:=hB.st _ ax;have d6:=hB.ed _ ax;have d7:=hW _ ax;refine af ?_;refine RO.co U 0 ?_;refine RO.cl (Mx T (cs:=[vp,vs,aU (g.aj[k]).aq.op,va,.str (g.aj[k]).aq.name,vk,vg]) cy λH8 q8 hl=>?_);have U:ak H H8 ([tB cH q8 [vp,vs,aU (g.aj[k]).aq.op,va,.str (g.aj[k]).aq.name,vk,vg]]++(tB 3 q5 [aN k]::kN g a E B n q up C D)++fC J):=U.tail.dq hl;refine af ?_;refine Ru.wk (L:=[(E8,.func B0 [] [.aD q8 0]),(p1,.aD E 0),(p2,.aD B 0),(p3,.aD n 0),(p4,.aD q 0),(p5,.aD q5 0),(qv,d),(rM,aN g.aj.length),(rN,aN k)]) ?_;refine Ru.oh (J:=λi ts=>ts=tB 3 q5 [aN k]::kN g a E B n q up C D/\∀j(hj:j<(fD g.aj[k]).length),j<i->vn g come os k (fD g.aj[k])[j]) (Dn:=λj ts=>j=.ret/\ts=tB 3 q5 [aN k]::kN g a E B n q up C D/\¬rY g come os k) U (My T dx aa (λs hs=>by have:=(de s hs).1;omega) aa aa (λe he=>by have:=d6 e he;omega)) (λ_ _=>trivial) ⟨rfl,λj _ hj=>by omega⟩ (λk args ws gi=>by obtain⟨_,_,rfl⟩:=gi;rfl) (λ_ _ _ _ _ _=>trivial) (λj args ws ts us l o1 o2 H' hj d' hJ U=>?_) (λH' ea dm hJ U=>?_) (λj H' ea dm f1 hD U=>?_)
    .obtain⟨rfl,cp,rfl⟩:=d';obtain⟨rfl,aw⟩:=hJ;have cv:=d7 _ (acm cp);have Q:vn g come os k (fD g.aj[k])[j]->∀i(hi:i<(fD g.aj[k]).length),i<j+1->vn g come os k (fD g.aj[k])[i]:=λc i hi f2=>by
      by_cases e:i=j;·subst e;exact c
      exact aw i hi aa
     have a8:¬vn g come os k (fD g.aj[k])[j]->¬rY g come os k:=λc hb=>c (hb.rd _ (by rw[L];exact acm cp));clear aw;generalize(fD g.aj[k])[j]=w at*;obtain⟨w1,w2⟩:=w;simp only at cv;obtain⟨t,rfl⟩:∃t:Nat,w1=(t:Int):=⟨w1.toNat,aa⟩;have b0:t<(fK g).length:=by rw[b7.1];omega
     have a':=b7.2 t;refine au ?_;refine Ru.cY U λH2 U=>af ?_;refine RO.bO (aS.refl _) (SlD.r (U.sl (e:=lu) (size:=2) (sv:=D) (vs:=gD (fK g)) (n:=(fK g).length) (full:=true) 5)) (λq9 o9 e3 f3 eb f4 hat hrd=>?_) (j:=t) (hj:=b0);have ec:e3=[aI ((fK g).getD t (-1, -1)).1,aI ((fK g).getD t (-1, -1)).2]:=by rw[bf b0];exact eb
     subst ec;have N:∀{P:Prop},(P↔(t:Int)<g.params\/(((fK g).getD t (-1, -1)).1=(k:Int)/\((fK g).getD t (-1, -1)).2<w2)\/∃s:Nat,((fK g).getD t (-1, -1)).1=(s:Int)/\s≠k/\come.getD s false=true/\ep (wW g os) s k)->(vn g come os k ((t:Int),w2)↔P):=λhP=>by
      rw[hP];constructor;·rintro⟨t',e,_,c⟩;simp only at e c;obtain rfl:t=t':=aa;exact c
      exact λc=>⟨t,rfl,b0,c⟩
     have N:=N ajH;generalize(fK g).getD t (-1, -1)=pw at*;obtain⟨wb,wa⟩:=pw;simp only at N a';refine af ?_;refine RO.dS U λf5 f6 U=>?_;refine af ?_;by_cases hA:(t:Int)<g.params
     .have d9:=Q (N.2 (.inl hA));refine RO.bW (λ_=>?_) (λ_=>?_);·refine af ?_;refine RO.be ?_ (v:=aI g.params) (hc:=by rw[U.gr.aY A];exact z.c1);refine af ?_;refine RO.bW (λ(gi:g.params<=(t:Int))=>absurd hA aa) (λ_=>af ?_);exact Ru.bz (ts:=_::kN g a E B n q up C D) U.tail ⟨rfl,d9⟩
      refine af ?_;refine RO.be ?_ (v:=aI g.params) (hc:=by rw[U.gr.aY A];exact z.c1);refine af ?_;refine RO.bW (λ(gi:g.params<=(t:Int))=>absurd hA aa) (λ_=>af ?_);exact Ru.bz (ts:=_::kN g a E B n q up C D) U.tail ⟨rfl,d9⟩
     obtain⟨Y,cE,rfl⟩:=a' aa cv.2;by_cases X:Y=k
     .subst X;refine RO.bW (λ_=>?_) (λgi=>absurd rfl gi);refine af ?_;refine RO.be ?_ (v:=aI g.params) (hc:=by rw[U.gr.aY A];exact z.c1);by_cases ay:wa<w2
      .have d9:=Q (N.2 (.inr (.inl ⟨rfl,ay⟩)));rw[show decide (wa<w2)=true from decide_eq_true ay];refine af ?_;refine RO.bW (λ(gi:g.params<=(t:Int))=>?_) (λ_=>?_);·refine af ?_;exact Ru.bz (ts:=_::kN g a E B n q up C D) U.tail ⟨rfl,d9⟩
       refine af ?_;exact Ru.bz (ts:=_::kN g a E B n q up C D) U.tail ⟨rfl,d9⟩
      have m:=a8 λc=>by
       rcases N.1 c with c|⟨_,c⟩|⟨s,e,c,_⟩;·exact hA c
       .exact ay c
       exact c aa
      rw[show decide (wa<w2)=false from decide_eq_false ay];refine af ?_;refine RO.bW (λ(gi:g.params<=(t:Int))=>af ?_) (λgi=>absurd aa gi);refine RO.bW (λ_=>af ?_) (λgi=>absurd rfl gi);refine RO.dJ U 5 (λZ U=>af ?_);exact Ru.zN (ts:=_::kN g a E B n q up C D) U.tail ⟨rfl,rfl,m⟩
     have m:¬(come.getD Y false=true/\ep (wW g os) Y k)->¬rY g come os k:=λh8=>a8 λc=>by
      rcases N.1 c with c|⟨c,_⟩|⟨s,e,_,c⟩;·exact hA c
      .exact X aa
      obtain rfl:s=Y:=aa;exact h8 c
     refine RO.bW (λ(gi:(Y:Int)=(k:Int))=>absurd aa X) (λ_=>?_);refine af ?_;refine RO.be ?_ (v:=aI g.params) (hc:=by rw[U.gr.aY A];exact z.c1);refine af ?_;refine RO.bW (λ(gi:g.params<=(t:Int))=>af ?_) (λgi=>absurd aa gi);refine RO.bW (λ(gi:Y=k)=>absurd gi X) (λ_=>af ?_);refine RO.be ?_ (v:=f) (hc:=by rw[U.gr.aY A];exact z.c4);refine af ?_;refine RO.iQ U.gr z.cm (λf7 f8 ba F=>?_) (j:=Y) (hj:=by rw[d1];exact cE);have ei:come[Y]'ba=come.getD Y false:=(bf ba false).symm;rw[ei]at F;cases a1:come.getD Y false with
     |false=>
      have m:=m λc=>by rw[a1]at c;cases c.1
      rw[a1]at F;refine af ?_;refine RO.dJ U 5 (λZ U=>af ?_);exact Ru.zN (ts:=_::kN g a E B n q up C D) U.tail ⟨rfl,rfl,m⟩
     |true=>
      rw[a1]at F;refine af ?_;refine RO.cl (acD T dv b6 (aS.refl _) (U.sl (e:=3) (size:=1) (sv:=C) (vs:=(up.set 0 (-1)).map aI) (n:=g.aj.length) (full:=true) 7) (d:=Y) (b:=k) ((hO.mem k).2 u) λr hr=>?_);cases r with
      |true=>have d9:=Q (N.2 (.inr (.inr ⟨Y,rfl,X,a1,(hr.1 rfl).2⟩)));refine af ?_;exact Ru.bz (ts:=_::kN g a E B n q up C D) U.tail ⟨rfl,d9⟩
      |false=>
       have m:=m λc=>by have:=hr.2 ⟨X,c.2⟩;cases this
       refine af ?_;refine RO.dJ U 5 (λZ U=>af ?_);exact Ru.zN (ts:=_::kN g a E B n q up C D) U.tail ⟨rfl,rfl,m⟩
    .obtain⟨rfl,eB⟩:=hJ;refine af ?_;exact Ru.wk (ih (k+1) aa aa H' (dm::J) (λj hj hc=>by
      by_cases e:j=k;·subst e;refine⟨by rw[L];exact d4,by rw[L];exact d5,λp hp=>?_⟩;rw[L]at hp;obtain⟨i,hi,rfl⟩:=ah0 hp;exact eB i hi hi
      exact bb j aa hc) U.tail)
    obtain⟨rfl,rfl,m⟩:=hD;exact RJ.rE (RJ.jl (M:=dm::J) (ts:=_::kN g a E B n q up C D) (.inr rfl) (U.bV (aiq (l₁:=[_,_,_,_,_,_,_]) (l₂:=fC (dm::J)))) λH' U=>⟨[.bool false],⟨⟨_,_,rfl,U.one 4⟩,trivial⟩,xM U.gr u m⟩)
   refine Ru.cond (λ(ag:(g.aj[k]).aq.op=68)=>?_) (λ(ag:¬(g.aj[k]).aq.op=68)=>?_)
   .refine af ?_;refine RO.cl (Ma T hB z.bl U.gr (z.jn.bR U.gr) bv (by rw[<-R];exact(hE.jm (hK.cK k u)).1) (by rw[<-R];have:=(hE.jm (hK.cK k u)).2;omega) ?_);cases ho:os[k].getLast? with
    |none=>
     have m:¬rY g come os k:=λhb=>by obtain⟨o,c,_⟩:=hb.en (by rw[L];exact ag);rw[R,ho]at c;cases c
     simp only;refine af ?_;refine RO.dJ U 5 (λZ U=>af ?_);exact Ru.jl (M:=J) (ts:=_::_::kN g a E B n q up C D) (U.bV (aiq (l₁:=[_,_,_,_,_,_,_,_]) (l₂:=fC J))) λH' U=>⟨[.bool false],⟨⟨_,_,rfl,U.one 5⟩,trivial⟩,xM U.gr u m⟩
    |some o=>
     obtain⟨ow,ej⟩:=acM (g:=g) (b:=k) (by rw[L];exact ag) (by rw[R];exact ho:(os.getD k []).getLast?=some o);obtain⟨cx,b3⟩:=hE.zV (hK.cK k u) _ ej;simp only at cx b3;have O:((g.aj[k]).aq.op=68->∃o,(os.getD k []).getLast?=some o/\0<=gu g o/\gu g o<g.aj.length/\(g.aj.getD (gu g o).toNat default).params.length=(g.aj[k]).aq.args.length)↔(g.aj.getD (gu g o).toNat default).params.length=(g.aj[k]).aq.args.length:=by
      rw[R,ho];constructor;·intro c;obtain⟨o2,e,_,_,c⟩:=c ag;injection e with e;subst e;exact c
      exact λc _=>⟨o,rfl,cx,b3,c⟩
     have m:¬(g.aj.getD (gu g o).toNat default).params.length=(g.aj[k]).aq.args.length->¬rY g come os k:=λh8 hb=>h8 (O.1 (by rw[<-L];exact hb.en));simp only;obtain⟨t,ht⟩:∃t:Nat,gu g o=(t:Int):=⟨(gu g o).toNat,aa⟩;rw[ht]at b3 O m⊢;rw[ahX]at O m;have cd:t<g.aj.length:=aa;rw[bf cd]at O m;refine af ?_;refine RO.be ?_ (v:=d) (hc:=by rw[U.gr.aY A];exact b');refine af ?_;refine RO.bO U.gr z.bl (λq8 o8 gg f9 ek _ hat _=>?_) (j:=t);obtain⟨f',gb,gd,rfl,el,_,_⟩:=ek;have⟨e1,_,_,e2⟩:=el.all;refine af ?_;refine Ru.cond (λav=>?_) (λet=>?_);·refine af ?_;refine RO.dJ U 5 (λZ U=>af ?_);exact Ru.jl (M:=J) (ts:=_::_::kN g a E B n q up C D) (U.bV (aiq (l₁:=[_,_,_,_,_,_,_,_]) (l₂:=fC J))) λH' U=>⟨[.bool false],⟨⟨_,_,rfl,U.one 5⟩,trivial⟩,xM U.gr u (m av)⟩
     exact Ru.skip (V _ _ ⟨⟨O.2 (ajj.1 et),λc=>by omega⟩,U⟩ dC)
   refine af ?_;refine Ru.cond (λ(b4:(g.aj[k]).aq.op=69)=>?_) (λ(b4:¬(g.aj[k]).aq.op=69)=>?_)
   .refine af ?_;refine RO.be ?_ (v:=ov) (hc:=by rw[U.gr.aY A];exact d3);refine af ?_;refine RO.rW U.gr cn (λq8 o8 ew _=>RO.be (af ?_) (hc:=ew)) (j:=k);refine Ru.cond (λ(av:0<os[k].length)=>?_) (λ(av:¬0<os[k].length)=>?_)
    .have m:¬rY g come os k:=λhb=>by have:=hb.rt (by rw[L];exact b4);rw[R]at this;rw[this]at av;cases av
     refine af ?_;refine RO.dJ U 5 (λZ U=>af ?_);exact Ru.jl (M:=J) (ts:=_::_::kN g a E B n q up C D) (U.bV (aiq (l₁:=[_,_,_,_,_,_,_,_]) (l₂:=fC J))) λH' U=>⟨[.bool false],⟨⟨_,_,rfl,U.one 5⟩,trivial⟩,xM U.gr u m⟩
    refine Ru.skip ?_;exact V _ _ ⟨⟨λc=>by omega,λ_=>by rw[R];exact aih aa⟩,U⟩ dC
   exact Ru.skip (V _ _ ⟨⟨λc=>absurd c ag,λc=>absurd c b4⟩,U⟩ dC)
 refine Ru.exitTo ?_;refine af ?_;refine RO.dJ U 3 (λH7 U=>?_);refine af ?_;refine Ru.jl (M:=J) (ts:=[_,_,_,tB 4 B [.bool true],_,_]) (U.bV (aiq (l₁:=[_,_,_,_,_,_]) (l₂:=fC J))) λH' U=>⟨[.bool true],⟨⟨_,_,rfl,U.one 3⟩,trivial⟩,gi H' true U.gr ⟨λ_ j hj=>bb j (by have:=hK.lt hj;omega) hj,λ_=>rfl⟩⟩
end
end
end Go.al.R
end
