/- A part. No conditions. -/
import Derived.Test.YtodnahjlheaolaaGreatDoorA19
set_option linter.all false
set_option maxHeartbeats 16000000
noncomputable section
namespace Go.al.R
variable{A:ai}{B:ah}
section
variable{ac:Nat->aX}
def vD(g:G.aM)(come:List Bool)(os:List (List bp))(b:Nat)(p:Int×Int):Prop:=
 ∃t:Nat,p.1=(t:Int)/\t<(gM g).length/\((t:Int)<g.i4\/(((gM g).getD t (-1, -1)).1=(b:Int)/\((gM g).getD t (-1, -1)).2<p.2)\/∃s:Nat,((gM g).getD t (-1, -1)).1=(s:Int)/\s≠b/\come.getD s false=true/\ey (wW g os) s b)
structure nq(g:G.aM)(come:List Bool)(os:List (List bp)):Prop where
 en:∀b,come.getD b false=true->(g.aj.getD b default).aq.op=68->∃o,(os.getD b []).getLast?=some o/\0<=gp g o/\gp g o<g.aj.length/\(g.aj.getD (gp g o).toNat default).i4.length=(g.aj.getD b default).aq.args.length
 rt:∀b,come.getD b false=true->(g.aj.getD b default).aq.op=69->os.getD b []=[]
 rd:∀b,come.getD b false=true->∀p∈fL (g.aj.getD b default),vD g come os b p
section
variable{g:G.aM}{c d:AV}{come:List Bool}{os:List (List bp)}{e:List AV}
def kL(g:G.aM)(B h i j k:ah)(up:List Int)(b f:AV):List Th:=[tB uK k [f],tB VZ j [b],tB kJ h [.aD B 0],tB 4 i [.bool false],tS pF 2 (gS (gM g)) (gM g).length true f,tS 3 1 ((up.set 0 (-1)).map aI) g.aj.length true b]
theorem Ru.cut{j:Cx}{s:List SI}{x:SI}{L:Kn}{P:ai->Prop}(h:List ah)(h1:∀b,P b->Ru ac j s (pk L h) b)(h2:(∀b f,P b->ja (pk L h) f->Ru ac j s f b)->Ru ac j (x::s) L A):Ru ac j (x::s) L A:=h2 λb f i hl=>(h1 b i).rP hl
structure so(g:G.aM)(come:List Bool)(os:List (List bp))(b:Nat):Prop where
 en:(g.aj.getD b default).aq.op=68->∃o,(os.getD b []).getLast?=some o/\0<=gp g o/\gp g o<g.aj.length/\(g.aj.getD (gp g o).toNat default).i4.length=(g.aj.getD b default).aq.args.length
 rt:(g.aj.getD b default).aq.op=69->os.getD b []=[]
 rd:∀p∈fL (g.aj.getD b default),vD g come os b p
theorem aca{g:G.aM}{come:List Bool}{os:List (List bp)}:nq g come os↔∀b,come.getD b false=true->so g come os b:=⟨λh b hb=>⟨h.en b hb,h.rt b hb,h.rd b hb⟩,λh=>⟨λb hb=>(h b hb).en,λb hb=>(h b hb).rt,λb hb=>(h b hb).rd⟩⟩
theorem acb{b:Nat}{f:List bp}{o:bp}(h:(g.aj.getD b default).aq.op=68)(i:f.getLast?=some o):∃l,(gp g o,l)∈bX g b f:=by unfold bX;rw[an aa,aF h,i];exact⟨_,abt.2 rfl⟩
def L9(g:G.aM):Prop:=(gM g).length=g.aO.toNat/\∀t:Nat,g.i4<=t->(t:Int)<g.aO->∃s:Nat,s<g.aj.length/\((gM g).getD t (-1, -1)).1=(s:Int)
theorem acd(T:Tb ac)(hB:G.Sm g)(hE:fE g)(z:GX g A B c d come os e)(hK:b8 g come os)(c8:0<=g.aO)(c9:g.aO<=6000)(hG:∀b∈g.aj,∀p∈cB b,0<=p.1/\p.1<g.aO)(hW:∀b∈g.aj,∀p∈fL b,0<=p.1/\p.1<g.aO)(b':L9 g){K:KT}(h:∀H'(b:Bool),aR A H'->(b=true↔nq g come os)->K (.bool b) H'):YN ac KI [.aD B 0] A K:=by
 rw[aca]at h;have lw:∀{H':ai}{k:Nat},aR A H'->come.getD k false=true->¬so g come os k->K (.bool false) H':=λhg hc hn=>h _ false hg ⟨λf=>(by cases f),λf=>absurd (f _ hc) hn⟩;have e5:=hB.nb;have⟨hd,_,_,hn⟩:=z.bl.all;have ca:=z.ju.aE;have c':=z.c6;have C:=z.ju.lt;refine YF.code T.K2 aC (au ?_);refine RO.bZ (ak.bM A) λH1 E U=>?_;refine RO.dL U λH2 D U=>?_;refine ab ?_;refine RO.aW ?_ (v:=.bool false) (hc:=by rw[U.gr.aY C];exact c');refine ab ?_;refine RO.dL U λH3 n U=>?_;refine RO.dL U λH4 q U=>?_;have dr:=U.pQ 1 rfl;have ds:=U.pQ 0 rfl;have a6:∀j∈ [q,n],j.ap<H4.next.ap:=λj hj=>by
  simp only[ac2,ahv,or_false]at hj;rcases hj with rfl|rfl;·exact ds.2
  exact dr.2
 have a8:∀HY H0:ai,aR A HY->H0.next=HY.next->(∀j,j∉ [q,n]->H0.get j=HY.get j)->aR A H0:=λHY H0 cd h1 h2=>⟨by rw[h1];exact cd.nx,λj hj=>by rw[h2 j ?_,cd.cI j hj];simp only[ac2,ahv,or_false,not_or];exact⟨λgn=>by rw[gn]at hj;omega,λgn=>by rw[gn]at hj;omega⟩⟩;refine RO.sn (is:=[q,n]) (Q:=λv ns=>∃am I up,eF g come os am/\Ah (wW g os) am I g.aj.length up/\ns=[tS 3 1 ((up.set 0 (-1)).map aI) g.aj.length true v]) U a6 (λH0 V hs=>ab2 T hB hE (z.bN (a8 _ _ U.gr V hs)) hK λH' v am I up h1 h2 h3 h4 h5 U=>⟨_,U,am,I,up,h1,⟨h3,h4,h2.zero.1,λy hy x hx=>(h1.mem x).2 (hK.il ((h1.mem y).1 hy) hx),h5⟩,rfl⟩) (λJ ns HU hQ dv U=>?_);obtain⟨am,I,up,hO,dx,rfl⟩:=hQ;have⟨e6,e7,e8,cf⟩:=(U.sl 0 rfl).all;refine⟨λaf cn=>ev (v:=.aD B 0) cn rfl rfl rfl (by simp[eV,cD,ah.ft]) (by obtain⟨_,hp⟩:=U.get 4 rfl;exact tB.cell hp rfl) rfl,?_⟩;refine RO.sn (is:=[q,n]) (Q:=λv ns=>ns=[tS pF 2 (gS (gM g)) (gM g).length true v]) U (λj hj=>ahC (a6 j hj) dv.nx) (λH0 V hs=>ab9 T hB (z.bN (a8 _ _ U.gr V hs)) c8 c9 hG λH' v U=>⟨_,U,rfl⟩) (λL ns e9 hQ e1 U=>?_);subst hQ;have⟨e',fa,fb,fd⟩:=(U.sl 0 rfl).all;refine⟨λaf cn=>rfl,(RO.dO U 3 (λH5 U=>RO.dO U 2 (λH6 U=>ab ?_)))⟩;have U:ak A H6 (kL g B E D n q up J L++fK []):=(((U.ep 4 rfl).ep 5 rfl).ep 5 rfl).ep 5 rfl;refine RO.eo U 2 ?_;refine ab ?_;refine RO.aW ?_ (v:=c) (hc:=by rw[U.gr.aY C];exact ca);refine ab ?_;have b7:∀b∈am,b<g.aj.length:=λb hb=>hK.lt ((hO.mem b).1 hb);refine Ru.nm λS M hS hM=>Ru.bH hM (Go.al.up (P:=λk=>∀HX N,(∀j,j<k->come.getD j false=true->so g come os j)->ak A HX (kL g B E D n q up J L++fK N)->Ru ac ⟨mc [.cell p2 false 1] K,N,none⟩ S ([(qJ,aN k)]++pk M [p1,p2,p3,p4,qH,qI]) HX) g.aj.length (λk hk ih HX N bc U=>?_) 0 aa _ [] (λj hj=>by omega) U);subst hS;subst hM;refine Ru.loop (au ?_);refine Ru.cond (λY=>?_) (λY=>?_)
 .have ay:=abO Y;have fe:=hB.bl _ ay;refine ab ?_;refine RO.bL U.gr z.bl (λq5 o5 c5 hj bv fk hat hrd=>?_);have cE:=bv.one;have dy:=bv;obtain⟨vp,vs,jc,rfl,_,_,dz⟩:=bv;obtain⟨va,vk,vg,rfl,d0,_,_⟩:=dz;have⟨fl,_,_,fo⟩:=d0.all;refine ab ?_;refine RO.dL U λH7 q5 U=>RO.dL U λH8 q6 U=>RO.dO U 1 (λH9 U=>RO.eT U 0 (λd1 U=>ab ?_));have⟨fp,_,_,_⟩:=z.cm.all;have d2:=hK.cl;refine RO.aW ?_ (v:=d) (hc:=by rw[U.gr.aY C];exact z.c4);refine ab ?_;refine RO.ic U.gr z.cm (λq7 o7 fq F=>?_) (j:=k) (hj:=by omega);have d3:come[k]'aa=come.getD k false:=(aZ _ _).symm;rw[d3]at F;cases u:come.getD k false with
  |false=>
   rw[u]at F;refine RO.aW (ab ?_) (hc:=F);refine Ru.exitTo ?_;refine ab ?_;exact Ru.wk (ih (k+1) aa aa d1 N (λj hj hc=>by
    by_cases gn:j=k;·subst gn;rw[u]at hc;cases hc
    exact bc j aa hc) U.tail.tail)
  |true=>
   rw[u]at F;refine RO.aW (ab ?_) (hc:=F);have b0:k<os.length:=by rw[hK.ol];exact Y
   have W:os.getD k []=os[k]:=aZ b0 _;have hs:=z.ju.bq k b0;have⟨fs,_,_,f0⟩:=hs.all;obtain⟨ov,d4,cp⟩:=z.ju.jt;have⟨f1,_,_,_⟩:=cp.all;have O:g.aj.getD k default=g.aj[k]:=aZ Y _;refine Ru.cut (P:=λH'=>(((g.aj[k]).aq.op=68->∃o,(os.getD k []).getLast?=some o/\0<=gp g o/\gp g o<g.aj.length/\(g.aj.getD (gp g o).toNat default).i4.length=(g.aj[k]).aq.args.length)/\((g.aj[k]).aq.op=69->os.getD k []=[]))/\ak A H' (tB cS q6 [vp,vs,aU (g.aj[k]).aq.op,va,.str (g.aj[k]).aq.i7,vk,vg]::tB 3 q5 [aN k]::(kL g B E D n q up J L++fK N))) [p1,p2,p3,p4,p5,p6,qH,qI,qJ] (λH' hP=>?_) (λX=>?_)
   .obtain⟨⟨d5,d6⟩,U⟩:=hP;have dg:=hB.st _ ay;have d7:=hB.ed _ ay;have d':=hW _ ay;refine ab ?_;refine RO.bT U 0 ?_;refine RO.cl (L3 T (cs:=[vp,vs,aU (g.aj[k]).aq.op,va,.str (g.aj[k]).aq.i7,vk,vg]) cE λH8 q8 hl=>?_);have U:ak A H8 ([tB cS q8 [vp,vs,aU (g.aj[k]).aq.op,va,.str (g.aj[k]).aq.i7,vk,vg]]++(tB 3 q5 [aN k]::kL g B E D n q up J L)++fK N):=U.tail.cH hl;refine ab ?_;refine Ru.wk (L:=[(E',.func BY [] [.aD q8 0]),(p1,.aD E 0),(p2,.aD D 0),(p3,.aD n 0),(p4,.aD q 0),(p5,.aD q5 0),(qH,c),(qI,aN g.aj.length),(qJ,aN k)]) ?_;refine Ru.mq (J:=λi ts=>ts=tB 3 q5 [aN k]::kL g B E D n q up J L/\∀j(hj:j<(fL g.aj[k]).length),j<i->vD g come os k (fL g.aj[k])[j]) (Dn:=λj ts=>j=.ret/\ts=tB 3 q5 [aN k]::kL g B E D n q up J L/\¬so g come os k) U (L4 T dy aa (λs hs=>by have:=(dg s hs).1;omega) aa aa (λgn he=>by have:=d7 gn he;omega)) (λ_ _=>trivial) ⟨rfl,λj _ hj=>by omega⟩ (λk args ws h=>by obtain⟨_,_,rfl⟩:=h;rfl) (λ_ _ _ _ _ _=>trivial) (λj args ws ts us l o1 o2 H' hj ea hJ U=>?_) (λH' eb dm hJ U=>?_) (λj H' eb dm f2 hD U=>?_)
    .obtain⟨rfl,cv,rfl⟩:=ea;obtain⟨rfl,ax⟩:=hJ;have cx:=d' _ (abO cv);have V:vD g come os k (fL g.aj[k])[j]->∀i(hi:i<(fL g.aj[k]).length),i<j+1->vD g come os k (fL g.aj[k])[i]:=λf i hi f3=>by
      by_cases gn:i=j;·subst gn;exact f
      exact ax i hi aa
     have a':¬vD g come os k (fL g.aj[k])[j]->¬so g come os k:=λf hb=>f (hb.rd _ (by rw[O];exact abO cv));clear ax;generalize(fL g.aj[k])[j]=w at*;obtain⟨w1,w2⟩:=w;simp only at cx;obtain⟨t,rfl⟩:∃t:Nat,w1=(t:Int):=⟨w1.toNat,aa⟩;have b3:t<(gM g).length:=by rw[b'.1];omega
     have ba:=b'.2 t;refine au ?_;refine Ru.cX U λH2 U=>ab ?_;refine RO.bL (aR.refl _) (SlD.r (U.sl 5 rfl)) (λq9 o9 e4 f4 ec f5 hat hrd=>?_) (j:=t) (hj:=b3);have ei:e4=[aI ((gM g).getD t (-1, -1)).1,aI ((gM g).getD t (-1, -1)).2]:=by rw[aZ b3];exact ec
     subst ei;have Q:∀{P:Prop},(P↔(t:Int)<g.i4\/(((gM g).getD t (-1, -1)).1=(k:Int)/\((gM g).getD t (-1, -1)).2<w2)\/∃s:Nat,((gM g).getD t (-1, -1)).1=(s:Int)/\s≠k/\come.getD s false=true/\ey (wW g os) s k)->(vD g come os k ((t:Int),w2)↔P):=λhP=>by
      rw[hP];constructor;·rintro⟨t',gn,_,f⟩;simp only at gn f;obtain rfl:t=t':=aa;exact f
      exact λf=>⟨t,rfl,b3,f⟩
     have Q:=Q aiY;generalize(gM g).getD t (-1, -1)=pw at*;obtain⟨wb,wa⟩:=pw;simp only at Q ba;refine ab ?_;refine RO.dD U λf6 f7 U=>?_;refine ab ?_;by_cases hA:(t:Int)<g.i4
     .have eB:=V (Q.2 (.inl hA));refine RO.bP (λ_=>?_) (λ_=>?_);·refine ab ?_;refine RO.aW ?_ (v:=aI g.i4) (hc:=by rw[U.gr.aY C];exact z.c1);refine ab ?_;refine RO.bP (λ(h:g.i4<=(t:Int))=>absurd hA aa) (λ_=>ab ?_);exact Ru.bx (ts:=_::kL g B E D n q up J L) U.tail ⟨rfl,eB⟩
      refine ab ?_;refine RO.aW ?_ (v:=aI g.i4) (hc:=by rw[U.gr.aY C];exact z.c1);refine ab ?_;refine RO.bP (λ(h:g.i4<=(t:Int))=>absurd hA aa) (λ_=>ab ?_);exact Ru.bx (ts:=_::kL g B E D n q up J L) U.tail ⟨rfl,eB⟩
     obtain⟨sb,cR,rfl⟩:=ba aa cx.2;by_cases Z:sb=k
     .subst Z;refine RO.bP (λ_=>?_) (λh=>absurd rfl h);refine ab ?_;refine RO.aW ?_ (v:=aI g.i4) (hc:=by rw[U.gr.aY C];exact z.c1);by_cases a1:wa<w2
      .have eB:=V (Q.2 (.inr (.inl ⟨rfl,a1⟩)));rw[show decide (wa<w2)=true from decide_eq_true a1];refine ab ?_;refine RO.bP (λ(h:g.i4<=(t:Int))=>?_) (λ_=>?_);·refine ab ?_;exact Ru.bx (ts:=_::kL g B E D n q up J L) U.tail ⟨rfl,eB⟩
       refine ab ?_;exact Ru.bx (ts:=_::kL g B E D n q up J L) U.tail ⟨rfl,eB⟩
      have m:=a' λf=>by
       rcases Q.1 f with f|⟨_,f⟩|⟨s,gn,f,_⟩;·exact hA f
       .exact a1 f
       exact f aa
      rw[show decide (wa<w2)=false from decide_eq_false a1];refine ab ?_;refine RO.bP (λ(h:g.i4<=(t:Int))=>ab ?_) (λh=>absurd aa h);refine RO.bP (λ_=>ab ?_) (λh=>absurd rfl h);refine RO.dO U 5 (λag U=>ab ?_);exact Ru.Ad (ts:=_::kL g B E D n q up J L) U.tail ⟨rfl,rfl,m⟩
     have m:¬(come.getD sb false=true/\ey (wW g os) sb k)->¬so g come os k:=λh8=>a' λf=>by
      rcases Q.1 f with f|⟨f,_⟩|⟨s,gn,_,f⟩;·exact hA f
      .exact Z aa
      obtain rfl:s=sb:=aa;exact h8 f
     refine RO.bP (λ(h:(sb:Int)=(k:Int))=>absurd aa Z) (λ_=>?_);refine ab ?_;refine RO.aW ?_ (v:=aI g.i4) (hc:=by rw[U.gr.aY C];exact z.c1);refine ab ?_;refine RO.bP (λ(h:g.i4<=(t:Int))=>ab ?_) (λh=>absurd aa h);refine RO.bP (λ(h:sb=k)=>absurd h Z) (λ_=>ab ?_);refine RO.aW ?_ (v:=d) (hc:=by rw[U.gr.aY C];exact z.c4);refine ab ?_;refine RO.ic U.gr z.cm (λf8 f9 bb F=>?_) (j:=sb) (hj:=by rw[d2];exact cR);have ej:come[sb]'bb=come.getD sb false:=(aZ bb false).symm;rw[ej]at F;cases a2:come.getD sb false with
     |false=>
      have m:=m λf=>by rw[a2]at f;cases f.1
      rw[a2]at F;refine ab ?_;refine RO.dO U 5 (λag U=>ab ?_);exact Ru.Ad (ts:=_::kL g B E D n q up J L) U.tail ⟨rfl,rfl,m⟩
     |true=>
      rw[a2]at F;refine ab ?_;refine RO.cl (ab4 T dx b7 (aR.refl _) (U.sl 7 rfl) (d:=sb) (b:=k) ((hO.mem k).2 u) λgq hr=>?_);cases gq with
      |true=>have eB:=V (Q.2 (.inr (.inr ⟨sb,rfl,Z,a2,(hr.1 rfl).2⟩)));refine ab ?_;exact Ru.bx (ts:=_::kL g B E D n q up J L) U.tail ⟨rfl,eB⟩
      |false=>
       have m:=m λf=>by have:=hr.2 ⟨Z,f.2⟩;cases this
       refine ab ?_;refine RO.dO U 5 (λag U=>ab ?_);exact Ru.Ad (ts:=_::kL g B E D n q up J L) U.tail ⟨rfl,rfl,m⟩
    .obtain⟨rfl,eC⟩:=hJ;refine ab ?_;exact Ru.wk (ih (k+1) aa aa H' (dm::N) (λj hj hc=>by
      by_cases gn:j=k;·subst gn;refine⟨by rw[O];exact d5,by rw[O];exact d6,λp hp=>?_⟩;rw[O]at hp;obtain⟨i,hi,rfl⟩:=ahd hp;exact eC i hi hi
      exact bc j aa hc) U.tail)
    obtain⟨rfl,rfl,m⟩:=hD;exact RJ.rQ (RJ.jf (M:=dm::N) (ts:=_::kL g B E D n q up J L) (.inr rfl) (U.bO (ahA (l₁:=[_,_,_,_,_,_,_]) (l₂:=fK (dm::N)))) λH' U=>⟨[.bool false],⟨⟨_,_,rfl,U.one 4⟩,trivial⟩,lw U.gr u m⟩)
   refine Ru.cond (λ(av:(g.aj[k]).aq.op=68)=>?_) (λ(av:¬(g.aj[k]).aq.op=68)=>?_)
   .refine ab ?_;refine RO.cl (LA T hB z.bl U.gr (z.ju.bN U.gr) b0 (by rw[<-W];exact(hE.jt (hK.cG k u)).1) (by rw[<-W];have:=(hE.jt (hK.cG k u)).2;omega) ?_);cases ho:os[k].getLast? with
    |none=>
     have m:¬so g come os k:=λhb=>by obtain⟨o,f,_⟩:=hb.en (by rw[O];exact av);rw[W,ho]at f;cases f
     simp only;refine ab ?_;refine RO.dO U 5 (λag U=>ab ?_);exact Ru.jf (M:=N) (ts:=_::_::kL g B E D n q up J L) (U.bO (ahA (l₁:=[_,_,_,_,_,_,_,_]) (l₂:=fK N))) λH' U=>⟨[.bool false],⟨⟨_,_,rfl,U.one 5⟩,trivial⟩,lw U.gr u m⟩
    |some o=>
     obtain⟨ow,ek⟩:=acb (g:=g) (b:=k) (by rw[O];exact av) (by rw[W];exact ho:(os.getD k []).getLast?=some o);obtain⟨cy,b4⟩:=hE.Af (hK.cG k u) _ ek;simp only at cy b4;have R:((g.aj[k]).aq.op=68->∃o,(os.getD k []).getLast?=some o/\0<=gp g o/\gp g o<g.aj.length/\(g.aj.getD (gp g o).toNat default).i4.length=(g.aj[k]).aq.args.length)↔(g.aj.getD (gp g o).toNat default).i4.length=(g.aj[k]).aq.args.length:=by
      rw[W,ho];constructor;·intro f;obtain⟨o2,gn,_,_,f⟩:=f av;injection gn with gn;subst gn;exact f
      exact λf _=>⟨o,rfl,cy,b4,f⟩
     have m:¬(g.aj.getD (gp g o).toNat default).i4.length=(g.aj[k]).aq.args.length->¬so g come os k:=λh8 hb=>h8 (R.1 (by rw[<-O];exact hb.en));simp only;obtain⟨t,ht⟩:∃t:Nat,gp g o=(t:Int):=⟨(gp g o).toNat,aa⟩;rw[ht]at b4 R m⊢;rw[aeY]at R m;have cf:t<g.aj.length:=aa;rw[aZ cf]at R m;refine ab ?_;refine RO.aW ?_ (v:=c) (hc:=by rw[U.gr.aY C];exact ca);refine ab ?_;refine RO.bL U.gr z.bl (λq8 o8 gi f' el _ hat _=>?_) (j:=t);obtain⟨gb,gd,gg,rfl,et,_,_⟩:=el;have⟨e2,_,_,e3⟩:=et.all;refine ab ?_;refine Ru.cond (λaw=>?_) (λew=>?_);·refine ab ?_;refine RO.dO U 5 (λag U=>ab ?_);exact Ru.jf (M:=N) (ts:=_::_::kL g B E D n q up J L) (U.bO (ahA (l₁:=[_,_,_,_,_,_,_,_]) (l₂:=fK N))) λH' U=>⟨[.bool false],⟨⟨_,_,rfl,U.one 5⟩,trivial⟩,lw U.gr u (m aw)⟩
     exact Ru.skip (X _ _ ⟨⟨R.2 (aix.1 ew),λf=>by omega⟩,U⟩ dw)
   refine ab ?_;refine Ru.cond (λ(b6:(g.aj[k]).aq.op=69)=>?_) (λ(b6:¬(g.aj[k]).aq.op=69)=>?_)
   .refine ab ?_;refine RO.aW ?_ (v:=ov) (hc:=by rw[U.gr.aY C];exact d4);refine ab ?_;refine RO.si U.gr cp (λq8 o8 e0 _=>RO.aW (ab ?_) (hc:=e0)) (j:=k);refine Ru.cond (λ(aw:0<os[k].length)=>?_) (λ(aw:¬0<os[k].length)=>?_)
    .have m:¬so g come os k:=λhb=>by have:=hb.rt (by rw[O];exact b6);rw[W]at this;rw[this]at aw;cases aw
     refine ab ?_;refine RO.dO U 5 (λag U=>ab ?_);exact Ru.jf (M:=N) (ts:=_::_::kL g B E D n q up J L) (U.bO (ahA (l₁:=[_,_,_,_,_,_,_,_]) (l₂:=fK N))) λH' U=>⟨[.bool false],⟨⟨_,_,rfl,U.one 5⟩,trivial⟩,lw U.gr u m⟩
    refine Ru.skip ?_;exact X _ _ ⟨⟨λf=>by omega,λ_=>by rw[W];exact ahz aa⟩,U⟩ dw
   exact Ru.skip (X _ _ ⟨⟨λf=>absurd f av,λf=>absurd f b6⟩,U⟩ dw)
 refine Ru.exitTo ?_;refine ab ?_;refine RO.dO U 3 (λH7 U=>?_);refine ab ?_;refine Ru.jf (M:=N) (ts:=[_,_,_,tB 4 D [.bool true],_,_]) (U.bO (ahA (l₁:=[_,_,_,_,_,_]) (l₂:=fK N))) λH' U=>⟨[.bool true],⟨⟨_,_,rfl,U.one 3⟩,trivial⟩,h H' true U.gr ⟨λ_ j hj=>bc j (by have:=hK.lt hj;omega) hj,λ_=>rfl⟩⟩
end
end
end Go.al.R
end
