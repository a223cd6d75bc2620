/- A part. No conditions. -/
import Derived.Test.YtodnahjlheaolaaGreatDoorA25
set_option linter.all false
set_option maxHeartbeats 16000000
open List renaming replicate->ab7,range->ahq
open Nat renaming ble->aih
open List.Perm renaming swap->ah5,cons->ah6
open List.Pairwise renaming nil->ai4
open Eq renaming mpr->ai5
open Prod renaming fst->ai6
noncomputable section
namespace Go.al.R
section
variable{ac:Nat->aX}
end
variable{B q:List AV}{A E:List (List bp)}{F b o tos:Nat}{H2 Q w:ai}{W k t x:ah}{X:KT}{H Y:List Bool}{Z:G.aM}{h s u y:AV}{S now:List bp}{D d:Nat->Int->Prop}{V:List Nat}{L:List (Int×Int)}{f l xs ys:List Th}{m:Nat->ah}{a n:Int->Prop}{nw2 p:Bool}{v z:Int}{e ks:List Int}{g:Th}{c:Type}{P:List (List Int)}
section
variable{ac:Nat->aX}
theorem MN(h:∀j(hj:S.length - 1 - j<S.length),j<S.length->S[S.length - 1 - j].2≠0):jV Z S=none:=by
 unfold jV;rw[List.find?_eq_none.2];·rfl
 intro x e;obtain⟨i,hi,rfl⟩:=ahd (List.mem_reverse.1 e);have:=h (S.length - 1 - i) aa aa;simp only[show S.length - 1 - (S.length - 1 - i)=i by omega]at this;simpa using this
theorem MO{g:G.aM}(f:S.length - 1 - F<S.length)(e:F<S.length)(h:∀j(hj:S.length - 1 - j<S.length),j<F->S[S.length - 1 - j].2≠0)(h0:S[S.length - 1 - F].2=0):jV g S=some ((aE g S[S.length - 1 - F].1.toNat).aq.go.getD 1 default).block:=by
 unfold jV;rw[(List.find?_eq_some_iff_getElem (b:=S[S.length - 1 - F])).2];·rfl
 refine⟨by simpa using h0,F,by simpa using e,by rw[List.getElem_reverse],λj hj=>?_⟩;rw[List.getElem_reverse];simpa using h j aa hj
abbrev OpR:bp->List AV->Prop:=λo cs=>cs=[aI o.1,aU o.2]
section
variable{g:G.aM}{come:List Bool}{os:List (List bp)}
theorem ac3(T:Tb ac)(hB:G.Sm g)(hE:fE g)(o:GX g Q W s u come os B)(I:b8 g come os)(hb:come.getD F false=true)(h:∀f,aR Q f->X (match jV g (os.getD F [])with|some t=>.tuple [aI t,.bool true]|none=>.tuple [aI (-1),.bool false]) f):YN ac Xj [.aD W 0,aN F] Q X:=by
 have a6:=hB.nb;have M:=I.lt hb;have p:F<os.length:=by rw[I.ol];exact M
 have⟨hO,N⟩:=hE.jt (I.cG F hb);have O:os.getD F []=os[F]:=aZ p _;rw[O]at h hO N;have hs:=o.ju.bq F p;have⟨P,R,S,a8⟩:=hs.all;have v:=o.ju.lt;have V:=o.ju.aE;obtain⟨ov,Y,Z⟩:=o.ju.jt;refine YF.code T.ZP aC (au ?_);refine RO.bZ (ak.bM Q) λH1 A U=>?_;refine RO.dL U λH2 C U=>?_;refine RO.dL U λH3 D U=>?_;refine ab ?_;refine RO.aW ?_ (v:=ov) (hc:=by rw[U.gr.aY v];exact Y);refine ab ?_;refine RO.si U.gr Z (λq8 o8 a' _=>?_) (j:=F);refine ab ?_;refine RO.cl (Cj T.aab bt P R S λH4 q hl=>?_);have U:=U.cH hl;refine ab ?_;refine Ru.wk (L:=[(km,.func XH [] [.aD q 0]),(p2,.aD A 0),(p4,.aD C 0),(p5,.aD D 0)]) ?_;have U:ak Q H4 ([tB E7 q [B.getD F .bQ]]++[tB 4 D [.bool false],tB 3 C [aI 0],tB kJ A [.aD W 0]]++[]):=U;refine Ru.mq (J:=λk ts=>ts=[tB 4 D [.bool false],tB 3 C [aI 0],tB kJ A [.aD W 0]]/\∀j(hj:os[F].length - 1 - j<os[F].length),j<k->os[F][os[F].length - 1 - j].2≠0) (Dn:=λj ts=>j=.ret/\∃t,jV g os[F]=some t/\ts=[tB 4 D [.bool true],tB 3 C [aI t],tB kJ A [.aD W 0]]) U (Ci (R:=OpR) (agg:=true) (size:=2) (la:=os[F]) (sv:=B.getD F .bQ) (e:=E7) (nt:=19) T.aar bt aa (λh=>by cases h) (λb6 cs h=>by cases h;rfl)) (λH2 hg=>kn.r ((U.gr.trans hg).sl hs)) ⟨rfl,λj _ hj=>absurd hj aa⟩ (λk args ws h=>by obtain⟨_,_,_,_,rfl⟩:=h;rfl) (λk ts us f E U=>kn.r (U.gr.sl hs)) (λk args ws ts us l o1 o2 f hk ag E U=>?_) (λf av J E U=>?_) (λj f av J hj hD U=>?_)
 .obtain⟨rfl,w,cs,aw,rfl⟩:=ag;obtain⟨rfl,eC⟩:=E;have ax:=abO w;generalize i:os[F][os[F].length - 1 - k]=oo at*;have⟨ob,m⟩:=oo;subst aw;refine ab ?_;refine RO.dD U λH5 q7 U=>ab ?_;refine Ru.cX (xs:=[_,_,_,_]) U λH6 U=>ab ?_;refine Ru.cond (λ(h0:m=0)=>?_) (λ(h0:¬m=0)=>?_)
  .have⟨g1,g2,L⟩:=hO.ok _ ax;simp only at g1 g2 L;obtain⟨t,rfl⟩:∃t:Nat,ob=(t:Int):=⟨ob.toNat,aa⟩;rw[aeY]at L;have x:t<g.aj.length:=aa;have g4:g.aj[t].aq.go.length=3:=by rw[<-L,aZ x]
   refine ab ?_;refine RO.aW ?_ (v:=s) (hc:=by rw[U.gr.aY v];exact V);refine ab ?_;refine RO.bL U.gr o.bl (λq9 o9 c9 ba ay bb hat _=>?_) (j:=t);obtain⟨vp,vs,jc,rfl,_,_,va,vk,vg,rfl,_,_,y⟩:=ay;have⟨bc,_,_,_⟩:=y.all;refine ab ?_;refine RO.aW (v:=vg) (RO.bL U.gr y (λbv b0 b3 a1 z a2 n _=>?_) (j:=1) (hj:=by omega)) (hc:=hat 6 _ rfl);obtain⟨ve,rfl,_⟩:=z;refine ab ?_;refine RO.aW (RO.dO U 2 (λH7 U=>RO.dO U 1 (λH8 U=>ab ?_))) (hc:=n 0 _ rfl);have U:=U.tail (t:=tB E6 q7 [aN t,aU m]);refine Ru.Ad (ts:=[_,_,_]) U ⟨rfl,_,MO w hk eC (by rw[i];exact h0),?_⟩;rw[i];simp only[aE,aeY,aZ x];rw[aZ aa];rfl
  refine ab ?_;refine Ru.bx (ts:=[_,_,_]) U.tail ⟨rfl,λj hj b4=>?_⟩;by_cases e:j=k;·subst e;rw[i];exact h0
  exact eC j hj aa
 .obtain⟨rfl,eC⟩:=E;refine ab ?_;refine RO.dO U 1 (λH5 U=>RO.dO U 0 (λH6 U=>ab ?_));rw[MN eC]at h;refine Ru.jf (M:=[J]) (ts:=[_,_,_]) (U.bO (ahy (l₁:=[_,_,_]))) λf U=>⟨[aI (-1),.bool false],⟨⟨_,_,rfl,U.one 1⟩,⟨_,_,rfl,U.one 0⟩,trivial⟩,h f U.gr⟩
 obtain⟨rfl,t,ht,rfl⟩:=hD;rw[ht]at h;exact RJ.rQ (RJ.jf (M:=[J]) (ts:=[_,_,_]) (.inr rfl) (U.bO (ahy (l₁:=[_,_,_]))) λf U=>⟨[aI t,.bool true],⟨⟨_,_,rfl,U.one 1⟩,⟨_,_,rfl,U.one 0⟩,trivial⟩,h f U.gr⟩)
structure MP(g:G.aM):Prop where
 fv:FV g g.aO.toNat
 ne:0<g.aj.length
 first:(g.aj.getD 0 default).i4=[]
structure Vd(g:G.aM):Prop where
 fw:ny g
 MQ:ml g
 lU:dT g
 iw:jW g=false
 cG:fE g
 oM:∀come os,b8 g come os->nq g come os
theorem Vd.sm(V:Vd g):G.Sm g:=V.fw.sm
theorem Vd.gv(V:Vd g):nu g:=Mz V.lU
theorem dT.fm(h:dT g)(e:g.aO<=6000):MP g:=⟨⟨h.p0,h.p1,e,by have:=h.p0;have:=h.p1;omega⟩,h.ne,h.first⟩
theorem Vd.fm(V:Vd g):MP g:=V.lU.fm (by have:=(Aw V.fw V.iw).2;omega)
theorem MR(h:nu g):∀f∈g.aj,∀p∈cB f,0<=p.1/\p.1<g.aO:=λf hb p e=>by have:=h.oD f hb p e;have:=h.p0;omega
theorem Vd.oD(V:Vd g):∀e∈g.aj,∀p∈cB e,0<=p.1/\p.1<g.aO:=MR V.gv
theorem ac4(e:nu g):L9 g:=by have h0:=Ai e.v0;refine⟨aa,λt h1 h2=>?_⟩;have⟨i,p,hi,f⟩:=e.all t h1 h2;have:=e.at hi f;grind
theorem ac5(h:dT g):∀i∈g.aj,∀p∈fL i,0<=p.1/\p.1<g.aO:=λi hb p e=>by have⟨k,_,_,f⟩:=Gw e;exact vN h hb f
theorem dT.shF(h:dT g):qO g:=⟨h.sh.ne,h.sh.t3,λf hb e he=>by have:=h.sh.rg f hb e he;omega⟩
theorem b8.eq(e:fE g)(h:b8 g come os)(f:b8 g Y E)(hb:come.getD F false=true):Y.getD F false=true/\E.getD F []=os.getD F []:=f.oE e (h.cG F hb)
theorem iV.Gx(j:fE g)(h:b8 g come os)(k:b8 g Y E)(l:iV (wW g os) o F):come.getD F false=true/\iV (wW g E) o F:=by induction l with|zero e=>exact⟨h.c0,.zero e⟩| @step m x _ i e f=>refine⟨h.il f.1 i,.step f.2 ?_ e⟩;rw[wW,(h.eq j k f.1).2];exact i
theorem nq.Gx(f:fE g)(h:b8 g come os)(i:b8 g Y E)(j:nq g come os):nq g Y E:=by
 have e:∀v,Y.getD v false=true->come.getD v false=true/\E.getD v []=os.getD v []:=λv hb=>by have h1:=(i.eq f h hb).1;exact⟨h1,(h.eq f i h1).2⟩
 refine⟨λv hb k=>?_,λv hb l=>?_,λv hb p m=>?_⟩;·have⟨h1,h2⟩:=e v hb;rw[h2];exact j.en v h1 k
 .have⟨h1,h2⟩:=e v hb;rw[h2];exact j.rt v h1 l
 have⟨h1,h2⟩:=e v hb;have⟨t,n,o,a3⟩:=j.rd v h1 p m;refine⟨t,n,o,?_⟩;rcases a3 with a3|a3|⟨s,b1,b2,q,r⟩;·omega
 .omega
 exact .inr (.inr ⟨s,b1,b2,(h.eq f i q).1,λu=>r (iV.Gx f i h u).2⟩)
def nD(g:G.aM)(e:Int):Prop:=e=5/\jW g=true\/e=4/\jW g=false/\¬dT g\/e=9/\jW g=false/\dT g/\¬jG g
theorem MS(T:Tb ac)(z:ny g)(J:ml g){cs:List AV}(hg:dc Q g cs)(P:∀t W s u come os B,Vd g->aR Q t->GX g t W s u come os B->b8 g come os->X (.tuple [.aD W 0,aI 0]) t)(A:∀t e,¬Vd g->nD g e->aR Q t->X (.tuple [.j5,aI e]) t):YN ac KG [.agg cs] Q X:=by
 have O:=hg.one;have w:=z.sm;obtain⟨i,rfl,bz⟩:=hg;refine YF.code T.Zw aC (au ?_);refine RO.bZ (ak.bM Q) λY q U=>ab ?_;refine RO.bT U 0 ?_;refine RO.cl (acm T (cs:=[.str g.i7,aI g.i4,aI g.aO,i]) ⟨i,rfl,bV.block.gK U.gr bz⟩ w λZ D=>?_);have U:=U.bN D;cases f:jW g with
 |true=>refine ab ?_;exact Ru.ki (A _ 5 (λV=>by have:=V.iw;rw[f]at this;cases this) (.inl ⟨rfl,f⟩) U.gr)
 |false=>
  have⟨p,S⟩:=Aw z f;refine ab ?_;refine RO.bT U 0 ?_;refine RO.cl (abD T (cs:=[.str g.i7,aI g.i4,aI g.aO,i]) w J (by have:=z.nm;omega) aa ⟨i,rfl,bV.block.gK U.gr bz⟩ λH3 ag E r=>?_);rw[acI w]at r;have U:=U.bN E;cases ag with
  |false=>
   have L:¬dT g:=λh=>by have:=r.2 h;cases this
   refine ab ?_;exact Ru.ki (A _ 4 (λV=>L V.lU) (.inr (.inl ⟨rfl,f,L⟩)) U.gr)
  |true=>
   have n:=r.1 rfl;have C:=Mz n;refine ab ?_;refine RO.bT U 0 ?_;refine RO.cl (abT T w n.shF aa (cs:=[.str g.i7,aI g.i4,aI g.aO,i]) ⟨i,rfl,bV.block.gK U.gr bz⟩ (λR W s u come os B l v M j=>?_) (λR W l F G I=>?_))
   .refine ab ?_;refine RO.cl (acd T w v M j C.v0 aa (MR C) (ac5 n) (ac4 C) λN ag k x=>?_);cases ag with
    |true=>have m:=x.1 rfl;refine ab ?_;exact Ru.ki (P N W s u come os B ⟨z,J,n,f,v,λc2 o2 h2=>m.Gx v j h2⟩ ((U.gr.trans l).trans k) (M.bN k) j)
    |false=>
     have m:¬nq g come os:=λh=>by have:=x.2 h;cases this
     refine ab ?_;exact Ru.ki (A _ 9 (λV=>m (V.oM come os j)) (.inr (.inr ⟨rfl,f,n,λh=>m (acW n p h v C j)⟩)) ((U.gr.trans l).trans k))
   refine ab ?_;refine RO.cl (ac1 T F G λN k=>?_);have y:¬fE g:=λv=>by have⟨ag,o,o',h1,h2,h3⟩:=I;exact h3 (v.pO h1 h2)
   refine ab ?_;exact Ru.ki (A _ 9 (λV=>y V.cG) (.inr (.inr ⟨rfl,f,n,λh=>y (ac0 n p h)⟩)) ((U.gr.trans l).trans k))
theorem MT(T:Tb ac)(V:Vd g){cs:List AV}(hg:dc Q g cs)(f:∀e W s u come os B,aR Q e->GX g e W s u come os B->b8 g come os->X (.tuple [.aD W 0,aI 0]) e):YN ac KG [.agg cs] Q X:=MS T V.fw V.MQ hg (λe W s u come os B _=>f e W s u come os B) λ_ _ h=>absurd V h
theorem ac7(T:Tb ac)(V:Vd g){cs:List AV}(hg:dc Q g cs)(o:y.bk=true)(m:∀f W s u come os B,aR Q f->GX g f W s u come os B->b8 g come os->YF ac y [.aD W 0] f λv i=>v.bk=true/\X (.tuple [v,aI 0]) i):YN ac KF [.agg cs,y] Q X:=by have l:=hg.one;obtain⟨e,rfl,bz⟩:=hg;refine YF.code T.K0 aC (au ?_);refine RO.bZ (ak.bM Q) λr q U=>ab ?_;refine RO.bT U 0 ?_;refine RO.cl (MT T V (cs:=[.str g.i7,aI g.i4,aI g.aO,e]) ⟨e,rfl,bV.block.gK U.gr bz⟩ λi W s u come os B j n k=>?_);refine ab ?_;refine RO.cl ((m i W s u come os B (U.gr.trans j) n k).mono λv t h=>?_);have⟨p,h⟩:=h;refine ab ?_;exact Ru.ki h
theorem ac8(T:Tb ac)(m:¬Vd g)(n:ny g)(o:ml g){cs:List AV}(hg:dc Q g cs)(r:s.bk=true)(p:∀k e,nD g e->aR Q k->X (.tuple [.bj,aI e]) k):YN ac KF [.agg cs,s] Q X:=by
 have l:=hg.one;obtain⟨f,rfl,bz⟩:=hg;refine YF.code T.K0 aC (au ?_);refine RO.bZ (ak.bM Q) λt q U=>ab ?_;refine RO.bT U 0 ?_;refine RO.cl (MS T n o (cs:=[.str g.i7,aI g.i4,aI g.aO,f]) ⟨f,rfl,bV.block.gK U.gr bz⟩ (λ_ _ _ _ _ _ _ V=>absurd V m) λu e _ he i=>?_);have j:e≠0:=by rcases he with⟨h,_⟩|⟨h,_⟩|⟨h,_⟩<;>omega
 refine ab ?_;refine Ru.cond (λ_=>ab ?_) (λh=>absurd j h);exact Ru.ki (p _ e he (U.gr.trans i))
theorem ac9(T:Tb ac)(V:Vd g){cs:List AV}(hg:dc Q g cs)(o:y.bk=true)(m:∀f W s u come os B,aR Q f->GX g f W s u come os B->b8 g come os->YF ac y [.aD W 0] f λv i=>v.bk=true/\X (.tuple [v,aI 0]) i):YN ac WN [.agg cs,y] Q X:=by have l:=hg.one;obtain⟨e,rfl,bz⟩:=hg;refine YF.code T.Zf aC (au ?_);refine RO.bZ (ak.bM Q) λr q U=>ab ?_;refine RO.bT U 0 ?_;refine RO.cl (MT T V (cs:=[.str g.i7,aI g.i4,aI g.aO,e]) ⟨e,rfl,bV.block.gK U.gr bz⟩ λi W s u come os B j n k=>?_);refine ab ?_;refine RO.cl ((m i W s u come os B (U.gr.trans j) n k).mono λv t h=>?_);have⟨p,h⟩:=h;refine ab ?_;exact Ru.ki h
theorem ada(T:Tb ac)(V:Vd g){cs:List AV}(hg:dc Q g cs)(l:∀j v come os am,b8 g come os->eF g come os am->ak Q j [tS 3 1 (am.map aN) am.length true v]->X (.tuple [v,aI 0]) j):YN ac KD [.agg cs] Q X:=by have k:=hg.one;obtain⟨e,rfl,bz⟩:=hg;refine YF.code T.KZ aC (au ?_);refine RO.bZ (ak.bM Q) λp q U=>ab ?_;refine RO.bT U 0 ?_;refine RO.cl (ac7 T V (cs:=[.str g.i7,aI g.i4,aI g.aO,e]) ⟨e,rfl,bV.block.gK U.gr bz⟩ rfl λr W s u come os B h m f=>FN T V.sm V.cG m f λn v am o hl=>?_);have⟨i,_,_,_⟩:=(hl.sl 0 rfl).all;refine⟨i,(ab ?_)⟩;exact Ru.ki (l n v come os am f o (hl.E1 (U.gr.trans h)))
theorem adb(T:Tb ac)(k:¬Vd g)(l:ny g)(m:ml g){cs:List AV}(hg:dc Q g cs)(n:∀i e,nD g e->aR Q i->X (.tuple [.bj,aI e]) i):YN ac KD [.agg cs] Q X:=by have j:=hg.one;obtain⟨f,rfl,bz⟩:=hg;refine YF.code T.KZ aC (au ?_);refine RO.bZ (ak.bM Q) λo q U=>ab ?_;refine RO.bT U 0 ?_;refine RO.cl (ac8 T k l m (cs:=[.str g.i7,aI g.i4,aI g.aO,f]) ⟨f,rfl,bV.block.gK U.gr bz⟩ rfl λp e he h=>?_);refine ab ?_;exact Ru.ki (n _ e he (U.gr.trans h))
end
end
section
variable{ac:Nat->aX}
section
def jX(d:ah)(n:Nat)(vs:List AV)(ids:Nat->ah)(am:List Nat)(S:Nat->Int->Prop):List Th:=tS Ke 1 vs n true (.slice d 0 n n true)::am.map λb=>tM false (ids b) (S b)
structure yu(n:Nat)(vs:List AV)(ids:Nat->ah)(am:List Nat):Prop where
 len:vs.length=n
 nd:am.Nodup
 bq:∀b∈am,b<n/\vs.getD b .bQ=.map (ids b)
def dP(S:Nat->Int->Prop)(b:Nat)(P:Int->Prop):Nat->Int->Prop:=λx=>if x=b then P else S x
section
variable{d:ah}
theorem adc(c:V.Nodup)(hi:F<V.length)(hb:o∈V):V.idxOf o=F↔V[F]=o:=by grind
theorem ade(c:V.Nodup)(hb:F∈V):(jX d o B m V D).set (V.idxOf F+1) (tM false (m F) a)=jX d o B m V (dP D F a):=by simp only[jX,List.set_cons_succ];congr 1;apply ain aC;intro i h1 h2;rw[ahs]at h2;rw[List.getElem_set,ahP,ahP];by_cases j:V.idxOf F=i;all_goals simp_all[aF,adc,dP,an]
theorem Cw(hb:F∈V):(jX d o B m V D)[V.idxOf F+1]?=some (tM false (m F) (D F)):=by simp[hb,List.idxOf_lt_length_of_mem,jX,ail,ahB,ah7,List.getElem_idxOf,ahQ]
theorem oN{m:List Th}{i:Nat}(c:l[i]?=some g):(xs++(l++m))[xs.length+i]?=some g:=by grind
theorem MU(c:F<l.length):(xs++(l++f)).set (xs.length+F) g=xs++(l.set F g++f):=by grind
theorem adf(hb:F∈V):V.idxOf F+1<(jX d o B m V D).length:=by simp[hb,List.idxOf_lt_length_of_mem,jX,ahK,ahs]
theorem Gy{j:Nat}{v:AV}(l:Sl Q 1 B F (.slice W 0 F F true))(hj:j<F)(c:B.getD j .bQ=v):kg Q (.slice W 0 F F true) (.ofNat j)=some v:=by have hl:=l.length;have⟨i,o,cap,ex,m,_,_,k,_⟩:=l.at aa;simp_all[kg,ai5,aib,bg,aZ]
end
theorem MV{bq:Int}(c:(L.map ai6).Nodup):eh.pA L bq v=true↔∀p,(v,p)∈L->bq<=p:=by
 induction L with
 |nil=>simp[eh.pA]
 |cons o L j=>
  have⟨k,m⟩:=o;simp only[ahk,ahT]at c;simp only[eh.pA];by_cases i:v=k
  .subst i;rw[aF (by simp[dW])];have l:(!j7 m bq)=true↔bq<=m:=by rw[li];simp
   grind
  simp[i,j,c,an,dW,ac2,absurd,ab8]
def fM(f e a g pm d:ah)(n b:Nat)(pl:List (Int×Int))(h:Bool)(vs:List AV)(ids:Nat->ah)(am:List Nat)(S:Nat->Int->Prop):List Th:=[tB 4 a [.bool h],tB 3 f [aN b],tB tu e [.slice d 0 n n true],tB BR g [.map pm],tI pm pl]++jX d n vs ids am S
abbrev dp(f e a g:ah):AV:=.func Ff [] [.aD g 0,.aD e 0,.aD f 0,.aD a 0]
section
variable{pm d:ah}
theorem tB.Gz{k:List ah}(i:(tB F W B).P Q k):∃c,Q.get W=.cells c B.length F true [] 0/\(∀j(i:j<B.length),c.br .ai8 j=B[j])/\W.ap<Q.next.ap:=i.2.2
theorem ak.kh(C:yu o B m V)(hb:F∈V)(U:ak w Q (fM t x W k pm d o F L p B m V D++l)){c:az AV}{P:Int->Prop}(E:Q.next.ap<=H2.next.ap)(hg:∀j,j≠m F->j≠W->H2.get j=Q.get j)(h1:fx (H2.get (m F)) ks)(G:∀M,M∈ks↔P M)(h2:H2.get W=.cells c 1 4 true [] 0)(h3:c.br .ai8 0=.bool nw2):ak w H2 (fM t x W k pm d o F L nw2 B m V (dP D F P)++l):=by
 have hat:(fM t x W k pm d o F L p B m V D++l)[5+(V.idxOf F+1)]?=some (tM false (m F) (D F)):=by simp only[fM,ae0];exact oN (xs:=[_,_,_,_,_]) (Cw hb)
 have⟨_,_,s⟩:=U.kW _ hat;have u:W.ap<Q.next.ap:=by obtain⟨_,i⟩:=U.get 0 rfl;obtain⟨_,_,_,_,_,K⟩:=i;exact K
 let r:ai:=Q.set (m F) (H2.get (m F));have ga:∀j,r.get j=if j=m F then H2.get (m F)else Q.get j:=λj=>ai.aG .. ;have q:ak w r ((fM t x W k pm d o F L p B m V D++l).set (5+(V.idxOf F+1)) (tM false (m F) P)):=by refine U.qT (q:=m F) _ hat rfl (λj hj=>by rw[ga,an hj]) (λI i=>i.1) ⟨abt.2 rfl,λj hj=>abt.1 hj,⟨ks,?_,G⟩,(λK=>by cases K),s⟩;rw[ga,aF rfl];exact h1
 have J:(fM t x W k pm d o F L p B m V D++l).set (5+(V.idxOf F+1)) (tM false (m F) P)=fM t x W k pm d o F L p B m V (dP D F P)++l:=by simp only[fM,ae0];refine(MU (xs:=[_,_,_,_,_]) (adf hb)).trans ?_;rw[ade C.nd hb]
 rw[J]at q;let y:ai:=r.set W (H2.get W);have z:∀j,y.get j=if j=W then H2.get W else r.get j:=λj=>ai.aG .. ;have v:ak w y (fM t x W k pm d o F L nw2 B m V (dP D F P)++l):=by
  refine q.qT (q:=W) 0 rfl (t':=tB 4 W [.bool nw2]) rfl (λj hj=>by rw[z,an hj]) (λI i=>i.1) ⟨abt.2 rfl,λj hj=>abt.1 hj,c,?_,λj hj=>?_,u⟩;·rw[z,aF rfl];exact h2
  simp only[ahJ]at hj;obtain rfl:j=0:=aa;exact h3
 refine v.bN ⟨E,λj _=>?_⟩;grind
theorem adg(T:Tb ac)(O:yu F B m V)(hb:b∈V)(U:ak w Q (fM W t x k pm d F b L p B m V D++l)){bq:Int}(Y:∀r R P s,(∀av,P av↔D b av\/av=v/\∀ax,(v,ax)∈L->bq<=ax)->(s=true↔p=true\/∃av,P av/\¬D b av)->ak w R (fM W t x k pm d F b L s B m V (dP D b P)++l)->X r R):YF ac (dp W t x k) [aI v,aI bq] Q X:=by
 have hat:(fM W t x k pm d F b L p B m V D++l)[5+(V.idxOf b+1)]?=some (tM false (m b) (D b)):=by simp only[fM,ae0];exact oN (xs:=[_,_,_,_,_]) (Cw hb)
 have⟨⟨ks,z,o⟩,_,ag⟩:=U.kW _ hat;have⟨⟨_,_,_,_⟩,C,_⟩:=U.Ck 4 rfl;have⟨E,G⟩:=U.qQ 4 rfl;have⟨I,J⟩:=O.bq b hb;have u:∀(i:Nat){ay:Nat}{q:ah}{v:AV},(fM W t x k pm d F b L p B m V D++l)[i]?=some (tB ay q [v])->l9 Q (.aD q 0)=some v:=λi _ _ _ hi=>by obtain⟨_,Z⟩:=U.get i hi;exact tB.cell Z rfl
 have⟨f6,M⟩:=U.get 0 rfl;have⟨c,h6,h7,_⟩:=tB.Gz M;refine⟨80,JG (pm:=pm) (s2:=.slice d 0 F F true) (kb:=3) (b:=.ofNat b) (N:=m b) (ks:=ks) (q:=p) (fz:=0) T.ZM T.ZN (u 3 rfl) (u 2 rfl) (u 1 rfl) E G (Gy (U.sl 5) I J) h6 (Nat.zero_le _) aC (h7 0 aC) z λr H2 N c2 r1 r2 r3 y r5 _ r7 _=>?_⟩;have j:=MV (bq:=bq) (v:=v) C;refine Y r H2 (λav=>av∈N) _ (λav=>?_) ?_ (ak.kh O hb U (by rw[r1];exact aeE _) r2 r3 (λav=>aiY) r5 r7);·rw[y,o,j]
 rw[aij,ahl,j,ah3];have hh:fP v ks=false↔¬D b v:=by rw[<-o,<-qz];simp
 rw[hh];constructor
 .rintro(aw|⟨h1,h2⟩);·exact .inl aw
  exact .inr ⟨v,(y v).2 (.inr ⟨rfl,j.2 h1⟩),h2⟩
 rintro(aw|⟨av,h1,h2⟩);·exact .inl aw
 rcases(y av).1 h1 with aw|⟨rfl,aw⟩;·exact absurd ((o av).1 aw) h2
 exact .inr ⟨j.1 aw,h2⟩
theorem tV(c:W≠t):ah.beq W t=false:=by grind[ah.beq,absurd,ah.ft]
theorem adh(j:W≠t)(c:aY Q W F=some s):kH Q t (.aD W F)=some s:=by simp[j,c,kH,tV,abH,bF]
theorem MW(I:yu o B m V)(hb:F∈V){to:Nat}(s:to∈V){r:ah}(U:ak w Q (tB ln r [dp x t W k]::(fM x t W k pm d o F L p B m V D++l))){bq:Int}{co:List ah}:∃H' P z,(∀af u,af.get .ai8 (sl 11)=.aD r 0->af.get .ai8 (sl 5)=.aD t 0->af.get .ai8 (sl tos)=aN to->u W=some bq->xi Ff u tos co af Q=some (jn af co,H'))/\(∀ba,P ba↔D F ba\/D to ba/\∀b0,(ba,b0)∈L->bq<=b0)/\(z=true↔p=true\/∃ba,P ba/\¬D F ba)/\ak w H' (tB ln r [dp x t W k]::(fM x t W k pm d o F L z B m V (dP D F P)++l)):=by
 have hat:∀ba,ba∈V->(tB ln r [dp x t W k]::(fM x t W k pm d o F L p B m V D++l))[6+(V.idxOf ba+1)]?=some (tM false (m ba) (D ba)):=λba y=>by simp only[fM,ae0];exact oN (xs:=[_,_,_,_,_,_]) (Cw y)
 have⟨⟨t0,C,E⟩,_,_⟩:=U.kW _ (hat F hb);have⟨⟨ks,J,K⟩,_,_⟩:=U.kW _ (hat to s);have⟨_,M,_⟩:=U.Ck 5 rfl;have⟨N,O⟩:=U.qQ 5 rfl;have⟨R,T⟩:=I.bq F hb;have⟨X,Y⟩:=I.bq to s;have⟨k1,k2⟩:=vF J;have⟨s1,s2⟩:=vF C;have hc:∀(i:Nat){bv:Nat}{q:ah}{v:AV},(tB ln r [dp x t W k]::(fM x t W k pm d o F L p B m V D++l))[i]?=some (tB bv q [v])->aY Q q 0=some v:=λi _ _ _ hi=>by obtain⟨_,hp⟩:=U.get i hi;exact tB.cell hp rfl
 have y:∀(i:Nat){bv:Nat}{q:ah}{v:AV},(tB ln r [dp x t W k]::(fM x t W k pm d o F L p B m V D++l))[i]?=some (tB bv q [v])->i≠1->kH Q W (.aD q 0)=some v:=λi _ _ _ hi Z=>adh (U.ne i 1 hi rfl Z (λbc bb=>bb.1) (λbc bb=>bb.1)) (hc i hi);have ag:d≠W:=U.ne 6 1 rfl rfl aa (λbc bb=>tS.tP bb) (λbc bb=>bb.1);have av:pm≠m F:=U.ne 5 _ rfl (hat F hb) aa (λbc bb=>bb.1) (λbc bb=>bb.1);have aw:m to≠pm:=U.ne _ 5 (hat to s) rfl aa (λbc bb=>bb.1) (λbc bb=>bb.1);have ax:m F≠W:=U.ne _ 1 (hat F hb) rfl aa (λbc bb=>bb.1) (λbc bb=>bb.1);have he:∀ba,ba<o->∀v,B.getD ba .bQ=v->rN Q W (.slice d 0 o o true) (.ofNat ba)=some v:=λba h1 v h2=>by simp only[rN,tV ag,abH,bF];exact Gy (U.sl 6) h1 h2
 have⟨f6,ay⟩:=U.get 1 rfl;have⟨c,h6,h7,_⟩:=tB.Gz ay;have a1:c.br .ai8 0=.bool p:=h7 0 aC;have a':([AV.bool p]:List AV).length=1:=rfl;refine⟨((Q.set (m F) (.cK (dt (eX (eh L bq ks) t0)))).set W (.cells (ez c 0 [.bool (p||kG t0 (eh L bq ks))]) 1 4 true [] 0)).skip,λba=>ba∈eX (eh L bq ks) t0,p||kG t0 (eh L bq ks),λaf u a2 e5 et ea=>?_,λba=>?_,?_,?_⟩;·unfold xi;rw[a2,e5,et];have a6:l9 Q (.aD r 0)=some (.func Ff [] [.aD k 0,.aD t 0,.aD x 0,.aD W 0]):=hc 0 rfl;rw[a6];simp only[ait,bg,y 3 rfl aC,y 0 rfl aC,y 4 rfl aC,y 2 rfl aC,ea,he to X _ Y,he F R _ T,h6,tV av,tV aw,k2,N,O,s1,a1];rfl
 .simp[E,K,M,eX,eh,lL,zH,MV,or_comm]
 .rw[aij,EJ];constructor
  .rintro(bb|⟨ba,h1,h2⟩);·grind
   exact .inr ⟨ba,(lL ..).2 (.inl h1),λbb=>h2 ((E ba).2 bb)⟩
  rintro(bb|⟨ba,h1,h2⟩);all_goals grind[lL,absurd]
 have a8:ak w Q (fM x t W k pm d o F L p B m V D++(l++[tB ln r [dp x t W k]])):=by rw[<-ae0];exact U.bO (ahA (l₁:=[_]))
 have G:=ak.kh (c:=ez c 0 [.bool (p||kG t0 (eh L bq ks))]) (nw2:=p||kG t0 (eh L bq ks)) (P:=λba=>ba∈eX (eh L bq ks) t0) (ks:=eX (eh L bq ks) t0) (H2:=((Q.set (m F) (.cK (dt (eX (eh L bq ks) t0)))).set W (.cells (ez c 0 [.bool (p||kG t0 (eh L bq ks))]) 1 4 true [] 0)).skip) I hb a8 (by show Q.next.ap<=Q.next.succ.ap;rw[ah.eP];omega) (λj h1 h2=>by show((Q.set (m F) _).set W _).get j=_;rw[ai.aG,an h2,ai.aG,an h1]) (by show fx (((Q.set (m F) _).set W _).get (m F)) _;rw[ai.aG,an ax,ai.aG,aF rfl];exact sX (nR _ C.1)) (λba=>aiY) (by show((Q.set (m F) _).set W _).get W=_;rw[ai.aG,aF rfl]) (by rw[lg];simp);rw[<-ae0]at G;exact G.bO (ahA (l₂:=[_]))
end
end
section
def vQ(g:G.aM)(os:List (List bp))(S:Nat->Int->Prop)(b:Nat)(v:Int):Prop:=
 (∃bq,(v,bq)∈fL (aE g b)/\mr g b v bq)\/(∃w∈wW g os b,S w v/\mr g b v (aE g b).aB.length)\/∃t,jV g (os.getD b [])=some t/\S t.toNat v/\mr g b v 0
theorem GA{i:Int->Prop}(h0:∀x,n x->a x)(h1:∀x,a x->i x)(m:p=true↔∃x,a x/\¬n x)(j:nw2=true↔p=true\/∃x,i x/\¬a x):nw2=true↔∃x,i x/\¬n x:=by grind
theorem GB(S:Nat->Int->Prop)(b:Nat)(P Q:Int->Prop):dP (dP S b P) b Q=dP S b Q:=by grind[dP]
theorem adi(m:(L.map (·.1)).Nodup)(hi:F<L.length)(hj:o<L.length)(p:L[F].1=L[o].1):F=o:=(List.getElem_inj (h₀:=by grind) (h₁:=by grind) m).1 (by grind)
theorem adj(j:lenOf s=some F):(∃i o m p,s=.slice i o F m p)\/s=.bj/\F=0:=by unfold lenOf at j;grind
theorem adk(S:Nat->Int->Prop)(b:Nat):dP S b (S b)=S:=by grind[dP]
theorem Cy(S:Nat->Int->Prop)(b:Nat)(P:Int->Prop):dP S b P b=P:=by simp[dP]
section
variable{pm h:ah}{us:List Th}
theorem adl(T:Tb ac)(u:yu o B m V)(hb:F∈V)(U:ak Q w (g::(fM W t x k pm h o F L p B m V D++us)))(y:∀r q P i,(∀C,P C↔D F C\/C=v/\∀E,(v,E)∈L->z<=E)->(i=true↔p=true\/∃C,P C/\¬D F C)->ak Q q (g::(fM W t x k pm h o F L i B m V (dP D F P)++us))->X r q):YF ac (dp W t x k) [aI v,aI z] w X:=by
 have s:ak Q w (fM W t x k pm h o F L p B m V D++(us++[g])):=by rw[<-ae0];exact U.bO (ahA (l₁:=[_]))
 refine adg T u hb s λr q P i h1 h2 j=>y r q P i h1 h2 ?_;rw[<-ae0]at j;exact j.bO (ahA (l₂:=[_]))
theorem ak.adm(U:ak w Q (xs++tB o W B::ys))(i:B[F]?=some s):aY Q W F=some s:=by have⟨_,j⟩:=(U.tq).get 0 rfl;grind[tB.cell]
end
section
variable{h:ah}{us:List Th}
theorem adn(T:Tb ac)(e3:Vd Z)(hX:GX Z Q W s u Y E q)(hK:b8 Z Y E)(hO:yu o B m V)(hm:∀x,x∈V↔Y.getD x false=true)(hb:Y.getD F false=true)(U:ak Q w (jX h o B m V D++us))(el:∀H' P f,(∀v,P v↔D F v\/vQ Z E D F v)->(f=true↔∃v,P v/\¬D F v)->ak Q H' (jX h o B m V (dP D F P)++us)->X (.bool f) H'):YN ac W5 [.aD W 0,aN F,.slice h 0 o o true] w X:=by
 have hB:=e3.sm;have d0:=hB.nb;have ba:=hK.lt hb;have bb:=(hm F).2 hb;have ag:=hX.ju.lt;have cp:=hX.ju.aE;have⟨d1,_,_,_⟩:=hX.bl.all;have ax:=kq ba;have d2:=hB.bl _ ax;have dg:=hB.st _ ax;have cx:=hB.ed _ ax;have cy:=e3.gv.nd _ ax;have cE:Z.aj[F]=aE Z F:=(aZ ba _).symm;have dy:(wW Z E F).length<=12:=by have:=Cb (now:=E.getD F []) hB ba;simpa[wW,jU]using this
 refine YF.code T.ZA aC (au ?_);refine RO.bZ U λH1 d U=>RO.bZ U λH2 e U=>RO.dL U λH3 a U=>ab ?_;refine RO.aW ?_ (v:=s) (hc:=by rw[U.gr.aY ag];exact cp);refine ab ?_;refine RO.bL U.gr hX.bl (λq9 o9 ek d3 ay d4 hat hrd=>?_) (j:=F);rw[cE]at ay;generalize I:aE Z F=et at*;have a8:=ay.one;have b0:=ay;obtain⟨vp,z,jc,rfl,d5,cR,va,vk,vg,rfl,_,_,_⟩:=ay;have⟨_,_,_,ca⟩:=cR.all;refine ab ?_;refine RO.dD U λH4 q7 U=>ab ?_;refine RO.acn U λH5 pm U=>RO.dD U λH6 c U=>ab ?_;refine RO.bT U 2 ?_;refine RO.cl (LY T (cs:=[vp,z,aU et.aq.op,va,.str et.aq.i7,vk,vg]) a8 rfl λH7 e2 hl=>?_);have U:=U.cH hl;refine ab ?_;refine Ru.wk (L:=[(xF,.func BX [] [.aD e2 0]),(p0,.aD W 0),(p4,.aD d 0),(p5,.aD e 0),(p6,.aD a 0),(p7,.aD q7 0),(p8,.aD c 0)]) ?_;have U:ak Q H7 ([tB cS e2 [vp,z,aU et.aq.op,va,.str et.aq.i7,vk,vg]]++[tB BR c [.map pm],tI pm ((cB et).take 0)]++(tB cS q7 [vp,z,aU et.aq.op,va,.str et.aq.i7,vk,vg]::tB 4 a [.bool false]::tB tu e [.slice h 0 o o true]::tB 3 d [aN F]::(jX h o B m V D++us))):=U;refine Ru.mq (J:=λew ts=>ts=[tB BR c [.map pm],tI pm ((cB et).take ew)]) (Dn:=λ_ _=>False) U (LZ T b0 aa aa) (λ_ _=>trivial) rfl (λew args ws el=>by obtain⟨rfl,_,rfl⟩:=el;rfl) (λ_ _ _ _ _ _=>trivial) (λew args ws ts us e4 o1 o2 H' hk bc hJ U=>?_) (λH' bv dm hJ U=>?_) (λj H' bv dm _ el=>el.elim)
 .obtain⟨rfl,a1,rfl⟩:=bc;subst hJ;have cd:((cB et)[ew]).1∉((cB et).take ew).map ai6:=λG=>by obtain⟨p,hp,e1⟩:=ahm.1 G;obtain⟨i,hi,rfl⟩:=ahd hp;rw[ahU]at hi;rw[List.getElem_take]at e1;have:=adi cy aa a1 e1;omega
  refine au ?_;refine Ru.cX (xs:=[_,_]) U λH2 U=>ab ?_;refine RO.aco U 1 cd (λH3 U=>ab ?_);refine Ru.bx (ts:=[_,_]) U ?_;rw[<-ahb a1]
 subst hJ;rw[aid]at U;refine ab ?_;refine RO.dD (xv:=dp d e a c) U λH8 y U=>ab ?_;refine RO.bT U 4 ?_;refine RO.cl (L3 T (cs:=[vp,z,aU et.aq.op,va,.str et.aq.i7,vk,vg]) a8 λH9 qr hl=>?_);have U:=U.cH hl;refine ab ?_;refine Ru.wk (L:=[(tx,.func BY [] [.aD qr 0]),(p0,.aD W 0),(p4,.aD d 0),(p5,.aD e 0),(p6,.aD a 0),(p7,.aD q7 0),(p8,.aD c 0),(eD,.aD y 0)]) ?_;have U:=((((((U.ep 3 rfl).ep 3 rfl).ep 7 rfl).ep 8 rfl).ep 8 rfl).ep 6 rfl).ep 6 rfl;have U:ak Q H9 ([tB cS qr [vp,z,aU et.aq.op,va,.str et.aq.i7,vk,vg]]++(tB ln y [dp d e a c]::fM d e a c pm h o F (cB et) false B m V D)++(tX dm (.deferred false)::tB cS q7 [vp,z,aU et.aq.op,va,.str et.aq.i7,vk,vg]::us)):=by rw[ae0];exact U.bO (List.Perm.append_left [_,_,_,_,_,_,_] (List.perm_append_comm_assoc [_,_] _ _))
 refine Ru.mq (J:=λew ts=>∃P f,(∀x,P x↔D F x\/∃e2∈(fL et).take ew,e2.1=x/\∀p,(x,p)∈cB et->e2.2<=p)/\(f=true↔∃x,P x/\¬D F x)/\ts=tB ln y [dp d e a c]::fM d e a c pm h o F (cB et) f B m V (dP D F P)) (Dn:=λ_ _=>False) U (L4 T b0 aa (λe5 hs=>by have:=(dg e5 hs).1;omega) aa aa (λe1 he=>by have:=cx e1 he;omega)) (λ_ _=>trivial) ⟨D F,false,aC,aC,by rw[adk]⟩ (λew args ws el=>by obtain⟨rfl,_,rfl⟩:=el;rfl) (λ_ _ _ _ _ _=>trivial) (λew args ws ts us e4 o1 o2 H' hk bc hJ U=>?_) (λH' bv J hJ U=>?_) (λj H' bv dm _ el=>el.elim)
 .obtain⟨rfl,a1,rfl⟩:=bc;obtain⟨P,f,O,hn,rfl⟩:=hJ;refine au ?_;refine Ru.cX (xs:=tB ln y [dp d e a c]::fM d e a c pm h o F (cB et) f B m V (dP D F P)) U λH2 U=>ab ?_;refine RO.cl (adl T hO bb (us:=tX e4 o2::us) U λr H3 P2 L h1 h2 U=>?_);rw[Cy]at h1 h2;rw[GB]at U;refine ab ?_;refine Ru.bx (ts:=tB ln y [dp d e a c]::fM d e a c pm h o F (cB et) L B m V (dP D F P2)) U ⟨P2,L,λx=>?_,GA (λx G=>(O x).2 (.inl G)) (λx G=>(h1 x).2 (.inl G)) hn h2,rfl⟩;rw[h1,O,<-ahb a1,or_assoc];refine or_congr aiY ⟨?_,?_⟩
  .rintro(⟨e2,hq,el⟩|⟨rfl,el⟩);·exact⟨e2,ahj _ hq,el⟩
   exact⟨_,ahu _ (abt.2 rfl),rfl,el⟩
  rintro⟨e2,hq,e1,el⟩;rcases ac6.1 hq with hq|hq;·exact .inl ⟨e2,hq,e1,el⟩
  rw[abt]at hq;subst hq;exact .inr ⟨e1.symm,by rw[e1];exact el⟩
 obtain⟨P0,b3,R,c8,rfl⟩:=hJ;rw[aid]at R;refine ab ?_;refine RO.cl (FM T e3.sm e3.cG (hX.bN U.gr) hK hb λd6 v hl=>?_);have U:=(U.cH hl).bO (ahy (l₁:=tB ln y [dp d e a c]::fM d e a c pm h o F (cB et) b3 B m V (dP D F P0))).symm;have⟨d7,_,_,d'⟩:=(show Sl _ 1 ((wW Z E F).map aN) (wW Z E F).length v from hl.sl 0 rfl).all;refine ab ?_;refine Ru.nm λS0 M hS hM=>Ru.bH hM (up (P:=λew=>∀HX P f,(∀x,P x↔P0 x\/∃e0∈(wW Z E F).take ew,D e0 x/\∀p,(x,p)∈cB et->(et.aB.length:Int)<=p)->(f=true↔∃x,P x/\¬D F x)->ak Q HX (tB ln y [dp d e a c]::fM d e a c pm h o F (cB et) f B m V (dP D F P)++tS 3 1 ((wW Z E F).map aN) (wW Z E F).length true v::(tX J (.deferred false)::tX dm (.deferred false)::tB cS q7 [vp,z,aU et.aq.op,va,.str et.aq.i7,vk,vg]::us))->Ru ac _ S0 ([(na,aN ew)]++pk M [p0,p4,p5,p6,p7,p8,eD,og,m8]) HX) (wW Z E F).length (λew hk ih HX P f O hn U=>?_) 0 aa _ P0 b3 aC c8 U);subst hS;subst hM;refine Ru.loop (au ?_);refine Ru.cond (λag=>?_) (λag=>?_)
 .refine ab ?_;have c9:=(U.tq).sl 0 rfl;refine RO.ic (aR.refl _) c9 (λea eb dz ec=>ab ?_) (j:=ew);have c':(wW Z E F)[ew]∈wW Z E F:=abO ag;have a2:=(hm _).2 (hK.il hb c');have b4:(wW Z E F).take (ew+1)=(wW Z E F).take ew++[(wW Z E F)[ew]]:=(ahb ag).symm;have ih:=ih (ew+1) aa aa;rw[b4]at ih;clear b4;generalize(wW Z E F)[ew]=to at*;obtain⟨H',P2,L,hg,h1,h2,av⟩:=MW hO bb a2 U (bq:=.ofNat et.aB.length) (tos:=15) (co:=zz);have dr:q7≠a:=λe1=>by have h8:=U.bO (ahy (l₁:=tB ln y [dp d e a c]::fM d e a c pm h o F (cB et) f B m V (dP D F P)++[tS 3 1 ((wW Z E F).map aN) (wW Z E F).length true v,tX J (.deferred false),tX dm (.deferred false)]) (l₂:=us) (a:=tB cS q7 [vp,z,aU et.aq.op,va,.str et.aq.i7,vk,vg])|>λel=>by simpa using el);exact h8.ne 0 2 rfl rfl aa (λe6 el=>el.1) (λe6 el=>el.1) e1
  have ds:aY HX q7 1=some z:=by refine ak.adm (xs:=tB ln y [dp d e a c]::fM d e a c pm h o F (cB et) f B m V (dP D F P)++[tS 3 1 ((wW Z E F).map aN) (wW Z E F).length true v,tX J (.deferred false),tX dm (.deferred false)]) (ys:=us) (by simpa using U) rfl
  refine Ru.eH (co:=zz) (H':=H') T.aaO (M:=[(p0,.aD W 0),(p4,.aD d 0),(p5,.aD e 0),(p6,.aD a 0),(p7,.aD q7 0),(p8,.aD c 0),(eD,.aD y 0),(og,v),(m8,aN (wW Z E F).length),(na,aN ew)]) (λaf N=>?_) ?_
  .refine hg af _ (N.get (p:=sl 11) rfl rfl) (N.get (p:=sl 5) rfl rfl) (N.get (p:=sl 15) rfl rfl) ?_;simp only[N.get (p:=sl 7) (v:=.aD q7 0) rfl rfl,tV dr,abH,bF,ds,ahw];rcases adj ca with⟨i,e7,e8,e1,rfl⟩|⟨rfl,h0⟩;·rfl
   rw[h0]
  rw[Cy]at h1 h2;rw[GB]at av;have key:∀x,P2 x↔P0 x\/∃e0∈(wW Z E F).take ew++[to],D e0 x/\∀p,(x,p)∈cB et->(et.aB.length:Int)<=p:=λx=>by
   have cf:∀x,D F x->P x:=λx G=>(O x).2 (.inl ((R x).2 (.inl G)));have b6:P x->P0 x\/∃e0∈(wW Z E F).take ew++[to],D e0 x/\∀p,(x,p)∈cB et->(et.aB.length:Int)<=p:=λel=>by
    rcases(O x).1 el with el|⟨e0,hw,el⟩;·exact .inl el
    exact .inr ⟨e0,ahj _ hw,el⟩
   rw[h1];constructor
   .rintro(el|⟨el,a6⟩);·exact b6 el
    simp only[dP]at el;split at el;·exact b6 el
    exact .inr ⟨to,ahu _ (abt.2 rfl),el,a6⟩
   rintro(el|⟨e0,hw,hs,a6⟩);·exact .inl ((O x).2 (.inl el))
   rcases ac6.1 hw with hw|hw;·exact .inl ((O x).2 (.inr ⟨e0,hw,hs,a6⟩))
   rw[abt]at hw;subst hw;by_cases e1:e0=F;·subst e1;exact .inl (cf x hs)
   refine .inr ⟨?_,a6⟩;simp only[dP,an e1];exact hs
  refine ab ?_;exact Ru.wk (ih H' P2 L key (GA (λx G=>(O x).2 (.inl ((R x).2 (.inl G)))) (λx G=>(h1 x).2 (.inl G)) hn h2) av)
 refine Ru.exitTo ?_;rw[aho aa]at O;refine ab ?_;have hR:∀x,(P x->D F x\/vQ Z E D F x)/\((∃e2∈fL et,e2.1=x/\∀p,(x,p)∈cB et->e2.2<=p)\/(∃e0∈wW Z E F,D e0 x/\∀p,(x,p)∈cB et->(et.aB.length:Int)<=p)->P x)/\(D F x->P x):=λx=>by
  refine⟨λel=>?_,λel=>?_,λel=>(O x).2 (.inl ((R x).2 (.inl el)))⟩
  .rcases(O x).1 el with el|⟨e0,hw,h1,h2⟩
   .rcases(R x).1 el with el|⟨e2,hq,rfl,h2⟩;·exact .inl el
    refine .inr (.inl ⟨e2.2,?_,?_⟩);·rw[I];exact hq
    simp only[mr,I];exact h2
   refine .inr (.inr (.inl ⟨e0,hw,h1,?_⟩));simp only[mr,I];exact h2
  rcases el with⟨e2,hq,el⟩|⟨e0,hw,el⟩;·exact(O x).2 (.inl ((R x).2 (.inr ⟨e2,hq,el⟩)))
  exact(O x).2 (.inr ⟨e0,hw,el⟩)
 have b7:∀x,vQ Z E D F x->P x\/∃t,jV Z (E.getD F [])=some t/\D t.toNat x/\∀p,(x,p)∈cB et->0<=p:=λx el=>by
  rcases el with⟨bq,h1,h2⟩|⟨e0,h1,h2,h3⟩|⟨t,h1,h2,h3⟩
  .refine .inl ((hR x).2.1 (.inl ⟨(x,bq),?_,rfl,?_⟩));·rw[<-I];exact h1
   simp only[mr,I]at h2;exact h2
  .refine .inl ((hR x).2.1 (.inr ⟨e0,h1,h2,?_⟩));simp only[mr,I]at h3;exact h3
  refine .inr ⟨t,h1,h2,?_⟩;simp only[mr,I]at h3;exact h3
 refine RO.cl (ac3 T hB e3.cG (hX.bN U.gr) hK hb λei cn=>?_);have U:=U.bN cn;have a':∀HX P f,ak Q HX (tB ln y [dp d e a c]::fM d e a c pm h o F (cB et) f B m V (dP D F P)++tS 3 1 ((wW Z E F).map aN) (wW Z E F).length true v::(tX J (.deferred false)::tX dm (.deferred false)::tB cS q7 [vp,z,aU et.aq.op,va,.str et.aq.i7,vk,vg]::us))->ak Q HX (fK [J,dm]++(tB 4 a [.bool f]::(jX h o B m V (dP D F P)++us))):=λHX P f U=>by
  have h1:ak Q HX (tB ln y [dp d e a c]::tB 4 a [.bool f]::tB 3 d [aN F]::tB tu e [.slice h 0 o o true]::tB BR c [.map pm]::tI pm (cB et)::(jX h o B m V (dP D F P)++(tS 3 1 ((wW Z E F).map aN) (wW Z E F).length true v::(tX J (.deferred false)::tX dm (.deferred false)::tB cS q7 [vp,z,aU et.aq.op,va,.str et.aq.i7,vk,vg]::us)))):=by simpa only[fM,ah4,aie,ae0]using U
  have h2:=h1.sub (.cons _ (.cons_cons _ (.cons _ (.cons _ (.cons _ (.cons _ ((ahM (jX h o B m V (dP D F P))).append (.cons _ (.cons_cons _ (.cons_cons _ (.cons _ (ahM us))))))))))));exact h2.bO (List.perm_append_comm_assoc (tB 4 a [.bool f]::jX h o B m V (dP D F P)) [_,_] us)
 cases ht:jV Z (E.getD F [])with
 |none=>
  refine ab ?_;refine RO.dO U 1 (λdv U=>ab ?_);refine Ru.jf (M:=[J,dm]) (a' _ P f U) λH' U=>⟨[.bool f],⟨⟨_,_,rfl,U.one 0⟩,trivial⟩,el H' P f (λx=>⟨(hR x).1,λG=>?_⟩) hn U.tail⟩;rcases G with G|G;·exact(hR x).2.2 G
  rcases b7 x G with C|⟨t,C,_⟩;·exact C
  rw[ht]at C;cases C
 |some t=>
  obtain⟨_,_,_,_,b',ej⟩:=qS e3.cG hK hb ht;have a2:=(hm _).2 b';obtain⟨to,rfl⟩:∃to:Nat,t=(to:Int):=⟨t.toNat,aa⟩;rw[aeY]at a2 b';obtain⟨H',P2,L,hg,h1,h2,av⟩:=MW hO bb a2 U (bq:=.ofNat 0) (tos:=17) (co:=zA);rw[Cy]at h1 h2;rw[GB]at av;refine ab ?_;refine Ru.eH (co:=zA) (H':=H') T.aaP (M:=[(p6,.aD a 0)]) (λaf N=>?_) ?_;·exact hg af _ (N.get (p:=sl 11) rfl rfl) (N.get (p:=sl 5) rfl rfl) (N.get (p:=sl 17) rfl rfl) rfl
  refine ab ?_;have U:=av;refine RO.eo U 1 ?_;refine RO.dO U 1 (λdv U=>?_);refine ab ?_;refine Ru.jf (M:=[J,dm]) (a' _ P2 L U) λH' U=>⟨[.bool L],⟨⟨_,_,rfl,U.one 0⟩,trivial⟩,el H' P2 L (λx=>?_) (GA (λx G=>(hR x).2.2 G) (λx G=>(h1 x).2 (.inl G)) hn h2) U.tail⟩;rw[h1];constructor
  .rintro(C|⟨C,aw⟩);·exact(hR x).1 C
   simp only[dP]at C;split at C;·exact(hR x).1 C
   refine .inr (.inr (.inr ⟨_,ht,by rw[aeY];exact C,?_⟩));simp only[mr,I];exact aw
  rintro(C|C);·exact .inl ((hR x).2.2 C)
  rcases b7 x C with C|⟨t,C,aw,dx⟩;·exact .inl C
  rw[ht]at C;injection C with C;subst C;rw[aeY]at aw;by_cases e1:to=F;·subst e1;exact .inl ((hR x).2.2 aw)
  refine .inr ⟨?_,dx⟩;simp only[dP,an e1];exact aw
end
end
theorem RO.ado{c:Cx}{s:List SI}{L:Kn}{d:Option ah}{l:List bD}{x y:aJ}(h:RO ac c l s (bo L d (.bool false)) Q)(b:aT L x=.cP:=by exact cw)(e:aT L y=.int 3 z:=by exact cw):RO ac c (⟨d,.lookup .int (.bool false) false x y,none,[],[]⟩::l) s L Q:=RO.op (λaf a=>by simp only[aH,iH,ahN,abH,bF,a.gv b rfl,a.gv e rfl]) h
def cb(p:Prop):Bool:= @decide p (Classical.propDecidable p)
theorem GC{p:Prop}:cb p=true↔p:= @decide_eq_true_iff p (Classical.propDecidable p)
def Cz(nv:Nat)(am:List Nat)(S:Nat->Int->Prop):Nat:=(am.map λb=>((ahq nv).filter λ(v:Nat)=>cb (¬S b (v:Int))).length).sum
theorem GD{p q:c->Bool}(h:∀x,p x=true->q x=true):∀l:List c,(l.filter p).length<=(l.filter q).length|[]=>aeE _|a::l=>by have b:=GD h l;grind
theorem MX{p q:c->Bool}(h:∀x,p x=true->q x=true){y:c}(f:q y=true)(g:p y=false):∀l:List c,y∈l->(l.filter p).length<(l.filter q).length
 |[],d=>by grind
 |a::l,d=>by
  rcases ac2.1 d with rfl|d;·have:=GD h l;grind
  have i:=MX h f g l d;cases b:p a with|true=>simp only[List.filter_cons,b,h a b,bg,ahK];omega|false=>cases e:q a<;>simp only[List.filter_cons,b,e,bg,abH,bF,ahK]<;>omega
theorem MY{f g:c->Nat}:∀l:List c,(∀x∈l,f x<=g x)->(l.map f).sum<=(l.map g).sum|[],_=>aeE _|a::l,h=>by have:=MY l λx b=>h x (ab8 _ b);grind
theorem MZ{f g:c->Nat}{y:c}(e:f y<g y):∀l:List c,(∀x∈l,f x<=g x)->y∈l->(l.map f).sum<(l.map g).sum
 |[],_,b=>by grind
 |a::l,h,b=>by
  have h1:=h a (acj ..);simp only[ahk,List.sum_cons];rcases ac2.1 b with rfl|b;·have:=MY l λx d=>h x (ab8 _ d);omega
  have:=MZ e l (λx d=>h x (ab8 _ d)) b;omega
theorem adp{nv:Nat}(h:∀F∈V,∀v,D F v->d F v)(hb:F∈V){v:Nat}(e:v<nv)(h1:d F v)(h2:¬D F v):Cz nv V d<Cz nv V D:=by
 have a:∀x∈V,∀w:Nat,cb (¬d x (w:Int))=true->cb (¬D x (w:Int))=true:=λx b w c=>by rw[GC]at c⊢;exact λhs=>c (h x b _ hs)
 refine MZ (y:=F) (MX (a F hb) (y:=v) (GC.2 h2) ?_ _ (ahR.2 e)) V (λx b=>GD (a x b) _) hb;simp[h1,cb,absurd,GC]
def GF(g:G.aM)(os:List (List bp))(am:List Nat)(S:Nat->Int->Prop):Prop:=∀b∈am,∀v,vQ g os S b v->S b v
def yw(g:G.aM)(os:List (List bp))(S:Nat->Int->Prop):Prop:=∀b v,S b v->Lv g os b v
theorem yw.iQ(h:yw Z E D)(c:∀v,a v->D F v\/vQ Z E D F v):yw Z E (dP D F a):=λx v b=>by
 simp only[dP]at b;split at b
 .rename_i e;subst e;rcases c v b with h1|⟨bq,h1,h2⟩|⟨w,h1,h2,h3⟩|⟨t,h1,h2,h3⟩;·exact h _ _ h1
  .exact .kl h1 h2
  .exact .il h1 (h _ _ h2) h3
  exact .kr h1 (h _ _ h2) h3
 exact h _ _ b
theorem GF.all(g:fE Z)(d:b8 Z Y E)(a:∀x,x∈V↔Y.getD x false=true)(h:GF Z E V D)(hl:Lv Z E F v):F∈V->D F v:=by induction hl with| @kl F v bq h1 h2=>intro hb;exact h F hb v (.inl ⟨bq,h1,h2⟩)| @il F w v e _ b c=>intro hb;exact h F hb v (.inr (.inl ⟨w,e,c ((a w).2 (d.il ((a F).1 hb) e)),b⟩))| @kr F t v f _ b c=>intro hb;have⟨_,_,_,_,i,_⟩:=qS g d ((a F).1 hb) f;exact h F hb v (.inr (.inr ⟨t,f,c ((a _).2 i),b⟩))
structure gu(g:G.aM)(come:List Bool)(os:List (List bp))(lv:List (List Int)):Prop where
 len:lv.length=g.aj.length
 mem:∀b,come.getD b false=true->∀v,v∈lv.getD b []↔Lv g os b v
 Gm:∀b,come.getD b false=false->lv.getD b []=[]
 iw:∀b,(lv.getD b []).length<=6000
abbrev M6:Nat->List AV->Prop:=λb cs=>cs=[aN b]
theorem M7(b:Sl Q 1 (V.map aN) V.length s):cQ 1 (λ_=>M6) Q V s:=⟨_,b,λk a=>by rw[aiE,ahp (by simpa using a)];simp⟩
def lA(e i j b W:ah)(n:Nat)(k:AV)(l:Bool)(m:List AV)(a:Nat->ah)(am:List Nat)(S:Nat->Int->Prop):List Th:=[tB 4 j [.bool l],tB tu i [.slice b 0 n n true],tB kJ e [.aD W 0],tS 3 1 (am.map aN) am.length true k]++jX b n m a am S
theorem adq(T:Tb ac)(V:Vd Z)(hX:GX Z Q W s u Y E B)(hK:b8 Z Y E)(e9:∀H' v lv p F,gu Z Y E lv->fG lv p F->ak Q H' [tZ F,tS cW 1 p p.length true v]->X v H'):YN ac WO [.aD W 0] Q X:=by
 have hB:=V.sm;have a1:=hB.nb;have⟨eb,_,_,ec⟩:=hX.bl.all;have b7:=hX.ju.aE;have bb:=hX.ju.lt;have ei:=hK.lt hK.c0;refine YF.code T.Zg aC (au ?_);refine RO.bZ (ak.bM Q) λH1 N U=>?_;refine ab ?_;refine RO.aW ?_ (v:=s) (hc:=by rw[U.gr.aY bb];exact b7);refine ab ?_;refine RO.jq U (n:=Z.aj.length) (λH2 D U=>?_) (hz:=by rw[eE];simp);rw[eE]at U;refine RO.dD U λH3 O U=>ab ?_;refine RO.cl (FN T V.sm V.cG (hX.bN U.gr) hK λH4 I am hO hl=>?_);have U:=U.cH hl;have⟨cE,cR,c8,ej⟩:=(hl.sl 0 rfl).all;have ek:am.length<=Z.aj.length:=qR _ _ hO.nd λx hx=>hK.lt ((hO.mem x).1 hx);refine ab ?_;have U:ak Q H4 ([tS 3 1 (am.map aN) am.length true I,tB tu O [.slice D 0 Z.aj.length Z.aj.length true],tB kJ N [.aD W 0]]++jX D Z.aj.length (ab7 Z.aj.length .cP) (λ_=>.xH) (am.take 0) (λ_ _=>False)):=U.bO (ah6 _ (ah6 _ (ah5 ..)));refine Ru.nm λS0 M hS hM=>?_;refine Ru.bH hM (up (P:=λk=>∀C vs o,vs.length=Z.aj.length->(∀b∈am.take k,vs.getD b .bQ=.map (o b))->(∀b,b<Z.aj.length->b∉am.take k->vs.getD b .bQ=.cP)->ak Q C ([tS 3 1 (am.map aN) am.length true I,tB tu O [.slice D 0 Z.aj.length Z.aj.length true],tB kJ N [.aD W 0]]++jX D Z.aj.length vs o (am.take k) (λ_ _=>False))->Ru ac _ S0 ([(qH,aN k)]++pk M [p1,p3,p4,tw,rV]) C) am.length (λk hk ih C vs o ag av bc U=>?_) 0 aa _ _ (λ_=>.xH) aC aC (λb hb _=>by rw[aZ (by simpa using hb)];simp) U);subst hS;subst hM;refine Ru.loop (au ?_);refine Ru.cond (λz=>?_) (λz=>?_)
 .refine ab ?_;refine RO.ic (aR.refl _) (U.sl 0 rfl) (λq5 o5 el et=>?_) (j:=k);have ew:am[k]<Z.aj.length:=hK.lt ((hO.mem _).1 (abO z));refine ab ?_;refine RO.Cl U λH5 qm U=>ab ?_;refine RO.vr U 4 ag (λH6 U=>ab ?_) (k:=am[k]);have bv:am.take (k+1)=am.take k++[am[k]]:=(ahb z).symm;have c9:am[k]∉am.take k:=λhx=>by have⟨i,hi,e⟩:=ahd hx;rw[ahU]at hi;rw[List.getElem_take]at e;have:=LU hO.nd aa z e;omega
  refine Ru.wk (ih (k+1) aa aa H6 (vs.set am[k] (.map qm)) (λx=>if x=am[k]then qm else o x) (by simpa using ag) (λb hb=>?_) (λb hb a1=>?_) ?_)
  .rw[bv]at hb;rw[dA aa];by_cases e:b=am[k];·rw[aF e,aF e]
   rw[an e,an e];exact av b ((ac6.1 hb).resolve_right λe9=>e (abt.1 e9))
  .rw[bv]at a1;rw[dA aa,an λe=>a1 (by rw[e];exact ahu _ (abt.2 rfl))];exact bc b hb λe9=>a1 (ahj _ e9)
  have U:=U.as (t':=tM false qm λ_=>False) 0 rfl λfp hp=>⟨hp.1,hp.2.1,hp.2.2.1,(λe9=>by cases e9),hp.2.2.2.2⟩;have U:=U.bO (ahA (l₁:=[_]));have e:jX D Z.aj.length (vs.set am[k] (.map qm)) (λx=>if x=am[k]then qm else o x) (am.take (k+1)) (λ_ _=>False)=tS Ke 1 (vs.set am[k] (.map qm)) Z.aj.length true (.slice D 0 Z.aj.length Z.aj.length true)::((am.take k).map (λb=>tM false (o b) λ_=>False)++[tM false qm λ_=>False]):=by
   rw[jX,bv,ahx];congr 2;·exact aip λb hb=>by rw[an λe=>c9 (by rw[<-e];exact hb)]
   simp
  rw[e];exact U
 refine Ru.exitTo ?_;rw[aho aa]at av bc U;have cp:=av;have cv:=bc;have c':yu Z.aj.length vs o am:=⟨ag,hO.nd,λb hb=>⟨hK.lt ((hO.mem b).1 hb),av b hb⟩⟩;refine ab ?_;refine RO.dD U λH5 J U=>?_;have U:ak Q H5 (lA N O J D W Z.aj.length I true vs o am (λ_ _=>False)++fK []):=by rw[show fK []=[]from rfl,ah8];exact((U.ep 3 rfl).ep 3 rfl).ep 2 rfl
 refine ab ?_;refine Ru.nm λS0 M hS hM=>Ru.bH hM (dn (P:=λm=>∀C Ms S cx J,(if cx=true then Cz Z.aO.toNat am S+1 else 0)=m->(cx=false->GF Z E am S)->yw Z E S->ak Q C (lA N O J D W Z.aj.length I cx vs o am S++fK Ms)->Ru ac ⟨mc [.tmp p2] X,Ms,none⟩ S0 ([(p7,.aD J 0)]++pk M [p1,p3,p4]) C) (λm ih C Ms S cx J dr aw b0 U=>?_) _ _ [] (λ_ _=>False) true J rfl (λe9=>by cases e9) (λ_ _ e9=>e9.elim) U);subst hS;subst hM;refine Ru.loop (ab ?_);refine Ru.d9 (λG=>?_) (λG=>?_)
 .subst G;refine ab ?_;refine RO.dO U 0 (λH6 U=>ab ?_);refine RO.cl (Cj T.Zz bt cE cR c8 λH7 q hl=>?_);have U:=U.cH hl;refine ab ?_;refine Ru.wk (L:=[(mi,.func Xg [] [.aD q 0]),(p1,.aD N 0),(p3,.aD O 0),(p4,I),(p7,.aD J 0)]) ?_;have U:ak Q H7 ([tB cW q [I]]++lA N O J D W Z.aj.length I false vs o am S++fK Ms):=U;refine Ru.mq (J:=λk ts=>∃L r,(∀b∈am,∀v,S b v->L b v)/\(r=true->∃b∈am,∃v,L b v/\¬S b v)/\(r=false->L=S/\∀j,j<k->∀(hj:am.length - 1 - j<am.length),∀v,vQ Z E S am[am.length - 1 - j] v->S am[am.length - 1 - j] v)/\yw Z E L/\ts=lA N O J D W Z.aj.length I r vs o am L) (Dn:=λ_ _=>False) U (Ci (R:=M6) (agg:=false) (size:=1) (la:=am) (sv:=I) (e:=cW) (nt:=19) T.ZK bt aa (λ_=>rfl) (λa cs e9=>by cases e9;rfl)) (λH2 hg=>M7 ((U.bN hg).sl 4 rfl)) ⟨S,false,λ_ _ _ e9=>e9,(λe9=>by cases e9),λ_=>⟨rfl,λj hj=>absurd hj aa⟩,b0,rfl⟩ (λk args ws e9=>by obtain⟨_,_,_,_,rfl⟩:=e9;rfl) (λk ts us H' hJ U=>by obtain⟨L,r,_,_,_,_,rfl⟩:=hJ;exact M7 (U.sl 3 rfl)) (λk args ws ts us l o1 o2 H' hk ds hJ U=>?_) (λH' dv dm hJ U=>?_) (λj H' dv dm hj hD U=>hD.elim)
  .obtain⟨rfl,b3,cs,rfl,rfl⟩:=ds;obtain⟨L,r,h1,h2,h3,h4,rfl⟩:=hJ;have b4:=abO b3;have dx:=(hO.mem _).1 b4;generalize dy:am[am.length - 1 - k]=b at*;refine au ?_;refine Ru.cX (xs:=lA N O J D W Z.aj.length I r vs o am L) U λH8 U=>ab ?_;have U:=ak.dK (xs:=[tB 4 J [.bool r],tB tu O [.slice D 0 Z.aj.length Z.aj.length true],tB kJ N [.aD W 0],tS 3 1 (am.map aN) am.length true I]) U;refine RO.cl (adn T V hX hK c' hO.mem dx U λH9 P nw hP b' U=>?_);have U:=ak.jd (xs:=[tB 4 J [.bool r],tB tu O [.slice D 0 Z.aj.length Z.aj.length true],tB kJ N [.aD W 0],tS 3 1 (am.map aN) am.length true I]) U;have a8:∀C,ak Q C (lA N O J D W Z.aj.length I (nw||r) vs o am (dP L b P)++tX l o2::us)->Ru ac (Ac Q l o2 us (λts=>∃L r,(∀b∈am,∀v,S b v->L b v)/\(r=true->∃b∈am,∃v,L b v/\¬S b v)/\(r=false->L=S/\∀j,j<k+1->∀(hj:am.length - 1 - j<am.length),∀v,vQ Z E S am[am.length - 1 - j] v->S am[am.length - 1 - j] v)/\yw Z E L/\ts=lA N O J D W Z.aj.length I r vs o am L) (λ_ _=>False)) [] [] C:=λC U=>by
    refine Ru.bx (ts:=lA N O J D W Z.aj.length I (nw||r) vs o am (dP L b P)) U ⟨_,_,λx hx v hv=>?_,λG=>?_,λG=>?_,h4.iQ λv hv=>(hP v).1 hv,rfl⟩
    .simp only[dP];split;·rename_i e;subst e;exact(hP v).2 (.inl (h1 x hx v hv))
     exact h1 x hx v hv
    .cases nw with
     |true=>have⟨v,hv,hn⟩:=b'.1 rfl;exact⟨b,b4,v,by simp only[Cy];exact hv,λe9=>hn (h1 b b4 v e9)⟩
     |false=>
      have⟨x,hx,v,hv,hn⟩:=h2 G;refine⟨x,hx,v,?_,hn⟩;simp only[dP];split;·rename_i e;subst e;exact(hP v).2 (.inl hv)
      exact hv
    simp only[Bool.or_eq_false_iff]at G;have⟨e,aw⟩:=h3 G.2;have ca:∀v,P v->L b v:=λv hv=>ahF λhn=>by have:=b'.2 ⟨v,hv,hn⟩;rw[G.1]at this;cases this
    refine⟨?_,λj hj dz v hv=>?_⟩
    .rw[<-e];funext x v;simp only[dP];split;·rename_i e2;subst e2;exact propext ⟨ca v,λe9=>(hP v).2 (.inl e9)⟩
     rfl
    by_cases d0:j=k;·subst d0;rw[dy]at hv⊢;rw[<-e]at hv⊢;exact ca v ((hP v).2 (.inr hv))
    exact aw j aa dz v hv
   cases nw with|true=>refine ab ?_;refine RO.dO U 0 (λd1 U=>ab ?_);exact Ru.wk (a8 _ U)|false=>refine ab ?_;refine RO.dO U 0 (λd1 U=>ab ?_);exact Ru.wk (a8 _ U)
  obtain⟨L,r,h1,h2,h3,h4,rfl⟩:=hJ;refine ab ?_;refine RO.dD U λH8 cd U=>ab ?_;have U:ak Q H8 (lA N O cd D W Z.aj.length I r vs o am L++fK (dm::Ms)):=U.sub (.cons_cons _ (.cons _ (ahM _)));have ax:(if r=true then Cz Z.aO.toNat am L+1 else 0)<m:=by rw[<-dr,aF rfl];cases r with|false=>simp|true=>have⟨b,hb,v,hv,hn⟩:=h2 rfl;have hf:=(h4 b v hv).Aj V.cG hK (V.oM Y E hK) V.gv hO ((hO.mem b).1 hb);obtain⟨t,rfl⟩:∃t:Nat,v=(t:Int):=⟨v.toNat,by have:=hf.1;omega⟩;have:=adp (nv:=Z.aO.toNat) h1 hb (v:=t) (by have:=hf.2.1;omega) hv hn;rw[aF rfl];omega
  exact Ru.wk (ih _ ax H8 (dm::Ms) L r cd rfl (λG b hb v hv=>by obtain⟨rfl,aw⟩:=h3 G;obtain⟨i,hi,rfl⟩:=ahd hb;have:=aw (am.length - 1 - i) aa aa;simp only[show am.length - 1 - (am.length - 1 - i)=i by omega]at this;exact this v hv) h4 U)
 subst G;refine Ru.exitTo ?_;have eC:∀b,Y.getD b false=true->∀v,S b v↔Lv Z E b v:=λb hb v=>⟨b0 b v,λe9=>(aw rfl).all V.cG hK hO.mem e9 ((hO.mem b).2 hb)⟩;have d2:=hX.c2;have e0:=V.gv.v0;have av:=V.fm.fv.h2;obtain⟨nv,d3⟩:∃n:Nat,Z.aO=(n:Int):=⟨Z.aO.toNat,aa⟩;refine ab ?_;refine RO.aW ?_ (v:=s) (hc:=by rw[U.gr.aY bb];exact b7);refine ab ?_;refine RO.jq U (n:=Z.aj.length) (λH6 qo U=>?_) (hz:=by rw[eE];simp);rw[eE]at U;refine ab ?_;have U:=U.lQ;refine Ru.nm λS0 M hS hM=>?_;refine Ru.bH hM (up (P:=λk=>∀C p lv F,p.length=Z.aj.length->(∀b,b<k->tR 1 ((lv b).map aI) (lv b).length (p.getD b .bQ)∈F)->(∀b:Nat,b<k->(lv b).length<=nv/\∀v:Int,v∈lv b↔Y.getD b false=true/\S b v)->(∀b,k<=b->b<Z.aj.length->p.getD b .bQ=.bj)->ak Q C (tZ F::tS cW 1 p Z.aj.length true (.slice qo 0 Z.aj.length Z.aj.length true)::(lA N O J D W Z.aj.length I false vs o am S++fK Ms))->Ru ac ⟨mc [.tmp p2] X,Ms,none⟩ S0 ([(sc,aN k)]++pk M [p1,p3,dS,oh,sa]) C) Z.aj.length (λk hk ih C p lv F ag hF a2 a' U=>?_) 0 aa _ _ (λ_=>[]) [] aC (λb hb=>absurd hb aa) (λb hb=>absurd hb aa) (λb _ hb=>by rw[aZ (by simpa using hb)];simp) U);subst hS;subst hM;refine Ru.loop (au ?_);refine Ru.cond (λz=>?_) (λz=>?_)
 .refine ab ?_;have d4:vs[0+k*1]?=some (vs.getD k .bQ):=by rw[show 0+k*1=k by omega,aZ aa];simp
  have b6:vs.getD k .bQ=.map (o k)/\k∈am\/vs.getD k .bQ=.cP/\k∉am:=by
   by_cases R:k∈am;·exact .inl ⟨cp k R,R⟩
   exact .inr ⟨cv k z R,R⟩
  have d5:(vs.getD k .bQ).bk=true:=by rcases b6 with⟨e,_⟩|⟨e,_⟩<;>rw[e]<;>rfl
  refine RO.cJ U 6 (hv:=d4) ?_;generalize vs.getD k .bQ=mv at b6 d5;refine ab ?_;refine RO.aW ?_ (v:=aN nv) (hc:=by rw[U.gr.aY bb,d2,d3];rfl);refine ab ?_;have U:=U.mZ 3 1;have d6:p.set k .bj=p:=by have:=a' k (aeE _) z;rw[aZ aa]at this;rw[<-this];exact List.set_getElem_self _
  rw[<-d6]at U;refine Ru.nm λS0 M hS hM=>?_;refine Ru.bH hM (up (P:=λj=>∀C(y:List Int)w,y.length<=j->(∀v:Int,v∈y↔0<=v/\v<j/\Y.getD k false=true/\S k v)->ak Q C (tS 3 1 (y.map aI) y.length true w::tZ F::tS cW 1 (p.set k w) Z.aj.length true (.slice qo 0 Z.aj.length Z.aj.length true)::(lA N O J D W Z.aj.length I false vs o am S++fK Ms))->Ru ac ⟨mc [.tmp p2] X,Ms,none⟩ S0 ([(uZ,aN j)]++pk M [p1,p3,dS,eD,gQ,oh,sa,sc,uY]) C) nv (λj hj cf C y w d7 ay U=>?_) 0 aa _ [] .bj aC (λv=>by simp;omega) U);subst hS;subst hM;have⟨e3,e4,e5,_⟩:=(U.sl 0 rfl).all;have b3:(p.set k w)[0+k*1]?=some w:=by rw[show 0+k*1=k by omega,List.getElem?_set_self aa]
  refine Ru.loop (au ?_);refine Ru.cond (λax=>?_) (λax=>?_)
  .have cn:∀C,¬(Y.getD k false=true/\S k j)->ak Q C (tS 3 1 (y.map aI) y.length true w::tZ F::tS cW 1 (p.set k w) Z.aj.length true (.slice qo 0 Z.aj.length Z.aj.length true)::(lA N O J D W Z.aj.length I false vs o am S++fK Ms))->_:=λC hn U=>cf (j+1) aa aa C y w aa (λv=>by
    rw[ay];constructor;·rintro⟨ba,cy,a3⟩;exact⟨ba,aa,a3⟩
    rintro⟨ba,cy,a3⟩;refine⟨ba,?_,a3⟩;rcases aic v.toNat j with e9|e9;·omega
    obtain rfl:v=(j:Int):=aa;exact absurd a3 hn) U;refine ab ?_;rcases b6 with⟨rfl,R⟩|⟨rfl,R⟩
   .have hat:(tS 3 1 (y.map aI) y.length true w::tZ F::tS cW 1 (p.set k w) Z.aj.length true (.slice qo 0 Z.aj.length Z.aj.length true)::(lA N O J D W Z.aj.length I false vs o am S++fK Ms))[7+(am.idxOf k+1)]?=some (tM false (o k) (S k)):=by simp only[lA,ae0];exact oN (xs:=[_,_,_,_,_,_,_]) (Cw R)
    have d':=(hO.mem k).1 R;refine RO.eZ U _ (λt ht=>ab ?_) (hi:=hat) (z:=(j:Int));refine Ru.d9 (λa6=>?_) (λa6=>?_)
    .have ea:=ht.1 a6;refine ab ?_;refine RO.cJ U 2 (hv:=b3) (ab ?_);refine RO.push U 0 (λw0 H7 v2 U=>?_) (ws:=[aN j]);have⟨e6,e7,e8,_⟩:=(U.sl 0 rfl).all;refine ab ?_;refine RO.vr (vs:=p.set k w) (n:=Z.aj.length) U 2 (by rw[air];exact ag) (λH8 U=>?_) (k:=k) (ho:=by rw[air];omega);refine ab ?_;have e1:(y++[(j:Int)]).map aI=y.map aI++[aN j]:=aC;have e2:(y++[(j:Int)]).length=y.length+1:=aC;have U:ak Q H8 (tS 3 1 ((y++[(j:Int)]).map aI) (y++[(j:Int)]).length true v2::tZ F::tS cW 1 (p.set k v2) Z.aj.length true (.slice qo 0 Z.aj.length Z.aj.length true)::(lA N O J D W Z.aj.length I false vs o am S++fK Ms)):=by rw[e1,e2,<-List.set_set (a:=w)];exact U
     exact Ru.wk (cf (j+1) aa aa H8 _ v2 (by rw[e2];omega) (λv=>by
      rw[ac6,abt,ay];constructor
      .rintro(⟨ba,cy,a3⟩|rfl);·exact⟨ba,aa,a3⟩
       exact⟨aa,aa,d',ea⟩
      rintro⟨ba,cy,a3⟩;by_cases e:v=(j:Int);·exact .inr e
      exact .inl ⟨ba,aa,a3⟩) U)
    refine ab ?_;exact Ru.wk (cn _ (λe9=>by rw[ht.2 e9.2]at a6;cases a6) U)
   refine RO.ado (z:=(j:Int)) (ab ?_);exact Ru.wk (cn _ (λe9=>R ((hO.mem k).2 e9.1)) U)
  refine Ru.exitTo ?_;obtain rfl:j=nv:=aa;refine ab ?_;have U:=(U.as 0 rfl λfp hp=>tS.iu hp).ie;exact Ru.wk (ih (k+1) aa aa C (p.set k w) (λb=>if b=k then y else lv b) _ (by simpa using ag) (λb hb=>by
   rw[dA aa];by_cases e:b=k;·rw[aF e,aF e];exact acj ..
   rw[an e,an e];exact ab8 _ (hF b aa)) (λb hb=>by
   by_cases e:b=k;·subst e;rw[aF rfl];refine⟨d7,λv=>?_⟩;rw[ay];refine⟨λe9=>e9.2.2,λe9=>?_⟩;have hf:=((b0 b v e9.2).Aj V.cG hK (V.oM Y E hK) V.gv hO e9.1);exact⟨hf.1,by have:=hf.2.1;omega,e9⟩
   rw[an e];exact a2 b aa) (λb hb A=>by rw[dA aa,an aa];exact a' b aa A) U)
 refine Ru.exitTo ?_;obtain rfl:k=Z.aj.length:=aa;refine ab ?_;refine Ru.jf (M:=Ms) (U.bO (ahA (l₁:=_::_::lA N O J D W Z.aj.length I false vs o am S))) λH' U=>⟨[.slice qo 0 Z.aj.length Z.aj.length true],⟨rfl,rfl,trivial⟩,e9 H' _ ((ahq Z.aj.length).map lv) p F ?_ ?_ ?_⟩
 .have e:∀b,b<Z.aj.length->((ahq Z.aj.length).map lv).getD b []=lv b:=λb hb=>by rw[aZ (by simpa using hb)];simp
  refine⟨aC,λb hb v=>?_,λb hb=>?_,λb=>?_⟩;·have A:=hK.lt hb;rw[e b A,(a2 b A).2,eC b hb];exact⟨λe9=>e9.2,λe9=>⟨hb,e9⟩⟩
  .by_cases A:b<Z.aj.length;·rw[e b A];refine List.eq_nil_iff_forall_not_mem.2 λv hv=>?_;have:=((a2 b A).2 v).1 hv;rw[hb]at this;cases this.1
   rw[ahi,ah1 (by simpa using A)];rfl
  by_cases A:b<Z.aj.length;·rw[e b A];have:=(a2 b A).1;omega
  rw[ahi,ah1 (by simpa using A)];exact Nat.zero_le _
 .refine⟨by simpa using ag,λb hb=>?_⟩;simp only[ahs,List.length_range]at hb;rw[aZ (by simpa using hb)];simp only[ahP,aiH];exact hF b hb
 rw[ag];exact U.sub (.cons_cons _ (.cons_cons _ (aiC _)))
theorem adr(T:Tb ac)(V:Vd Z){cs:List AV}(hg:dc Q Z cs)(r:∀o v e os j f F,b8 Z e os->gu Z e os j->fG j f F->ak Q o [tZ F,tS cW 1 f f.length true v]->X (.tuple [v,aI 0]) o):YN ac Ww [.agg cs] Q X:=by have p:=hg.one;obtain⟨h,rfl,bz⟩:=hg;refine YF.code T.YT aC (au ?_);refine RO.bZ (ak.bM Q) λu q U=>ab ?_;refine RO.bT U 0 ?_;refine RO.cl (ac9 T V (cs:=[.str Z.i7,aI Z.i4,aI Z.aO,h]) ⟨h,rfl,bV.block.gK U.gr bz⟩ rfl λw x b y e os a k s i=>adq T V s i λt v j f F l m hl=>?_);have⟨n,_,_,_⟩:=(hl.sl 1 rfl).all;refine⟨n,(ab ?_)⟩;exact Ru.ki (r t v e os j f F i l m (hl.E1 (U.gr.trans k)))
def gU:List bp->List AV
 |[]=>[]
 |o::l=>aI o.1:: .bool (o.2==0)::gU l
theorem M8:∀{l:List bp}{k:Nat}(h:k<l.length),((gU l).drop (k*2)).take 2=[aI l[k].1,.bool (l[k].2==0)]|o::l,0,_=>rfl|o::l,k+1,h=>by have:=M8 (l:=l) (k:=k) (by simpa using h);grind[gU]
theorem GG:∀(f e:List bp),gU (f++e)=gU f++gU e|[],e=>rfl|o::f,e=>by simp only[ah4,gU,GG f e]
theorem M9:∀(l:List bp)(e:Nat),(gU l).take (e*2)=gU (l.take e)|[],e=>by simp[gU]|o::l,0=>by rfl|o::l,e+1=>by rw[show(e+1)*2=e*2+2 by omega];simp only[gU,aiu,M9 l e]
abbrev mB(H:ai)(l:List bp)(v:AV):Prop:=Sl H 2 (gU l) l.length v
abbrev Na:bp->List AV->Prop:=λo cs=>cs=[aI o.1,.bool (o.2==0)]
theorem mB.r(h:mB Q S s):cQ 2 (λ_=>Na) Q S s:=⟨_,h,λk e=>M8 e⟩
structure vR(H:ai)(fq:ah)(vb ov:AV)(svs:List AV)(n:Nat):Prop where
 lt:fq.ap<H.next.ap
 aE:aY H fq 3=some vb
 jt:aY H fq 5=some ov
 sl:Sl H 1 svs n ov
theorem vR.bN(h:vR Q W s u B F)(g:aR Q w):vR w W s u B F:=⟨ahC h.lt g.nx,by rw[g.aY h.lt];exact h.aE,by rw[g.aY h.lt];exact h.jt,g.sl h.sl⟩
theorem ads(T:Tb ac)(e:vR Q W u s B Z.aj.length)(hb:F<Z.aj.length)(hs:mB Q S (B.getD F .bQ))(h0:S≠ [])(m:S.length<=1000)(j:∀h o,S.getLast?=some o->aR Q h->X (.agg [aI o.1,.bool (o.2==0)]) h):YN ac W6 [.aD W 0,aN F] Q X:=by
 have⟨n,_,_,p⟩:=hs.all;have f:=e.jt;have i:0<S.length:=by cases S with|nil=>exact absurd rfl h0|cons _ _=>simp
 refine YF.code T.ZB aC (au ?_);refine RO.dL (ak.bM Q) λy z U=>ab ?_;refine RO.aW ?_ (v:=s) (hc:=by rw[U.gr.aY e.lt];exact f);refine ab ?_;refine RO.si U.gr e.sl (λC D q _=>ab ?_) (j:=F);refine RO.aW ?_ (v:=s) (hc:=by rw[U.gr.aY e.lt];exact f);refine ab ?_;refine RO.si U.gr e.sl (λE G t _=>ab ?_) (j:=F);refine RO.arith (v:=aN (S.length - 1)) (RO.bL U.gr (mB.r hs) (λv w x hj k _ _ hrd=>?_) (j:=S.length - 1)) (hv:=me aa aa);subst k;refine ab ?_;refine RO.eT U 0 (λl U=>ab ?_);refine Ru.je (vs:=[.agg [aI (S[S.length - 1]).1,.bool ((S[S.length - 1]).2==0)]]) ⟨⟨_,_,rfl,U.agg 0⟩,trivial⟩ (j l _ ?_ U.gr);rw[List.getLast?_eq_getElem?,ah7 hj]
theorem adt(T:Tb ac)(M:G.Sm Z)(hb:cQ 7 iR w Z.aj s)(q:aR w Q)(i:vR Q W s u B Z.aj.length)(j:F<Z.aj.length)(hs:mB Q S (B.getD F .bQ))(y:qN Z S)(h0:S≠ [])(k:S.length<=1000)(f:∀r o,S.getLast?=some o->aR Q r->X (aI (gp Z o)) r):YN ac WQ [.aD W 0,aN F] Q X:=by have⟨E,_,_,_⟩:=hb.all;have l:=i.aE;refine YF.code T.Zj aC (ab ?_);refine RO.BZ (ads T i j hs h0 k λz o v e=>⟨by rw[e.aY i.lt];exact l,?_⟩) (hvs:=hb.bI);have⟨h1,h2,h3⟩:=y.ok o (List.mem_of_getLast? v);obtain⟨t,x⟩:∃t:Nat,o.1=(t:Int):=⟨o.1.toNat,aa⟩;have f:=f z o v e;simp only[gp,x,aeY]at h3 f;have m:t<Z.aj.length:=aa;rw[aZ m]at h3 f;rw[x];refine ab ?_;refine RO.bL (q.trans e) hb (λC o2 c2 I n _ hat _=>?_) (j:=t);obtain⟨N,O,P,rfl,_,_,R,V,D,rfl,_,_,h⟩:=n;have⟨J,_,_,_⟩:=h.all;refine ab ?_;refine RO.aW (i:=C) (o:=o2+2+4) (v:=D) (RO.bL (q.trans e) h (λY o3 c3 L p _ hat _=>?_) (hj:=by omega)) (hc:=hat 6 _ rfl);obtain⟨v3,rfl,_⟩:=p;refine ab ?_;refine Ru.aL ?_;rw[aZ aa]at f;exact f
theorem Nb(T:Tb ac){v:AV}(hs:Sl w o B F v):YN ac WP [v] Q λd e=>d=tJ v F/\e=Q:=by
 have⟨hd,_,_,h⟩:=hs.all;refine YF.code T.Zi aC (au ?_);rcases hs with⟨rfl,rfl,rfl⟩|⟨i,p,cap,ex,j,m,k,f,aK,fz,rfl,hg,l,hl,n,hi,b⟩;·refine RO.zT (m:=0) (b:=0) (a:=0) rfl rfl rfl rfl (au ?_);exact Ru.aL ⟨rfl,rfl⟩
 refine RO.E0 (m:=F) (b:=F) (a:=0) (v:=.slice i p F F true) rfl (by show lF (aN F) cap=_;exact qE b) (by show lF (aN F) F=_;exact qE (aeE F)) rfl aC aC ?_;refine au ?_;exact Ru.aL ⟨rfl,rfl⟩
def adu(W:List (Int×List bp))(b:List bp)(nv:AV)(k:Nat)(args:List AV)(d:List Th):Prop:=
 ∃(h:k<W.length)(v:AV),args=[aI W[k].1,v]/\v.bk=true/\v.cY=true/\v.cells=[v]/\((d=[]/\∀H,mB H b nv->mB H W[k].2 v)\/d=[tS Kd 2 (gU W[k].2) W[k].2.length true v])
theorem Nc(T:Tb ac)(f:∀e b d,ak Q e [tB 3 d [aN F],tB fW b [.aD W 0]]->X (.func BV [] [.aD b 0,.aD d 0]) e):YN ac Wx [.aD W 0,aN F] Q X:=by refine YF.code T.YU aC (au ?_);refine RO.bZ (ak.bM Q) λh b U=>RO.bZ U λi d U=>au ?_;exact Ru.aL (f _ b d U)
theorem Nd(T:Tb ac)(hB:G.Sm Z)(hb:cQ 7 iR w Z.aj s){nv:AV}(hE:B8 Z b)(hO:qN Z now)(cd:now.length<=1000)(a8:(Z.aj.getD b default).aq.op=68->now≠ []):vm ac w (.func BV [] [.aD t 0,.aD W 0]) (bX Z b now).length (adu (bX Z b now) now nv) [tB 3 W [aN b],tB fW t [.aD x 0]] (λQ=>∃ov ag,vR Q x s ov ag Z.aj.length/\ag.getD b .bQ=nv/\mB Q now nv) (λQ=>mB Q now nv):=by
 intro y J D B l Q K d2 d3 d4 L i z U hR m;obtain⟨ov,ag,X,a',hs⟩:=hR;have hA:=U.gr;have⟨cf,_,_,d5⟩:=X.sl.all;have⟨ba,cn,cp,d6⟩:=hs.all;have⟨d7,d',_,ea⟩:=hb.all;have eb:=X.aE;have cv:=X.jt;have cx:aY Q t 0=some (.aD x 0):=by obtain⟨_,n⟩:=U.get 1 rfl;exact tB.cell n rfl
 have cy:aY Q W 0=some (aN b):=by obtain⟨_,n⟩:=U.get 0 rfl;exact tB.cell n rfl
 have cE:t.ap<Q.next.ap:=by obtain⟨_,n⟩:=U.get 1 rfl;obtain⟨_,_,_,_,_,h⟩:=n;exact h
 have cR:W.ap<Q.next.ap:=by obtain⟨_,n⟩:=U.get 0 rfl;obtain⟨_,_,_,_,_,h⟩:=n;exact h
 obtain⟨r,R⟩:=hE;rw[aZ r]at R a8;refine YF.code T.Zh aC (ab ?_);refine RO.bL hA hb (λq3 o3 c3 ec bb _ hat hrd=>?_) (j:=b);have dz:=bb.one;obtain⟨vp,vs,jc,rfl,_,_,hj⟩:=bb;have ei:=hj.one;obtain⟨va,vk,vg,rfl,ej,ek,p⟩:=hj;have⟨N,_,_,el⟩:=p.all;refine ab ?_;refine RO.ee (ab ?_) (hc:=FE (k:=2) (m:=5) hrd bt);refine RO.si (aR.refl Q) X.sl (λq4 o4 bc c8=>?_) (j:=b);rw[a']at bc;refine ab ?_;refine RO.dL (ak.bM Q) λH1 q5 hl=>RO.yj hl 0 (λH2 hl=>⟨λaf d=>?_,?_⟩);·have hg:=hl.gr;refine ev d rfl rfl ba hs.bI (by rw[hg.aY c8];exact bc) (ev (v:=aN b) d rfl rfl rfl (by simp[eV,cD,dW]) (by rw[hg.aY cR];exact cy) (ev d rfl rfl cf X.sl.bI (by rw[hg.aY X.lt];exact cv) (ev (v:=.aD x 0) d rfl rfl rfl (by simp[eV,cD,ah.ft]) (by rw[hg.aY cE];exact cx) rfl)))
 have bv:=hl.gr;have U:=U.cH hl;refine ab ?_;have O:(Z.aj.getD b default).aq=(Z.aj[b]).aq:=by rw[aZ r]
 refine Ru.cond (λ(u:(Z.aj[b]).aq.op=67)=>?_) (λ(u:¬(Z.aj[b]).aq.op=67)=>?_)
 .have h3:=R u;have b0:∀k(h:k<2),∃h':k<(bX Z b now).length,(bX Z b now)[k]=(((Z.aj[b]).aq.go[k]'aa).block,now++[((b:Int),k)]):=λk h=>by
   have C:bX Z b now=[(((Z.aj[b]).aq.go[0]'aa).block,now++[((b:Int),0)]),(((Z.aj[b]).aq.go[1]'aa).block,now++[((b:Int),1)])]:=by simp only[bX,O,aF u];rw[aZ aa,aZ aa]
   refine⟨by rw[C];simpa using h,?_⟩;simp only[C];match k,h with|0,_=>rfl|1,_=>rfl
  have c9:(bX Z b now).length=2:=by simp only[bX,O,aF u];rfl
  obtain⟨b3,b4⟩:=b0 0 aa;obtain⟨b6,b7⟩:=b0 1 aa;have c':=L 0 B _ H2 z (ak.dK (xs:=[_,_,_]) U);refine ab ?_;refine RO.FH U.gr p (λq8 o8 d1 dm he _ f=>?_) (j:=0) (hj:=by omega);obtain⟨v8,rfl,_⟩:=he;refine ab ?_;refine RO.aW (ab ?_) (hc:=f 0 _ rfl U.gr);refine RO.iE U 2 (ws:=[aN b,.bool true]) (λH4 q9 U=>RO.FF (v:=tJ nv now.length) (λH0 _ _=>Nb T hs) (λY q av=>?_));have U:=U.bI av q;have aw:=L 0 B _ Y z (ak.dK (xs:=[_,_,_,_]) U);have E:aY Y W 0=some (aN b):=by obtain⟨_,n⟩:=U.get 2 rfl;exact tB.cell n rfl
  have F:aY Y q5 4=some vg:=by obtain⟨_,n⟩:=U.get 1 rfl;exact tB.cell n rfl
  refine⟨λaf d=>ev (v:=aN b) d rfl rfl rfl (by simp[eV,cD,dW]) E (ev (v:=aI ((Z.aj[b]).aq.go[0]'aa).block) d rfl rfl rfl (by simp[eV,cD,dW]) (f 0 _ rfl U.gr) (ev d rfl rfl N (p.bI) F rfl)),(RO.FG U (FI aw) (U.sl 0) (λH5 v5 _ U=>?_))⟩;have I:aY H5 q5 4=some vg:=by obtain⟨_,n⟩:=U.get 2 rfl;exact tB.cell n rfl
  refine⟨λaf d=>ev (v:=aI ((Z.aj[b]).aq.go[0]'aa).block) d rfl rfl rfl (by simp[eV,cD,dW]) (f 0 _ rfl U.gr) (ev d rfl rfl N (p.bI) I rfl),?_⟩;have ax:Sl H5 2 (gU now++[aN b,.bool true]) (now.length+1) v5:=U.sl 0;have⟨ay,a1,a2,_⟩:=ax.all;have e5:gU (now++[((b:Int),0)])=gU now++[aN b,.bool true]:=GG _ _;have e6:(now++[((b:Int),0)]).length=now.length+1:=aC;rw[<-e5,<-e6]at U;refine ab ?_;refine RO.cl ((i 0 [aI ((Z.aj[b]).aq.go[0]'aa).block,v5] [_] B _ _ b3 ⟨b3,v5,by rw[b4],ay,a1,a2,.inr (by rw[b4])⟩ z (U.bO (ah6 _ (sj (xs:=[_,_,_,_]))))).mono ?_);rintro v H3⟨j,U,hc⟩;rcases hc with⟨rfl,z⟩|⟨rfl,h⟩
  .have U:=ak.jd (xs:=[_,_,_,_]) U;have c':=L 1 j _ _ z (ak.dK (xs:=[_,_,_,_]) U);refine ab ?_;refine RO.FH U.gr p (λq8 o8 d1 dm he _ f=>?_) (j:=1) (hj:=by omega);obtain⟨v8,rfl,_⟩:=he;refine ab ?_;refine RO.aW (ab ?_) (hc:=f 0 _ rfl U.gr);refine RO.iE U 2 (ws:=[aN b,.bool false]) (λH4 q9 U=>RO.FF (v:=tJ nv now.length) (λH0 _ _=>Nb T hs) (λY q av=>?_));have U:=U.bI av q;have aw:=L 1 j _ Y z (ak.dK (xs:=[_,_,_,_,_]) U);have E:aY Y W 0=some (aN b):=by obtain⟨_,n⟩:=U.get 3 rfl;exact tB.cell n rfl
   have F:aY Y q5 4=some vg:=by obtain⟨_,n⟩:=U.get 2 rfl;exact tB.cell n rfl
   refine⟨λaf d=>ev (v:=aN b) d rfl rfl rfl (by simp[eV,cD,dW]) E (ev (v:=aI ((Z.aj[b]).aq.go[1]'aa).block) d rfl rfl rfl (by simp[eV,cD,dW]) (f 0 _ rfl U.gr) (ev d rfl rfl N (p.bI) F rfl)),(RO.FG U (FI aw) (U.sl 0) (λH5 v5 _ U=>?_))⟩;have I:aY H5 q5 4=some vg:=by obtain⟨_,n⟩:=U.get 3 rfl;exact tB.cell n rfl
   refine⟨λaf d=>ev (v:=aI ((Z.aj[b]).aq.go[1]'aa).block) d rfl rfl rfl (by simp[eV,cD,dW]) (f 0 _ rfl U.gr) (ev d rfl rfl N (p.bI) I rfl),?_⟩;have ax:Sl H5 2 (gU now++[aN b,.bool false]) (now.length+1) v5:=U.sl 0;have⟨ay,a1,a2,_⟩:=ax.all;have e5:gU (now++[((b:Int),1)])=gU now++[aN b,.bool false]:=GG _ _;have e6:(now++[((b:Int),1)]).length=now.length+1:=aC;rw[<-e5,<-e6]at U;refine ab ?_;refine RO.cl ((i 1 [aI ((Z.aj[b]).aq.go[1]'aa).block,v5] [_] j _ _ b6 ⟨b6,v5,by rw[b7],ay,a1,a2,.inr (by rw[b7])⟩ z (U.bO (ah6 _ (sj (xs:=[_,_,_,_,_]))))).mono ?_);rintro v H3⟨j,U,hc⟩;refine ab ?_;refine Ru.aq (vs:=[]) trivial (m _ j _ (by rw[<-ae0]at U;exact U.skip) ?_);rcases hc with⟨_,h⟩|⟨_,h⟩;·left;rw[c9];exact h
   exact .inr h
  refine ab ?_;exact Ru.aq (vs:=[]) trivial (m _ j _ (by rw[<-ae0]at U;exact U.skip) (.inr h))
 refine ab ?_;refine Ru.cond (λ(P:(Z.aj[b]).aq.op=68)=>?_) (λ(P:¬(Z.aj[b]).aq.op=68)=>?_)
 .have h0:=a8 P;have d0:0<now.length:=by cases now with|nil=>exact absurd rfl h0|cons _ _=>simp
  have C:bX Z b now=match now.getLast? with|some o=>[(gp Z o,now.take (now.length - 1))]|none=>[]:=by simp only[bX,O,an u,aF P]<;>rfl
  refine ab ?_;refine RO.arith (v:=aN (now.length - 1)) (ab ?_) (hv:=me aa aa);refine RO.lR hs (b:=now.length - 1) ?_;have V:∀H',mB H' now nv->mB H' (now.take (now.length - 1)) (lR nv (now.length - 1)):=λH' h=>by
   have e:(now.take (now.length - 1)).length=now.length - 1:=by rw[ahU];omega
   show Sl H' 2 (gU _) _ _;rw[e,<-M9];exact Ae h aa
  have⟨dr,ds,dv,_⟩:=(V _ hs).all;refine RO.cl (adt T hB hb U.gr (X.bN bv) r (by rw[a'];exact bv.sl hs) hO h0 cd λH3 o a6 dx=>?_);have U:=U.bN dx;rw[a6]at C;simp only at C;rw[C]at i m;refine RO.cl ((i 0 [aI (gp Z o),lR nv (now.length - 1)] [] B _ _ aC ⟨aC,_,rfl,dr,ds,dv,.inl ⟨rfl,V⟩⟩ z (ak.dK (xs:=[_,_,_]) U)).mono ?_);rintro v H3⟨j,U,hc⟩;refine ab ?_;refine Ru.aq (vs:=[]) trivial (m _ j _ (by rw[<-ae0]at U;exact U.skip) ?_);rcases hc with⟨_,h⟩|⟨_,h⟩;·exact .inl h
  exact .inr h
 have C:bX Z b now=(Z.aj[b]).aq.go.map λe=>(e.block,now):=by simp only[bX,O,an u,an P]
 have et:=hB.bl _ (abO r);refine ab ?_;refine Ru.nm λS M hS hM=>Ru.bH hM (up (P:=λk=>∀HX B,J k B->ak w HX (tB mg q5 _::([tB 3 W [aN b],tB fW t [.aD x 0]]++B++l))->Ru ac _ S ([(xF,aN k)]++pk M [p0,p5,uM,zU]) HX) (Z.aj[b]).aq.go.length (λk hk ih HX B z U=>?_) 0 aa _ B z U);subst hS;subst hM;refine Ru.loop (au ?_);refine Ru.cond (λb'=>?_) (λb'=>?_)
 .refine au ?_;refine RO.bL U.gr p λq6 o6 c6 ew he _ hat hrd=>?_;have dy:=he.one;obtain⟨v6,rfl,_⟩:=he;refine ab ?_;refine RO.dD U λH5 q7 U=>?_;refine ab ?_;have ca:k<(bX Z b now).length:=by rw[C,ahs];exact b'
  refine RO.cl ((i k [aI ((Z.aj[b]).aq.go[k]).block,nv] [] B _ _ ca ⟨ca,nv,by simp only[C,ahP],ba,cn,cp,.inl ⟨rfl,λH' h=>by simp only[C,ahP];exact h⟩⟩ z (ak.dK (xs:=[_,_,_,_]) U)).mono ?_);rintro v H3⟨j,U,hc⟩;rcases hc with⟨rfl,h⟩|⟨rfl,h⟩;·refine ab ?_;exact Ru.wk (ih (k+1) aa aa _ _ h (ak.jd (xs:=[_,_,_,_]) U).tail)
  refine ab ?_;exact Ru.jo (vs:=[]) trivial (m _ j _ (by rw[<-ae0]at U;exact U.skip) (.inr h))
 refine Ru.exitTo ?_;refine ab ?_;refine Ru.aq (vs:=[]) trivial (m _ B _ U.tail.tail.tail (.inl ?_));rw[C,ahs,show(Z.aj[b]).aq.go.length=k by omega];exact z
structure FX(g:G.aM)(H:ai)(fq:ah)(vb ov av lvv:AV)(svs:List AV)(come:List Bool)(os:List (List bp))(am:List Nat)(lv:List (List Int)):Prop where
 ro:vR H fq vb av svs g.aj.length
 bl:cQ 7 iR H g.aj vb
 c1:aY H fq 1=some (aI g.i4)
 c2:aY H fq 2=some (aI g.aO)
 c4:aY H fq 4=some ov
 od:Sl H 1 (am.map aN) am.length ov
 c6:aY H fq 6=some lvv
 sl:vI H lv lvv
 op:∀b,come.getD b false=true->mB H (os.getD b []) (svs.getD b .bQ)
theorem FX.bN(q:FX Z Q W s u y h B Y E V P)(hg:aR Q w):FX Z w W s u y h B Y E V P:=by have hl:=q.ro.lt;have⟨h1,h2,h3,j,k,m,n,o,p⟩:=q;exact⟨h1.bN hg,bV.block.gK hg h2,by rw[hg.aY hl];exact h3,by rw[hg.aY hl];exact j,by rw[hg.aY hl];exact k,hg.sl m,by rw[hg.aY hl];exact n,bV.acJ.gK hg o,λb hb=>hg.sl (p b hb)⟩
theorem b8.bI(b:fE Z)(k:b8 Z Y E)(j:b8 Z H A)(hb:Y.getD F false=true):H.getD F false=true/\A.getD F []=E.getD F []:=j.oE b (k.cG F hb)
theorem Lv.bI(b:fE Z)(q:b8 Z Y E)(m:b8 Z H A)(hl:Lv Z E F v):Y.getD F false=true->Lv Z A F v:=by
 induction hl with
 |kl h1 h2=>intro _;exact .kl h1 h2
 | @il F w v n _ j k=>
  intro hb;have r:wW Z A F=wW Z E F:=by simp only[wW,(q.bI b m hb).2]
  exact .il (by rw[r];exact n) (k (q.il hb n)) j
 | @kr F t v o _ j k=>intro hb;have⟨_,_,_,_,p,_⟩:=qS b q hb o;exact .kr (by rw[(q.bI b m hb).2];exact o) (k p) j
theorem gu.bI(k:fE Z)(o:b8 Z Y E)(m:b8 Z H A)(hl:gu Z Y E P):gu Z H A P:=by
 refine⟨hl.len,λb hb v=>?_,λb hb=>hl.Gm b ?_,hl.iw⟩;·have j:=(m.bI k o hb).1;rw[hl.mem b j];exact⟨λx=>x.bI k o m j,λx=>x.bI k m o hb⟩
 cases n:Y.getD b false with|false=>rfl|true=>rw[(o.bI k m n).1]at hb;cases hb
def tW(Z:G.aM)(u s y:AV)(W x t:ah)(am:List Nat)(b:List AV)(F:List Th):List Th:=[tB V3 W [.str Z.i7,aI Z.i4,aI Z.aO,u,s,.slice t 0 Z.aj.length Z.aj.length true,y],tS E8 1 b Z.aj.length true (.slice t 0 Z.aj.length Z.aj.length true),tB fW x [.aD W 0],tZ F,tS 3 1 (am.map aN) am.length true s]
theorem Nf(T:Tb ac)(V:Vd Z){cs:List AV}(hg:dc Q Z cs)(hK:∀D W s y dr u p come os am lv,b8 Z come os->eF Z come os am->gu Z come os lv->aR Q D->FX Z D W s y dr u p come os am lv->X (.tuple [.aD W 0,aI 0]) D):YN ac Fc [.agg cs] Q X:=by
 have c9:=hg.one;have hB:=V.sm;have ds:=hB.nb;obtain⟨s,rfl,bz⟩:=hg;have⟨dv,dx,dy,a'⟩:=bz.all;refine YF.code T.KY aC (au ?_);refine RO.bZ (ak.bM Q) λH1 q1 U=>ab ?_;refine RO.bT U 0 ?_;refine RO.cl (ada T V (cs:=[.str Z.i7,aI Z.i4,aI Z.aO,s]) ⟨s,rfl,bV.block.gK U.gr bz⟩ λH2 y come os am q R hl=>?_);have U:=U.cH hl;have⟨ba,dz,bb,d0⟩:=(hl.sl 0 rfl).all;have d1:am.length<=Z.aj.length:=qR _ _ R.nd λec N=>q.lt ((R.mem ec).1 N);refine ab ?_;refine RO.bT U 1 (ab ?_);refine RO.jq U (n:=Z.aj.length) (λH3 t U=>?_) (hz:=by rw[eE];simp);rw[eE]at U;refine ab ?_;refine RO.build (vs:=[.str Z.i7,aI Z.i4,aI Z.aO,s,y,.slice t 0 Z.aj.length Z.aj.length true,.bj]) ?_ (hl:=im rfl rfl rfl rfl rfl (im rfl ba bb rfl rfl (im rfl rfl rfl rfl rfl rfl)));refine RO.bZ U (λH4 W U=>?_) (v:=.agg [.str Z.i7,aI Z.i4,aI Z.aO,s,y,.slice t 0 Z.aj.length Z.aj.length true,.bj]);refine RO.dD U λH5 x U=>?_;refine ab ?_;refine RO.bT U 4 ?_;have d2:W.ap<H5.next.ap:=by obtain⟨_,r⟩:=U.get 1 rfl;obtain⟨_,_,_,_,_,eb⟩:=r;exact eb
 have bc:x.ap<H5.next.ap:=by obtain⟨_,r⟩:=U.get 0 rfl;obtain⟨_,_,_,_,_,eb⟩:=r;exact eb
 have bv:aY H5 x 0=some (.aD W 0):=by obtain⟨_,r⟩:=U.get 0 rfl;exact tB.cell r rfl
 refine RO.BZ (adr T V (cs:=[.str Z.i7,aI Z.i4,aI Z.aO,s]) ⟨s,rfl,bV.block.gK U.gr bz⟩ λH6 u c8 d3 lv z F2 b0 S b3 Y=>⟨by rw[Y.gr.aY bc];exact bv,?_⟩) (hvs:=by simp[eV,cD,ah.ft]);have S:=S.bI V.cG b0 q;have⟨b4,b6,b7,_⟩:=(Y.sl 1 rfl).all;have U:ak Q H6 ([_,_,_,_,_]++[tZ F2,tS cW 1 z z.length true u]):=(U.cH Y).bO ahA;refine ab ?_;refine RO.dO U 1 (λH7 U=>ab ?_);have U:=(((((U.mZ 222 2).as 0 rfl λfp r=>tS.iu r).lQ.bO (ah5 ..)).ie.ep 1 rfl).ep 3 rfl).ep 3 rfl;have U:ak Q H7 (tW Z s y u W x t am (ab7 Z.aj.length .bj) [tR 2 (gU []) 0 .bj]++(fK []++[tB cA q1 [.str Z.i7,aI Z.i4,aI Z.aO,s],tZ F2,tS cW 1 z z.length true u])):=U;refine Ru.nm λS0 M hS hM=>Ru.bH hM (up (P:=λk=>∀HX Ms p F,p.length=Z.aj.length->(∀ec,come.getD ec false=true->(ec=0\/∃ei∈am.take k,ec∈wW Z os ei)->tR 2 (gU (os.getD ec [])) (os.getD ec []).length (p.getD ec .bQ)∈F)->ak Q HX (tW Z s y u W x t am p F++(fK Ms++[tB cA q1 [.str Z.i7,aI Z.i4,aI Z.aO,s],tZ F2,tS cW 1 z z.length true u]))->Ru ac ⟨mc [.tmp p2,.tmp p3] X,Ms,none⟩ S0 ([(rY,aN k)]++pk M [p6,rX,mi]) HX) am.length (λk hk ih HX Ms p F b' hF U=>?_) 0 aa _ [] _ _ aC (λec N eb=>?_) U);rotate_left
 .rcases eb with rfl|⟨ei,G,_⟩;·have ca:=q.lt q.c0;rw[(q.oE V.cG .zero).2,aZ (by simpa using ca)];simp
  simp at G
 subst hS;subst hM;refine Ru.loop (au ?_);refine Ru.cond (λC=>?_) (λC=>?_)
 .have cd:=abO C;have L:=(R.mem _).1 cd;have av:am.take (k+1)=am.take k++[am[k]]:=(ahb C).symm;have O:=R.aK (am.take k) am[k] (am.drop (k+1)) (by conv=>lhs;rw[<-aig k am,ahp C]);have aw:=hF _ L O;refine ab ?_;refine RO.ic (aR.refl _) (U.sl 4 rfl) (λq5 o5 d4 d5=>?_) (j:=k);have ih:=ih (k+1) aa aa;rw[av]at ih;clear av O;generalize am[k]=b at*;have B:=q.cG b L;have a':=q.lt L;have cf:(Z.aj.getD b default).aq.op=68->os.getD b []≠ []:=λcn ej=>by have⟨o,ho,_⟩:=(V.oM come os q).en b L cn;rw[ej]at ho;cases ho
  generalize a6:os.getD b []=now at*;generalize cp:p.getD b .bQ=nv at*;refine ab ?_;refine RO.cl (Nc T λH8 ax ay hl=>?_);have U:ak Q H8 ([tB 3 ay [aN b],tB fW ax [.aD W 0]]++tW Z s y u W x t am p F++(fK Ms++[tB cA q1 [.str Z.i7,aI Z.i4,aI Z.aO,s],tZ F2,tS cW 1 z z.length true u])):=U.cH hl;refine ab ?_;refine Ru.wk (L:=[(tz,.func BV [] [.aD ax 0,.aD ay 0]),(p6,.aD x 0),(rX,y),(mi,aN am.length),(rY,aN k)]) ?_;refine Ru.mq (J:=λm ts=>∃n I,n.length=Z.aj.length/\tR 2 (gU now) now.length nv∈I/\(∀ec,come.getD ec false=true->(ec=0\/(∃ei∈am.take k,ec∈wW Z os ei)\/∃w∈(bX Z b now).take m,ec=w.1.toNat)->tR 2 (gU (os.getD ec [])) (os.getD ec []).length (n.getD ec .bQ)∈I)/\ts=tW Z s y u W x t am n I) (Dn:=λ_ _=>False) U (Nd T hB bz (b:=b) (now:=now) (nv:=nv) (V.cG.aE B) (V.cG.jt B).1 (by have:=(V.cG.jt B).2;omega) cf) (λH2 hg=>?_) ⟨p,F,b',aw,λec N eb=>hF ec N (by rcases eb with eb|eb|⟨w,E,_⟩;exact .inl eb;exact .inr eb;simp at E),rfl⟩ (λk args ws eb=>by obtain⟨_,v,rfl,_⟩:=eb;rfl) (λm ts l D hJ U=>?_) (λm args ws ts l et o1 o2 D hm cv hJ U=>?_) (λD cx dm hJ U=>?_) (λj D cx dm _ eb=>eb.elim)
  .have U:=U.bN hg;have J:∀(o:Nat)(v:AV),([.str Z.i7,aI Z.i4,aI Z.aO,s,y,.slice t 0 Z.aj.length Z.aj.length true,u]:List AV)[o]?=some v->aY H2 W o=some v:=λo v eb=>by obtain⟨_,r⟩:=U.get 2 rfl;exact tB.cell r eb
   have ag:W.ap<H2.next.ap:=by obtain⟨_,r⟩:=U.get 2 rfl;obtain⟨_,_,_,_,_,eb⟩:=r;exact eb
   have⟨el,h9,_⟩:=U.jr 5 rfl aw;exact⟨_,p,⟨ag,J 3 _ rfl,J 5 _ rfl,U.sl 3⟩,cp,h9⟩
  .obtain⟨n,I,_,h2,_,rfl⟩:=hJ;have⟨el,h9,_⟩:=U.jr 3 rfl h2;exact h9
  .obtain⟨n,I,g1,g2,g3,rfl⟩:=hJ;obtain⟨a1,v,rfl,b4,b6,b7,cy⟩:=cv;have U:ak Q D (tW Z s y u W x t am n (tR 2 (gU (bX Z b now)[m].2) (bX Z b now)[m].2.length v::I)++tX et o1::l):=by
    rcases cy with⟨rfl,a8⟩|rfl;·exact((U.ep 3 rfl).Lu g2 (t':=tR 2 (gU (bX Z b now)[m].2) (bX Z b now)[m].2.length v) λel eb=>MB a8 eb).bO (ahy (l₁:=[_,_,_])).symm
    have h5:=U.as 0 rfl λfp r=>tS.iu r;have h6:=h5.bO (ah6 _ (ahy (l₁:=[_,_,_])));exact(ak.ie h6).bO (ahy (l₁:=[_,_,_])).symm
   have a2:(bX Z b now)[m]∈bX Z b now:=abO a1;have⟨d6,d7⟩:=V.cG.Af B _ a2;have cE:=fQ.step B a2;obtain⟨ek,ht⟩:∃ek:Nat,(bX Z b now)[m].1=(ek:Int):=⟨(bX Z b now)[m].1.toNat,aa⟩;have d':ek<Z.aj.length:=aa;have cR:(bX Z b now).take (m+1)=(bX Z b now).take m++[(bX Z b now)[m]]:=(ahb a1).symm;have P:=(q.oE V.cG cE).2;rw[ht,aeY]at P;rw[ht];refine au ?_;refine Ru.cX (xs:=tW Z s y u W x t am n (tR 2 (gU (bX Z b now)[m].2) (bX Z b now)[m].2.length v::I)) U λH9 U=>ab ?_;refine RO.vr U 1 g1 (λea U=>ab ?_) (k:=ek);refine Ru.bx (ts:=tW Z s y u W x t am (n.set ek v) (tR 2 (gU (bX Z b now)[m].2) (bX Z b now)[m].2.length v::I)) U ⟨_,_,by simpa using g1,ab8 _ g2,λec N eb=>?_,rfl⟩;rw[dA aa];by_cases ej:ec=ek;·rw[aF ej,ej,P];exact acj ..
   rw[an ej];refine ab8 _ (g3 ec N ?_);rcases eb with eb|eb|⟨w,E,eb⟩;·exact .inl eb
   .exact .inr (.inl eb)
   rw[cR]at E;rcases ac6.1 E with E|E;·exact .inr (.inr ⟨w,E,eb⟩)
   rw[abt]at E;subst E;rw[ht,aeY]at eb;exact absurd eb ej
  obtain⟨n,I,g1,g2,g3,rfl⟩:=hJ;rw[aid]at g3;refine ab ?_;exact Ru.wk (ih D (dm::Ms) n I g1 (λec N eb=>g3 ec N (by
   rcases eb with eb|⟨ei,G,eb⟩;·exact .inl eb
   rcases ac6.1 G with G|G;·exact .inr (.inl ⟨ei,G,eb⟩)
   rw[abt]at G;subst G;simp only[wW,jU,a6,ahm]at eb;have⟨w,E,eb⟩:=eb;exact .inr (.inr ⟨w,E,eb.symm⟩))) U)
 refine Ru.exitTo ?_;rw[aho aa]at hF;refine ab ?_;have U:=ak.dK (xs:=tW Z s y u W x t am p F) (by rw[ae0];exact U);refine Ru.jf (M:=Ms) U λD U=>⟨[.aD W 0,aI 0],⟨rfl,rfl,rfl,rfl,trivial⟩,?_⟩;have J:∀(o:Nat)(v:AV),([.str Z.i7,aI Z.i4,aI Z.aO,s,y,.slice t 0 Z.aj.length Z.aj.length true,u]:List AV)[o]?=some v->aY D W o=some v:=λo v eb=>by obtain⟨_,r⟩:=U.get 0 rfl;exact tB.cell r eb
 have ag:W.ap<D.next.ap:=by obtain⟨_,r⟩:=U.get 0 rfl;obtain⟨_,_,_,_,_,eb⟩:=r;exact eb
 refine hK D W s y _ u p come os am lv q R S U.gr ⟨⟨ag,J 3 _ rfl,J 5 _ rfl,U.sl 1⟩,bV.block.gK U.gr bz,J 1 _ rfl,J 2 _ rfl,J 4 _ rfl,U.sl 4,J 6 _ rfl,b3.sl U 6 rfl (U.sl 7 rfl),λb hb=>?_⟩;have:b=0\/∃ei∈am,b∈wW Z os ei:=by
  have⟨bY,c',ej⟩:=List.append_of_mem ((R.mem b).2 hb);rcases R.aK _ _ _ ej with eb|⟨ei,G,eb⟩;·exact .inl eb
  exact .inr ⟨ei,by rw[ej];exact ahj _ G,eb⟩
 have⟨el,h9,_⟩:=U.jr 3 rfl (hF b hb this);exact h9
section
section
variable{g:G.aM}
def jH(g:G.aM)(P:List (List Int))(o:List bp):List Int:=match jV g o with
 |some t=>P.getD t.toNat []
 |none=>[]
theorem adv(T:Tb ac)(d2:Vd g)(i:aR w Q)(n:FX g w W s h u y B Y E V P)(S:b8 g Y E)(ag:gu g Y E P)(hb:Y.getD F false=true)(d1:∀p v,dh w (jH g P (E.getD F [])) v->aR Q p->X v p):YN ac WH [.aD W 0,aN F] Q X:=by
 have hB:=d2.sm;have b7:=hB.nb;have b':=S.lt hb;have⟨hO,ca⟩:=d2.cG.jt (S.cG F hb);have hs:=n.op F hb;have⟨aw,ax,ay,cd⟩:=hs.all;have x:=n.ro.lt;have a1:=n.ro.aE;have a2:=n.ro.jt;have a6:=n.c6;have⟨cf,_,_,_⟩:=n.ro.sl.all;have⟨cn,_,_,_⟩:=n.bl.all;have⟨cp,_,_,_⟩:=n.sl.all;have N:∀t,jV g (E.getD F [])=some t->0<=t/\t.toNat<P.length:=λt ht=>by obtain⟨_,_,_,_,hc,h0⟩:=qS d2.cG S hb ht;exact⟨h0,by rw[ag.len];exact S.lt hc⟩
 refine YF.code T.Y5 aC (au ?_);refine RO.bZ (ak.bM Q) λH1 Z U=>?_;refine RO.dL U λH2 q4 U=>?_;refine ab ?_;refine RO.aW ?_ (v:=u) (hc:=by rw[(i.trans U.gr).aY x];exact a2);refine ab ?_;refine RO.si (i.trans U.gr) n.ro.sl (λq8 o8 cv _=>?_) (j:=F);refine ab ?_;refine RO.cl (Cj T.Zs bt aw ax ay λH4 q hl=>?_);have U:=U.cH hl;refine ab ?_;generalize E.getD F []=m at*;refine Ru.wk (L:=[(iF,.func Xa [] [.aD q 0]),(p2,.aD Z 0),(p4,.aD q4 0)]) ?_;have U:ak Q H4 ([tB E8 q [B.getD F .bQ]]++[tB cW q4 [.bj],tB fW Z [.aD W 0]]++[]):=U;refine Ru.mq (J:=λk ts=>ts=[tB cW q4 [.bj],tB fW Z [.aD W 0]]/\∀j(hj:m.length - 1 - j<m.length),j<k->m[m.length - 1 - j].2≠0) (Dn:=λj ts=>j=.ret/\∃t v,jV g m=some t/\dh w (P.getD t.toNat []) v/\ts=[tB cW q4 [v],tB fW Z [.aD W 0]]) U (Ci (R:=Na) (agg:=true) (size:=2) (la:=m) (sv:=B.getD F .bQ) (e:=E8) (nt:=19) T.ZF bt aa (λd1=>by cases d1) (λd3 cs d1=>by cases d1;rfl)) (λH2 hg=>mB.r (((i.trans U.gr).trans hg).sl hs)) ⟨rfl,λj _ hj=>absurd hj aa⟩ (λk args ws d1=>by obtain⟨_,_,_,_,rfl⟩:=d1;rfl) (λk ts us p hJ U=>mB.r ((i.trans U.gr).sl hs)) (λk args ws ts us l o1 o2 p hk a8 hJ U=>?_) (λp a' dm hJ U=>?_) (λj p a' dm hj hD U=>?_)
 .obtain⟨rfl,G,cs,ba,rfl⟩:=a8;obtain⟨rfl,eC⟩:=hJ;have bb:=abO G;generalize z:m[m.length - 1 - k]=oo at*;have⟨ob,I⟩:=oo;subst ba;refine ab ?_;refine RO.dD U λH5 q7 U=>ab ?_;refine Ru.cX (xs:=[_,_,_]) U λH6 U=>ab ?_;refine Ru.d9 (λh0=>?_) (λh0=>?_)
  .have bc:I=0:=by simpa using h0
   have⟨g1,g2,g3⟩:=hO.ok _ bb;simp only at g1 g2 g3;obtain⟨t,rfl⟩:∃t:Nat,ob=(t:Int):=⟨ob.toNat,aa⟩;rw[aeY]at g3;have J:t<g.aj.length:=aa;have g4:g.aj[t].aq.go.length=3:=by rw[<-g3,aZ J]
   have o:=MO (g:=g) G hk eC (by rw[z];exact bc);rw[z]at o;simp only[aE,aeY,aZ J]at o;rw[aZ aa]at o;have⟨i0,i1⟩:=N _ o;refine ab ?_;refine RO.aW ?_ (v:=y) (hc:=by rw[(i.trans U.gr).aY x];exact a6);refine ab ?_;refine RO.aW ?_ (v:=s) (hc:=by rw[(i.trans U.gr).aY x];exact a1);refine ab ?_;refine RO.bL (i.trans U.gr) n.bl (λq9 o9 d0 cx bv cy hat _=>?_) (j:=t);obtain⟨vp,vs,jc,rfl,_,_,va,vk,vg,rfl,_,_,L⟩:=bv;have⟨cE,_,_,_⟩:=L.all;refine ab ?_;refine RO.aW (v:=vg) (RO.bL (i.trans U.gr) L (λcR c8 c9 b0 O b3 C _=>?_) (j:=1) (hj:=by omega)) (hc:=hat 6 _ rfl);obtain⟨ve,rfl,_⟩:=O;generalize g.aj[t].aq.go[1].block=tt at*;obtain⟨th,rfl⟩:∃th:Nat,tt=(th:Int):=⟨tt.toNat,aa⟩;rw[aeY]at i1;refine ab ?_;refine RO.aW (v:=aN th) (RO.bL (i.trans U.gr) n.sl (λc' dr ds b4 R b6 D _=>?_) (j:=th)) (hc:=C 0 _ rfl);obtain⟨vl,rfl,M⟩:=R;have⟨dv,dx,dy,_⟩:=M.all;refine ab ?_;refine RO.aW (v:=vl) (RO.dO U 1 (λH7 U=>ab ?_)) (hc:=D 0 _ rfl);have U:=U.tail (t:=tB Kd q7 [aN t,.bool (I==0)]);refine Ru.Ad (ts:=[_,_]) U ⟨rfl,_,vl,o,?_,rfl⟩;rw[aeY,aZ i1];exact M
  refine ab ?_;refine Ru.bx (ts:=[_,_]) U.tail ⟨rfl,λj hj dz=>?_⟩;by_cases e:j=k;·subst e;rw[z];simpa using h0
  exact eC j hj aa
 .obtain⟨rfl,eC⟩:=hJ;refine ab ?_;refine RO.dO U 0 (λH5 U=>ab ?_);refine Ru.jf (M:=[dm]) (ts:=[_,_]) (U.bO (ahy (l₁:=[_,_]))) λp U=>⟨[.bj],⟨⟨_,_,rfl,U.one 0⟩,trivial⟩,d1 p .bj ?_ U.gr⟩;rw[jH,MN eC];exact .inl ⟨rfl,rfl,rfl⟩
 obtain⟨rfl,t,v,ht,hv,rfl⟩:=hD;refine RJ.rQ (RJ.jf (M:=[dm]) (ts:=[_,_]) (.inr rfl) (U.bO (ahy (l₁:=[_,_]))) λp U=>⟨[v],⟨⟨_,_,rfl,U.one 0⟩,trivial⟩,d1 p v ?_ U.gr⟩);rw[jH,ht];exact hv
end
theorem adw(T:Tb ac)(hs:fx (Q.get W) e){es:List aV}(he:Q.get W=.map es F)(k:∀i j,ak Q i [tM true j λx=>x∈e]->X (.map j) i):YN ac WZ [.map W] Q X:=by
 refine YF.code T.Zt aC (au ?_);refine RO.eq (t:=false) (au ?_) (ht:=rfl);have hg:zC [.iface dR (.map W)] Q=some (.iface dR (.map Q.next),Q.new (.map es F)):=by simp only[zC,he]
 refine RO.cl (YF.ji T.aaL hg ?_);refine RO.typeAssert (u:=dR) (v:=.map Q.next) rfl rfl ?_;refine au ?_;have h:fx (.map es F) e:=by rw[<-he];exact hs
 exact Ru.aL (k _ _ ((ak.bM Q).Mf (S:=λx=>x∈e) (ex:=true) h (λ_=>aiY) λ_=>⟨es,F,rfl⟩))
theorem GH(T:Tb ac)(hs:fx (Q.get W) ks)(he:∃es I,Q.get W=.map es I)(hl:dh Q e s)(y:e.length<=1000000)(p:∀n j S,(∀x,S x↔x∈e\/x∈ks/\x≠v)->ak Q n [tM true j S]->X (.map j) n):YN ac KE [.map W,aI v,s] Q X:=by
 have⟨z,_,_,B⟩:=hl.all;have⟨es,cc,he⟩:=he;refine YF.code T.Y6 aC (au ?_);refine RO.cl (adw T hs he λD j U=>au ?_);refine RO.eq (t:=false) (au ?_) (ht:=rfl);refine RO.acp U 0 (z:=v) (λE U=>au ?_);refine Ru.nm λr M t o=>Ru.bH o (up (P:=λk=>∀m S,(∀x,S x↔x∈e.take k\/x∈ks/\x≠v)->ak Q m [tM true j S]->Ru ac _ r ([(pH,aN k)]++pk M [p7,lq,lr]) m) e.length (λk F u m S i U=>?_) 0 aa _ _ (λx=>by simp) U);subst t;subst o;refine Ru.loop (au ?_);refine Ru.cond (λl=>?_) (λl=>?_)
 .refine au ?_;refine RO.fA U.gr hl (λG o1 hj C=>au ?_) (j:=k);refine RO.Mg U 0 (z:=e[k]) (λw U=>au ?_);exact Ru.wk (u (k+1) aa aa w _ (λx=>by
   rw[i,<-ahb l,ac6,abt];constructor
   .rintro(h|h|h);·exact .inl (.inr h)
    .exact .inl (.inl h)
    exact .inr h
   rintro((h|h)|h);·exact .inr (.inl h)
   .exact .inl h
   exact .inr (.inr h)) U)
 refine Ru.exitTo ?_;rw[aho aa]at i;refine au ?_;exact Ru.aL (p m j S i U)
end
section
section
variable{H:ai}
theorem yz(T:Tb ac)(U:ak Q H l)(i:Nat)(hi:l[i]?=some (tM true W a))(hl:dh H e s)(f:e.length<=1000000)(h:∀b c d,(∀x,d x↔x∈e\/a x/\x≠v)->ak Q b (tM true c d::l)->X (.map c) b):YN ac KE [.map W,aI v,s] H X:=by have⟨⟨k,hs,j⟩,he,_⟩:=U.kW i hi;refine GH T hs (he rfl) hl f λb c d h1 g=>h b c d (λx=>?_) (U.cH g);rw[h1,j]
theorem GI:∀(l:List Int)(x:Int),x∈eL l↔x∈l
 |[],x=>by simp[eL]
 |y::l,x=>by
  have h:∀(z:Int)(l:List Int),x∈lj z l↔x=z\/x∈l:=by
   intro z l;induction l with
   |nil=>simp[lj]
   |cons a l b=>
    simp only[lj];split
    .simp only[ac2,b];constructor
     .rintro(h|h|h);·exact .inr (.inl h)
      .exact .inl h
      exact .inr (.inr h)
     rintro(h|h|h);·exact .inr (.inl h)
     .exact .inl h
     exact .inr (.inr h)
    simp
  simp only[eL,h,GI l,ac2]
theorem Ng:∀l:List Int,(eL l).length=l.length
 |[]=>rfl
 |y::l=>by
  have h:∀(z:Int)(l:List Int),(lj z l).length=l.length+1:=by intro z l;induction l with|nil=>rfl|cons a l b=>simp only[lj];split<;>simp[b]
  simp only[eL,h,Ng l,ahK]
theorem Nh:∀l:List Int,l.Nodup->(eL l).Pairwise (·<·)
 |[],_=>ai4
 |y::l,k=>by
  have⟨h1,h2⟩:=ahT.1 k;have g:=Nh l h2;have e:y∉eL l:=by rw[GI];exact h1
  simp only[eL];generalize eL l=m at*;clear k h1 h2;induction m with
  |nil=>simp[lj]
  |cons a m f=>
   have⟨i,n⟩:=aiG.1 g;simp only[ac2,not_or]at e;simp only[lj];split
   .rename_i d;rw[li,decide_eq_true_eq]at d;refine aiG.2 ⟨λb hb=>?_,f n e.2⟩;have:b=y\/b∈m:=by
     clear f g i n e d;induction m with
     |nil=>simpa[lj]using hb
     |cons c m j=>
      simp only[lj]at hb;split at hb
      .rcases ac2.1 hb with h|h;·exact .inr (h▸acj ..)
       exact(j h).imp id (ab8 _)
      exact ac2.1 hb
    rcases this with rfl|h;·exact d
    exact i b h
   rename_i d;rw[li,Bool.not_eq_true,decide_eq_false_iff_not]at d;refine aiG.2 ⟨λb hb=>?_,g⟩;rcases ac2.1 hb with rfl|h;·have:=e.1;omega
   have:=i b h;have:=e.1;omega
theorem adx(T:Tb ac)(U:ak Q H l)(i:Nat)(hi:l[i]?=some (tM p W a))(r:∀b:List Int,b.Nodup->(∀x,x∈b↔a x)->b.length<=1000)(j:∀(H':ai)(v:AV)(t:List Int),(∀x,x∈t↔a x)->t.Pairwise (·<·)->ak Q H' (tR 1 (t.map aI) t.length v::l)->X v H'):YN ac KS [.map W] H X:=by
 have⟨⟨b,hs,f⟩,_,_⟩:=U.kW i hi;have⟨_,m⟩:=vF hs;have d:=hs.1;have h:=r b d f;have e:∀x,x∈eL b↔a x:=λx=>by rw[GI,f]
 cases b with
 |nil=>
  refine YF.ji (v:=.bj) (H':=H) T.Fq (by simp[zB,m]) (j H .bj [] (λx=>?_) ai4 ?_);·rw[<-f]
  exact(U.mZ 3 1).as 0 rfl λs g=>tS.iu g
 |cons k b=>have hb:aih (k::b).length 1000=true:=ahV h;have c:=Ng (k::b);refine YF.ji (v:=.slice H.next 0 (k::b).length (k::b).length false) (H':=H.new (.cells (cr ((eL (k::b)).map λn=>.int 3 n)) (k::b).length 3 true [] 0)) T.Fq (by simp only[zB,aie,ah8,m,hb,bg]) (j _ _ (eL (k::b)) e (Nh _ d) ?_);have o:=cO.new (H:=H) (e:=3) (size:=1) (n:=(k::b).length) (vs:=(eL (k::b)).map aI) (by rw[ahs,c];simp) false true;rw[aiE]at o;have:=(U.push (aR.new H _) (t:=tS 3 1 ((eL (k::b)).map aI) (k::b).length true (.slice H.next 0 (k::b).length (k::b).length false)) o (rS H)).as 0 rfl λs g=>tS.iu g;rw[c];exact this
end
def ady:bw:=(.seq (.region [O p4 (.bf (T p0)),O p5 (.iY (T p4)),O p6 (.arith .sub 3 (T p5) (I 3 1)),O p2 (.bf (I 3 0)),O p3 (.bf (T p6))]) (.block 0 (.loop (.seq (.seq (.region [O p7 (.bf (T p2)),O p8 (.bf (T p3)),O p9 (.arith .lss 3 (T p7) (T p8))]) (.cond (T p9) .skip (.exit 0))) (.seq (.block 1 (.region [O iF (.bf (T p0)),O km (.bf (T p2)),O kU (.bf (T p0)),O lq (.bf (T p3)),O lr (.bf (T p0)),O pH (.bf (T p3)),O rT (.dH 1 (T lr) (T pH)),O rU (.aW (T rT)),O pI (.bf (T p0)),O tw (.bf (T p2)),O rV (.dH 1 (T pI) (T tw)),O qH (.aW (T rV)),O qI (.dH 1 (T iF) (T km)),N (.store 1 (T qI) (T rU)),O qJ (.dH 1 (T kU) (T lq)),N (.store 1 (T qJ) (T qH))])) (.region [O dS (.bf (T p2)),O eD (.arith .add 3 (T dS) (I 3 1)),O gQ (.bf (T p3)),O iS (.arith .sub 3 (T gQ) (I 3 1)),O p2 (.bf (T eD)),O p3 (.bf (T iS))]))))))
theorem adz(hi:o<B.length)(hj:b<B.length):((B.set o s).set b u).getD F .bQ=if F=b then u else if F=o then s else B.getD F .bQ:=by rw[dA (by simpa using hj),dA hi]
theorem adA(t:ac b=.code 28 [] ady){n:Nat}(m:B.length=n)(h0:0<n)(G:n<1000000)(hv:∀v∈B,v.cY=true/\v.cells=[v]/\v.bk=true)(U:ak Q w (tS F 1 B n true (.slice W 0 n o p)::l))(u:∀r,ak Q r (tS F 1 B.reverse n true (.slice W 0 n o p)::l)->X (gC []) r):YN ac b [.slice W 0 n o p] w X:=by
 have f:∀x,x<n->(B.getD x .bQ).cY=true/\(B.getD x .bQ).cells=[B.getD x .bQ]/\(B.getD x .bQ).bk=true:=λx e=>by rw[aZ aa];exact hv _ (abO _)
 refine YF.code t aC (au ?_);refine RO.arith (v:=aN (n - 1)) (au ?_) (hv:=me (k:=n) aa aa);refine Ru.nm λS M y s=>Ru.bH s (up (P:=λk=>∀i a,a.length=n->(∀x,x<n->a.getD x .bQ=if x<k\/n<=x+k then B.getD (n - 1 - x) .bQ else B.getD x .bQ)->ak Q i (tS F 1 a n true (.slice W 0 n o p)::l)->Ru ac _ S ([(p2,aN k),(p3,aN (n - 1 - k))]++pk M [p0]) i) (n - 1) (λk I z i a d e U=>?_) 0 aa _ B m (λx e=>by rw[an aa]) U);subst y;subst s;refine Ru.loop (au ?_);refine Ru.cond (λj=>?_) (λj=>?_)
 .have g:∀x,x<n->(a.getD x .bQ).cY=true/\(a.getD x .bQ).cells=[a.getD x .bQ]/\(a.getD x .bQ).bk=true:=λx c=>by
   rw[e x c];split;·exact f _ aa
   exact f _ c
  have h:∀x,x<n->a[0+x*1]?=some (a.getD x .bQ):=λx c=>by rw[show 0+x*1=x by omega,aZ aa];simp
  have⟨J,L,a3⟩:=g k aa;have⟨b1,b2,N⟩:=g (n - 1 - k) aa;refine ab ?_;refine RO.cJ U 0 (hv:=h (n - 1 - k) aa) (ab ?_);refine RO.cJ U 0 (hv:=h k aa) (ab ?_);refine RO.vr U 0 d (λO U=>ab ?_) (k:=k);refine RO.vr (vs:=a.set k (a.getD (n - 1 - k) .bQ)) (n:=n) U 0 (by rw[air];exact d) (λC U=>?_) (k:=n - 1 - k) (ho:=by rw[air];omega);refine ab ?_;refine RO.arith (v:=aN (n - 1 - (k+1))) ?_ (hv:=by rw[show n - 1 - (k+1)=n - 1 - k - 1 by omega];exact me (k:=n - 1 - k) aa aa);refine au ?_;have D:∀x,x<n->((a.set k (a.getD (n - 1 - k) .bQ)).set (n - 1 - k) (a.getD k .bQ)).getD x .bQ=if x<k+1\/n<=x+(k+1)then B.getD (n - 1 - x) .bQ else B.getD x .bQ:=λx c=>by
   rw[adz aa aa];by_cases h1:x=n - 1 - k;·rw[aF h1,aF aa,e k aa,an aa,h1];congr 1;omega
   rw[an h1];by_cases h2:x=k;·rw[aF h2,aF aa,e _ aa,an aa,h2]
   rw[an h2,e x c];by_cases h3:x<k\/n<=x+k;·rw[aF h3,aF aa]
   rw[an h3,an aa]
  have E:((a.set k (a.getD (n - 1 - k) .bQ)).set (n - 1 - k) (a.getD k .bQ)).length=n:=by simpa using d
  exact Ru.wk (z (k+1) aa aa C _ E D U)
 refine Ru.exitTo (au ?_);have F:a=B.reverse:=by
  apply ain (by simp[d,m]);intro x h1 h2;have h3:=e x aa;rw[aZ h1]at h3;rw[h3,List.getElem_reverse];split;·rw[aZ aa];congr 1;omega
  rw[aZ aa];congr 1;omega
 subst F;exact Ru.aq (vs:=[]) trivial (u _ U)
end
end
end Go.al.R
end
