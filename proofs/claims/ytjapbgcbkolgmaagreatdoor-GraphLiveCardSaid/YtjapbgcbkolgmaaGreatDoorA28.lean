/- A part. No conditions. -/
import Derived.Test.YtjapbgcbkolgmaaGreatDoorA27
import Derived.Test.YtjapbgcbkolgmaaGreatDoorA26
set_option linter.all false
set_option maxHeartbeats 16000000
open List renaming replicate->aeN,range->agA
open List.Perm renaming swap->agm,cons->agz
open Eq renaming mpr->ahm
open Prod renaming fst->aho
noncomputable section
namespace Go.al.R
section
variable{ac:Nat->aX}
section
theorem ado{g:G.be}{o:List bK}(h:∀j(hj:o.length - 1 - j<o.length),j<o.length->o[o.length - 1 - j].2≠0):kU g o=none:=by
 unfold kU;rw[List.find?_eq_none.2];·rfl
 intro x e;obtain⟨i,hi,rfl⟩:=afr (ag3.1 e);have:=h (o.length - 1 - i) ab ab;simp only[show o.length - 1 - (o.length - 1 - i)=i by omega]at this;simpa using this
theorem adp{g:G.be}{o:List bK}{k:Nat}(f:o.length - 1 - k<o.length)(e:k<o.length)(h:∀j(hj:o.length - 1 - j<o.length),j<k->o[o.length - 1 - j].2≠0)(h0:o[o.length - 1 - k].2=0):kU g o=some ((bm g o[o.length - 1 - k].1.toNat).aB.go.getD 1 default).block:=by
 unfold kU;rw[(List.find?_eq_some_iff_getElem (b:=o[o.length - 1 - k])).2];·rfl
 refine⟨by simpa using h0,k,by simpa using e,by rw[List.getElem_reverse],λj hj=>?_⟩;rw[List.getElem_reverse];simpa using h j ab hj
abbrev OpR:bK->List AV->Prop:=λo cs=>cs=[aI o.1,aU o.2]
section
variable{g:G.be}{c d:AV}{a:af}{H:ah}{come:List Bool}{os:List (List bK)}{b:List AV}
theorem adr(T:Tb ac)(hB:G.Sm g)(hE:fK g)(o:GX g H a c d come os b)(D:dw g come os){b0:Nat}(hb:come.getD b0 false=true){K:KT}(h:∀f,aZ H f->K (match kU g (os.getD b0 [])with|some t=>.tuple [aI t,.bool true]|none=>.tuple [aI (-1),.bool false]) f):YN ac WM [.aE a 0,aN b0] H K:=by
 have aw:=hB.nb;have I:=D.lt hb;have p:b0<os.length:=by rw[D.ol];exact I
 have⟨Y,J⟩:=hE.oJ (D.eh b0 hb);have L:os.getD b0 []=os[b0]:=bB p _;rw[L]at h Y J;have hs:=o.iZ.bz b0 p;have⟨M,N,O,ax⟩:=hs.all;have s:=o.iZ.lt;have P:=o.iZ.bm;obtain⟨ov,Q,u⟩:=o.iZ.oJ;have⟨ay,_,_,_⟩:=u.all;have⟨a1,_,_,_⟩:=o.bl.all;refine YF.code T.ZC aF ?_;refine au ?_;refine RO.dp (aq.ct H) λH1 z U=>?_;refine RO.eL U λH2 A U=>?_;refine RO.eL U λH3 B U=>?_;refine ai ?_;refine RO.bi ?_ (v:=ov) (hc:=by rw[U.gr.bx s];exact Q);refine ai ?_;refine RO.AN U.gr u (λq8 o8 a2 _=>?_) (j:=b0);refine ai ?_;refine RO.cl (Oj T.ZZ bo M N O λH4 q hl=>?_);have U:=U.eO hl;refine ai ?_;refine Ru.wk (L:=[(dR,.func Xb [] [.aE q 0]),(p2,.aE z 0),(p4,.aE A 0),(p5,.aE B 0)]) ?_;have U:aq H H4 ([tB G4 q [b.getD b0 .b9]]++[tB 4 B [.bool false],tB 3 A [aI 0],tB j6 z [.aE a 0]]++[]):=U;refine Ru.so (J:=λk ts=>ts=[tB 4 B [.bool false],tB 3 A [aI 0],tB j6 z [.aE a 0]]/\∀j(hj:os[b0].length - 1 - j<os[b0].length),j<k->os[b0][os[b0].length - 1 - j].2≠0) (Dn:=λj ts=>j=.ret/\∃t,kU g os[b0]=some t/\ts=[tB 4 B [.bool true],tB 3 A [aI t],tB j6 z [.aE a 0]]) U (Oi (R:=OpR) (agg:=true) (size:=2) (la:=os[b0]) (sv:=b.getD b0 .b9) (e:=G4) (nt:=19) T.aad bo ab (λh=>by cases h) (λb3 cs h=>by cases h;rfl)) (λH2 hg=>jP.r ((U.gr.trans hg).sl hs)) ⟨rfl,λj _ hj=>absurd hj ab⟩ (λk args ws h=>by obtain⟨_,_,_,_,rfl⟩:=h;rfl) (λk ts us f C U=>jP.r (U.gr.sl hs)) (λk args ws ts us l o1 o2 f hk R C U=>?_) (λf S E C U=>?_) (λj f S E hj hD U=>?_)
 .obtain⟨rfl,v,cs,V,rfl⟩:=R;obtain⟨rfl,eJ⟩:=C;have W:=adq v;generalize i:os[b0][os[b0].length - 1 - k]=oo at*;obtain⟨Z,m⟩:=oo;subst V;refine ai ?_;refine RO.ff U λH5 q7 U=>?_;refine ai ?_;refine Ru.dS (xs:=[_,_,_,_]) U λH6 U=>?_;refine ai ?_;refine Ru.cond (λ(h0:m=0)=>?_) (λ(h0:¬m=0)=>?_)
  .obtain⟨g1,g2,F⟩:=Y.ok _ W;simp only at g1 g2 F;obtain⟨t,rfl⟩:∃t:Nat,Z=(t:Int):=⟨Z.toNat,ab⟩;rw[afs]at F;have w:t<g.aj.length:=ab;have g4:g.aj[t].aB.go.length=3:=by rw[<-F,bB w]
   refine ai ?_;refine RO.bi ?_ (v:=c) (hc:=by rw[U.gr.bx s];exact P);refine ai ?_;refine RO.bY U.gr o.bl (λq9 o9 c9 a6 X a8 hat _=>?_) (j:=t);obtain⟨vp,vs,jc,rfl,_,_,va,vk,vg,rfl,_,_,x⟩:=X;have⟨a',_,_,_⟩:=x.all;refine ai ?_;refine RO.bi (v:=vg) ?_ (hc:=hat 6 _ rfl);refine RO.bY U.gr x (λba bb bd ag y av n _=>?_) (j:=1) (hj:=by omega);obtain⟨ve,rfl,_⟩:=y;refine ai ?_;refine RO.bi ?_ (hc:=n 0 _ rfl);refine RO.ez U 2 (λH7 U=>?_);refine RO.ez U 1 (λH8 U=>?_);refine ai ?_;have U:=U.tail (t:=tB G3 q7 [aN t,aU m]);refine Ru.DV (ts:=[_,_,_]) U ⟨rfl,_,adp v hk eJ (by rw[i];exact h0),?_⟩;rw[i];simp only[bm,afs,bB w];rw[bB ab];rfl
  refine ai ?_;refine Ru.bw (ts:=[_,_,_]) U.tail ⟨rfl,λj hj bv=>?_⟩;by_cases e:j=k;·subst e;rw[i];exact h0
  exact eJ j hj ab
 .obtain⟨rfl,eJ⟩:=C;refine ai ?_;refine RO.ez U 1 (λH5 U=>?_);refine RO.ez U 0 (λH6 U=>?_);refine ai ?_;rw[ado eJ]at h;refine Ru.kS (M:=[E]) (ts:=[_,_,_]) (U.cJ (af6 (l₁:=[_,_,_]))) λf U=>⟨[aI (-1),.bool false],⟨⟨_,_,rfl,U.one 1⟩,⟨_,_,rfl,U.one 0⟩,trivial⟩,h f U.gr⟩
 obtain⟨rfl,t,ht,rfl⟩:=hD;rw[ht]at h;exact RJ.rL (RJ.kS (M:=[E]) (ts:=[_,_,_]) (.inr rfl) (U.cJ (af6 (l₁:=[_,_,_]))) λf U=>⟨[aI t,.bool true],⟨⟨_,_,rfl,U.one 1⟩,⟨_,_,rfl,U.one 0⟩,trivial⟩,h f U.gr⟩)
structure Oq(g:G.be):Prop where
 fv:FV g g.bc.toNat
 ne:0<g.aj.length
 first:(g.aj.getD 0 default).i4=[]
structure Vd(g:G.be):Prop where
 fw:yU g
 Iz:qN g
 nF:fu g
 iM:jC g=false
 eh:fK g
 Em:∀come os,dw g come os->qP g come os
theorem Vd.sm(V:Vd g):G.Sm g:=V.fw.sm
theorem Vd.gv(V:Vd g):oM g:=Ij V.nF
theorem fu.fm(h:fu g)(e:g.bc<=6000):Oq g:=⟨⟨h.p0,h.p1,e,by have:=h.p0;have:=h.p1;omega⟩,h.ne,h.first⟩
theorem Vd.fm(V:Vd g):Oq g:=V.nF.fm (by have:=(AX V.fw V.iM).2;omega)
theorem ads(h:oM g):∀f∈g.aj,∀p∈cK f,0<=p.1/\p.1<g.bc:=λf hb p e=>by have:=h.uz f hb p e;have:=h.p0;omega
theorem adt(e:oM g):NK g:=by have h0:=Ii e.v0;refine⟨ab,λt h1 h2=>?_⟩;obtain⟨i,p,hi,f⟩:=e.all t h1 h2;have:=e.at hi f;rw[afs]at this;exact⟨i,hi,by rw[this]⟩
theorem adu(h:fu g):∀i∈g.aj,∀p∈gw i,0<=p.1/\p.1<g.bc:=λi hb p e=>by obtain⟨k,_,_,f⟩:=N7 e;exact AU h hb f
theorem fu.shF(h:fu g):pG g:=⟨h.sh.ne,h.sh.t3,λf hb e he=>by have:=h.sh.rg f hb e he;omega⟩
theorem dw.eq(i:fK g){e:List Bool}{f:List (List bK)}(h:dw g come os)(j:dw g e f){k:Nat}(hb:come.getD k false=true):e.getD k false=true/\f.getD k []=os.getD k []:=j.qR i (h.eh k hb)
theorem iF.IA(l:fK g){e:List Bool}{f:List (List bK)}(h:dw g come os)(m:dw g e f){p o:Nat}(n:iF (wW g os) p o):come.getD o false=true/\iF (wW g f) p o:=by induction n with|zero i=>exact⟨h.c0,.zero i⟩| @step q x _ k i j=>refine⟨h.lC j.1 k,.step j.2 ?_ i⟩;rw[wW,(h.eq l m j.1).2];exact k
theorem qP.IA(j:fK g){f:List Bool}{i:List (List bK)}(h:dw g come os)(k:dw g f i)(l:qP g come os):qP g f i:=by
 have e:∀x,f.getD x false=true->come.getD x false=true/\i.getD x []=os.getD x []:=λx hb=>by have h1:=(k.eq j h hb).1;exact⟨h1,(h.eq j k h1).2⟩
 refine⟨λx hb m=>?_,λx hb n=>?_,λx hb p o=>?_⟩;·obtain⟨h1,h2⟩:=e x hb;rw[h2];exact l.en x h1 m
 .obtain⟨h1,h2⟩:=e x hb;rw[h2];exact l.rt x h1 n
 obtain⟨h1,h2⟩:=e x hb;obtain⟨t,q,r,a3⟩:=l.rd x h1 p o;refine⟨t,q,r,?_⟩;rcases a3 with a3|a3|⟨s,b1,b2,u,v⟩;·exact .inl a3
 .exact .inr (.inl a3)
 exact .inr (.inr ⟨s,b1,b2,(h.eq j k u).1,λw=>v (iF.IA j k h w).2⟩)
def adw(g:G.be)(e:Int):Prop:=e=5/\jC g=true\/e=4/\jC g=false/\¬fu g\/e=9/\jC g=false/\fu g/\¬mI g
theorem adx(T:Tb ac)(x:yU g)(F:qN g){cs:List AV}(hg:gu H g cs){K:KT}(M:∀s a c d come os b,Vd g->aZ H s->GX g s a c d come os b->dw g come os->K (.tuple [.aE a 0,aI 0]) s)(y:∀s e,¬Vd g->adw g e->aZ H s->K (.tuple [.kn,aI e]) s):YN ac Mg [.agg cs] H K:=by
 have L:=hg.one;have u:=x.sm;obtain⟨i,rfl,bW⟩:=hg;refine YF.code T.Zf aF ?_;refine au ?_;refine RO.dp (aq.ct H) λP q U=>?_;refine ai ?_;refine RO.dj U 0 ?_;refine RO.cl (abC T (cs:=[.str g.i7,aI g.i4,aI g.bc,i]) ⟨i,rfl,cY.block.lx U.gr bW⟩ u λQ A=>?_);have U:=U.cq A;cases f:jC g with
 |true=>refine ai ?_;exact Ru.mz (y _ 5 (λV=>by have:=V.iM;rw[f]at this;cases this) (.inl ⟨rfl,f⟩) U.gr)
 |false=>
  obtain⟨p,O⟩:=AX x f;refine ai ?_;refine RO.dj U 0 ?_;refine RO.cl (abo T (cs:=[.str g.i7,aI g.i4,aI g.bc,i]) u F (by have:=x.nm;omega) ab ⟨i,rfl,cY.block.lx U.gr bW⟩ λR W B r=>?_);rw[acG u]at r;have U:=U.cq B;cases W with
  |false=>
   have G:¬fu g:=λh=>by have:=r.2 h;cases this
   refine ai ?_;exact Ru.mz (y _ 4 (λV=>G V.nF) (.inr (.inl ⟨rfl,f,G⟩)) U.gr)
  |true=>
   have n:=r.1 rfl;have z:=Ij n;refine ai ?_;refine RO.dj U 0 ?_;refine RO.cl (abX T u n.shF ab (cs:=[.str g.i7,aI g.i4,aI g.bc,i]) ⟨i,rfl,cY.block.lx U.gr bW⟩ (λN a c d come os b l t I j=>?_) (λN a l C D E=>?_))
   .refine ai ?_;refine RO.cl (acs T u t I j z.v0 ab (ads z) (adu n) (adt z) λJ W k v=>?_);cases W with
    |true=>have m:=v.1 rfl;refine ai ?_;exact Ru.mz (M J a c d come os b ⟨x,F,n,f,t,λc2 o2 h2=>m.IA t j h2⟩ ((U.gr.trans l).trans k) (I.cq k) j)
    |false=>
     have m:¬qP g come os:=λh=>by have:=v.2 h;cases this
     refine ai ?_;exact Ru.mz (y _ 9 (λV=>m (V.Em come os j)) (.inr (.inr ⟨rfl,f,n,λh=>m (N8 n p h t z j)⟩)) ((U.gr.trans l).trans k))
   refine ai ?_;refine RO.cl (adn T C D λJ k=>?_);have w:¬fK g:=λt=>by obtain⟨W,o,S,h1,h2,h3⟩:=E;exact h3 (t.DZ h1 h2)
   refine ai ?_;exact Ru.mz (y _ 9 (λV=>w V.eh) (.inr (.inr ⟨rfl,f,n,λh=>w (N9 n p h)⟩)) ((U.gr.trans l).trans k))
theorem ady(T:Tb ac)(V:Vd g){cs:List AV}(hg:gu H g cs){K:KT}(f:∀e a c d come os b,aZ H e->GX g e a c d come os b->dw g come os->K (.tuple [.aE a 0,aI 0]) e):YN ac Mg [.agg cs] H K:=adx T V.fw V.Iz hg (λe a c d come os b _=>f e a c d come os b) λ_ _ h=>absurd V h
theorem adz(T:Tb ac)(V:Vd g){cs:List AV}(hg:gu H g cs){fv:AV}(o:fv.bC=true){K:KT}(m:∀f a c d come os b,aZ H f->GX g f a c d come os b->dw g come os->YF ac fv [.aE a 0] f λv i=>v.bC=true/\K (.tuple [v,aI 0]) i):YN ac Wj [.agg cs,fv] H K:=by have l:=hg.one;obtain⟨e,rfl,bW⟩:=hg;refine YF.code T.Y6 aF ?_;refine au ?_;refine RO.dp (aq.ct H) λr q U=>?_;refine ai ?_;refine RO.dj U 0 ?_;refine RO.cl (ady T V (cs:=[.str g.i7,aI g.i4,aI g.bc,e]) ⟨e,rfl,cY.block.lx U.gr bW⟩ λi a c d come os b j n k=>?_);refine ai ?_;refine RO.cl ((m i a c d come os b (U.gr.trans j) n k).mono λv s h=>?_);obtain⟨p,h⟩:=h;refine ai ?_;exact Ru.mz h
end
end
section
def jF(e:af)(n:Nat)(vs:List AV)(a:Nat->af)(aA:List Nat)(S:Nat->Int->Prop):List Th:=tS Me 1 vs n true (.slice e 0 n n true)::aA.map λb=>tM false (a b) (S b)
structure y9(n:Nat)(vs:List AV)(ids:Nat->af)(aA:List Nat):Prop where
 len:vs.length=n
 nd:aA.Nodup
 bz:∀b∈aA,b<n/\vs.getD b .b9=.map (ids b)
def ee(S:Nat->Int->Prop)(b:Nat)(P:Int->Prop):Nat->Int->Prop:=λx=>if x=b then P else S x
section
variable{n:Nat}{vs:List AV}{a:Nat->af}{aA:List Nat}{S:Nat->Int->Prop}{P:Int->Prop}{e:af}{b:Nat}{xs us:List Th}
theorem Ot{l:List Nat}(j:l.Nodup){i b:Nat}(hi:i<l.length)(hb:b∈l):l.idxOf b=i↔l[i]=b:=by
 have c:=List.idxOf_lt_length_of_mem hb;constructor;·rintro rfl;exact List.getElem_idxOf c
 intro m;subst m;exact j.idxOf_getElem i hi
theorem adA(c:aA.Nodup)(hb:b∈aA):(jF e n vs a aA S).set (aA.idxOf b+1) (tM false (a b) P)=jF e n vs a aA (ee S b P):=by
 simp only[jF,List.set_cons_succ];congr 1;apply List.ext_getElem aF;intro i h1 h2;rw[afJ]at h2;rw[List.getElem_set,agw,agw];by_cases j:aA.idxOf b=i;·rw[aJ j,(Ot c h2 hb).1 j];simp[ee]
 rw[ap j];have:aA[i]≠b:=λl=>j ((Ot c h2 hb).2 l);simp only[ee,ap this]
theorem En(hb:b∈aA):(jF e n vs a aA S)[aA.idxOf b+1]?=some (tM false (a b) (S b)):=by have c:=List.idxOf_lt_length_of_mem hb;simp only[jF,af9,af0,agi c,List.getElem_idxOf c,afL]
theorem Eo{l m:List Th}{i:Nat}{t:Th}(c:l[i]?=some t):(xs++(l++m))[xs.length+i]?=some t:=by obtain⟨hi,j⟩:=af3.1 c;rw[agl ab,show xs.length+i - xs.length=i by omega,afG hi,c]
theorem adB{l m:List Th}{i:Nat}{t:Th}(c:i<l.length):(xs++(l++m)).set (xs.length+i) t=xs++(l.set i t++m):=by rw[List.set_append_right _ _ ab,show xs.length+i - xs.length=i by omega,List.set_append_left _ _ c]
theorem adC(hb:b∈aA):aA.idxOf b+1<(jF e n vs a aA S).length:=by have c:=List.idxOf_lt_length_of_mem hb;simp only[jF,afB,afJ];omega
theorem Ou{H:ah}{q:af}{n j:Nat}{vs:List AV}{v:AV}(r:Sl H 1 vs n (.slice q 0 n n true))(hj:j<n)(c:vs.getD j .b9=v):kM H (.slice q 0 n n true) (.ofNat j)=some v:=by have hl:=r.length;obtain⟨i,o,cap,ex,s,_,_,l,_⟩:=r.at ab;injection s with m p;subst m;subst p;simp only[kM,ahm agh hj,bf];rw[l j ab,<-c,bB ab]
end
theorem Ow{pl:List (Int×Int)}{bz v:Int}(i:(pl.map aho).Nodup):dQ.mS pl bz v=true↔∀p,(v,p)∈pl->bz<=p:=by
 induction pl with
 |nil=>simp[dQ.mS]
 |cons s pl m=>
  obtain⟨t,r⟩:=s;simp only[afp,agf]at i;simp only[dQ.mS];by_cases j:v=t
  .subst j;rw[aJ (by rw[eT];simp)];have l:(!jH r bz)=true↔bz<=r:=by rw[lP];simp
   rw[l];constructor
   .intro o p c;rcases acn.1 c with q|c;·injection q with _ q;rw[q];exact o
    exact absurd (afI (f:=aho) c) i.1
   intro o;exact o r (abL ..)
  rw[ap (by rw[eT];simpa using j),m i.2];constructor
  .intro o p c;rcases acn.1 c with q|c;·injection q with q _;exact absurd q j
   exact o p c
  intro o p c;exact o p (aco _ c)
def eW(g f d h pm e:af)(n b:Nat)(pl:List (Int×Int))(k:Bool)(vs:List AV)(a:Nat->af)(aA:List Nat)(S:Nat->Int->Prop):List Th:=[tB 4 d [.bool k],tB 3 g [aN b],tB rV f [.slice e 0 n n true],tB Cv h [.map pm],tI pm pl]++jF e n vs a aA S
abbrev db(g f d h:af):AV:=.func G8 [] [.aE h 0,.aE f 0,.aE g 0,.aE d 0]
section
variable{A H:ah}{n b:Nat}{vs:List AV}{a:Nat->af}{aA:List Nat}{S:Nat->Int->Prop}{g f d h pm e:af}{pl:List (Int×Int)}{k:Bool}{us:List Th}
theorem tB.Ox{H:ah}{q:af}{i:Nat}{vs:List AV}{m:List af}(l:(tB i q vs).P H m):∃c,H.get q=.cells c vs.length i true [] 0/\(∀j(l:j<vs.length),c.bp .ahp j=vs[j])/\q.am<H.next.am:=l.2.2
theorem aq.jZ(v:y9 n vs a aA)(hb:b∈aA)(U:aq A H (eW g f d h pm e n b pl k vs a aA S++us)){H2:ah}{ks:List Int}{c:ak AV}{nw2:Bool}{P:Int->Prop}(w:H.next.am<=H2.next.am)(hg:∀j,j≠a b->j≠d->H2.get j=H.get j)(h1:e9 (H2.get (a b)) ks)(y:∀x,x∈ks↔P x)(h2:H2.get d=.cells c 1 4 true [] 0)(h3:c.bp .ahp 0=.bool nw2):aq A H2 (eW g f d h pm e n b pl nw2 vs a aA (ee S b P)++us):=by
 have hat:(eW g f d h pm e n b pl k vs a aA S++us)[5+(aA.idxOf b+1)]?=some (tM false (a b) (S b)):=by simp only[eW,afu];exact Eo (xs:=[_,_,_,_,_]) (En hb)
 have C:a b≠d:=U.ne _ 0 hat rfl ab (λE D=>D.1) (λE D=>D.1);obtain⟨_,_,r⟩:=U.A0 _ hat;have s:d.am<H.next.am:=by obtain⟨_,i⟩:=U.get 0 rfl;obtain⟨_,_,_,_,_,D⟩:=i;exact D
 let m:ah:=H.set (a b) (H2.get (a b));have ga:∀j,m.get j=if j=a b then H2.get (a b)else H.get j:=λj=>ah.aC .. ;have l:aq A m ((eW g f d h pm e n b pl k vs a aA S++us).set (5+(aA.idxOf b+1)) (tM false (a b) P)):=by refine U.Iy (q:=a b) _ hat rfl (λj hj=>by rw[ga,ap hj]) (λz i=>i.1) ⟨abx.2 rfl,λj hj=>abx.1 hj,⟨ks,?_,y⟩,(λD=>by cases D),r⟩;rw[ga,aJ rfl];exact h1
 have B:(eW g f d h pm e n b pl k vs a aA S++us).set (5+(aA.idxOf b+1)) (tM false (a b) P)=eW g f d h pm e n b pl k vs a aA (ee S b P)++us:=by simp only[eW,afu];refine(adB (xs:=[_,_,_,_,_]) (adC hb)).trans ?_;rw[adA v.nd hb]
 rw[B]at l;let u:ah:=m.set d (H2.get d);have q:∀j,u.get j=if j=d then H2.get d else m.get j:=λj=>ah.aC .. ;have t:aq A u (eW g f d h pm e n b pl nw2 vs a aA (ee S b P)++us):=by
  refine l.Iy (q:=d) 0 rfl (t':=tB 4 d [.bool nw2]) rfl (λj hj=>by rw[q,ap hj]) (λz i=>i.1) ⟨abx.2 rfl,λj hj=>abx.1 hj,c,?_,λj hj=>?_,s⟩;·rw[q,aJ rfl];exact h2
  simp only[af2]at hj;obtain rfl:j=0:=ab;exact h3
 refine t.cq ⟨w,λj _=>?_⟩;rw[q,ga];by_cases o:j=d;·rw[aJ o,o]
 rw[ap o];by_cases p:j=a b;·rw[aJ p,p]
 rw[ap p];exact hg j p o
theorem adD(T:Tb ac)(E:y9 n vs a aA)(hb:b∈aA)(U:aq A H (eW g f d h pm e n b pl k vs a aA S++us)){v bz:Int}{K:KT}(G:∀r F P m,(∀x,P x↔S b x\/x=v/\∀p,(v,p)∈pl->bz<=p)->(m=true↔k=true\/∃x,P x/\¬S b x)->aq A F (eW g f d h pm e n b pl m vs a aA (ee S b P)++us)->K r F):YF ac (db g f d h) [aI v,aI bz] H K:=by
 have hat:(eW g f d h pm e n b pl k vs a aA S++us)[5+(aA.idxOf b+1)]?=some (tM false (a b) (S b)):=by simp only[eW,afu];exact Eo (xs:=[_,_,_,_,_]) (En hb)
 obtain⟨⟨ks,t,l⟩,_,X⟩:=U.A0 _ hat;obtain⟨⟨_,_,_,_⟩,u,_⟩:=U.El 4 rfl;obtain⟨w,y⟩:=U.pI 4 rfl;obtain⟨z,B⟩:=E.bz b hb;have o:∀(i:Nat){ag:Nat}{q:af}{v:AV},(eW g f d h pm e n b pl k vs a aA S++us)[i]?=some (tB ag q [v])->mr H (.aE q 0)=some v:=λi _ _ _ hi=>by obtain⟨_,I⟩:=U.get i hi;exact tB.cell I rfl
 obtain⟨Y,C⟩:=U.get 0 rfl;obtain⟨c,J,L,_⟩:=tB.Ox C;refine⟨80,Ls (pm:=pm) (s2:=.slice e 0 n n true) (kb:=3) (b:=.ofNat b) (N:=a b) (ks:=ks) (q:=k) (fz:=0) T.ZA T.ZB (o 3 rfl) (o 2 rfl) (o 1 rfl) w y (Ou (U.sl 5) z B) J (Nat.zero_le _) aF (L 0 aF) t λr M D c2 N O Q s R _ V _=>?_⟩;have j:=Ow (bz:=bz) (v:=v) u;refine G r M (λx=>x∈D) _ (λx=>?_) ?_ (aq.jZ E hb U (by rw[N];exact adv _) O Q (λx=>Iff.rfl) R V);·rw[s,l,j]
 rw[agd,ae9,j,af4];have W:eZ v ks=false↔¬S b v:=by rw[<-l,<-pi];simp
 rw[W];constructor
 .rintro(Z|⟨h1,h2⟩);·exact .inl Z
  exact .inr ⟨v,(s v).2 (.inr ⟨rfl,j.2 h1⟩),h2⟩
 rintro(Z|⟨x,h1,h2⟩);·exact .inl Z
 rcases(s x).1 h1 with Z|⟨rfl,Z⟩;·exact absurd ((l x).1 Z) h2
 exact .inr ⟨j.1 Z,h2⟩
theorem A4{i j:af}(c:i≠j):af.beq i j=false:=by cases hb:af.beq i j with|false=>rfl|true=>exact absurd (af.eS.1 hb) c
theorem adE{H:ah}{i q:af}{o:Nat}{v:AV}(j:i≠q)(c:bx H i o=some v):jY H q (.aE i o)=some v:=by simp only[jY,A4 j,abe,bD,c]
theorem Oy(z:y9 n vs a aA)(hb:b∈aA){to:Nat}(o:to∈aA){l:af}(U:aq A H (tB kO l [db g f d h]::(eW g f d h pm e n b pl k vs a aA S++us))){bz:Int}{tos:Nat}{bO:List af}:∃Y P t,(∀aa r,aa.get .ahp (sl 11)=.aE l 0->aa.get .ahp (sl 5)=.aE f 0->aa.get .ahp (sl tos)=aN to->r d=some bz->vV G8 r tos bO aa H=some (jv aa bO,Y))/\(∀x,P x↔S b x\/S to x/\∀p,(x,p)∈pl->bz<=p)/\(t=true↔k=true\/∃x,P x/\¬S b x)/\aq A Y (tB kO l [db g f d h]::(eW g f d h pm e n b pl t vs a aA (ee S b P)++us)):=by
 have ag:=U.tail;have hat:∀x,x∈aA->(tB kO l [db g f d h]::(eW g f d h pm e n b pl k vs a aA S++us))[6+(aA.idxOf x+1)]?=some (tM false (a x) (S x)):=λx s=>by simp only[eW,afu];exact Eo (xs:=[_,_,_,_,_,_]) (En s)
 obtain⟨⟨t0,u,m⟩,_,_⟩:=U.A0 _ (hat b hb);obtain⟨⟨ks,B,C⟩,_,_⟩:=U.A0 _ (hat to o);obtain⟨_,D,_⟩:=U.El 5 rfl;obtain⟨E,F⟩:=U.pI 5 rfl;obtain⟨G,I⟩:=z.bz b hb;obtain⟨J,K⟩:=z.bz to o;obtain⟨k1,k2⟩:=Oo B;obtain⟨s1,s2⟩:=Oo u;have Z:∀(i:Nat){ax:Nat}{q:af}{v:AV},(tB kO l [db g f d h]::(eW g f d h pm e n b pl k vs a aA S++us))[i]?=some (tB ax q [v])->bx H q 0=some v:=λi _ _ _ hi=>by obtain⟨_,hp⟩:=U.get i hi;exact tB.cell hp rfl
 have s:∀(i:Nat){ax:Nat}{q:af}{v:AV},(tB kO l [db g f d h]::(eW g f d h pm e n b pl k vs a aA S++us))[i]?=some (tB ax q [v])->i≠1->jY H d (.aE q 0)=some v:=λi _ _ _ hi L=>adE (U.ne i 1 hi rfl L (λaw av=>av.1) (λaw av=>av.1)) (Z i hi);have M:e≠d:=U.ne 6 1 rfl rfl ab (λaw av=>tS.sA av) (λaw av=>av.1);have N:pm≠a b:=U.ne 5 _ rfl (hat b hb) ab (λaw av=>av.1) (λaw av=>av.1);have O:a to≠pm:=U.ne _ 5 (hat to o) rfl ab (λaw av=>av.1) (λaw av=>av.1);have Q:a b≠d:=U.ne _ 1 (hat b hb) rfl ab (λaw av=>av.1) (λaw av=>av.1);have he:∀x,x<n->∀v,vs.getD x .b9=v->qC H d (.slice e 0 n n true) (.ofNat x)=some v:=λx h1 v h2=>by simp only[qC,A4 M,abe,bD];exact Ou (U.sl 6) h1 h2
 obtain⟨f6,R⟩:=U.get 1 rfl;obtain⟨c,h6,h7,_⟩:=tB.Ox R;have T:c.bp .ahp 0=.bool k:=h7 0 aF;have y:([AV.bool k]:List AV).length=1:=rfl;rw[y]at h6;refine⟨((H.set (a b) (.co (dh (eV (dQ pl bz ks) t0)))).set d (.cells (dY c 0 [.bool (k||jX t0 (dQ pl bz ks))]) 1 4 true [] 0)).skip,λx=>x∈eV (dQ pl bz ks) t0,k||jX t0 (dQ pl bz ks),λaa r V e5 et ea=>?_,λx=>?_,?_,?_⟩;·unfold vV;rw[V,e5,et];have W:mr H (.aE l 0)=some (.func G8 [] [.aE h 0,.aE f 0,.aE g 0,.aE d 0]):=Z 0 rfl;rw[W];simp only[agB,bf,s 3 rfl ab,s 0 rfl ab,s 4 rfl ab,s 2 rfl ab,ea,he to J _ K,he b G _ I,h6,A4 N,A4 O,k2,E,F,s1,T];rfl
 .show x∈eV (dQ pl bz ks) t0↔_;rw[mu,Ac,m,C,Ow D,or_comm]
 .rw[agd,GC];constructor
  .rintro(av|⟨x,h1,h2⟩);·exact .inl av
   exact .inr ⟨x,(mu ..).2 (.inl h1),λav=>h2 ((m x).2 av)⟩
  rintro(av|⟨x,h1,h2⟩);·exact .inl av
  rcases(mu ..).1 h1 with av|av;·exact .inr ⟨x,av,λh3=>h2 ((m x).1 h3)⟩
  exact absurd ((m x).1 av) h2
 have X:aq A H (eW g f d h pm e n b pl k vs a aA S++(us++[tB kO l [db g f d h]])):=by rw[<-afu];exact U.cJ (afV (l₁:=[_]))
 have w:=aq.jZ (c:=dY c 0 [.bool (k||jX t0 (dQ pl bz ks))]) (nw2:=k||jX t0 (dQ pl bz ks)) (P:=λx=>x∈eV (dQ pl bz ks) t0) (ks:=eV (dQ pl bz ks) t0) (H2:=((H.set (a b) (.co (dh (eV (dQ pl bz ks) t0)))).set d (.cells (dY c 0 [.bool (k||jX t0 (dQ pl bz ks))]) 1 4 true [] 0)).skip) z hb X (by show H.next.am<=H.next.succ.am;rw[af.eI];omega) (λj h1 h2=>by show((H.set (a b) _).set d _).get j=_;rw[ah.aC,ap h2,ah.aC,ap h1]) (by show e9 (((H.set (a b) _).set d _).get (a b)) _;rw[ah.aC,ap Q,ah.aC,aJ rfl];exact B' (pj _ u.1)) (λx=>Iff.rfl) (by show((H.set (a b) _).set d _).get d=_;rw[ah.aC,aJ rfl]) (by rw[lh];simp);rw[<-afu]at w;exact w.cJ (afV (l₂:=[_]))
end
end
section
def uF(g:G.be)(os:List (List bK))(S:Nat->Int->Prop)(b:Nat)(v:Int):Prop:=
 (∃bz,(v,bz)∈gw (bm g b)/\nD g b v bz)\/(∃w∈wW g os b,S w v/\nD g b v (bm g b).aS.length)\/∃t,kU g (os.getD b [])=some t/\S t.toNat v/\nD g b v 0
theorem IB{o P p:Int->Prop}{h j:Bool}(h0:∀x,o x->P x)(h1:∀x,P x->p x)(r:h=true↔∃x,P x/\¬o x)(q:j=true↔h=true\/∃x,p x/\¬P x):j=true↔∃x,p x/\¬o x:=by
 rw[q,r];constructor
 .rintro(⟨x,s,i⟩|⟨x,s,i⟩);·exact⟨x,h1 x s,i⟩
  exact⟨x,s,λe=>i (h0 x e)⟩
 rintro⟨x,s,i⟩;by_cases e:P x;·exact .inl ⟨x,e,i⟩
 exact .inr ⟨x,s,e⟩
theorem IC(S:Nat->Int->Prop)(b:Nat)(P Q:Int->Prop):ee (ee S b P) b Q=ee S b Q:=by funext x;simp only[ee];split<;>rfl
theorem adF{o:List (Int×Int)}(p:(o.map (·.1)).Nodup){i j:Nat}(hi:i<o.length)(hj:j<o.length)(e:o[i].1=o[j].1):i=j:=(List.getElem_inj (h₀:=by simpa using hi) (h₁:=by simpa using hj) p).1 (by simpa using e)
theorem adG{v:AV}{n:Nat}(j:lenOf v=some n):(∃i o p e,v=.slice i o n p e)\/v=.aH/\n=0:=by
 unfold lenOf at j;split at j;·injection j with j;subst j;exact .inl ⟨_,_,_,_,rfl⟩
 .injection j with j;exact .inr ⟨rfl,j.symm⟩
 cases j
theorem adH(S:Nat->Int->Prop)(b:Nat):ee S b (S b)=S:=by funext x;simp only[ee];split<;>simp_all
theorem Ep(S:Nat->Int->Prop)(b:Nat)(P:Int->Prop):ee S b P b=P:=by simp[ee]
section
variable{A H:ah}{n b:Nat}{vs:List AV}{l:Nat->af}{aA:List Nat}{S:Nat->Int->Prop}{d f a c pm k:af}{pl:List (Int×Int)}{h:Bool}{us:List Th}
theorem adI{t:Th}(T:Tb ac)(q:y9 n vs l aA)(hb:b∈aA)(U:aq A H (t::(eW d f a c pm k n b pl h vs l aA S++us))){v bz:Int}{K:KT}(s:∀r j P e,(∀x,P x↔S b x\/x=v/\∀p,(v,p)∈pl->bz<=p)->(e=true↔h=true\/∃x,P x/\¬S b x)->aq A j (t::(eW d f a c pm k n b pl e vs l aA (ee S b P)++us))->K r j):YF ac (db d f a c) [aI v,aI bz] H K:=by
 have o:aq A H (eW d f a c pm k n b pl h vs l aA S++(us++[t])):=by rw[<-afu];exact U.cJ (afV (l₁:=[_]))
 refine adD T q hb o λr j P e h1 h2 i=>s r j P e h1 h2 ?_;rw[<-afu]at i;exact i.cJ (afV (l₂:=[_]))
theorem aq.adJ{xs ys:List Th}{e:Nat}{q:af}{cs:List AV}(U:aq A H (xs++tB e q cs::ys)){o:Nat}{v:AV}(i:cs[o]?=some v):bx H q o=some v:=by obtain⟨_,j⟩:=(U.rR).get 0 rfl;exact tB.cell j i
end
section
variable{g:G.be}{vb cv:AV}{m:af}{A H:ah}{come:List Bool}{os:List (List bK)}{svs:List AV}{n b:Nat}{vs:List AV}{l:Nat->af}{aA:List Nat}{S:Nat->Int->Prop}{k:af}{us:List Th}
theorem adK(T:Tb ac)(V:Vd g)(hX:GX g A m vb cv come os svs)(hK:dw g come os)(hO:y9 n vs l aA)(hm:∀x,x∈aA↔come.getD x false=true)(hb:come.getD b false=true)(U:aq A H (jF k n vs l aA S++us)){K:KT}(ei:∀H' P h,(∀v,P v↔S b v\/uF g os S b v)->(h=true↔∃v,P v/\¬S b v)->aq A H' (jF k n vs l aA (ee S b P)++us)->K (.bool h) H'):YN ac Wu [.aE m 0,aN b,.slice k 0 n n true] H K:=by
 have hB:=V.sm;have dx:=hB.nb;have a6:=hK.lt hb;have a8:=(hm b).2 hb;have R:=hX.iZ.lt;have cd:=hX.iZ.bm;have⟨dy,_,_,_⟩:=hX.bl.all;have ag:=sB a6;have dz:=hB.bl _ ag;have cD:=hB.st _ ag;have cf:=hB.ed _ ag;have cn:=V.gv.nd _ ag;have cp:g.aj[b]=bm g b:=(bB a6 _).symm;have ds:(wW g os b).length<=12:=by have:=D2 (now:=os.getD b []) hB a6;simpa[wW,ky]using this
 refine YF.code T.Zi aF ?_;refine au ?_;refine RO.dp U λH1 d U=>?_;refine RO.dp U λH2 f U=>?_;refine RO.eL U λH3 a U=>?_;refine ai ?_;refine RO.bi ?_ (v:=vb) (hc:=by rw[U.gr.bx R];exact cd);refine ai ?_;refine RO.bY U.gr hX.bl (λq9 o9 ec d0 av d1 hat hrd=>?_) (j:=b);rw[cp]at av;generalize D:bm g b=B at*;have a1:=av.one;have bb:=av;obtain⟨Y,y,jc,rfl,d2,cx,Z,vk,vg,rfl,_,_,_⟩:=av;have⟨_,_,_,b6⟩:=cx.all;refine ai ?_;refine RO.ff U λH4 L U=>?_;refine ai ?_;refine RO.adl U λH5 pm U=>?_;refine RO.ff U λH6 c U=>?_;refine ai ?_;refine RO.dj U 2 ?_;refine RO.cl (NC T (cs:=[Y,y,aU B.aB.op,Z,.str B.aB.i7,vk,vg]) a1 rfl λH7 q hl=>?_);have U:=U.eO hl;refine ai ?_;refine Ru.wk (L:=[(Aj,.func DO [] [.aE q 0]),(p0,.aE m 0),(p4,.aE d 0),(p5,.aE f 0),(p6,.aE a 0),(p7,.aE L 0),(p8,.aE c 0)]) ?_;have U:aq A H7 ([tB de q [Y,y,aU B.aB.op,Z,.str B.aB.i7,vk,vg]]++[tB Cv c [.map pm],tI pm ((cK B).take 0)]++(tB de L [Y,y,aU B.aB.op,Z,.str B.aB.i7,vk,vg]::tB 4 a [.bool false]::tB rV f [.slice k 0 n n true]::tB 3 d [aN b]::(jF k n vs l aA S++us))):=U;refine Ru.so (J:=λej ts=>ts=[tB Cv c [.map pm],tI pm ((cK B).take ej)]) (Dn:=λ_ _=>False) U (ND T bb ab ab) (λ_ _=>trivial) rfl (λej args ws ei=>by obtain⟨rfl,_,rfl⟩:=ei;rfl) (λ_ _ _ _ _ _=>trivial) (λej args ws ts us ek o1 o2 H' hk a' hJ U=>?_) (λH' ba Q hJ U=>?_) (λj H' ba Q _ ei=>ei.elim)
 .obtain⟨rfl,aw,rfl⟩:=a';subst hJ;have b7:((cK B)[ej]).1∉((cK B).take ej).map aho:=λC=>by obtain⟨p,hp,e⟩:=afE.1 C;obtain⟨i,hi,rfl⟩:=afr hp;rw[afH]at hi;rw[List.getElem_take]at e;have:=adF cn ab aw e;omega
  refine au ?_;refine Ru.dS (xs:=[_,_]) U λH2 U=>?_;refine ai ?_;refine RO.adm U 1 b7 (λH3 U=>?_);refine ai ?_;refine Ru.bw (ts:=[_,_]) U ?_;rw[<-afK aw]
 subst hJ;rw[agT]at U;refine ai ?_;refine RO.ff (xv:=db d f a c) U λH8 u U=>?_;refine ai ?_;refine RO.dj U 4 ?_;refine RO.cl (NF T (cs:=[Y,y,aU B.aB.op,Z,.str B.aB.i7,vk,vg]) a1 λH9 qr hl=>?_);have U:=U.eO hl;refine ai ?_;refine Ru.wk (L:=[(rY,.func DM [] [.aE qr 0]),(p0,.aE m 0),(p4,.aE d 0),(p5,.aE f 0),(p6,.aE a 0),(p7,.aE L 0),(p8,.aE c 0),(eK,.aE u 0)]) ?_;have U:=((((((U.fI 3 rfl).fI 3 rfl).fI 7 rfl).fI 8 rfl).fI 8 rfl).fI 6 rfl).fI 6 rfl;have U:aq A H9 ([tB de qr [Y,y,aU B.aB.op,Z,.str B.aB.i7,vk,vg]]++(tB kO u [db d f a c]::eW d f a c pm k n b (cK B) false vs l aA S)++(tX Q (.deferred false)::tB de L [Y,y,aU B.aB.op,Z,.str B.aB.i7,vk,vg]::us)):=by rw[afu];exact U.cJ (List.Perm.append_left [_,_,_,_,_,_,_] (List.perm_append_comm_assoc [_,_] _ _))
 refine Ru.so (J:=λej ts=>∃P h,(∀x,P x↔S b x\/∃q∈(gw B).take ej,q.1=x/\∀p,(x,p)∈cK B->q.2<=p)/\(h=true↔∃x,P x/\¬S b x)/\ts=tB kO u [db d f a c]::eW d f a c pm k n b (cK B) h vs l aA (ee S b P)) (Dn:=λ_ _=>False) U (NG T bb ab (λs hs=>by have:=(cD s hs).1;omega) ab ab (λe he=>by have:=cf e he;omega)) (λ_ _=>trivial) ⟨S b,false,aF,aF,by rw[adH]⟩ (λej args ws ei=>by obtain⟨rfl,_,rfl⟩:=ei;rfl) (λ_ _ _ _ _ _=>trivial) (λej args ws ts us ek o1 o2 H' hk a' hJ U=>?_) (λH' ba E hJ U=>?_) (λj H' ba Q _ ei=>ei.elim)
 .obtain⟨rfl,aw,rfl⟩:=a';obtain⟨P,h,I,hn,rfl⟩:=hJ;refine au ?_;refine Ru.dS (xs:=tB kO u [db d f a c]::eW d f a c pm k n b (cK B) h vs l aA (ee S b P)) U λH2 U=>?_;refine ai ?_;refine RO.cl (adI T hO a8 (us:=tX ek o2::us) U λr H3 P2 F h1 h2 U=>?_);rw[Ep]at h1 h2;rw[IC]at U;refine ai ?_;refine Ru.bw (ts:=tB kO u [db d f a c]::eW d f a c pm k n b (cK B) F vs l aA (ee S b P2)) U ⟨P2,F,λx=>?_,IB (λx C=>(I x).2 (.inl C)) (λx C=>(h1 x).2 (.inl C)) hn h2,rfl⟩;rw[h1,I,<-afK aw,or_assoc];refine or_congr Iff.rfl ⟨?_,?_⟩
  .rintro(⟨q,N,ei⟩|⟨rfl,ei⟩);·exact⟨q,afD _ N,ei⟩
   exact⟨_,afW _ (abx.2 rfl),rfl,ei⟩
  rintro⟨q,N,e,ei⟩;rcases ae8.1 N with N|N;·exact .inl ⟨q,N,e,ei⟩
  rw[abx]at N;subst N;exact .inr ⟨e.symm,by rw[e];exact ei⟩
 obtain⟨P0,bd,J,cy,rfl⟩:=hJ;rw[agT]at J;refine ai ?_;refine RO.cl (HM T V.sm V.eh (hX.cq U.gr) hK hb λd3 v hl=>?_);have U:=(U.eO hl).cJ (af6 (l₁:=tB kO u [db d f a c]::eW d f a c pm k n b (cK B) bd vs l aA (ee S b P0))).symm;have⟨d4,_,_,d5⟩:=(hl.sl (e:=3) (size:=1) (sv:=v) (vs:=(wW g os b).map aN) (n:=(wW g os b).length) (full:=true) 0).all;refine ai ?_;refine Ru.nm λS0 M hS hM=>?_;refine Ru.bT hM (up (P:=λej=>∀HX P h,(∀x,P x↔P0 x\/∃w∈(wW g os b).take ej,S w x/\∀p,(x,p)∈cK B->(B.aS.length:Int)<=p)->(h=true↔∃x,P x/\¬S b x)->aq A HX (tB kO u [db d f a c]::eW d f a c pm k n b (cK B) h vs l aA (ee S b P)++tS 3 1 ((wW g os b).map aN) (wW g os b).length true v::(tX E (.deferred false)::tX Q (.deferred false)::tB de L [Y,y,aU B.aB.op,Z,.str B.aB.i7,vk,vg]::us))->Ru ac _ S0 ([(pB,aN ej)]++pk M [p0,p4,p5,p6,p7,p8,eK,qH,oD]) HX) (wW g os b).length (λej hk ih HX P h I hn U=>?_) 0 ab _ P0 bd aF cy U);subst hS;subst hM;refine Ru.loop ?_;refine au ?_;refine Ru.cond (λR=>?_) (λR=>?_)
 .refine ai ?_;have cE:=(U.rR).sl (e:=3) (size:=1) (sv:=v) (vs:=(wW g os b).map aN) (n:=(wW g os b).length) (full:=true) 0;refine RO.fO (aZ.refl _) cE (λd6 d7 dv d'=>?_) (j:=ej);refine ai ?_;have cR:(wW g os b)[ej]∈wW g os b:=adq R;have ax:=(hm _).2 (hK.lC hb cR);have bv:(wW g os b).take (ej+1)=(wW g os b).take ej++[(wW g os b)[ej]]:=(afK R).symm;have ih:=ih (ej+1) ab ab;rw[bv]at ih;clear bv;generalize(wW g os b)[ej]=to at*;obtain⟨H',P2,F,hg,h1,h2,W⟩:=Oy hO a8 ax U (bz:=.ofNat B.aS.length) (tos:=15) (bO:=zX);have c9:L≠a:=λe=>by have h8:=U.cJ (af6 (l₁:=tB kO u [db d f a c]::eW d f a c pm k n b (cK B) h vs l aA (ee S b P)++[tS 3 1 ((wW g os b).map aN) (wW g os b).length true v,tX E (.deferred false),tX Q (.deferred false)]) (l₂:=us) (a:=tB de L [Y,y,aU B.aB.op,Z,.str B.aB.i7,vk,vg])|>λei=>by simpa using ei);exact h8.ne 0 2 rfl rfl ab (λel ei=>ei.1) (λel ei=>ei.1) e
  have c':bx HX L 1=some y:=by refine aq.adJ (xs:=tB kO u [db d f a c]::eW d f a c pm k n b (cK B) h vs l aA (ee S b P)++[tS 3 1 ((wW g os b).map aN) (wW g os b).length true v,tX E (.deferred false),tX Q (.deferred false)]) (ys:=us) (by simpa using U) rfl
  refine Ru.dD (bO:=zX) (H':=H') T.aay (M:=[(p0,.aE m 0),(p4,.aE d 0),(p5,.aE f 0),(p6,.aE a 0),(p7,.aE L 0),(p8,.aE c 0),(eK,.aE u 0),(qH,v),(oD,aN (wW g os b).length),(pB,aN ej)]) (λaa G=>?_) ?_
  .refine hg aa _ (G.get (p:=sl 11) rfl rfl) (G.get (p:=sl 5) rfl rfl) (G.get (p:=sl 15) rfl rfl) ?_;simp only[G.get (p:=sl 7) (v:=.aE L 0) rfl rfl,A4 c9,abe,bD,c',afC];rcases adG b6 with⟨i,o,et,e,rfl⟩|⟨rfl,h0⟩;·rfl
   rw[h0]
  rw[Ep]at h1 h2;rw[IC]at W;have key:∀x,P2 x↔P0 x\/∃w∈(wW g os b).take ej++[to],S w x/\∀p,(x,p)∈cK B->(B.aS.length:Int)<=p:=λx=>by
   have b':∀x,S b x->P x:=λx C=>(I x).2 (.inl ((J x).2 (.inl C)));have b0:P x->P0 x\/∃w∈(wW g os b).take ej++[to],S w x/\∀p,(x,p)∈cK B->(B.aS.length:Int)<=p:=λei=>by
    rcases(I x).1 ei with ei|⟨w,O,ei⟩;·exact .inl ei
    exact .inr ⟨w,afD _ O,ei⟩
   rw[h1];constructor
   .rintro(ei|⟨ei,ay⟩);·exact b0 ei
    simp only[ee]at ei;split at ei;·exact b0 ei
    exact .inr ⟨to,afW _ (abx.2 rfl),ei,ay⟩
   rintro(ei|⟨w,O,hs,ay⟩);·exact .inl ((I x).2 (.inl ei))
   rcases ae8.1 O with O|O;·exact .inl ((I x).2 (.inr ⟨w,O,hs,ay⟩))
   rw[abx]at O;subst O;by_cases e:w=b;·subst e;exact .inl (b' x hs)
   refine .inr ⟨?_,ay⟩;simp only[ee,ap e];exact hs
  refine ai ?_;exact Ru.wk (ih H' P2 F key (IB (λx C=>(I x).2 (.inl ((J x).2 (.inl C)))) (λx C=>(h1 x).2 (.inl C)) hn h2) W)
 refine Ru.exitTo ?_;rw[afF ab]at I;refine ai ?_;have hR:∀x,(P x->S b x\/uF g os S b x)/\((∃q∈gw B,q.1=x/\∀p,(x,p)∈cK B->q.2<=p)\/(∃w∈wW g os b,S w x/\∀p,(x,p)∈cK B->(B.aS.length:Int)<=p)->P x)/\(S b x->P x):=λx=>by
  refine⟨λei=>?_,λei=>?_,λei=>(I x).2 (.inl ((J x).2 (.inl ei)))⟩
  .rcases(I x).1 ei with ei|⟨w,O,h1,h2⟩
   .rcases(J x).1 ei with ei|⟨q,N,rfl,h2⟩;·exact .inl ei
    refine .inr (.inl ⟨q.2,?_,?_⟩);·rw[D];exact N
    simp only[nD,D];exact h2
   refine .inr (.inr (.inl ⟨w,O,h1,?_⟩));simp only[nD,D];exact h2
  rcases ei with⟨q,N,ei⟩|⟨w,O,ei⟩;·exact(I x).2 (.inl ((J x).2 (.inr ⟨q,N,ei⟩)))
  exact(I x).2 (.inr ⟨w,O,ei⟩)
 have b3:∀x,uF g os S b x->P x\/∃t,kU g (os.getD b [])=some t/\S t.toNat x/\∀p,(x,p)∈cK B->0<=p:=λx ei=>by
  rcases ei with⟨bz,h1,h2⟩|⟨w,h1,h2,h3⟩|⟨t,h1,h2,h3⟩
  .refine .inl ((hR x).2.1 (.inl ⟨(x,bz),?_,rfl,?_⟩));·rw[<-D];exact h1
   simp only[nD,D]at h2;exact h2
  .refine .inl ((hR x).2.1 (.inr ⟨w,h1,h2,?_⟩));simp only[nD,D]at h3;exact h3
  refine .inr ⟨t,h1,h2,?_⟩;simp only[nD,D]at h3;exact h3
 refine RO.cl (adr T hB V.eh (hX.cq U.gr) hK hb λea ca=>?_);have U:=U.cq ca;have a2:∀HX P h,aq A HX (tB kO u [db d f a c]::eW d f a c pm k n b (cK B) h vs l aA (ee S b P)++tS 3 1 ((wW g os b).map aN) (wW g os b).length true v::(tX E (.deferred false)::tX Q (.deferred false)::tB de L [Y,y,aU B.aB.op,Z,.str B.aB.i7,vk,vg]::us))->aq A HX (fJ [E,Q]++(tB 4 a [.bool h]::(jF k n vs l aA (ee S b P)++us))):=λHX P h U=>by
  have h1:aq A HX (tB kO u [db d f a c]::tB 4 a [.bool h]::tB 3 d [aN b]::tB rV f [.slice k 0 n n true]::tB Cv c [.map pm]::tI pm (cK B)::(jF k n vs l aA (ee S b P)++(tS 3 1 ((wW g os b).map aN) (wW g os b).length true v::(tX E (.deferred false)::tX Q (.deferred false)::tB de L [Y,y,aU B.aB.op,Z,.str B.aB.i7,vk,vg]::us)))):=by simpa only[eW,agb,agq,afu]using U
  have h2:=h1.sub (.cons _ (.cons_cons _ (.cons _ (.cons _ (.cons _ (.cons _ ((agt (jF k n vs l aA (ee S b P))).append (.cons _ (.cons_cons _ (.cons_cons _ (.cons _ (agt us))))))))))));exact h2.cJ (List.perm_append_comm_assoc (tB 4 a [.bool h]::jF k n vs l aA (ee S b P)) [_,_] us)
 cases ht:kU g (os.getD b [])with
 |none=>
  refine ai ?_;refine RO.ez U 1 (λdm U=>?_);refine ai ?_;refine Ru.kS (M:=[E,Q]) (a2 _ P h U) λH' U=>⟨[.bool h],⟨⟨_,_,rfl,U.one 0⟩,trivial⟩,ei H' P h (λx=>⟨(hR x).1,λC=>?_⟩) hn U.tail⟩;rcases C with C|C;·exact(hR x).2.2 C
  rcases b3 x C with z|⟨t,z,_⟩;·exact z
  rw[ht]at z;cases z
 |some t=>
  obtain⟨_,_,_,_,b4,eb⟩:=Ea V.eh hK hb ht;have ax:=(hm _).2 b4;obtain⟨to,rfl⟩:∃to:Nat,t=(to:Int):=⟨t.toNat,ab⟩;rw[afs]at ax b4;obtain⟨H',P2,F,hg,h1,h2,W⟩:=Oy hO a8 ax U (bz:=.ofNat 0) (tos:=17) (bO:=zY);rw[Ep]at h1 h2;rw[IC]at W;refine ai ?_;refine Ru.dD (bO:=zY) (H':=H') T.aaz (M:=[(p6,.aE a 0)]) (λaa G=>?_) ?_;·exact hg aa _ (G.get (p:=sl 11) rfl rfl) (G.get (p:=sl 5) rfl rfl) (G.get (p:=sl 17) rfl rfl) rfl
  refine ai ?_;have U:=W;refine RO.iC U 1 ?_;refine RO.ez U 1 (λdm U=>?_);refine ai ?_;refine Ru.kS (M:=[E,Q]) (a2 _ P2 F U) λH' U=>⟨[.bool F],⟨⟨_,_,rfl,U.one 0⟩,trivial⟩,ei H' P2 F (λx=>?_) (IB (λx C=>(hR x).2.2 C) (λx C=>(h1 x).2 (.inl C)) hn h2) U.tail⟩;rw[h1];constructor
  .rintro(z|⟨z,X⟩);·exact(hR x).1 z
   simp only[ee]at z;split at z;·exact(hR x).1 z
   refine .inr (.inr (.inr ⟨_,ht,by rw[afs];exact z,?_⟩));simp only[nD,D];exact X
  rintro(z|z);·exact .inl ((hR x).2.2 z)
  rcases b3 x z with z|⟨t,z,X,dr⟩;·exact .inl z
  rw[ht]at z;injection z with z;subst z;rw[afs]at X;by_cases e:to=b;·subst e;exact .inl ((hR x).2.2 X)
  refine .inr ⟨?_,dr⟩;simp only[ee,ap e];exact X
end
end
theorem RO.adL{c:Cx}{s:List SI}{L:Kn}{H:ah}{d:Option af}{l:List bA}{z:Int}{x y:aL}(h:RO ac c l s (bq L d (.bool false)) H)(b:aW L x=.cC:=by exact cw)(e:aW L y=.int 3 z:=by exact cw):RO ac c (⟨d,.lookup .int (.bool false) false x y,none,[],[]⟩::l) s L H:=RO.op (λaa a=>by simp only[aD,gG,afP,abe,bD,a.gv b rfl,a.gv e rfl]) h
def cb(p:Prop):Bool:= @decide p (Classical.propDecidable p)
theorem ID{p:Prop}:cb p=true↔p:= @decide_eq_true_iff p (Classical.propDecidable p)
def A5(nv:Nat)(aA:List Nat)(S:Nat->Int->Prop):Nat:=(aA.map λb=>((agA nv).filter λ(v:Nat)=>cb (¬S b (v:Int))).length).sum
theorem IE{c:Type}{p q:c->Bool}(h:∀x,p x=true->q x=true):∀l:List c,(l.filter p).length<=(l.filter q).length|[]=>adv _|a::l=>by have e:=IE h l;cases b:p a with|true=>simp only[List.filter_cons,b,h a b,bf,afB];omega|false=>cases d:q a<;>simp only[List.filter_cons,b,d,bf,abe,bD,afB]<;>omega
theorem Oz{d:Type}{p q:d->Bool}(h:∀x,p x=true->q x=true){y:d}(f:q y=true)(g:p y=false):∀l:List d,y∈l->(l.filter p).length<(l.filter q).length
 |[],c=>by cases c
 |a::l,c=>by
  rcases acn.1 c with rfl|c;·have:=IE h l;simp only[List.filter_cons,g,f,bf,abe,bD,afB];omega
  have i:=Oz h f g l c;cases b:p a with|true=>simp only[List.filter_cons,b,h a b,bf,afB];omega|false=>cases e:q a<;>simp only[List.filter_cons,b,e,bf,abe,bD,afB]<;>omega
theorem OA{b:Type}{f g:b->Nat}:∀l:List b,(∀x∈l,f x<=g x)->(l.map f).sum<=(l.map g).sum|[],_=>adv _|a::l,h=>by have:=OA l λx c=>h x (aco _ c);have:=h a (abL ..);simp only[afp,List.sum_cons];omega
theorem OB{c:Type}{f g:c->Nat}{y:c}(e:f y<g y):∀l:List c,(∀x∈l,f x<=g x)->y∈l->(l.map f).sum<(l.map g).sum
 |[],_,b=>by cases b
 |a::l,h,b=>by
  have h1:=h a (abL ..);simp only[afp,List.sum_cons];rcases acn.1 b with rfl|b;·have:=OA l λx d=>h x (aco _ d);omega
  have:=OB e l (λx d=>h x (aco _ d)) b;omega
theorem adM{nv:Nat}{aA:List Nat}{S a:Nat->Int->Prop}(h:∀b∈aA,∀v,S b v->a b v){b:Nat}(hb:b∈aA){v:Nat}(f:v<nv)(h1:a b v)(h2:¬S b v):A5 nv aA a<A5 nv aA S:=by
 unfold A5;have c:∀x∈aA,∀w:Nat,cb (¬a x (w:Int))=true->cb (¬S x (w:Int))=true:=λx d w e=>by rw[ID]at e⊢;exact λhs=>e (h x d _ hs)
 refine OB (y:=b) ?_ aA (λx d=>IE (c x d) _) hb;refine Oz (c b hb) (y:=v) (ID.2 h2) ?_ _ (agK.2 f);cases g:cb (¬a b (v:Int))with|false=>rfl|true=>exact absurd h1 (ID.1 g)
def IF(g:G.be)(os:List (List bK))(aA:List Nat)(S:Nat->Int->Prop):Prop:=∀b∈aA,∀v,uF g os S b v->S b v
def za(g:G.be)(os:List (List bK))(S:Nat->Int->Prop):Prop:=∀b v,S b v->Lv g os b v
theorem za.iJ{g:G.be}{os:List (List bK)}{S:Nat->Int->Prop}{b:Nat}{P:Int->Prop}(h:za g os S)(c:∀v,P v->S b v\/uF g os S b v):za g os (ee S b P):=λx v a=>by
 simp only[ee]at a;split at a
 .rename_i e;subst e;rcases c v a with h1|⟨bz,h1,h2⟩|⟨w,h1,h2,h3⟩|⟨t,h1,h2,h3⟩;·exact h _ _ h1
  .exact .lV h1 h2
  .exact .lC h1 (h _ _ h2) h3
  exact .sx h1 (h _ _ h2) h3
 exact h _ _ a
theorem IF.all{g:G.be}{a:List Bool}{os:List (List bK)}{aA:List Nat}{S:Nat->Int->Prop}(k:fK g)(f:dw g a os)(c:∀x,x∈aA↔a.getD x false=true)(h:IF g os aA S){b:Nat}{v:Int}(hl:Lv g os b v):b∈aA->S b v:=by induction hl with| @lV b v bz h1 h2=>intro hb;exact h b hb v (.inl ⟨bz,h1,h2⟩)| @lC b w v i _ d e=>intro hb;exact h b hb v (.inr (.inl ⟨w,i,e ((c w).2 (f.lC ((c b).1 hb) i)),d⟩))| @sx b t v j _ d e=>intro hb;obtain⟨_,_,_,_,l,_⟩:=Ea k f ((c b).1 hb) j;exact h b hb v (.inr (.inr ⟨t,j,e ((c _).2 l),d⟩))
section
structure sE(g:G.be)(come:List Bool)(os:List (List bK))(lv:List (List Int)):Prop where
 len:lv.length=g.aj.length
 mem:∀b,come.getD b false=true->∀v,v∈lv.getD b []↔Lv g os b v
 Ik:∀b,come.getD b false=false->lv.getD b []=[]
 iM:∀b,(lv.getD b []).length<=6000
 asc:∀b,(lv.getD b []).Pairwise (·<·)
 aA:∃aA,nu g come os aA
abbrev OC:Nat->List AV->Prop:=λb cs=>cs=[aN b]
theorem OD{H:ah}{l:List Nat}{v:AV}(b:Sl H 1 (l.map aN) l.length v):cP 1 (λ_=>OC) H l v:=⟨_,b,λk a=>by rw[agU,afv (by simpa using a)];simp⟩
section
variable{g:G.be}{d f:AV}{c:af}{H:ah}{come:List Bool}{os:List (List bK)}{h:List AV}
def kV(e i j b c:af)(n:Nat)(k:AV)(l:Bool)(m:List AV)(a:Nat->af)(aA:List Nat)(S:Nat->Int->Prop):List Th:=[tB 4 j [.bool l],tB rV i [.slice b 0 n n true],tB j6 e [.aE c 0],tS 3 1 (aA.map aN) aA.length true k]++jF b n m a aA S
theorem adO(T:Tb ac)(V:Vd g)(hX:GX g H c d f come os h)(R:dw g come os){K:KT}(e6:∀H' v W p F,sE g come os W->iN W p F->aq H H' [tZ F,tS eM 1 p p.length true v]->K v H'):YN ac Wk [.aE c 0] H K:=by
 have hB:=V.sm;have ax:=hB.nb;have⟨d7,_,_,d'⟩:=hX.bl.all;have b3:=hX.iZ.bm;have a8:=hX.iZ.lt;have ea:=R.lt R.c0;refine YF.code T.Y7 aF ?_;refine au ?_;refine RO.dp (aq.ct H) λH1 G U=>?_;refine ai ?_;refine RO.bi ?_ (v:=d) (hc:=by rw[U.gr.bx a8];exact b3);refine ai ?_;refine RO.ls U (n:=g.aj.length) (λH2 A U=>?_) (hz:=by rw[io];simp);rw[io]at U;refine RO.ff U λH3 I U=>?_;refine ai ?_;refine RO.cl (Nl T V.sm V.eh (hX.cq U.gr) R λH4 C aA N hl=>?_);have U:=U.eO hl;have⟨cv,cx,cy,eb⟩:=(hl.sl 0 rfl).all;have ec:aA.length<=g.aj.length:=D4 _ _ N.nd λx hx=>R.lt ((N.mem x).1 hx);refine ai ?_;have U:aq H H4 ([tS 3 1 (aA.map aN) aA.length true C,tB rV I [.slice A 0 g.aj.length g.aj.length true],tB j6 G [.aE c 0]]++jF A g.aj.length (aeN g.aj.length .cC) (λ_=>.xH) (aA.take 0) (λ_ _=>False)):=U.cJ (agz _ (agz _ (agm ..)));refine Ru.nm λS0 M hS X=>?_;refine Ru.bT X (up (P:=λk=>∀z vs o,vs.length=g.aj.length->(∀b∈aA.take k,vs.getD b .b9=.map (o b))->(∀b,b<g.aj.length->b∉aA.take k->vs.getD b .b9=.cC)->aq H z ([tS 3 1 (aA.map aN) aA.length true C,tB rV I [.slice A 0 g.aj.length g.aj.length true],tB j6 G [.aE c 0]]++jF A g.aj.length vs o (aA.take k) (λ_ _=>False))->Ru ac _ S0 ([(qG,aN k)]++pk M [p1,p3,p4,wp,wt]) z) aA.length (λk hk ih z vs o L Y a' U=>?_) 0 ab _ _ (λ_=>.xH) aF aF (λb hb _=>by rw[bB (by simpa using hb)];simp) U);subst hS;subst X;refine Ru.loop ?_;refine au ?_;refine Ru.cond (λy=>?_) (λy=>?_)
 .refine ai ?_;refine RO.fO (aZ.refl _) (U.sl 0 rfl) (λq5 o5 ei ej=>?_) (j:=k);have ek:aA[k]<g.aj.length:=R.lt ((N.mem _).1 (adq y));refine ai ?_;refine RO.adk U λH5 qm U=>?_;refine ai ?_;refine RO.DX U 4 L (λH6 U=>?_) (k:=aA[k]);refine ai ?_;have ba:aA.take (k+1)=aA.take k++[aA[k]]:=(afK y).symm;have cE:aA[k]∉aA.take k:=λhx=>by obtain⟨i,hi,e⟩:=afr hx;rw[afH]at hi;rw[List.getElem_take]at e;have:=Nv N.nd ab y e;omega
  refine Ru.wk (ih (k+1) ab ab H6 (vs.set aA[k] (.map qm)) (λx=>if x=aA[k]then qm else o x) (by simpa using L) (λb hb=>?_) (λb hb ax=>?_) ?_)
  .rw[ba]at hb;rw[dG ab];by_cases e:b=aA[k];·rw[aJ e,aJ e]
   rw[ap e,ap e];exact Y b ((ae8.1 hb).resolve_right λe6=>e (abx.1 e6))
  .rw[ba]at ax;rw[dG ab,ap λe=>ax (by rw[e];exact afW _ (abx.2 rfl))];exact a' b hb λe6=>ax (afD _ e6)
  have U:=U.as (t':=tM false qm λ_=>False) 0 rfl λfp hp=>⟨hp.1,hp.2.1,hp.2.2.1,(λe6=>by cases e6),hp.2.2.2.2⟩;have U:=U.cJ (afV (l₁:=[_]));have e:jF A g.aj.length (vs.set aA[k] (.map qm)) (λx=>if x=aA[k]then qm else o x) (aA.take (k+1)) (λ_ _=>False)=tS Me 1 (vs.set aA[k] (.map qm)) g.aj.length true (.slice A 0 g.aj.length g.aj.length true)::((aA.take k).map (λb=>tM false (o b) λ_=>False)++[tM false qm λ_=>False]):=by
   rw[jF,ba,afS];congr 2;·exact agG λb hb=>by rw[ap λe=>cE (by rw[<-e];exact hb)]
   simp
  rw[e];exact U
 refine Ru.exitTo ?_;rw[afF ab]at Y a' U;have cd:=Y;have cf:=a';have cR:y9 g.aj.length vs o aA:=⟨L,N.nd,λb hb=>⟨R.lt ((N.mem b).1 hb),Y b hb⟩⟩;refine ai ?_;refine RO.ff U λH5 D U=>?_;have U:aq H H5 (kV G I D A c g.aj.length C true vs o aA (λ_ _=>False)++fJ []):=by rw[show fJ []=[]from rfl,agk];exact((U.fI 3 rfl).fI 3 rfl).fI 2 rfl
 refine ai ?_;refine Ru.nm λS0 M hS X=>?_;refine Ru.bT X (dn (P:=λm=>∀z O S cn D,(if cn=true then A5 g.bc.toNat aA S+1 else 0)=m->(cn=false->IF g os aA S)->za g os S->aq H z (kV G I D A c g.aj.length C cn vs o aA S++fJ O)->Ru ac ⟨mV [.tmp p2] K,O,none⟩ S0 ([(p7,.aE D 0)]++pk M [p1,p3,p4]) z) (λm ih z O S cn D c9 Z bb U=>?_) _ _ [] (λ_ _=>False) true D rfl (λe6=>by cases e6) (λ_ _ e6=>e6.elim) U);subst hS;subst X;refine Ru.loop ?_;refine ai ?_;refine Ru.eE (λB=>?_) (λB=>?_)
 .subst B;refine ai ?_;refine RO.ez U 0 (λH6 U=>?_);refine ai ?_;refine RO.cl (Oj T.Zh bo cv cx cy λH7 q hl=>?_);have U:=U.eO hl;refine ai ?_;refine Ru.wk (L:=[(t8,.func WL [] [.aE q 0]),(p1,.aE G 0),(p3,.aE I 0),(p4,C),(p7,.aE D 0)]) ?_;have U:aq H H7 ([tB eM q [C]]++kV G I D A c g.aj.length C false vs o aA S++fJ O):=U;refine Ru.so (J:=λk ts=>∃E r,(∀b∈aA,∀v,S b v->E b v)/\(r=true->∃b∈aA,∃v,E b v/\¬S b v)/\(r=false->E=S/\∀j,j<k->∀(hj:aA.length - 1 - j<aA.length),∀v,uF g os S aA[aA.length - 1 - j] v->S aA[aA.length - 1 - j] v)/\za g os E/\ts=kV G I D A c g.aj.length C r vs o aA E) (Dn:=λ_ _=>False) U (Oi (R:=OC) (agg:=false) (size:=1) (la:=aA) (sv:=C) (e:=eM) (nt:=19) T.Zz bo ab (λ_=>rfl) (λa cs e6=>by cases e6;rfl)) (λH2 hg=>OD ((U.cq hg).sl 4 rfl)) ⟨S,false,λ_ _ _ e6=>e6,(λe6=>by cases e6),λ_=>⟨rfl,λj hj=>absurd hj ab⟩,bb,rfl⟩ (λk args ws e6=>by obtain⟨_,_,_,_,rfl⟩:=e6;rfl) (λk ts us H' hJ U=>by obtain⟨E,r,_,_,_,_,rfl⟩:=hJ;exact OD (U.sl 3 rfl)) (λk args ws ts us l o1 o2 H' hk c' hJ U=>?_) (λH' dr dm hJ U=>?_) (λj H' dr dm hj hD U=>hD.elim)
  .obtain⟨rfl,bd,cs,rfl,rfl⟩:=c';obtain⟨E,r,h1,h2,h3,h4,rfl⟩:=hJ;have bv:=adq bd;have ds:=(N.mem _).1 bv;generalize dv:aA[aA.length - 1 - k]=b at*;refine au ?_;refine Ru.dS (xs:=kV G I D A c g.aj.length C r vs o aA E) U λH8 U=>?_;refine ai ?_;have U:=aq.eG (xs:=[tB 4 D [.bool r],tB rV I [.slice A 0 g.aj.length g.aj.length true],tB j6 G [.aE c 0],tS 3 1 (aA.map aN) aA.length true C]) U;refine RO.cl (adK T V hX R cR N.mem ds U λH9 P nw hP b4 U=>?_);have U:=aq.j5 (xs:=[tB 4 D [.bool r],tB rV I [.slice A 0 g.aj.length g.aj.length true],tB j6 G [.aE c 0],tS 3 1 (aA.map aN) aA.length true C]) U;have a1:∀z,aq H z (kV G I D A c g.aj.length C (nw||r) vs o aA (ee E b P)++tX l o2::us)->Ru ac (AC H l o2 us (λts=>∃E r,(∀b∈aA,∀v,S b v->E b v)/\(r=true->∃b∈aA,∃v,E b v/\¬S b v)/\(r=false->E=S/\∀j,j<k+1->∀(hj:aA.length - 1 - j<aA.length),∀v,uF g os S aA[aA.length - 1 - j] v->S aA[aA.length - 1 - j] v)/\za g os E/\ts=kV G I D A c g.aj.length C r vs o aA E) (λ_ _=>False)) [] [] z:=λz U=>by
    refine Ru.bw (ts:=kV G I D A c g.aj.length C (nw||r) vs o aA (ee E b P)) U ⟨_,_,λx hx v hv=>?_,λB=>?_,λB=>?_,h4.iJ λv hv=>(hP v).1 hv,rfl⟩
    .simp only[ee];split;·rename_i e;subst e;exact(hP v).2 (.inl (h1 x hx v hv))
     exact h1 x hx v hv
    .cases nw with
     |true=>obtain⟨v,hv,hn⟩:=b4.1 rfl;exact⟨b,bv,v,by simp only[Ep];exact hv,λe6=>hn (h1 b bv v e6)⟩
     |false=>
      obtain⟨x,hx,v,hv,hn⟩:=h2 B;refine⟨x,hx,v,?_,hn⟩;simp only[ee];split;·rename_i e;subst e;exact(hP v).2 (.inl hv)
      exact hv
    simp only[Bool.or_eq_false_iff]at B;obtain⟨e,Z⟩:=h3 B.2;have b6:∀v,P v->E b v:=λv hv=>afO λhn=>by have:=b4.2 ⟨v,hv,hn⟩;rw[B.1]at this;cases this
    refine⟨?_,λj hj dx v hv=>?_⟩
    .rw[<-e];funext x v;simp only[ee];split;·rename_i e2;subst e2;exact propext ⟨b6 v,λe6=>(hP v).2 (.inl e6)⟩
     rfl
    by_cases dy:j=k;·subst dy;rw[dv]at hv⊢;rw[<-e]at hv⊢;exact b6 v ((hP v).2 (.inr hv))
    exact Z j ab dx v hv
   cases nw with|true=>refine ai ?_;refine RO.ez U 0 (λdz U=>?_);refine ai ?_;exact Ru.wk (a1 _ U)|false=>refine ai ?_;refine RO.ez U 0 (λdz U=>?_);refine ai ?_;exact Ru.wk (a1 _ U)
  obtain⟨E,r,h1,h2,h3,h4,rfl⟩:=hJ;refine ai ?_;refine RO.ff U λH8 b7 U=>?_;refine ai ?_;have U:aq H H8 (kV G I b7 A c g.aj.length C r vs o aA E++fJ (dm::O)):=U.sub (.cons_cons _ (.cons _ (agt _)));have aw:(if r=true then A5 g.bc.toNat aA E+1 else 0)<m:=by rw[<-c9,aJ rfl];cases r with|false=>simp|true=>obtain⟨b,hb,v,hv,hn⟩:=h2 rfl;have hf:=(h4 b v hv).rr V.eh R (V.Em come os R) V.gv N ((N.mem b).1 hb);obtain⟨t,rfl⟩:∃t:Nat,v=(t:Int):=⟨v.toNat,by have:=hf.1;omega⟩;have:=adM (nv:=g.bc.toNat) h1 hb (v:=t) (by have:=hf.2.1;omega) hv hn;rw[aJ rfl];omega
  exact Ru.wk (ih _ aw H8 (dm::O) E r b7 rfl (λB b hb v hv=>by obtain⟨rfl,Z⟩:=h3 B;obtain⟨i,hi,rfl⟩:=afr hb;have:=Z (aA.length - 1 - i) ab ab;simp only[show aA.length - 1 - (aA.length - 1 - i)=i by omega]at this;exact this v hv) h4 U)
 subst B;refine Ru.exitTo ?_;have eJ:∀b,come.getD b false=true->∀v,S b v↔Lv g os b v:=λb hb v=>⟨bb b v,λe6=>(Z rfl).all V.eh R N.mem e6 ((N.mem b).2 hb)⟩;have d0:=hX.c2;have el:=V.gv.v0;have Y:=V.fm.fv.h2;obtain⟨nv,d1⟩:∃n:Nat,g.bc=(n:Int):=⟨g.bc.toNat,ab⟩;refine ai ?_;refine RO.bi ?_ (v:=d) (hc:=by rw[U.gr.bx a8];exact b3);refine ai ?_;refine RO.ls U (n:=g.aj.length) (λH6 qo U=>?_) (hz:=by rw[io];simp);rw[io]at U;refine ai ?_;have U:=U.pE;refine Ru.nm λS0 M hS X=>?_;refine Ru.bT X (up (P:=λk=>∀z p W F,p.length=g.aj.length->(∀b,b<k->tR 1 ((W b).map aI) (W b).length (p.getD b .b9)∈F)->(∀b:Nat,b<k->((W b).length<=nv/\(W b).Pairwise (·<·))/\∀v:Int,v∈W b↔come.getD b false=true/\S b v)->(∀b,k<=b->b<g.aj.length->p.getD b .b9=.aH)->aq H z (tZ F::tS eM 1 p g.aj.length true (.slice qo 0 g.aj.length g.aj.length true)::(kV G I D A c g.aj.length C false vs o aA S++fJ O))->Ru ac ⟨mV [.tmp p2] K,O,none⟩ S0 ([(qI,aN k)]++pk M [p1,p3,eP,sa,sc]) z) g.aj.length (λk hk ih z p W F L hF ag a2 U=>?_) 0 ab _ _ (λ_=>[]) [] aF (λb hb=>absurd hb ab) (λb hb=>absurd hb ab) (λb _ hb=>by rw[bB (by simpa using hb)];simp) U);subst hS;subst X;refine Ru.loop ?_;refine au ?_;refine Ru.cond (λy=>?_) (λy=>?_)
 .refine ai ?_;have d2:vs[0+k*1]?=some (vs.getD k .b9):=by rw[show 0+k*1=k by omega,bB ab];simp
  have b0:vs.getD k .b9=.map (o k)/\k∈aA\/vs.getD k .b9=.cC/\k∉aA:=by
   by_cases J:k∈aA;·exact .inl ⟨cd k J,J⟩
   exact .inr ⟨cf k y J,J⟩
  have d3:(vs.getD k .b9).bC=true:=by rcases b0 with⟨e,_⟩|⟨e,_⟩<;>rw[e]<;>rfl
  refine RO.dM U 6 (hv:=d2) ?_;generalize vs.getD k .b9=mv at b0 d3;refine ai ?_;refine RO.bi ?_ (v:=aN nv) (hc:=by rw[U.gr.bx a8,d0,d1];rfl);refine ai ?_;have U:=U.qE 3 1;have d4:p.set k .aH=p:=by have:=a2 k (adv _) y;rw[bB ab]at this;rw[<-this];exact List.set_getElem_self _
  rw[<-d4]at U;refine Ru.nm λS0 M hS X=>?_;refine Ru.bT X (up (P:=λj=>∀z(s:List Int)w,s.length<=j/\s.Pairwise (·<·)->(∀v:Int,v∈s↔0<=v/\v<j/\come.getD k false=true/\S k v)->aq H z (tS 3 1 (s.map aI) s.length true w::tZ F::tS eM 1 (p.set k w) g.aj.length true (.slice qo 0 g.aj.length g.aj.length true)::(kV G I D A c g.aj.length C false vs o aA S++fJ O))->Ru ac ⟨mV [.tmp p2] K,O,none⟩ S0 ([(ui,aN j)]++pk M [p1,p3,eP,eK,jy,sa,sc,qI,uh]) z) nv (λj hj b' z s w av Q U=>?_) 0 ab _ [] .aH aF (λv=>by simp;omega) U);subst hS;subst X;have⟨et,ew,e0,_⟩:=(U.sl 0 rfl).all;have bd:(p.set k w)[0+k*1]?=some w:=by rw[show 0+k*1=k by omega,List.getElem?_set_self ab]
  refine Ru.loop ?_;refine au ?_;refine Ru.cond (λaw=>?_) (λaw=>?_)
  .have ca:∀z,¬(come.getD k false=true/\S k j)->aq H z (tS 3 1 (s.map aI) s.length true w::tZ F::tS eM 1 (p.set k w) g.aj.length true (.slice qo 0 g.aj.length g.aj.length true)::(kV G I D A c g.aj.length C false vs o aA S++fJ O))->_:=λz hn U=>b' (j+1) ab ab z s w ⟨by have:=av.1;omega,av.2⟩ (λv=>by
    rw[Q];constructor;·rintro⟨a6,cp,a3⟩;exact⟨a6,ab,a3⟩
    rintro⟨a6,cp,a3⟩;refine⟨a6,?_,a3⟩;rcases afZ v.toNat j with e6|e6;·omega
    obtain rfl:v=(j:Int):=ab;exact absurd a3 hn) U;refine ai ?_;rcases b0 with⟨rfl,J⟩|⟨rfl,J⟩
   .have hat:(tS 3 1 (s.map aI) s.length true w::tZ F::tS eM 1 (p.set k w) g.aj.length true (.slice qo 0 g.aj.length g.aj.length true)::(kV G I D A c g.aj.length C false vs o aA S++fJ O))[7+(aA.idxOf k+1)]?=some (tM false (o k) (S k)):=by simp only[kV,afu];exact Eo (xs:=[_,_,_,_,_,_,_]) (En J)
    have d5:=(N.mem k).1 J;refine RO.AZ U _ (λt ht=>?_) (hi:=hat) (z:=(j:Int));refine ai ?_;refine Ru.eE (λay=>?_) (λay=>?_)
    .have d6:=ht.1 ay;refine ai ?_;refine RO.dM U 2 (hv:=bd) ?_;refine ai ?_;refine RO.push U 0 (λw0 H7 v2 U=>?_) (ws:=[aN j]);have⟨e3,e4,e5,_⟩:=(U.sl 0 rfl).all;refine ai ?_;refine RO.DX (vs:=p.set k w) (n:=g.aj.length) U 2 (by rw[agC];exact L) (λH8 U=>?_) (k:=k) (ho:=by rw[agC];omega);refine ai ?_;have e1:(s++[(j:Int)]).map aI=s.map aI++[aN j]:=aF;have e2:(s++[(j:Int)]).length=s.length+1:=aF;have U:aq H H8 (tS 3 1 ((s++[(j:Int)]).map aI) (s++[(j:Int)]).length true v2::tZ F::tS eM 1 (p.set k v2) g.aj.length true (.slice qo 0 g.aj.length g.aj.length true)::(kV G I D A c g.aj.length C false vs o aA S++fJ O)):=by rw[e1,e2,<-List.set_set (a:=w)];exact U
     exact Ru.wk (b' (j+1) ab ab H8 _ v2 ⟨by rw[e2];have:=av.1;omega,List.pairwise_append.2 ⟨av.2,List.pairwise_singleton _ _,λa ha b hb=>by rw[abx]at hb;have:=(Q a).1 ha;omega⟩⟩ (λv=>by
      rw[ae8,abx,Q];constructor
      .rintro(⟨a6,cp,a3⟩|rfl);·exact⟨a6,ab,a3⟩
       exact⟨ab,ab,d5,d6⟩
      rintro⟨a6,cp,a3⟩;by_cases e:v=(j:Int);·exact .inr e
      exact .inl ⟨a6,ab,a3⟩) U)
    refine ai ?_;exact Ru.wk (ca _ (λe6=>by rw[ht.2 e6.2]at ay;cases ay) U)
   refine RO.adL (z:=(j:Int)) ?_;refine ai ?_;exact Ru.wk (ca _ (λe6=>J ((N.mem k).2 e6.1)) U)
  refine Ru.exitTo ?_;obtain rfl:j=nv:=ab;refine ai ?_;have U:=(U.as 0 rfl λfp hp=>tS.kR hp).kw;exact Ru.wk (ih (k+1) ab ab z (p.set k w) (λb=>if b=k then s else W b) _ (by simpa using L) (λb hb=>by
   rw[dG ab];by_cases e:b=k;·rw[aJ e,aJ e];exact abL ..
   rw[ap e,ap e];exact aco _ (hF b ab)) (λb hb=>by
   by_cases e:b=k;·subst e;rw[aJ rfl];refine⟨av,λv=>?_⟩;rw[Q];refine⟨λe6=>e6.2.2,λe6=>?_⟩;have hf:=((bb b v e6.2).rr V.eh R (V.Em come os R) V.gv N e6.1);exact⟨hf.1,by have:=hf.2.1;omega,e6⟩
   rw[ap e];exact ag b ab) (λb hb u=>by rw[dG ab,ap ab];exact a2 b ab u) U)
 refine Ru.exitTo ?_;obtain rfl:k=g.aj.length:=ab;refine ai ?_;refine Ru.kS (M:=O) (U.cJ (afV (l₁:=_::_::kV G I D A c g.aj.length C false vs o aA S))) λH' U=>⟨[.slice qo 0 g.aj.length g.aj.length true],⟨rfl,rfl,trivial⟩,e6 H' _ ((agA g.aj.length).map W) p F ?_ ?_ ?_⟩
 .have e:∀b,b<g.aj.length->((agA g.aj.length).map W).getD b []=W b:=λb hb=>by rw[bB (by simpa using hb)];simp
  refine⟨aF,λb hb v=>?_,λb hb=>?_,λb=>?_,λb=>?_,_,N⟩;·have u:=R.lt hb;rw[e b u,(ag b u).2,eJ b hb];exact⟨λe6=>e6.2,λe6=>⟨hb,e6⟩⟩
  .by_cases u:b<g.aj.length;·rw[e b u];refine List.eq_nil_iff_forall_not_mem.2 λv hv=>?_;have:=((ag b u).2 v).1 hv;rw[hb]at this;cases this.1
   rw[afz,agV (by simpa using u)];rfl
  .by_cases u:b<g.aj.length;·rw[e b u];have:=(ag b u).1.1;omega
   rw[afz,agV (by simpa using u)];exact Nat.zero_le _
  by_cases u:b<g.aj.length;·rw[e b u];exact(ag b u).1.2
  rw[afz,agV (by simpa using u)];exact List.Pairwise.nil
 .refine⟨by simpa using L,λb hb=>?_⟩;simp only[afJ,List.length_range]at hb;rw[bB (by simpa using hb)];simp only[agw,List.getElem_range];exact hF b hb
 rw[L];exact U.sub (.cons_cons _ (.cons_cons _ (List.nil_sublist _)))
end
end
section
section
variable{g:G.be}{H:ah}
theorem adS(T:Tb ac)(V:Vd g){cs:List AV}(hg:gu H g cs){K:KT}(m:∀k v a os e b F,dw g a os->sE g a os e->iN e b F->aq H k [tZ F,tS eM 1 b b.length true v]->K (.tuple [v,aI 0]) k):YN ac V9 [.agg cs] H K:=by have l:=hg.one;obtain⟨c,rfl,bW⟩:=hg;refine YF.code T.YV aF ?_;refine au ?_;refine RO.dp (aq.ct H) λr q U=>?_;refine ai ?_;refine RO.dj U 0 ?_;refine RO.cl (adz T V (cs:=[.str g.i7,aI g.i4,aI g.bc,c]) ⟨c,rfl,cY.block.lx U.gr bW⟩ rfl λs t u w a os p f n d=>adO T V n d λo v e b F h i hl=>?_);have⟨j,_,_,_⟩:=(hl.sl 1 rfl).all;refine⟨j,?_⟩;refine ai ?_;exact Ru.mz (m o v a os e b F d h i (hl.T3 (U.gr.trans f)))
end
end
end
section
theorem adP{x:bK}(b:∃t:Nat,x.1=t/\(x.2=0\/x.2=1)):(cV x % 2==0)=(x.2==0):=by obtain⟨t,h1,h2⟩:=b;unfold cV;rw[agp];simp only[beq_iff_eq];omega
theorem OE{g:G.be}:∀{l:List bK},l7 l->((l.map cV).find? λx=>x % 2==0).map (λx=>((bm g (x.toNat/2)).aB.go.getD 1 default).block)=(l.find? λx=>x.2==0).map λx=>((bm g x.1.toNat).aB.go.getD 1 default).block|[],_=>rfl|x::l,h=>by have b:=h x (abL ..);rw[afp,List.find?_cons,List.find?_cons,adP b];cases x.2==0 with|true=>simp only[afL,(Ef b).2]|false=>exact OE λy c=>h y (aco _ c)
theorem adQ{g:G.be}{o:List bK}(b:l7 o):km g (fx o)=kU g o:=by unfold km kU;rw[fx,<-List.map_reverse];exact OE λx c=>b x (ag3.1 c)
theorem adR{g:G.be}{b:Nat}{o:List bK}(e:l7 o){S:Nat->Prop}:(∃w∈gB g b (fx o),S w.1.toNat)↔∃w∈ky g b o,S w:=by
 rw[<-y8 e];constructor;·rintro⟨w,c,h⟩;obtain⟨x,d,rfl⟩:=afE.1 c;exact⟨_,afE.2 ⟨x,d,rfl⟩,h⟩
 rintro⟨w,c,h⟩;obtain⟨x,d,rfl⟩:=afE.1 c;exact⟨_,afE.2 ⟨x,d,rfl⟩,h⟩
section
variable{B:G.dW}{da:Nat->Prop}{v:Nat}
end
section
variable{g:G.be}{come:List Bool}{os:List (List bK)}{a:List (List Int)}
structure IG(g:G.be)(os:List (List bK))(come:List Bool)(cR:List Bool)(oR:List (List Int)):Prop where
 cm:∀b,cR.getD b false=true↔come.getD b false=true
 op:∀b,come.getD b false=true->oR.getD b []=fx (os.getD b [])/\l7 (os.getD b [])
theorem runK(p:fu g)(q:mI g)(m:fK g)(j:dw g come os){k:List Bool}{l:List (List Int)}{f:Bool}(i:oO g (-1) k l f)(n:∀b,ja g (-1) k l f b):IG g os come k l:=by
 obtain⟨c1,o1,_,_,c,d,_⟩:=q.ex;have e:=p.sh;refine⟨λb=>?_,λb hb=>?_⟩;·rw[Eg e m c d j];exact⟨λh=>((i.snd b h).comp e c d).1,λh=>(c.snd b h).y7 e c d i.toFlI n⟩
 have h1:=(Eg e m c d j).1 hb;have h2:=(c.snd b h1).y7 e c d i.toFlI n;have h3:=((i.snd b h2).comp e c d).2;have o:=Ip e c d j hb;exact⟨h3.symm.trans o.1,o.2⟩
end
end
end Go.al.R
end
