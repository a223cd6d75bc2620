/- A part. No conditions. -/
import Derived.Test.YtcipmlnpjkngpaaGreatDoorA27
import Derived.Test.YtcipmlnpjkngpaaGreatDoorA26
set_option linter.all false
set_option maxHeartbeats 16000000
open List renaming replicate->aeo,range->afD
open List.Perm renaming swap->afA,cons->afL
open Eq renaming mpr->agu
open List.Pairwise renaming nil->agv
open Prod renaming fst->agw
noncomputable section
namespace Go.ak.R
section
variable{ac:Nat->aX}
section
theorem aaq{g:G.aY}{o:List bI}(h:∀j(hj:o.length - 1 - j<o.length),j<o.length->o[o.length - 1 - j].2≠0):kH g o=none:=by
 unfold kH;rw[List.find?_eq_none.2];·rfl
 intro x e;obtain⟨i,hi,rfl⟩:=aeB (aga.1 e);have:=h (o.length - 1 - i) ab ab;simp only[show o.length - 1 - (o.length - 1 - i)=i by omega]at this;simpa using this
theorem aar{g:G.aY}{o:List bI}{k:Nat}(f:o.length - 1 - k<o.length)(e:k<o.length)(h:∀j(hj:o.length - 1 - j<o.length),j<k->o[o.length - 1 - j].2≠0)(h0:o[o.length - 1 - k].2=0):kH g o=some ((be g o[o.length - 1 - k].1.toNat).aA.go.getD 1 default).block:=by
 unfold kH;rw[(List.find?_eq_some_iff_getElem (b:=o[o.length - 1 - k])).2];·rfl
 refine⟨by simpa using h0,k,by simpa using e,by rw[List.getElem_reverse],λj hj=>?_⟩;rw[List.getElem_reverse];simpa using h j ab hj
abbrev OpR:bI->List AV->Prop:=λo cs=>cs=[aI o.1,aU o.2]
section
variable{g:G.aY}{c d:AV}{a:af}{H:ai}{come:List Bool}{os:List (List bI)}{b:List AV}
theorem aat(T:Tb ac)(hB:G.Sm g)(hE:ff g)(o:GX g H a c d come os b)(D:dq g come os){b0:Nat}(hb:come.getD b0 false=true){K:KT}(h:∀f,aZ H f->K (match kH g (os.getD b0 [])with|some t=>.tuple [aI t,.bool true]|none=>.tuple [aI (-1),.bool false]) f):YN ac UW [.aD a 0,aN b0] H K:=by
 have aw:=hB.nb;have I:=D.lt hb;have p:b0<os.length:=by rw[D.ol];exact I
 have⟨Y,J⟩:=hE.oq (D.dY b0 hb);have L:os.getD b0 []=os[b0]:=bm p _;rw[L]at h Y J;have hs:=o.iz.bt b0 p;have⟨M,N,O,ax⟩:=hs.all;have s:=o.iz.lt;have P:=o.iz.be;obtain⟨ov,Q,u⟩:=o.iz.oq;have⟨ay,_,_,_⟩:=u.all;have⟨a1,_,_,_⟩:=o.bl.all;refine YF.code T.WK aC ?_;refine au ?_;refine RO.cG (al.bY H) λH1 z U=>?_;refine RO.dM U λH2 A U=>?_;refine RO.dM U λH3 B U=>?_;refine ah ?_;refine RO.bk ?_ (v:=ov) (hc:=by rw[U.gr.bx s];exact Q);refine ah ?_;refine RO.yI U.gr u (λq8 o8 a2 _=>?_) (j:=b0);refine ah ?_;refine RO.cl (K0 T.W8 bK M N O λH4 q hl=>?_);have U:=U.eK hl;refine ah ?_;refine Ru.wk (L:=[(nZ,.func Vm [] [.aD q 0]),(p2,.aD z 0),(p4,.aD A 0),(p5,.aD B 0)]) ?_;have U:al H H4 ([tB D7 q [b.getD b0 .ct]]++[tB 4 B [.bool false],tB 3 A [aI 0],tB iw z [.aD a 0]]++[]):=U;refine Ru.qF (J:=λk ts=>ts=[tB 4 B [.bool false],tB 3 A [aI 0],tB iw z [.aD a 0]]/\∀j(hj:os[b0].length - 1 - j<os[b0].length),j<k->os[b0][os[b0].length - 1 - j].2≠0) (Dn:=λj ts=>j=.ret/\∃t,kH g os[b0]=some t/\ts=[tB 4 B [.bool true],tB 3 A [aI t],tB iw z [.aD a 0]]) U (KZ (R:=OpR) (agg:=true) (size:=2) (la:=os[b0]) (sv:=b.getD b0 .ct) (e:=D7) (nt:=19) T.Xq bK ab (λh=>by cases h) (λb3 cs h=>by cases h;rfl)) (λH2 hg=>jH.r ((U.gr.trans hg).sl hs)) ⟨rfl,λj _ hj=>absurd hj ab⟩ (λk args ws h=>by obtain⟨_,_,_,_,rfl⟩:=h;rfl) (λk ts us f C U=>jH.r (U.gr.sl hs)) (λk args ws ts us l o1 o2 f hk R C U=>?_) (λf S E C U=>?_) (λj f S E hj hD U=>?_)
 .obtain⟨rfl,v,cs,V,rfl⟩:=R;obtain⟨rfl,eG⟩:=C;have W:=acI v;generalize i:os[b0][os[b0].length - 1 - k]=oo at*;obtain⟨Z,m⟩:=oo;subst V;refine ah ?_;refine RO.eR U λH5 q7 U=>?_;refine ah ?_;refine Ru.dN (xs:=[_,_,_,_]) U λH6 U=>?_;refine ah ?_;refine Ru.cond (λ(h0:m=0)=>?_) (λ(h0:¬m=0)=>?_)
  .obtain⟨g1,g2,F⟩:=Y.ok _ W;simp only at g1 g2 F;obtain⟨t,rfl⟩:∃t:Nat,Z=(t:Int):=⟨Z.toNat,ab⟩;rw[aeA]at F;have w:t<g.aj.length:=ab;have g4:g.aj[t].aA.go.length=3:=by rw[<-F,bm w]
   refine ah ?_;refine RO.bk ?_ (v:=c) (hc:=by rw[U.gr.bx s];exact P);refine ah ?_;refine RO.bW U.gr o.bl (λq9 o9 c9 a6 X a8 hat _=>?_) (j:=t);obtain⟨vp,vs,jc,rfl,_,_,va,vk,vg,rfl,_,_,x⟩:=X;have⟨a',_,_,_⟩:=x.all;refine ah ?_;refine RO.bk (v:=vg) ?_ (hc:=hat 6 _ rfl);refine RO.bW U.gr x (λba bb bd ag y av n _=>?_) (j:=1) (hj:=by omega);obtain⟨ve,rfl,_⟩:=y;refine ah ?_;refine RO.bk ?_ (hc:=n 0 _ rfl);refine RO.eo U 2 (λH7 U=>?_);refine RO.eo U 1 (λH8 U=>?_);refine ah ?_;have U:=U.tail (t:=tB D6 q7 [aN t,aU m]);refine Ru.A7 (ts:=[_,_,_]) U ⟨rfl,_,aar v hk eG (by rw[i];exact h0),?_⟩;rw[i];simp only[be,aeA,bm w];rw[bm ab];rfl
  refine ah ?_;refine Ru.bB (ts:=[_,_,_]) U.tail ⟨rfl,λj hj bv=>?_⟩;by_cases e:j=k;·subst e;rw[i];exact h0
  exact eG j hj ab
 .obtain⟨rfl,eG⟩:=C;refine ah ?_;refine RO.eo U 1 (λH5 U=>?_);refine RO.eo U 0 (λH6 U=>?_);refine ah ?_;rw[aaq eG]at h;refine Ru.ke (M:=[E]) (ts:=[_,_,_]) (U.cH (afd (l₁:=[_,_,_]))) λf U=>⟨[aI (-1),.bool false],⟨⟨_,_,rfl,U.one 1⟩,⟨_,_,rfl,U.one 0⟩,trivial⟩,h f U.gr⟩
 obtain⟨rfl,t,ht,rfl⟩:=hD;rw[ht]at h;exact RJ.rD (RJ.ke (M:=[E]) (ts:=[_,_,_]) (.inr rfl) (U.cH (afd (l₁:=[_,_,_]))) λf U=>⟨[aI t,.bool true],⟨⟨_,_,rfl,U.one 1⟩,⟨_,_,rfl,U.one 0⟩,trivial⟩,h f U.gr⟩)
structure LI(g:G.aY):Prop where
 fv:FV g g.aW.toNat
 ne:0<g.aj.length
 first:(g.aj.getD 0 default).i4=[]
structure Vd(g:G.aY):Prop where
 fw:oB g
 Bt:mh g
 qM:eE g
 iF:jq g=false
 dY:ff g
 Bu:∀come os,dq g come os->pD g come os
theorem Vd.sm(V:Vd g):G.Sm g:=V.fw.sm
theorem Vd.gv(V:Vd g):ml g:=Ln V.qM
theorem eE.fm(h:eE g)(e:g.aW<=6000):LI g:=⟨⟨h.p0,h.p1,e,by have:=h.p0;have:=h.p1;omega⟩,h.ne,h.first⟩
theorem Vd.fm(V:Vd g):LI g:=V.qM.fm (by have:=(wM V.fw V.iF).2;omega)
theorem aau(h:ml g):∀f∈g.aj,∀p∈cD f,0<=p.1/\p.1<g.aW:=λf hb p e=>by have:=h.wF f hb p e;have:=h.p0;omega
theorem aav(e:ml g):KW g:=by have h0:=EQ e.v0;refine⟨ab,λt h1 h2=>?_⟩;obtain⟨i,p,hi,f⟩:=e.all t h1 h2;have:=e.at hi f;rw[aeA]at this;exact⟨i,hi,by rw[this]⟩
theorem LJ(h:eE g):∀i∈g.aj,∀p∈eO i,0<=p.1/\p.1<g.aW:=λi hb p e=>by obtain⟨k,_,_,f⟩:=E8 e;exact si h hb f
theorem eE.shF(h:eE g):py g:=⟨h.sh.ne,h.sh.t3,λf hb e he=>by have:=h.sh.rg f hb e he;omega⟩
theorem dq.eq(i:ff g){e:List Bool}{f:List (List bI)}(h:dq g come os)(j:dq g e f){k:Nat}(hb:come.getD k false=true):e.getD k false=true/\f.getD k []=os.getD k []:=j.qJ i (h.dY k hb)
theorem iA.E9(l:ff g){e:List Bool}{f:List (List bI)}(h:dq g come os)(m:dq g e f){p o:Nat}(n:iA (wW g os) p o):come.getD o false=true/\iA (wW g f) p o:=by induction n with|zero i=>exact⟨h.c0,.zero i⟩| @step q x _ k i j=>refine⟨h.kG j.1 k,.step j.2 ?_ i⟩;rw[wW,(h.eq l m j.1).2];exact k
theorem pD.E9(j:ff g){f:List Bool}{i:List (List bI)}(h:dq g come os)(k:dq g f i)(l:pD g come os):pD g f i:=by
 have e:∀x,f.getD x false=true->come.getD x false=true/\i.getD x []=os.getD x []:=λx hb=>by have h1:=(k.eq j h hb).1;exact⟨h1,(h.eq j k h1).2⟩
 refine⟨λx hb m=>?_,λx hb n=>?_,λx hb p o=>?_⟩;·obtain⟨h1,h2⟩:=e x hb;rw[h2];exact l.en x h1 m
 .obtain⟨h1,h2⟩:=e x hb;rw[h2];exact l.rt x h1 n
 obtain⟨h1,h2⟩:=e x hb;obtain⟨t,q,r,a3⟩:=l.rd x h1 p o;refine⟨t,q,r,?_⟩;rcases a3 with a3|a3|⟨s,b1,b2,u,v⟩;·exact .inl a3
 .exact .inr (.inl a3)
 exact .inr (.inr ⟨s,b1,b2,(h.eq j k u).1,λw=>v (iA.E9 j k h w).2⟩)
def oG(g:G.aY)(e:Int):Prop:=e=5/\jq g=true\/e=4/\jq g=false/\¬eE g\/e=9/\jq g=false/\eE g/\¬lO g
theorem E'(T:Tb ac)(x:oB g)(F:mh g){cs:List AV}(hg:dS H g cs){K:KT}(M:∀s a c d come os b,Vd g->aZ H s->GX g s a c d come os b->dq g come os->K (.tuple [.aD a 0,aI 0]) s)(y:∀s e,¬Vd g->oG g e->aZ H s->K (.tuple [.j5,aI e]) s):YN ac JB [.agg cs] H K:=by
 have L:=hg.one;have u:=x.sm;obtain⟨i,rfl,bH⟩:=hg;refine YF.code T.Wh aC ?_;refine au ?_;refine RO.cG (al.bY H) λP q U=>?_;refine ah ?_;refine RO.cr U 0 ?_;refine RO.cl (ZH T (cs:=[.str g.i7,aI g.i4,aI g.aW,i]) ⟨i,rfl,b8.block.ib U.gr bH⟩ u λQ A=>?_);have U:=U.bZ A;cases f:jq g with
 |true=>refine ah ?_;exact Ru.i4 (y _ 5 (λV=>by have:=V.iF;rw[f]at this;cases this) (.inl ⟨rfl,f⟩) U.gr)
 |false=>
  obtain⟨p,O⟩:=wM x f;refine ah ?_;refine RO.cr U 0 ?_;refine RO.cl (YL T (cs:=[.str g.i7,aI g.i4,aI g.aW,i]) u F (by have:=x.nm;omega) ab ⟨i,rfl,b8.block.ib U.gr bH⟩ λR W B r=>?_);rw[Z4 u]at r;have U:=U.bZ B;cases W with
  |false=>
   have G:¬eE g:=λh=>by have:=r.2 h;cases this
   refine ah ?_;exact Ru.i4 (y _ 4 (λV=>G V.qM) (.inr (.inl ⟨rfl,f,G⟩)) U.gr)
  |true=>
   have n:=r.1 rfl;have z:=Ln n;refine ah ?_;refine RO.cr U 0 ?_;refine RO.cl (Y' T u n.shF ab (cs:=[.str g.i7,aI g.i4,aI g.aW,i]) ⟨i,rfl,b8.block.ib U.gr bH⟩ (λN a c d come os b l t I j=>?_) (λN a l C D E=>?_))
   .refine ah ?_;refine RO.cl (Zv T u t I j z.v0 ab (aau z) (LJ n) (aav z) λJ W k v=>?_);cases W with
    |true=>have m:=v.1 rfl;refine ah ?_;exact Ru.i4 (M J a c d come os b ⟨x,F,n,f,t,λc2 o2 h2=>m.E9 t j h2⟩ ((U.gr.trans l).trans k) (I.bZ k) j)
    |false=>
     have m:¬pD g come os:=λh=>by have:=v.2 h;cases this
     refine ah ?_;exact Ru.i4 (y _ 9 (λV=>m (V.Bu come os j)) (.inr (.inr ⟨rfl,f,n,λh=>m (aak n p h t z j)⟩)) ((U.gr.trans l).trans k))
   refine ah ?_;refine RO.cl (aap T C D λJ k=>?_);have w:¬ff g:=λt=>by obtain⟨W,o,S,h1,h2,h3⟩:=E;exact h3 (t.t8 h1 h2)
   refine ah ?_;exact Ru.i4 (y _ 9 (λV=>w V.dY) (.inr (.inr ⟨rfl,f,n,λh=>w (aao n p h)⟩)) ((U.gr.trans l).trans k))
theorem LL(T:Tb ac)(V:Vd g){cs:List AV}(hg:dS H g cs){K:KT}(f:∀e a c d come os b,aZ H e->GX g e a c d come os b->dq g come os->K (.tuple [.aD a 0,aI 0]) e):YN ac JB [.agg cs] H K:=E' T V.fw V.Bt hg (λe a c d come os b _=>f e a c d come os b) λ_ _ h=>absurd V h
theorem aax(T:Tb ac)(V:Vd g){cs:List AV}(hg:dS H g cs){fv:AV}(o:fv.bq=true){K:KT}(m:∀f a c d come os b,aZ H f->GX g f a c d come os b->dq g come os->YF ac fv [.aD a 0] f λv i=>v.bq=true/\K (.tuple [v,aI 0]) i):YN ac JA [.agg cs,fv] H K:=by have l:=hg.one;obtain⟨e,rfl,bH⟩:=hg;refine YF.code T.JS aC ?_;refine au ?_;refine RO.cG (al.bY H) λr q U=>?_;refine ah ?_;refine RO.cr U 0 ?_;refine RO.cl (LL T V (cs:=[.str g.i7,aI g.i4,aI g.aW,e]) ⟨e,rfl,b8.block.ib U.gr bH⟩ λi a c d come os b j n k=>?_);refine ah ?_;refine RO.cl ((m i a c d come os b (U.gr.trans j) n k).mono λv s h=>?_);obtain⟨p,h⟩:=h;refine ah ?_;exact Ru.i4 h
theorem aay(T:Tb ac)(m:¬Vd g)(n:oB g)(o:mh g){cs:List AV}(hg:dS H g cs){fv:AV}(r:fv.bq=true){K:KT}(p:∀k e,oG g e->aZ H k->K (.tuple [.aG,aI e]) k):YN ac JA [.agg cs,fv] H K:=by
 have l:=hg.one;obtain⟨f,rfl,bH⟩:=hg;refine YF.code T.JS aC ?_;refine au ?_;refine RO.cG (al.bY H) λs q U=>?_;refine ah ?_;refine RO.cr U 0 ?_;refine RO.cl (E' T n o (cs:=[.str g.i7,aI g.i4,aI g.aW,f]) ⟨f,rfl,b8.block.ib U.gr bH⟩ (λ_ _ _ _ _ _ _ V=>absurd V m) λt e _ he i=>?_);have j:e≠0:=by rcases he with⟨h,_⟩|⟨h,_⟩|⟨h,_⟩<;>omega
 refine ah ?_;refine Ru.cond (λ_=>?_) (λh=>absurd j h);refine ah ?_;exact Ru.i4 (p _ e he (U.gr.trans i))
theorem aaz(T:Tb ac)(V:Vd g){cs:List AV}(hg:dS H g cs){fv:AV}(o:fv.bq=true){K:KT}(m:∀f a c d come os b,aZ H f->GX g f a c d come os b->dq g come os->YF ac fv [.aD a 0] f λv i=>v.bq=true/\K (.tuple [v,aI 0]) i):YN ac Jz [.agg cs,fv] H K:=by have l:=hg.one;obtain⟨e,rfl,bH⟩:=hg;refine YF.code T.JR aC ?_;refine au ?_;refine RO.cG (al.bY H) λr q U=>?_;refine ah ?_;refine RO.cr U 0 ?_;refine RO.cl (LL T V (cs:=[.str g.i7,aI g.i4,aI g.aW,e]) ⟨e,rfl,b8.block.ib U.gr bH⟩ λi a c d come os b j n k=>?_);refine ah ?_;refine RO.cl ((m i a c d come os b (U.gr.trans j) n k).mono λv s h=>?_);obtain⟨p,h⟩:=h;refine ah ?_;exact Ru.i4 h
end
end
section
def jw(d:af)(n:Nat)(vs:List AV)(ids:Nat->af)(aB:List Nat)(S:Nat->Int->Prop):List Th:=tS Ja 1 vs n true (.slice d 0 n n true)::aB.map λb=>tM false (ids b) (S b)
structure wN(n:Nat)(vs:List AV)(ids:Nat->af)(aB:List Nat):Prop where
 len:vs.length=n
 nd:aB.Nodup
 bt:∀b∈aB,b<n/\vs.getD b .ct=.map (ids b)
def d8(S:Nat->Int->Prop)(b:Nat)(P:Int->Prop):Nat->Int->Prop:=λx=>if x=b then P else S x
section
variable{n:Nat}{vs:List AV}{ids:Nat->af}{aB:List Nat}{S:Nat->Int->Prop}{P:Int->Prop}{d:af}{b:Nat}{xs us:List Th}
theorem LM{l:List Nat}(j:l.Nodup){i b:Nat}(hi:i<l.length)(hb:b∈l):l.idxOf b=i↔l[i]=b:=by
 have c:=List.idxOf_lt_length_of_mem hb;constructor;·rintro rfl;exact List.getElem_idxOf c
 intro k;subst k;exact j.idxOf_getElem i hi
theorem aaA(c:aB.Nodup)(hb:b∈aB):(jw d n vs ids aB S).set (aB.idxOf b+1) (tM false (ids b) P)=jw d n vs ids aB (d8 S b P):=by
 simp only[jw,List.set_cons_succ];congr 1;apply agb aC;intro i h1 h2;rw[aeR]at h2;rw[List.getElem_set,afw,afw];by_cases j:aB.idxOf b=i;·rw[aH j,(LM c h2 hb).1 j];simp[d8]
 rw[ap j];have:aB[i]≠b:=λk=>j ((LM c h2 hb).2 k);simp only[d8,ap this]
theorem Bv(hb:b∈aB):(jw d n vs ids aB S)[aB.idxOf b+1]?=some (tM false (ids b) (S b)):=by have c:=List.idxOf_lt_length_of_mem hb;simp only[jw,afh,ae5,afo c,List.getElem_idxOf c,aeT]
theorem Bw{l m:List Th}{i:Nat}{t:Th}(c:l[i]?=some t):(xs++(l++m))[xs.length+i]?=some t:=by obtain⟨hi,j⟩:=ae7.1 c;rw[afn ab,show xs.length+i - xs.length=i by omega,aeM hi,c]
theorem aaB{l m:List Th}{i:Nat}{t:Th}(c:i<l.length):(xs++(l++m)).set (xs.length+i) t=xs++(l.set i t++m):=by rw[List.set_append_right _ _ ab,show xs.length+i - xs.length=i by omega,List.set_append_left _ _ c]
theorem aaC(hb:b∈aB):aB.idxOf b+1<(jw d n vs ids aB S).length:=by have c:=List.idxOf_lt_length_of_mem hb;simp only[jw,aeJ,aeR];omega
theorem LN{H:ai}{q:af}{n j:Nat}{vs:List AV}{v:AV}(p:Sl H 1 vs n (.slice q 0 n n true))(hj:j<n)(c:vs.getD j .ct=v):pa H (.slice q 0 n n true) (.ofNat j)=some v:=by have hl:=p.length;obtain⟨i,o,cap,ex,r,_,_,k,_⟩:=p.at ab;injection r with l m;subst l;subst m;simp only[pa,agu afs hj,bc];rw[k j ab,<-c,bm ab]
end
theorem LP{pl:List (Int×Int)}{bt v:Int}(i:(pl.map agw).Nodup):dR.mH pl bt v=true↔∀p,(v,p)∈pl->bt<=p:=by
 induction pl with
 |nil=>simp[dR.mH]
 |cons s pl m=>
  obtain⟨k,r⟩:=s;simp only[aez,afX]at i;simp only[dR.mH];by_cases j:v=k
  .subst j;rw[aH (by rw[eU];simp)];have l:(!jz r bt)=true↔bt<=r:=by rw[lz];simp
   rw[l];constructor
   .intro o p c;rcases aer.1 c with q|c;·injection q with _ q;rw[q];exact o
    exact absurd (aeX (f:=agw) c) i.1
   intro o;exact o r (acm ..)
  rw[ap (by rw[eU];simpa using j),m i.2];constructor
  .intro o p c;rcases aer.1 c with q|c;·injection q with q _;exact absurd q j
   exact o p c
  intro o p c;exact o p (aen _ c)
def eW(f e a g pm d:af)(n b:Nat)(pl:List (Int×Int))(h:Bool)(vs:List AV)(ids:Nat->af)(aB:List Nat)(S:Nat->Int->Prop):List Th:=[tB 4 a [.bool h],tB 3 f [aN b],tB rJ e [.slice d 0 n n true],tB AG g [.map pm],tI pm pl]++jw d n vs ids aB S
abbrev da(f e a g:af):AV:=.func Ea [] [.aD g 0,.aD e 0,.aD f 0,.aD a 0]
section
variable{A H:ai}{n b:Nat}{vs:List AV}{ids:Nat->af}{aB:List Nat}{S:Nat->Int->Prop}{f e a g pm d:af}{pl:List (Int×Int)}{h:Bool}{us:List Th}
theorem tB.LQ{H:ai}{q:af}{i:Nat}{vs:List AV}{l:List af}(k:(tB i q vs).P H l):∃c,H.get q=.cells c vs.length i true [] 0/\(∀j(k:j<vs.length),c.bN .agx j=vs[j])/\q.az<H.next.az:=k.2.2
theorem al.jT(u:wN n vs ids aB)(hb:b∈aB)(U:al A H (eW f e a g pm d n b pl h vs ids aB S++us)){H2:ai}{ks:List Int}{c:am AV}{nw2:Bool}{P:Int->Prop}(v:H.next.az<=H2.next.az)(hg:∀j,j≠ids b->j≠a->H2.get j=H.get j)(h1:jG (H2.get (ids b)) ks)(w:∀x,x∈ks↔P x)(h2:H2.get a=.cells c 1 4 true [] 0)(h3:c.bN .agx 0=.bool nw2):al A H2 (eW f e a g pm d n b pl nw2 vs ids aB (d8 S b P)++us):=by
 have hat:(eW f e a g pm d n b pl h vs ids aB S++us)[5+(aB.idxOf b+1)]?=some (tM false (ids b) (S b)):=by simp only[eW,aeC];exact Bw (xs:=[_,_,_,_,_]) (Bv hb)
 have B:ids b≠a:=U.ne _ 0 hat rfl ab (λD C=>C.1) (λD C=>C.1);obtain⟨_,_,q⟩:=U.yO _ hat;have r:a.az<H.next.az:=by obtain⟨_,i⟩:=U.get 0 rfl;obtain⟨_,_,_,_,_,C⟩:=i;exact C
 let l:ai:=H.set (ids b) (H2.get (ids b));have ga:∀j,l.get j=if j=ids b then H2.get (ids b)else H.get j:=λj=>ai.aJ .. ;have k:al A l ((eW f e a g pm d n b pl h vs ids aB S++us).set (5+(aB.idxOf b+1)) (tM false (ids b) P)):=by refine U.ER (q:=ids b) _ hat rfl (λj hj=>by rw[ga,ap hj]) (λy i=>i.1) ⟨aaN.2 rfl,λj hj=>aaN.1 hj,⟨ks,?_,w⟩,(λC=>by cases C),q⟩;rw[ga,aH rfl];exact h1
 have z:(eW f e a g pm d n b pl h vs ids aB S++us).set (5+(aB.idxOf b+1)) (tM false (ids b) P)=eW f e a g pm d n b pl h vs ids aB (d8 S b P)++us:=by simp only[eW,aeC];refine(aaB (xs:=[_,_,_,_,_]) (aaC hb)).trans ?_;rw[aaA u.nd hb]
 rw[z]at k;let t:ai:=l.set a (H2.get a);have p:∀j,t.get j=if j=a then H2.get a else l.get j:=λj=>ai.aJ .. ;have s:al A t (eW f e a g pm d n b pl nw2 vs ids aB (d8 S b P)++us):=by
  refine k.ER (q:=a) 0 rfl (t':=tB 4 a [.bool nw2]) rfl (λj hj=>by rw[p,ap hj]) (λy i=>i.1) ⟨aaN.2 rfl,λj hj=>aaN.1 hj,c,?_,λj hj=>?_,r⟩;·rw[p,aH rfl];exact h2
  simp only[ae8]at hj;obtain rfl:j=0:=ab;exact h3
 refine s.bZ ⟨v,λj _=>?_⟩;rw[p,ga];by_cases m:j=a;·rw[aH m,m]
 rw[ap m];by_cases o:j=ids b;·rw[aH o,o]
 rw[ap o];exact hg j o m
theorem aaD(T:Tb ac)(D:wN n vs ids aB)(hb:b∈aB)(U:al A H (eW f e a g pm d n b pl h vs ids aB S++us)){v bt:Int}{K:KT}(F:∀r E P l,(∀x,P x↔S b x\/x=v/\∀p,(v,p)∈pl->bt<=p)->(l=true↔h=true\/∃x,P x/\¬S b x)->al A E (eW f e a g pm d n b pl l vs ids aB (d8 S b P)++us)->K r E):YF ac (da f e a g) [aI v,aI bt] H K:=by
 have hat:(eW f e a g pm d n b pl h vs ids aB S++us)[5+(aB.idxOf b+1)]?=some (tM false (ids b) (S b)):=by simp only[eW,aeC];exact Bw (xs:=[_,_,_,_,_]) (Bv hb)
 obtain⟨⟨ks,s,k⟩,_,W⟩:=U.yO _ hat;obtain⟨⟨_,_,_,_⟩,t,_⟩:=U.Bj 4 rfl;obtain⟨u,w⟩:=U.pB 4 rfl;obtain⟨y,z⟩:=D.bt b hb;have m:∀(i:Nat){Z:Nat}{q:af}{v:AV},(eW f e a g pm d n b pl h vs ids aB S++us)[i]?=some (tB Z q [v])->mG H (.aD q 0)=some v:=λi _ _ _ hi=>by obtain⟨_,G⟩:=U.get i hi;exact tB.cell G rfl
 obtain⟨X,B⟩:=U.get 0 rfl;obtain⟨c,I,J,_⟩:=tB.LQ B;refine⟨80,IB (pm:=pm) (s2:=.slice d 0 n n true) (kb:=3) (b:=.ofNat b) (N:=ids b) (ks:=ks) (q:=h) (fz:=0) T.WI T.WJ (m 3 rfl) (m 2 rfl) (m 1 rfl) u w (LN (U.sl 5) y z) I (Nat.zero_le _) aC (J 0 aC) s λr L C c2 M N O o Q _ R _=>?_⟩;have j:=LP (bt:=bt) (v:=v) t;refine F r L (λx=>x∈C) _ (λx=>?_) ?_ (al.jT D hb U (by rw[M];exact aeq _) N O (λx=>Iff.rfl) Q R);·rw[o,k,j]
 rw[afm,aew,j,afj];have V:fc v ks=false↔¬S b v:=by rw[<-k,<-pb];simp
 rw[V];constructor
 .rintro(Y|⟨h1,h2⟩);·exact .inl Y
  exact .inr ⟨v,(o v).2 (.inr ⟨rfl,j.2 h1⟩),h2⟩
 rintro(Y|⟨x,h1,h2⟩);·exact .inl Y
 rcases(o x).1 h1 with Y|⟨rfl,Y⟩;·exact absurd ((k x).1 Y) h2
 exact .inr ⟨j.1 Y,h2⟩
theorem y7{i j:af}(c:i≠j):af.beq i j=false:=by cases hb:af.beq i j with|false=>rfl|true=>exact absurd (af.fo.1 hb) c
theorem aaE{H:ai}{i q:af}{o:Nat}{v:AV}(j:i≠q)(c:bx H i o=some v):jS H q (.aD i o)=some v:=by simp only[jS,y7 j,abu,bA,c]
theorem LR(y:wN n vs ids aB)(hb:b∈aB){to:Nat}(m:to∈aB){k:af}(U:al A H (tB kC k [da f e a g]::(eW f e a g pm d n b pl h vs ids aB S++us))){bt:Int}{tos:Nat}{bV:List af}:∃X P s,(∀aa o,aa.get .agx (sl 11)=.aD k 0->aa.get .agx (sl 5)=.aD e 0->aa.get .agx (sl tos)=aN to->o a=some bt->vJ Ea o tos bV aa H=some (kY aa bV,X))/\(∀x,P x↔S b x\/S to x/\∀p,(x,p)∈pl->bt<=p)/\(s=true↔h=true\/∃x,P x/\¬S b x)/\al A X (tB kC k [da f e a g]::(eW f e a g pm d n b pl s vs ids aB (d8 S b P)++us)):=by
 have ag:=U.tail;have hat:∀x,x∈aB->(tB kC k [da f e a g]::(eW f e a g pm d n b pl h vs ids aB S++us))[6+(aB.idxOf x+1)]?=some (tM false (ids x) (S x)):=λx r=>by simp only[eW,aeC];exact Bw (xs:=[_,_,_,_,_,_]) (Bv r)
 obtain⟨⟨t0,t,l⟩,_,_⟩:=U.yO _ (hat b hb);obtain⟨⟨ks,z,B⟩,_,_⟩:=U.yO _ (hat to m);obtain⟨_,C,_⟩:=U.Bj 5 rfl;obtain⟨D,E⟩:=U.pB 5 rfl;obtain⟨F,G⟩:=y.bt b hb;obtain⟨I,J⟩:=y.bt to m;obtain⟨k1,k2⟩:=K7 z;obtain⟨s1,s2⟩:=K7 t;have Y:∀(i:Nat){ax:Nat}{q:af}{v:AV},(tB kC k [da f e a g]::(eW f e a g pm d n b pl h vs ids aB S++us))[i]?=some (tB ax q [v])->bx H q 0=some v:=λi _ _ _ hi=>by obtain⟨_,hp⟩:=U.get i hi;exact tB.cell hp rfl
 have r:∀(i:Nat){ax:Nat}{q:af}{v:AV},(tB kC k [da f e a g]::(eW f e a g pm d n b pl h vs ids aB S++us))[i]?=some (tB ax q [v])->i≠1->jS H a (.aD q 0)=some v:=λi _ _ _ hi K=>aaE (U.ne i 1 hi rfl K (λaw av=>av.1) (λaw av=>av.1)) (Y i hi);have L:d≠a:=U.ne 6 1 rfl rfl ab (λaw av=>tS.pC av) (λaw av=>av.1);have M:pm≠ids b:=U.ne 5 _ rfl (hat b hb) ab (λaw av=>av.1) (λaw av=>av.1);have N:ids to≠pm:=U.ne _ 5 (hat to m) rfl ab (λaw av=>av.1) (λaw av=>av.1);have O:ids b≠a:=U.ne _ 1 (hat b hb) rfl ab (λaw av=>av.1) (λaw av=>av.1);have he:∀x,x<n->∀v,vs.getD x .ct=v->qk H a (.slice d 0 n n true) (.ofNat x)=some v:=λx h1 v h2=>by simp only[qk,y7 L,abu,bA];exact LN (U.sl 6) h1 h2
 obtain⟨f6,Q⟩:=U.get 1 rfl;obtain⟨c,Z,h7,_⟩:=tB.LQ Q;have R:c.bN .agx 0=.bool h:=h7 0 aC;have w:([AV.bool h]:List AV).length=1:=rfl;rw[w]at Z;refine⟨((H.set (ids b) (.dt (iZ (iQ (dR pl bt ks) t0)))).set a (.cells (fi c 0 [.bool (h||jR t0 (dR pl bt ks))]) 1 4 true [] 0)).skip,λx=>x∈iQ (dR pl bt ks) t0,h||jR t0 (dR pl bt ks),λaa o T e5 et ea=>?_,λx=>?_,?_,?_⟩;·unfold vJ;rw[T,e5,et];have V:mG H (.aD k 0)=some (.func Ea [] [.aD g 0,.aD e 0,.aD f 0,.aD a 0]):=Y 0 rfl;rw[V];simp only[afM,bc,r 3 rfl ab,r 0 rfl ab,r 4 rfl ab,r 2 rfl ab,ea,he to I _ J,he b F _ G,Z,y7 M,y7 N,k2,D,E,s1,R];rfl
 .show x∈iQ (dR pl bt ks) t0↔_;rw[rq,yf,l,B,LP C,or_comm]
 .rw[afm,DP];constructor
  .rintro(av|⟨x,h1,h2⟩);·exact .inl av
   exact .inr ⟨x,(rq ..).2 (.inl h1),λav=>h2 ((l x).2 av)⟩
  rintro(av|⟨x,h1,h2⟩);·exact .inl av
  rcases(rq ..).1 h1 with av|av;·exact .inr ⟨x,av,λh3=>h2 ((l x).1 h3)⟩
  exact absurd ((l x).1 av) h2
 have W:al A H (eW f e a g pm d n b pl h vs ids aB S++(us++[tB kC k [da f e a g]])):=by rw[<-aeC];exact U.cH (ae4 (l₁:=[_]))
 have u:=al.jT (c:=fi c 0 [.bool (h||jR t0 (dR pl bt ks))]) (nw2:=h||jR t0 (dR pl bt ks)) (P:=λx=>x∈iQ (dR pl bt ks) t0) (ks:=iQ (dR pl bt ks) t0) (H2:=((H.set (ids b) (.dt (iZ (iQ (dR pl bt ks) t0)))).set a (.cells (fi c 0 [.bool (h||jR t0 (dR pl bt ks))]) 1 4 true [] 0)).skip) y hb W (by show H.next.az<=H.next.succ.az;rw[af.fH];omega) (λj h1 h2=>by show((H.set (ids b) _).set a _).get j=_;rw[ai.aJ,ap h2,ai.aJ,ap h1]) (by show jG (((H.set (ids b) _).set a _).get (ids b)) _;rw[ai.aJ,ap O,ai.aJ,aH rfl];exact QT (Aj _ t.1)) (λx=>Iff.rfl) (by show((H.set (ids b) _).set a _).get a=_;rw[ai.aJ,aH rfl]) (by rw[nJ];simp);rw[<-aeC]at u;exact u.cH (ae4 (l₂:=[_]))
end
end
section
def uj(g:G.aY)(os:List (List bI))(S:Nat->Int->Prop)(b:Nat)(v:Int):Prop:=
 (∃bt,(v,bt)∈eO (be g b)/\lI g b v bt)\/(∃w∈wW g os b,S w v/\lI g b v (be g b).aL.length)\/∃t,kH g (os.getD b [])=some t/\S t.toNat v/\lI g b v 0
theorem Fb{o P p:Int->Prop}{h j:Bool}(h0:∀x,o x->P x)(h1:∀x,P x->p x)(r:h=true↔∃x,P x/\¬o x)(q:j=true↔h=true\/∃x,p x/\¬P x):j=true↔∃x,p x/\¬o x:=by
 rw[q,r];constructor
 .rintro(⟨x,s,i⟩|⟨x,s,i⟩);·exact⟨x,h1 x s,i⟩
  exact⟨x,s,λe=>i (h0 x e)⟩
 rintro⟨x,s,i⟩;by_cases e:P x;·exact .inl ⟨x,e,i⟩
 exact .inr ⟨x,s,e⟩
theorem Fc(S:Nat->Int->Prop)(b:Nat)(P Q:Int->Prop):d8 (d8 S b P) b Q=d8 S b Q:=by funext x;simp only[d8];split<;>rfl
theorem aaF{o:List (Int×Int)}(p:(o.map (·.1)).Nodup){i j:Nat}(hi:i<o.length)(hj:j<o.length)(e:o[i].1=o[j].1):i=j:=(List.getElem_inj (h₀:=by simpa using hi) (h₁:=by simpa using hj) p).1 (by simpa using e)
theorem aaG{v:AV}{n:Nat}(j:lenOf v=some n):(∃i o p e,v=.slice i o n p e)\/v=.aG/\n=0:=by
 unfold lenOf at j;split at j;·injection j with j;subst j;exact .inl ⟨_,_,_,_,rfl⟩
 .injection j with j;exact .inr ⟨rfl,j.symm⟩
 cases j
theorem aaH(S:Nat->Int->Prop)(b:Nat):d8 S b (S b)=S:=by funext x;simp only[d8];split<;>simp_all
theorem Bx(S:Nat->Int->Prop)(b:Nat)(P:Int->Prop):d8 S b P b=P:=by simp[d8]
section
variable{A H:ai}{n b:Nat}{vs:List AV}{ids:Nat->af}{aB:List Nat}{S:Nat->Int->Prop}{d f a c pm k:af}{pl:List (Int×Int)}{h:Bool}{us:List Th}
theorem aaI{t:Th}(T:Tb ac)(q:wN n vs ids aB)(hb:b∈aB)(U:al A H (t::(eW d f a c pm k n b pl h vs ids aB S++us))){v bt:Int}{K:KT}(s:∀r j P e,(∀x,P x↔S b x\/x=v/\∀p,(v,p)∈pl->bt<=p)->(e=true↔h=true\/∃x,P x/\¬S b x)->al A j (t::(eW d f a c pm k n b pl e vs ids aB (d8 S b P)++us))->K r j):YF ac (da d f a c) [aI v,aI bt] H K:=by
 have o:al A H (eW d f a c pm k n b pl h vs ids aB S++(us++[t])):=by rw[<-aeC];exact U.cH (ae4 (l₁:=[_]))
 refine aaD T q hb o λr j P e h1 h2 i=>s r j P e h1 h2 ?_;rw[<-aeC]at i;exact i.cH (ae4 (l₂:=[_]))
theorem al.aaJ{xs ys:List Th}{e:Nat}{q:af}{cs:List AV}(U:al A H (xs++tB e q cs::ys)){o:Nat}{v:AV}(i:cs[o]?=some v):bx H q o=some v:=by obtain⟨_,j⟩:=(U.rH).get 0 rfl;exact tB.cell j i
end
section
variable{g:G.aY}{m cv:AV}{l:af}{A H:ai}{come:List Bool}{os:List (List bI)}{svs:List AV}{n b:Nat}{vs:List AV}{ids:Nat->af}{aB:List Nat}{S:Nat->Int->Prop}{k:af}{us:List Th}
theorem aaK(T:Tb ac)(V:Vd g)(hX:GX g A l m cv come os svs)(hK:dq g come os)(hO:wN n vs ids aB)(hm:∀x,x∈aB↔come.getD x false=true)(hb:come.getD b false=true)(U:al A H (jw k n vs ids aB S++us)){K:KT}(ej:∀H' P h,(∀v,P v↔S b v\/uj g os S b v)->(h=true↔∃v,P v/\¬S b v)->al A H' (jw k n vs ids aB (d8 S b P)++us)->K (.bool h) H'):YN ac Uz [.aD l 0,aN b,.slice k 0 n n true] H K:=by
 have hB:=V.sm;have dy:=hB.nb;have a6:=hK.lt hb;have a8:=(hm b).2 hb;have R:=hX.iz.lt;have cd:=hX.iz.be;have⟨dz,_,_,_⟩:=hX.bl.all;have ag:=qH a6;have d0:=hB.bl _ ag;have cz:=hB.st _ ag;have cf:=hB.ed _ ag;have cn:=V.gv.nd _ ag;have cp:g.aj[b]=be g b:=(bm a6 _).symm;have dv:(wW g os b).length<=12:=by have:=Bc (now:=os.getD b []) hB a6;simpa[wW,kf]using this
 refine YF.code T.Wk aC ?_;refine au ?_;refine RO.cG U λH1 d U=>?_;refine RO.cG U λH2 f U=>?_;refine RO.dM U λH3 a U=>?_;refine ah ?_;refine RO.bk ?_ (v:=m) (hc:=by rw[U.gr.bx R];exact cd);refine ah ?_;refine RO.bW U.gr hX.bl (λq9 o9 ei d1 av d2 hat hrd=>?_) (j:=b);rw[cp]at av;generalize D:be g b=B at*;have a1:=av.one;have bb:=av;obtain⟨Y,y,jc,rfl,d3,cx,Z,vk,vg,rfl,_,_,_⟩:=av;have⟨_,_,_,b6⟩:=cx.all;refine ah ?_;refine RO.eR U λH4 L U=>?_;refine ah ?_;refine RO.ZK U λH5 pm U=>?_;refine RO.eR U λH6 c U=>?_;refine ah ?_;refine RO.cr U 2 ?_;refine RO.cl (KM T (cs:=[Y,y,aU B.aA.op,Z,.str B.aA.i7,vk,vg]) a1 rfl λH7 q hl=>?_);have U:=U.eK hl;refine ah ?_;refine Ru.wk (L:=[(rO,.func AY [] [.aD q 0]),(p0,.aD l 0),(p4,.aD d 0),(p5,.aD f 0),(p6,.aD a 0),(p7,.aD L 0),(p8,.aD c 0)]) ?_;have U:al A H7 ([tB cL q [Y,y,aU B.aA.op,Z,.str B.aA.i7,vk,vg]]++[tB AG c [.map pm],tI pm ((cD B).take 0)]++(tB cL L [Y,y,aU B.aA.op,Z,.str B.aA.i7,vk,vg]::tB 4 a [.bool false]::tB rJ f [.slice k 0 n n true]::tB 3 d [aN b]::(jw k n vs ids aB S++us))):=U;refine Ru.qF (J:=λek ts=>ts=[tB AG c [.map pm],tI pm ((cD B).take ek)]) (Dn:=λ_ _=>False) U (KN T bb ab ab) (λ_ _=>trivial) rfl (λek args ws ej=>by obtain⟨rfl,_,rfl⟩:=ej;rfl) (λ_ _ _ _ _ _=>trivial) (λek args ws ts us el o1 o2 H' hk a' hJ U=>?_) (λH' ba Q hJ U=>?_) (λj H' ba Q _ ej=>ej.elim)
 .obtain⟨rfl,aw,rfl⟩:=a';subst hJ;have b7:((cD B)[ek]).1∉((cD B).take ek).map agw:=λC=>by obtain⟨p,hp,e⟩:=aeK.1 C;obtain⟨i,hi,rfl⟩:=aeB hp;rw[aeP]at hi;rw[List.getElem_take]at e;have:=aaF cn ab aw e;omega
  refine au ?_;refine Ru.dN (xs:=[_,_]) U λH2 U=>?_;refine ah ?_;refine RO.ZL U 1 b7 (λH3 U=>?_);refine ah ?_;refine Ru.bB (ts:=[_,_]) U ?_;rw[<-aeO aw]
 subst hJ;rw[af4]at U;refine ah ?_;refine RO.eR (xv:=da d f a c) U λH8 u U=>?_;refine ah ?_;refine RO.cr U 4 ?_;refine RO.cl (EJ T (cs:=[Y,y,aU B.aA.op,Z,.str B.aA.i7,vk,vg]) a1 λH9 qr hl=>?_);have U:=U.eK hl;refine ah ?_;refine Ru.wk (L:=[(rP,.func yq [] [.aD qr 0]),(p0,.aD l 0),(p4,.aD d 0),(p5,.aD f 0),(p6,.aD a 0),(p7,.aD L 0),(p8,.aD c 0),(fJ,.aD u 0)]) ?_;have U:=((((((U.eL 3 rfl).eL 3 rfl).eL 7 rfl).eL 8 rfl).eL 8 rfl).eL 6 rfl).eL 6 rfl;have U:al A H9 ([tB cL qr [Y,y,aU B.aA.op,Z,.str B.aA.i7,vk,vg]]++(tB kC u [da d f a c]::eW d f a c pm k n b (cD B) false vs ids aB S)++(tX Q (.deferred false)::tB cL L [Y,y,aU B.aA.op,Z,.str B.aA.i7,vk,vg]::us)):=by rw[aeC];exact U.cH (List.Perm.append_left [_,_,_,_,_,_,_] (List.perm_append_comm_assoc [_,_] _ _))
 refine Ru.qF (J:=λek ts=>∃P h,(∀x,P x↔S b x\/∃q∈(eO B).take ek,q.1=x/\∀p,(x,p)∈cD B->q.2<=p)/\(h=true↔∃x,P x/\¬S b x)/\ts=tB kC u [da d f a c]::eW d f a c pm k n b (cD B) h vs ids aB (d8 S b P)) (Dn:=λ_ _=>False) U (EK T bb ab (λs hs=>by have:=(cz s hs).1;omega) ab ab (λe he=>by have:=cf e he;omega)) (λ_ _=>trivial) ⟨S b,false,aC,aC,by rw[aaH]⟩ (λek args ws ej=>by obtain⟨rfl,_,rfl⟩:=ej;rfl) (λ_ _ _ _ _ _=>trivial) (λek args ws ts us el o1 o2 H' hk a' hJ U=>?_) (λH' ba E hJ U=>?_) (λj H' ba Q _ ej=>ej.elim)
 .obtain⟨rfl,aw,rfl⟩:=a';obtain⟨P,h,I,hn,rfl⟩:=hJ;refine au ?_;refine Ru.dN (xs:=tB kC u [da d f a c]::eW d f a c pm k n b (cD B) h vs ids aB (d8 S b P)) U λH2 U=>?_;refine ah ?_;refine RO.cl (aaI T hO a8 (us:=tX el o2::us) U λr H3 P2 F h1 h2 U=>?_);rw[Bx]at h1 h2;rw[Fc]at U;refine ah ?_;refine Ru.bB (ts:=tB kC u [da d f a c]::eW d f a c pm k n b (cD B) F vs ids aB (d8 S b P2)) U ⟨P2,F,λx=>?_,Fb (λx C=>(I x).2 (.inl C)) (λx C=>(h1 x).2 (.inl C)) hn h2,rfl⟩;rw[h1,I,<-aeO aw,or_assoc];refine or_congr Iff.rfl ⟨?_,?_⟩
  .rintro(⟨q,N,ej⟩|⟨rfl,ej⟩);·exact⟨q,aeN _ N,ej⟩
   exact⟨_,aeU _ (aaN.2 rfl),rfl,ej⟩
  rintro⟨q,N,e,ej⟩;rcases aeu.1 N with N|N;·exact .inl ⟨q,N,e,ej⟩
  rw[aaN]at N;subst N;exact .inr ⟨e.symm,by rw[e];exact ej⟩
 obtain⟨P0,bd,J,cy,rfl⟩:=hJ;rw[af4]at J;refine ah ?_;refine RO.cl (EA T V.sm V.dY (hX.bZ U.gr) hK hb λd4 v hl=>?_);have U:=(U.eK hl).cH (afd (l₁:=tB kC u [da d f a c]::eW d f a c pm k n b (cD B) bd vs ids aB (d8 S b P0))).symm;have⟨d5,_,_,d6⟩:=(hl.sl (e:=3) (size:=1) (sv:=v) (vs:=(wW g os b).map aN) (n:=(wW g os b).length) (full:=true) 0).all;refine ah ?_;refine Ru.nm λS0 M hS hM=>?_;refine Ru.bM hM (up (P:=λek=>∀HX P h,(∀x,P x↔P0 x\/∃w∈(wW g os b).take ek,S w x/\∀p,(x,p)∈cD B->(B.aL.length:Int)<=p)->(h=true↔∃x,P x/\¬S b x)->al A HX (tB kC u [da d f a c]::eW d f a c pm k n b (cD B) h vs ids aB (d8 S b P)++tS 3 1 ((wW g os b).map aN) (wW g os b).length true v::(tX E (.deferred false)::tX Q (.deferred false)::tB cL L [Y,y,aU B.aA.op,Z,.str B.aA.i7,vk,vg]::us))->Ru ac _ S0 ([(pq,aN ek)]++pk M [p0,p4,p5,p6,p7,p8,fJ,qz,mO]) HX) (wW g os b).length (λek hk ih HX P h I hn U=>?_) 0 ab _ P0 bd aC cy U);subst hS;subst hM;refine Ru.loop ?_;refine au ?_;refine Ru.cond (λR=>?_) (λR=>?_)
 .refine ah ?_;have cR:=(U.rH).sl (e:=3) (size:=1) (sv:=v) (vs:=(wW g os b).map aN) (n:=(wW g os b).length) (full:=true) 0;refine RO.iE (aZ.refl _) cR (λd7 d' dx ea=>?_) (j:=ek);refine ah ?_;have c9:(wW g os b)[ek]∈wW g os b:=acI R;have ax:=(hm _).2 (hK.kG hb c9);have bv:(wW g os b).take (ek+1)=(wW g os b).take ek++[(wW g os b)[ek]]:=(aeO R).symm;have ih:=ih (ek+1) ab ab;rw[bv]at ih;clear bv;generalize(wW g os b)[ek]=to at*;obtain⟨H',P2,F,hg,h1,h2,W⟩:=LR hO a8 ax U (bt:=.ofNat B.aL.length) (tos:=15) (bV:=xX);have c':L≠a:=λe=>by have h8:=U.cH (afd (l₁:=tB kC u [da d f a c]::eW d f a c pm k n b (cD B) h vs ids aB (d8 S b P)++[tS 3 1 ((wW g os b).map aN) (wW g os b).length true v,tX E (.deferred false),tX Q (.deferred false)]) (l₂:=us) (a:=tB cL L [Y,y,aU B.aA.op,Z,.str B.aA.i7,vk,vg])|>λej=>by simpa using ej);exact h8.ne 0 2 rfl rfl ab (λet ej=>ej.1) (λet ej=>ej.1) e
  have dm:bx HX L 1=some y:=by refine al.aaJ (xs:=tB kC u [da d f a c]::eW d f a c pm k n b (cD B) h vs ids aB (d8 S b P)++[tS 3 1 ((wW g os b).map aN) (wW g os b).length true v,tX E (.deferred false),tX Q (.deferred false)]) (ys:=us) (by simpa using U) rfl
  refine Ru.eF (bV:=xX) (H':=H') T.XL (M:=[(p0,.aD l 0),(p4,.aD d 0),(p5,.aD f 0),(p6,.aD a 0),(p7,.aD L 0),(p8,.aD c 0),(fJ,.aD u 0),(qz,v),(mO,aN (wW g os b).length),(pq,aN ek)]) (λaa G=>?_) ?_
  .refine hg aa _ (G.get (p:=sl 11) rfl rfl) (G.get (p:=sl 5) rfl rfl) (G.get (p:=sl 15) rfl rfl) ?_;simp only[G.get (p:=sl 7) (v:=.aD L 0) rfl rfl,y7 c',abu,bA,dm,aeL];rcases aaG b6 with⟨i,o,ew,e,rfl⟩|⟨rfl,h0⟩;·rfl
   rw[h0]
  rw[Bx]at h1 h2;rw[Fc]at W;have key:∀x,P2 x↔P0 x\/∃w∈(wW g os b).take ek++[to],S w x/\∀p,(x,p)∈cD B->(B.aL.length:Int)<=p:=λx=>by
   have b':∀x,S b x->P x:=λx C=>(I x).2 (.inl ((J x).2 (.inl C)));have b0:P x->P0 x\/∃w∈(wW g os b).take ek++[to],S w x/\∀p,(x,p)∈cD B->(B.aL.length:Int)<=p:=λej=>by
    rcases(I x).1 ej with ej|⟨w,O,ej⟩;·exact .inl ej
    exact .inr ⟨w,aeN _ O,ej⟩
   rw[h1];constructor
   .rintro(ej|⟨ej,ay⟩);·exact b0 ej
    simp only[d8]at ej;split at ej;·exact b0 ej
    exact .inr ⟨to,aeU _ (aaN.2 rfl),ej,ay⟩
   rintro(ej|⟨w,O,hs,ay⟩);·exact .inl ((I x).2 (.inl ej))
   rcases aeu.1 O with O|O;·exact .inl ((I x).2 (.inr ⟨w,O,hs,ay⟩))
   rw[aaN]at O;subst O;by_cases e:w=b;·subst e;exact .inl (b' x hs)
   refine .inr ⟨?_,ay⟩;simp only[d8,ap e];exact hs
  refine ah ?_;exact Ru.wk (ih H' P2 F key (Fb (λx C=>(I x).2 (.inl ((J x).2 (.inl C)))) (λx C=>(h1 x).2 (.inl C)) hn h2) W)
 refine Ru.exitTo ?_;rw[aeI ab]at I;refine ah ?_;have hR:∀x,(P x->S b x\/uj g os S b x)/\((∃q∈eO B,q.1=x/\∀p,(x,p)∈cD B->q.2<=p)\/(∃w∈wW g os b,S w x/\∀p,(x,p)∈cD B->(B.aL.length:Int)<=p)->P x)/\(S b x->P x):=λx=>by
  refine⟨λej=>?_,λej=>?_,λej=>(I x).2 (.inl ((J x).2 (.inl ej)))⟩
  .rcases(I x).1 ej with ej|⟨w,O,h1,h2⟩
   .rcases(J x).1 ej with ej|⟨q,N,rfl,h2⟩;·exact .inl ej
    refine .inr (.inl ⟨q.2,?_,?_⟩);·rw[D];exact N
    simp only[lI,D];exact h2
   refine .inr (.inr (.inl ⟨w,O,h1,?_⟩));simp only[lI,D];exact h2
  rcases ej with⟨q,N,ej⟩|⟨w,O,ej⟩;·exact(I x).2 (.inl ((J x).2 (.inr ⟨q,N,ej⟩)))
  exact(I x).2 (.inr ⟨w,O,ej⟩)
 have b3:∀x,uj g os S b x->P x\/∃t,kH g (os.getD b [])=some t/\S t.toNat x/\∀p,(x,p)∈cD B->0<=p:=λx ej=>by
  rcases ej with⟨bt,h1,h2⟩|⟨w,h1,h2,h3⟩|⟨t,h1,h2,h3⟩
  .refine .inl ((hR x).2.1 (.inl ⟨(x,bt),?_,rfl,?_⟩));·rw[<-D];exact h1
   simp only[lI,D]at h2;exact h2
  .refine .inl ((hR x).2.1 (.inr ⟨w,h1,h2,?_⟩));simp only[lI,D]at h3;exact h3
  refine .inr ⟨t,h1,h2,?_⟩;simp only[lI,D]at h3;exact h3
 refine RO.cl (aat T hB V.dY (hX.bZ U.gr) hK hb λeb ca=>?_);have U:=U.bZ ca;have a2:∀HX P h,al A HX (tB kC u [da d f a c]::eW d f a c pm k n b (cD B) h vs ids aB (d8 S b P)++tS 3 1 ((wW g os b).map aN) (wW g os b).length true v::(tX E (.deferred false)::tX Q (.deferred false)::tB cL L [Y,y,aU B.aA.op,Z,.str B.aA.i7,vk,vg]::us))->al A HX (eN [E,Q]++(tB 4 a [.bool h]::(jw k n vs ids aB (d8 S b P)++us))):=λHX P h U=>by
  have h1:al A HX (tB kC u [da d f a c]::tB 4 a [.bool h]::tB 3 d [aN b]::tB rJ f [.slice k 0 n n true]::tB AG c [.map pm]::tI pm (cD B)::(jw k n vs ids aB (d8 S b P)++(tS 3 1 ((wW g os b).map aN) (wW g os b).length true v::(tX E (.deferred false)::tX Q (.deferred false)::tB cL L [Y,y,aU B.aA.op,Z,.str B.aA.i7,vk,vg]::us)))):=by simpa only[eW,afk,afz,aeC]using U
  have h2:=h1.sub (.cons _ (.cons_cons _ (.cons _ (.cons _ (.cons _ (.cons _ ((afG (jw k n vs ids aB (d8 S b P))).append (.cons _ (.cons_cons _ (.cons_cons _ (.cons _ (afG us))))))))))));exact h2.cH (List.perm_append_comm_assoc (tB 4 a [.bool h]::jw k n vs ids aB (d8 S b P)) [_,_] us)
 cases ht:kH g (os.getD b [])with
 |none=>
  refine ah ?_;refine RO.eo U 1 (λdr U=>?_);refine ah ?_;refine Ru.ke (M:=[E,Q]) (a2 _ P h U) λH' U=>⟨[.bool h],⟨⟨_,_,rfl,U.one 0⟩,trivial⟩,ej H' P h (λx=>⟨(hR x).1,λC=>?_⟩) hn U.tail⟩;rcases C with C|C;·exact(hR x).2.2 C
  rcases b3 x C with z|⟨t,z,_⟩;·exact z
  rw[ht]at z;cases z
 |some t=>
  obtain⟨_,_,_,_,b4,ec⟩:=Bi V.dY hK hb ht;have ax:=(hm _).2 b4;obtain⟨to,rfl⟩:∃to:Nat,t=(to:Int):=⟨t.toNat,ab⟩;rw[aeA]at ax b4;obtain⟨H',P2,F,hg,h1,h2,W⟩:=LR hO a8 ax U (bt:=.ofNat 0) (tos:=17) (bV:=xY);rw[Bx]at h1 h2;rw[Fc]at W;refine ah ?_;refine Ru.eF (bV:=xY) (H':=H') T.XM (M:=[(p6,.aD a 0)]) (λaa G=>?_) ?_;·exact hg aa _ (G.get (p:=sl 11) rfl rfl) (G.get (p:=sl 5) rfl rfl) (G.get (p:=sl 17) rfl rfl) rfl
  refine ah ?_;have U:=W;refine RO.gR U 1 ?_;refine RO.eo U 1 (λdr U=>?_);refine ah ?_;refine Ru.ke (M:=[E,Q]) (a2 _ P2 F U) λH' U=>⟨[.bool F],⟨⟨_,_,rfl,U.one 0⟩,trivial⟩,ej H' P2 F (λx=>?_) (Fb (λx C=>(hR x).2.2 C) (λx C=>(h1 x).2 (.inl C)) hn h2) U.tail⟩;rw[h1];constructor
  .rintro(z|⟨z,X⟩);·exact(hR x).1 z
   simp only[d8]at z;split at z;·exact(hR x).1 z
   refine .inr (.inr (.inr ⟨_,ht,by rw[aeA];exact z,?_⟩));simp only[lI,D];exact X
  rintro(z|z);·exact .inl ((hR x).2.2 z)
  rcases b3 x z with z|⟨t,z,X,ds⟩;·exact .inl z
  rw[ht]at z;injection z with z;subst z;rw[aeA]at X;by_cases e:to=b;·subst e;exact .inl ((hR x).2.2 X)
  refine .inr ⟨?_,ds⟩;simp only[d8,ap e];exact X
end
end
theorem RO.aaL{c:Cx}{s:List SI}{L:Kn}{H:ai}{d:Option af}{l:List bu}{z:Int}{x y:aK}(h:RO ac c l s (bj L d (.bool false)) H)(b:aT L x=.d9:=by exact cw)(e:aT L y=.int 3 z:=by exact cw):RO ac c (⟨d,.lookup .int (.bool false) false x y,none,[],[]⟩::l) s L H:=RO.op (λaa a=>by simp only[aE,gB,aeY,abu,bA,a.gv b rfl,a.gv e rfl]) h
def cb(p:Prop):Bool:= @decide p (Classical.propDecidable p)
theorem Fe{p:Prop}:cb p=true↔p:= @decide_eq_true_iff p (Classical.propDecidable p)
def y8(nv:Nat)(aB:List Nat)(S:Nat->Int->Prop):Nat:=(aB.map λb=>((afD nv).filter λ(v:Nat)=>cb (¬S b (v:Int))).length).sum
theorem Ff{c:Type}{p q:c->Bool}(h:∀x,p x=true->q x=true):∀l:List c,(l.filter p).length<=(l.filter q).length|[]=>aeq _|a::l=>by have e:=Ff h l;cases b:p a with|true=>simp only[List.filter_cons,b,h a b,bc,aeJ];omega|false=>cases d:q a<;>simp only[List.filter_cons,b,d,bc,abu,bA,aeJ]<;>omega
theorem LS{d:Type}{p q:d->Bool}(h:∀x,p x=true->q x=true){y:d}(f:q y=true)(g:p y=false):∀l:List d,y∈l->(l.filter p).length<(l.filter q).length
 |[],c=>by cases c
 |a::l,c=>by
  rcases aer.1 c with rfl|c;·have:=Ff h l;simp only[List.filter_cons,g,f,bc,abu,bA,aeJ];omega
  have i:=LS h f g l c;cases b:p a with|true=>simp only[List.filter_cons,b,h a b,bc,aeJ];omega|false=>cases e:q a<;>simp only[List.filter_cons,b,e,bc,abu,bA,aeJ]<;>omega
theorem LU{b:Type}{f g:b->Nat}:∀l:List b,(∀x∈l,f x<=g x)->(l.map f).sum<=(l.map g).sum|[],_=>aeq _|a::l,h=>by have:=LU l λx c=>h x (aen _ c);have:=h a (acm ..);simp only[aez,List.sum_cons];omega
theorem LW{c:Type}{f g:c->Nat}{y:c}(e:f y<g y):∀l:List c,(∀x∈l,f x<=g x)->y∈l->(l.map f).sum<(l.map g).sum
 |[],_,b=>by cases b
 |a::l,h,b=>by
  have h1:=h a (acm ..);simp only[aez,List.sum_cons];rcases aer.1 b with rfl|b;·have:=LU l λx d=>h x (aen _ d);omega
  have:=LW e l (λx d=>h x (aen _ d)) b;omega
theorem aaM{nv:Nat}{aB:List Nat}{S a:Nat->Int->Prop}(h:∀b∈aB,∀v,S b v->a b v){b:Nat}(hb:b∈aB){v:Nat}(f:v<nv)(h1:a b v)(h2:¬S b v):y8 nv aB a<y8 nv aB S:=by
 unfold y8;have c:∀x∈aB,∀w:Nat,cb (¬a x (w:Int))=true->cb (¬S x (w:Int))=true:=λx d w e=>by rw[Fe]at e⊢;exact λhs=>e (h x d _ hs)
 refine LW (y:=b) ?_ aB (λx d=>Ff (c x d) _) hb;refine LS (c b hb) (y:=v) (Fe.2 h2) ?_ _ (afR.2 f);cases g:cb (¬a b (v:Int))with|false=>rfl|true=>exact absurd h1 (Fe.1 g)
def Fg(g:G.aY)(os:List (List bI))(aB:List Nat)(S:Nat->Int->Prop):Prop:=∀b∈aB,∀v,uj g os S b v->S b v
def wO(g:G.aY)(os:List (List bI))(S:Nat->Int->Prop):Prop:=∀b v,S b v->Lv g os b v
theorem wO.iu{g:G.aY}{os:List (List bI)}{S:Nat->Int->Prop}{b:Nat}{P:Int->Prop}(h:wO g os S)(c:∀v,P v->S b v\/uj g os S b v):wO g os (d8 S b P):=λx v a=>by
 simp only[d8]at a;split at a
 .rename_i e;subst e;rcases c v a with h1|⟨bt,h1,h2⟩|⟨w,h1,h2,h3⟩|⟨t,h1,h2,h3⟩;·exact h _ _ h1
  .exact .mL h1 h2
  .exact .kG h1 (h _ _ h2) h3
  exact .qI h1 (h _ _ h2) h3
 exact h _ _ a
theorem Fg.all{g:G.aY}{a:List Bool}{os:List (List bI)}{aB:List Nat}{S:Nat->Int->Prop}(k:ff g)(f:dq g a os)(c:∀x,x∈aB↔a.getD x false=true)(h:Fg g os aB S){b:Nat}{v:Int}(hl:Lv g os b v):b∈aB->S b v:=by induction hl with| @mL b v bt h1 h2=>intro hb;exact h b hb v (.inl ⟨bt,h1,h2⟩)| @kG b w v i _ d e=>intro hb;exact h b hb v (.inr (.inl ⟨w,i,e ((c w).2 (f.kG ((c b).1 hb) i)),d⟩))| @qI b t v j _ d e=>intro hb;obtain⟨_,_,_,_,l,_⟩:=Bi k f ((c b).1 hb) j;exact h b hb v (.inr (.inr ⟨t,j,e ((c _).2 l),d⟩))
section
structure Fh(g:G.aY)(come:List Bool)(os:List (List bI))(lv:List (List Int)):Prop where
 len:lv.length=g.aj.length
 mem:∀b,come.getD b false=true->∀v,v∈lv.getD b []↔Lv g os b v
 EY:∀b,come.getD b false=false->lv.getD b []=[]
 iF:∀b,(lv.getD b []).length<=6000
 asc:∀b,(lv.getD b []).Pairwise (·<·)
abbrev LX:Nat->List AV->Prop:=λb cs=>cs=[aN b]
theorem LY{H:ai}{l:List Nat}{v:AV}(b:Sl H 1 (l.map aN) l.length v):cK 1 (λ_=>LX) H l v:=⟨_,b,λk a=>by rw[af0,aeE (by simpa using a)];simp⟩
section
variable{g:G.aY}{d f:AV}{c:af}{H:ai}{come:List Bool}{os:List (List bI)}{h:List AV}
def kK(e i j b c:af)(n:Nat)(k:AV)(l:Bool)(m:List AV)(a:Nat->af)(aB:List Nat)(S:Nat->Int->Prop):List Th:=[tB 4 j [.bool l],tB rJ i [.slice b 0 n n true],tB iw e [.aD c 0],tS 3 1 (aB.map aN) aB.length true k]++jw b n m a aB S
theorem aaO(T:Tb ac)(V:Vd g)(hX:GX g H c d f come os h)(R:dq g come os){K:KT}(e7:∀H' v W p F,Fh g come os W->iG W p F->al H H' [tZ F,tS fZ 1 p p.length true v]->K v H'):YN ac Ul [.aD c 0] H K:=by
 have hB:=V.sm;have ax:=hB.nb;have⟨d',_,_,ea⟩:=hX.bl.all;have b3:=hX.iz.be;have a8:=hX.iz.lt;have eb:=R.lt R.c0;refine YF.code T.V4 aC ?_;refine au ?_;refine RO.cG (al.bY H) λH1 G U=>?_;refine ah ?_;refine RO.bk ?_ (v:=d) (hc:=by rw[U.gr.bx a8];exact b3);refine ah ?_;refine RO.jn U (n:=g.aj.length) (λH2 A U=>?_) (hz:=by rw[eS];simp);rw[eS]at U;refine RO.eR U λH3 I U=>?_;refine ah ?_;refine RO.cl (Kz T V.sm V.dY (hX.bZ U.gr) R λH4 C aB N hl=>?_);have U:=U.eK hl;have⟨cv,cx,cy,ec⟩:=(hl.sl 0 rfl).all;have ei:aB.length<=g.aj.length:=Be _ _ N.nd λx hx=>R.lt ((N.mem x).1 hx);refine ah ?_;have U:al H H4 ([tS 3 1 (aB.map aN) aB.length true C,tB rJ I [.slice A 0 g.aj.length g.aj.length true],tB iw G [.aD c 0]]++jw A g.aj.length (aeo g.aj.length .d9) (λ_=>.xH) (aB.take 0) (λ_ _=>False)):=U.cH (afL _ (afL _ (afA ..)));refine Ru.nm λS0 M hS X=>?_;refine Ru.bM X (up (P:=λk=>∀z vs o,vs.length=g.aj.length->(∀b∈aB.take k,vs.getD b .ct=.map (o b))->(∀b,b<g.aj.length->b∉aB.take k->vs.getD b .ct=.d9)->al H z ([tS 3 1 (aB.map aN) aB.length true C,tB rJ I [.slice A 0 g.aj.length g.aj.length true],tB iw G [.aD c 0]]++jw A g.aj.length vs o (aB.take k) (λ_ _=>False))->Ru ac _ S0 ([(qv,aN k)]++pk M [p1,p3,p4,vU,vV]) z) aB.length (λk hk ih z vs o L Y a' U=>?_) 0 ab _ _ (λ_=>.xH) aC aC (λb hb _=>by rw[bm (by simpa using hb)];simp) U);subst hS;subst X;refine Ru.loop ?_;refine au ?_;refine Ru.cond (λy=>?_) (λy=>?_)
 .refine ah ?_;refine RO.iE (aZ.refl _) (U.sl 0 rfl) (λq5 o5 ej ek=>?_) (j:=k);have el:aB[k]<g.aj.length:=R.lt ((N.mem _).1 (acI y));refine ah ?_;refine RO.ZJ U λH5 qm U=>?_;refine ah ?_;refine RO.A9 U 4 L (λH6 U=>?_) (k:=aB[k]);refine ah ?_;have ba:aB.take (k+1)=aB.take k++[aB[k]]:=(aeO y).symm;have cR:aB[k]∉aB.take k:=λhx=>by obtain⟨i,hi,e⟩:=aeB hx;rw[aeP]at hi;rw[List.getElem_take]at e;have:=KI N.nd ab y e;omega
  refine Ru.wk (ih (k+1) ab ab H6 (vs.set aB[k] (.map qm)) (λx=>if x=aB[k]then qm else o x) (by simpa using L) (λb hb=>?_) (λb hb ax=>?_) ?_)
  .rw[ba]at hb;rw[dk ab];by_cases e:b=aB[k];·rw[aH e,aH e]
   rw[ap e,ap e];exact Y b ((aeu.1 hb).resolve_right λe7=>e (aaN.1 e7))
  .rw[ba]at ax;rw[dk ab,ap λe=>ax (by rw[e];exact aeU _ (aaN.2 rfl))];exact a' b hb λe7=>ax (aeN _ e7)
  have U:=U.as (t':=tM false qm λ_=>False) 0 rfl λfp hp=>⟨hp.1,hp.2.1,hp.2.2.1,(λe7=>by cases e7),hp.2.2.2.2⟩;have U:=U.cH (ae4 (l₁:=[_]));have e:jw A g.aj.length (vs.set aB[k] (.map qm)) (λx=>if x=aB[k]then qm else o x) (aB.take (k+1)) (λ_ _=>False)=tS Ja 1 (vs.set aB[k] (.map qm)) g.aj.length true (.slice A 0 g.aj.length g.aj.length true)::((aB.take k).map (λb=>tM false (o b) λ_=>False)++[tM false qm λ_=>False]):=by
   rw[jw,ba,aeZ];congr 2;·exact afK λb hb=>by rw[ap λe=>cR (by rw[<-e];exact hb)]
   simp
  rw[e];exact U
 refine Ru.exitTo ?_;rw[aeI ab]at Y a' U;have cd:=Y;have cf:=a';have c9:wN g.aj.length vs o aB:=⟨L,N.nd,λb hb=>⟨R.lt ((N.mem b).1 hb),Y b hb⟩⟩;refine ah ?_;refine RO.eR U λH5 D U=>?_;have U:al H H5 (kK G I D A c g.aj.length C true vs o aB (λ_ _=>False)++eN []):=by rw[show eN []=[]from rfl,afu];exact((U.eL 3 rfl).eL 3 rfl).eL 2 rfl
 refine ah ?_;refine Ru.nm λS0 M hS X=>?_;refine Ru.bM X (dn (P:=λm=>∀z O S cn D,(if cn=true then y8 g.aW.toNat aB S+1 else 0)=m->(cn=false->Fg g os aB S)->wO g os S->al H z (kK G I D A c g.aj.length C cn vs o aB S++eN O)->Ru ac ⟨l9 [.tmp p2] K,O,none⟩ S0 ([(p7,.aD D 0)]++pk M [p1,p3,p4]) z) (λm ih z O S cn D c' Z bb U=>?_) _ _ [] (λ_ _=>False) true D rfl (λe7=>by cases e7) (λ_ _ e7=>e7.elim) U);subst hS;subst X;refine Ru.loop ?_;refine ah ?_;refine Ru.eh (λB=>?_) (λB=>?_)
 .subst B;refine ah ?_;refine RO.eo U 0 (λH6 U=>?_);refine ah ?_;refine RO.cl (K0 T.Wj bK cv cx cy λH7 q hl=>?_);have U:=U.eK hl;refine ah ?_;refine Ru.wk (L:=[(tC,.func UV [] [.aD q 0]),(p1,.aD G 0),(p3,.aD I 0),(p4,C),(p7,.aD D 0)]) ?_;have U:al H H7 ([tB fZ q [C]]++kK G I D A c g.aj.length C false vs o aB S++eN O):=U;refine Ru.qF (J:=λk ts=>∃E r,(∀b∈aB,∀v,S b v->E b v)/\(r=true->∃b∈aB,∃v,E b v/\¬S b v)/\(r=false->E=S/\∀j,j<k->∀(hj:aB.length - 1 - j<aB.length),∀v,uj g os S aB[aB.length - 1 - j] v->S aB[aB.length - 1 - j] v)/\wO g os E/\ts=kK G I D A c g.aj.length C r vs o aB E) (Dn:=λ_ _=>False) U (KZ (R:=LX) (agg:=false) (size:=1) (la:=aB) (sv:=C) (e:=fZ) (nt:=19) T.WH bK ab (λ_=>rfl) (λa cs e7=>by cases e7;rfl)) (λH2 hg=>LY ((U.bZ hg).sl 4 rfl)) ⟨S,false,λ_ _ _ e7=>e7,(λe7=>by cases e7),λ_=>⟨rfl,λj hj=>absurd hj ab⟩,bb,rfl⟩ (λk args ws e7=>by obtain⟨_,_,_,_,rfl⟩:=e7;rfl) (λk ts us H' hJ U=>by obtain⟨E,r,_,_,_,_,rfl⟩:=hJ;exact LY (U.sl 3 rfl)) (λk args ws ts us l o1 o2 H' hk dr hJ U=>?_) (λH' ds dm hJ U=>?_) (λj H' ds dm hj hD U=>hD.elim)
  .obtain⟨rfl,bd,cs,rfl,rfl⟩:=dr;obtain⟨E,r,h1,h2,h3,h4,rfl⟩:=hJ;have bv:=acI bd;have dv:=(N.mem _).1 bv;generalize dx:aB[aB.length - 1 - k]=b at*;refine au ?_;refine Ru.dN (xs:=kK G I D A c g.aj.length C r vs o aB E) U λH8 U=>?_;refine ah ?_;have U:=al.eC (xs:=[tB 4 D [.bool r],tB rJ I [.slice A 0 g.aj.length g.aj.length true],tB iw G [.aD c 0],tS 3 1 (aB.map aN) aB.length true C]) U;refine RO.cl (aaK T V hX R c9 N.mem dv U λH9 P nw hP b4 U=>?_);have U:=al.jU (xs:=[tB 4 D [.bool r],tB rJ I [.slice A 0 g.aj.length g.aj.length true],tB iw G [.aD c 0],tS 3 1 (aB.map aN) aB.length true C]) U;have a1:∀z,al H z (kK G I D A c g.aj.length C (nw||r) vs o aB (d8 E b P)++tX l o2::us)->Ru ac (yH H l o2 us (λts=>∃E r,(∀b∈aB,∀v,S b v->E b v)/\(r=true->∃b∈aB,∃v,E b v/\¬S b v)/\(r=false->E=S/\∀j,j<k+1->∀(hj:aB.length - 1 - j<aB.length),∀v,uj g os S aB[aB.length - 1 - j] v->S aB[aB.length - 1 - j] v)/\wO g os E/\ts=kK G I D A c g.aj.length C r vs o aB E) (λ_ _=>False)) [] [] z:=λz U=>by
    refine Ru.bB (ts:=kK G I D A c g.aj.length C (nw||r) vs o aB (d8 E b P)) U ⟨_,_,λx hx v hv=>?_,λB=>?_,λB=>?_,h4.iu λv hv=>(hP v).1 hv,rfl⟩
    .simp only[d8];split;·rename_i e;subst e;exact(hP v).2 (.inl (h1 x hx v hv))
     exact h1 x hx v hv
    .cases nw with
     |true=>obtain⟨v,hv,hn⟩:=b4.1 rfl;exact⟨b,bv,v,by simp only[Bx];exact hv,λe7=>hn (h1 b bv v e7)⟩
     |false=>
      obtain⟨x,hx,v,hv,hn⟩:=h2 B;refine⟨x,hx,v,?_,hn⟩;simp only[d8];split;·rename_i e;subst e;exact(hP v).2 (.inl hv)
      exact hv
    simp only[Bool.or_eq_false_iff]at B;obtain⟨e,Z⟩:=h3 B.2;have b6:∀v,P v->E b v:=λv hv=>aeW λhn=>by have:=b4.2 ⟨v,hv,hn⟩;rw[B.1]at this;cases this
    refine⟨?_,λj hj dy v hv=>?_⟩
    .rw[<-e];funext x v;simp only[d8];split;·rename_i e2;subst e2;exact propext ⟨b6 v,λe7=>(hP v).2 (.inl e7)⟩
     rfl
    by_cases dz:j=k;·subst dz;rw[dx]at hv⊢;rw[<-e]at hv⊢;exact b6 v ((hP v).2 (.inr hv))
    exact Z j ab dy v hv
   cases nw with|true=>refine ah ?_;refine RO.eo U 0 (λd0 U=>?_);refine ah ?_;exact Ru.wk (a1 _ U)|false=>refine ah ?_;refine RO.eo U 0 (λd0 U=>?_);refine ah ?_;exact Ru.wk (a1 _ U)
  obtain⟨E,r,h1,h2,h3,h4,rfl⟩:=hJ;refine ah ?_;refine RO.eR U λH8 b7 U=>?_;refine ah ?_;have U:al H H8 (kK G I b7 A c g.aj.length C r vs o aB E++eN (dm::O)):=U.sub (.cons_cons _ (.cons _ (afG _)));have aw:(if r=true then y8 g.aW.toNat aB E+1 else 0)<m:=by rw[<-c',aH rfl];cases r with|false=>simp|true=>obtain⟨b,hb,v,hv,hn⟩:=h2 rfl;have hf:=(h4 b v hv).sW V.dY R (V.Bu come os R) V.gv N ((N.mem b).1 hb);obtain⟨t,rfl⟩:∃t:Nat,v=(t:Int):=⟨v.toNat,by have:=hf.1;omega⟩;have:=aaM (nv:=g.aW.toNat) h1 hb (v:=t) (by have:=hf.2.1;omega) hv hn;rw[aH rfl];omega
  exact Ru.wk (ih _ aw H8 (dm::O) E r b7 rfl (λB b hb v hv=>by obtain⟨rfl,Z⟩:=h3 B;obtain⟨i,hi,rfl⟩:=aeB hb;have:=Z (aB.length - 1 - i) ab ab;simp only[show aB.length - 1 - (aB.length - 1 - i)=i by omega]at this;exact this v hv) h4 U)
 subst B;refine Ru.exitTo ?_;have eG:∀b,come.getD b false=true->∀v,S b v↔Lv g os b v:=λb hb v=>⟨bb b v,λe7=>(Z rfl).all V.dY R N.mem e7 ((N.mem b).2 hb)⟩;have d1:=hX.c2;have et:=V.gv.v0;have Y:=V.fm.fv.h2;obtain⟨nv,d2⟩:∃n:Nat,g.aW=(n:Int):=⟨g.aW.toNat,ab⟩;refine ah ?_;refine RO.bk ?_ (v:=d) (hc:=by rw[U.gr.bx a8];exact b3);refine ah ?_;refine RO.jn U (n:=g.aj.length) (λH6 qo U=>?_) (hz:=by rw[eS];simp);rw[eS]at U;refine ah ?_;have U:=U.px;refine Ru.nm λS0 M hS X=>?_;refine Ru.bM X (up (P:=λk=>∀z p W F,p.length=g.aj.length->(∀b,b<k->tR 1 ((W b).map aI) (W b).length (p.getD b .ct)∈F)->(∀b:Nat,b<k->((W b).length<=nv/\(W b).Pairwise (·<·))/\∀v:Int,v∈W b↔come.getD b false=true/\S b v)->(∀b,k<=b->b<g.aj.length->p.getD b .ct=.aG)->al H z (tZ F::tS fZ 1 p g.aj.length true (.slice qo 0 g.aj.length g.aj.length true)::(kK G I D A c g.aj.length C false vs o aB S++eN O))->Ru ac ⟨l9 [.tmp p2] K,O,none⟩ S0 ([(qA,aN k)]++pk M [p1,p3,gf,rR,mP]) z) g.aj.length (λk hk ih z p W F L hF ag a2 U=>?_) 0 ab _ _ (λ_=>[]) [] aC (λb hb=>absurd hb ab) (λb hb=>absurd hb ab) (λb _ hb=>by rw[bm (by simpa using hb)];simp) U);subst hS;subst X;refine Ru.loop ?_;refine au ?_;refine Ru.cond (λy=>?_) (λy=>?_)
 .refine ah ?_;have d3:vs[0+k*1]?=some (vs.getD k .ct):=by rw[show 0+k*1=k by omega,bm ab];simp
  have b0:vs.getD k .ct=.map (o k)/\k∈aB\/vs.getD k .ct=.d9/\k∉aB:=by
   by_cases J:k∈aB;·exact .inl ⟨cd k J,J⟩
   exact .inr ⟨cf k y J,J⟩
  have d4:(vs.getD k .ct).bq=true:=by rcases b0 with⟨e,_⟩|⟨e,_⟩<;>rw[e]<;>rfl
  refine RO.dh U 6 (hv:=d3) ?_;generalize vs.getD k .ct=mv at b0 d4;refine ah ?_;refine RO.bk ?_ (v:=aN nv) (hc:=by rw[U.gr.bx a8,d1,d2];rfl);refine ah ?_;have U:=U.qp 3 1;have d5:p.set k .aG=p:=by have:=a2 k (aeq _) y;rw[bm ab]at this;rw[<-this];exact List.set_getElem_self _
  rw[<-d5]at U;refine Ru.nm λS0 M hS X=>?_;refine Ru.bM X (up (P:=λj=>∀z(s:List Int)w,s.length<=j/\s.Pairwise (·<·)->(∀v:Int,v∈s↔0<=v/\v<j/\come.getD k false=true/\S k v)->al H z (tS 3 1 (s.map aI) s.length true w::tZ F::tS fZ 1 (p.set k w) g.aj.length true (.slice qo 0 g.aj.length g.aj.length true)::(kK G I D A c g.aj.length C false vs o aB S++eN O))->Ru ac ⟨l9 [.tmp p2] K,O,none⟩ S0 ([(yp,aN j)]++pk M [p1,p3,gf,fJ,iS,rR,mP,qA,yo]) z) nv (λj hj b' z s w av Q U=>?_) 0 ab _ [] .aG aC (λv=>by simp;omega) U);subst hS;subst X;have⟨ew,e0,e3,_⟩:=(U.sl 0 rfl).all;have bd:(p.set k w)[0+k*1]?=some w:=by rw[show 0+k*1=k by omega,List.getElem?_set_self ab]
  refine Ru.loop ?_;refine au ?_;refine Ru.cond (λaw=>?_) (λaw=>?_)
  .have ca:∀z,¬(come.getD k false=true/\S k j)->al H z (tS 3 1 (s.map aI) s.length true w::tZ F::tS fZ 1 (p.set k w) g.aj.length true (.slice qo 0 g.aj.length g.aj.length true)::(kK G I D A c g.aj.length C false vs o aB S++eN O))->_:=λz hn U=>b' (j+1) ab ab z s w ⟨by have:=av.1;omega,av.2⟩ (λv=>by
    rw[Q];constructor;·rintro⟨a6,cp,a3⟩;exact⟨a6,ab,a3⟩
    rintro⟨a6,cp,a3⟩;refine⟨a6,?_,a3⟩;rcases afg v.toNat j with e7|e7;·omega
    obtain rfl:v=(j:Int):=ab;exact absurd a3 hn) U;refine ah ?_;rcases b0 with⟨rfl,J⟩|⟨rfl,J⟩
   .have hat:(tS 3 1 (s.map aI) s.length true w::tZ F::tS fZ 1 (p.set k w) g.aj.length true (.slice qo 0 g.aj.length g.aj.length true)::(kK G I D A c g.aj.length C false vs o aB S++eN O))[7+(aB.idxOf k+1)]?=some (tM false (o k) (S k)):=by simp only[kK,aeC];exact Bw (xs:=[_,_,_,_,_,_,_]) (Bv J)
    have d6:=(N.mem k).1 J;refine RO.jr U _ (λt ht=>?_) (hi:=hat) (z:=(j:Int));refine ah ?_;refine Ru.eh (λay=>?_) (λay=>?_)
    .have d7:=ht.1 ay;refine ah ?_;refine RO.dh U 2 (hv:=bd) ?_;refine ah ?_;refine RO.push U 0 (λw0 H7 v2 U=>?_) (ws:=[aN j]);have⟨e4,e5,e6,_⟩:=(U.sl 0 rfl).all;refine ah ?_;refine RO.A9 (vs:=p.set k w) (n:=g.aj.length) U 2 (by rw[afQ];exact L) (λH8 U=>?_) (k:=k) (ho:=by rw[afQ];omega);refine ah ?_;have e1:(s++[(j:Int)]).map aI=s.map aI++[aN j]:=aC;have e2:(s++[(j:Int)]).length=s.length+1:=aC;have U:al H H8 (tS 3 1 ((s++[(j:Int)]).map aI) (s++[(j:Int)]).length true v2::tZ F::tS fZ 1 (p.set k v2) g.aj.length true (.slice qo 0 g.aj.length g.aj.length true)::(kK G I D A c g.aj.length C false vs o aB S++eN O)):=by rw[e1,e2,<-List.set_set (a:=w)];exact U
     exact Ru.wk (b' (j+1) ab ab H8 _ v2 ⟨by rw[e2];have:=av.1;omega,List.pairwise_append.2 ⟨av.2,List.pairwise_singleton _ _,λa ha b hb=>by rw[aaN]at hb;have:=(Q a).1 ha;omega⟩⟩ (λv=>by
      rw[aeu,aaN,Q];constructor
      .rintro(⟨a6,cp,a3⟩|rfl);·exact⟨a6,ab,a3⟩
       exact⟨ab,ab,d6,d7⟩
      rintro⟨a6,cp,a3⟩;by_cases e:v=(j:Int);·exact .inr e
      exact .inl ⟨a6,ab,a3⟩) U)
    refine ah ?_;exact Ru.wk (ca _ (λe7=>by rw[ht.2 e7.2]at ay;cases ay) U)
   refine RO.aaL (z:=(j:Int)) ?_;refine ah ?_;exact Ru.wk (ca _ (λe7=>J ((N.mem k).2 e7.1)) U)
  refine Ru.exitTo ?_;obtain rfl:j=nv:=ab;refine ah ?_;have U:=(U.as 0 rfl λfp hp=>tS.lh hp).kF;exact Ru.wk (ih (k+1) ab ab z (p.set k w) (λb=>if b=k then s else W b) _ (by simpa using L) (λb hb=>by
   rw[dk ab];by_cases e:b=k;·rw[aH e,aH e];exact acm ..
   rw[ap e,ap e];exact aen _ (hF b ab)) (λb hb=>by
   by_cases e:b=k;·subst e;rw[aH rfl];refine⟨av,λv=>?_⟩;rw[Q];refine⟨λe7=>e7.2.2,λe7=>?_⟩;have hf:=((bb b v e7.2).sW V.dY R (V.Bu come os R) V.gv N e7.1);exact⟨hf.1,by have:=hf.2.1;omega,e7⟩
   rw[ap e];exact ag b ab) (λb hb u=>by rw[dk ab,ap ab];exact a2 b ab u) U)
 refine Ru.exitTo ?_;obtain rfl:k=g.aj.length:=ab;refine ah ?_;refine Ru.ke (M:=O) (U.cH (ae4 (l₁:=_::_::kK G I D A c g.aj.length C false vs o aB S))) λH' U=>⟨[.slice qo 0 g.aj.length g.aj.length true],⟨rfl,rfl,trivial⟩,e7 H' _ ((afD g.aj.length).map W) p F ?_ ?_ ?_⟩
 .have e:∀b,b<g.aj.length->((afD g.aj.length).map W).getD b []=W b:=λb hb=>by rw[bm (by simpa using hb)];simp
  refine⟨aC,λb hb v=>?_,λb hb=>?_,λb=>?_,λb=>?_⟩;·have u:=R.lt hb;rw[e b u,(ag b u).2,eG b hb];exact⟨λe7=>e7.2,λe7=>⟨hb,e7⟩⟩
  .by_cases u:b<g.aj.length;·rw[e b u];refine List.eq_nil_iff_forall_not_mem.2 λv hv=>?_;have:=((ag b u).2 v).1 hv;rw[hb]at this;cases this.1
   rw[aeD,afH (by simpa using u)];rfl
  .by_cases u:b<g.aj.length;·rw[e b u];have:=(ag b u).1.1;omega
   rw[aeD,afH (by simpa using u)];exact Nat.zero_le _
  by_cases u:b<g.aj.length;·rw[e b u];exact(ag b u).1.2
  rw[aeD,afH (by simpa using u)];exact agv
 .refine⟨by simpa using L,λb hb=>?_⟩;simp only[aeR,List.length_range]at hb;rw[bm (by simpa using hb)];simp only[afw,List.getElem_range];exact hF b hb
 rw[L];exact U.sub (.cons_cons _ (.cons_cons _ (agi _)))
end
end
section
section
variable{g:G.aY}{H:ai}
theorem aaP(T:Tb ac)(V:Vd g){cs:List AV}(hg:dS H g cs){K:KT}(m:∀k v a os e b F,dq g a os->Fh g a os e->iG e b F->al H k [tZ F,tS fZ 1 b b.length true v]->K (.tuple [v,aI 0]) k):YN ac Jw [.agg cs] H K:=by have l:=hg.one;obtain⟨c,rfl,bH⟩:=hg;refine YF.code T.JP aC ?_;refine au ?_;refine RO.cG (al.bY H) λr q U=>?_;refine ah ?_;refine RO.cr U 0 ?_;refine RO.cl (aaz T V (cs:=[.str g.i7,aI g.i4,aI g.aW,c]) ⟨c,rfl,b8.block.ib U.gr bH⟩ rfl λs t u w a os p f n d=>aaO T V n d λo v e b F h i hl=>?_);have⟨j,_,_,_⟩:=(hl.sl 1 rfl).all;refine⟨j,?_⟩;refine ah ?_;exact Ru.i4 (m o v a os e b F d h i (hl.I6 (U.gr.trans f)))
end
end
end
section
theorem abw{x:bI}(b:∃t:Nat,x.1=t/\(x.2=0\/x.2=1)):(cP x % 2==0)=(x.2==0):=by obtain⟨t,h1,h2⟩:=b;unfold cP;rw[afy];simp only[beq_iff_eq];omega
theorem Mq{g:G.aY}:∀{l:List bI},lP l->((l.map cP).find? λx=>x % 2==0).map (λx=>((be g (x.toNat/2)).aA.go.getD 1 default).block)=(l.find? λx=>x.2==0).map λx=>((be g x.1.toNat).aA.go.getD 1 default).block|[],_=>rfl|x::l,h=>by have b:=h x (acm ..);rw[aez,List.find?_cons,List.find?_cons,abw b];cases x.2==0 with|true=>simp only[aeT,(yZ b).2]|false=>exact Mq λy c=>h y (aen _ c)
theorem abx{g:G.aY}{o:List bI}(b:lP o):lR g (eH o)=kH g o:=by unfold lR kH;rw[eH,<-List.map_reverse];exact Mq λx c=>b x (aga.1 c)
theorem aby{g:G.aY}{b:Nat}{o:List bI}(e:lP o){S:Nat->Prop}:(∃w∈gj g b (eH o),S w.1.toNat)↔∃w∈kf g b o,S w:=by
 rw[<-wL e];constructor;·rintro⟨w,c,h⟩;obtain⟨x,d,rfl⟩:=aeK.1 c;exact⟨_,aeK.2 ⟨x,d,rfl⟩,h⟩
 rintro⟨w,c,h⟩;obtain⟨x,d,rfl⟩:=aeK.1 c;exact⟨_,aeK.2 ⟨x,d,rfl⟩,h⟩
section
variable{B:G.dE}{bQ:Nat->Prop}{v:Nat}
theorem Mr:∀i,i<=B.aL.length+1->kh B bQ (λ_=>False) i v->(∃k,k<=B.aL.length/\(v:Int)∈dJ B k/\∀j,B.aL.length+1 - i<=j->j<k->(B.aL.getD j default).to≠(v:Int))\/bQ v/\∀j,B.aL.length+1 - i<=j->j<B.aL.length->(B.aL.getD j default).to≠(v:Int)
 |0,_,h=>.inr ⟨h,λj h1 h2=>by omega⟩
 |i+1,hi,h=>by
  simp only[kh,or_false]at h;have e:B.aL.length+1 - (i+1)=B.aL.length - i:=ab;rw[e];rcases h with h|⟨h1,h2⟩;·exact .inl ⟨_,ab,h,λj h1 h2=>by omega⟩
  have hj:∀j,B.aL.length - i<=j->j<B.aL.length->(B.aL.length+1 - i<=j->(B.aL.getD j default).to≠(v:Int))->(B.aL.getD j default).to≠(v:Int):=λj l b a3=>by
   by_cases c:j=B.aL.length - i;·subst c;exact λd=>h2 ⟨b,d⟩
   exact a3 ab
  rcases Mr i ab h1 with⟨k,b1,b2,f⟩|⟨b1,b2⟩;·exact .inl ⟨k,b1,b2,λj c1 c2=>hj j c1 ab λc3=>f j c3 c2⟩
  exact .inr ⟨b1,λj c1 c2=>hj j c1 c2 λc3=>b2 j c3 c2⟩
theorem Fu{i:Nat}(h:kh B bQ (λ_=>False) i v):∀d,i+d<=B.aL.length+1->(∀j,B.aL.length+1 - (i+d)<=j->j<=B.aL.length - i->j<B.aL.length->(B.aL.getD j default).to≠(v:Int))->kh B bQ (λ_=>False) (i+d) v|0,_,_=>h|d+1,hd,hj=>by rw[<-afU];simp only[kh,or_false];refine .inr ⟨Fu h d ab λj c b a3=>hj j ab b a3,λ⟨c,b⟩=>hj _ ab ab c b⟩
theorem abz{k:Nat}(d:k<=B.aL.length)(h:(v:Int)∈dJ B k)(c:∀j,j<k->(B.aL.getD j default).to≠(v:Int)):kh B bQ (λ_=>False) (B.aL.length+1) v:=by
 have h1:kh B bQ (λ_=>False) (B.aL.length - k+1) v:=by simp only[kh,or_false];rw[show B.aL.length - (B.aL.length - k)=k by omega];exact .inl h
 by_cases b:k=0;·subst b;exact h1
 have:=Fu h1 k ab λj e f a3=>c j ab;rwa[show B.aL.length - k+1+k=B.aL.length+1 by omega]at this
theorem abA(h:bQ v)(b:∀j,j<B.aL.length->(B.aL.getD j default).to≠(v:Int)):kh B bQ (λ_=>False) (B.aL.length+1) v:=by have:=Fu (i:=0) (B:=B) (bQ:=bQ) (v:=v) h (B.aL.length+1) ab λj c d a3=>b j a3;rwa[aeL]at this
end
section
variable{g:G.aY}{come:List Bool}{os:List (List bI)}{a:List (List Int)}
theorem Fv{b:Nat}{v:Nat}{k:Nat}(f:(v:Int)∉(be g b).i4)(n:∀j,j<k->j<(be g b).aL.length->((be g b).aL.getD j default).to≠(v:Int)):lI g b v k:=λp d=>by
 have c:=KY d;rcases aeu.1 d with h|h;·obtain⟨y,o,e⟩:=aeK.1 h;injection e with e _;subst e;exact absurd o f
 rcases c with c|c;·have:=EO _ _ _ h;simp only at this;omega
 apply aeW;intro r;obtain⟨j,rfl⟩:∃j:Nat,p=j:=⟨p.toNat,ab⟩;have hj:j<(be g b).aL.length:=ab;have key:∀(l:List G.dI)(i:Nat),((v:Int),(j:Int))∈fF l i->∃m,j=i+m/\(l.getD m default).to=(v:Int):=by
  intro l;induction l with
  |nil=>intro i h;cases h
  |cons s l q=>
   intro i h;rw[fF]at h;rcases aeu.1 h with h|h
   .split at h;·cases h
    rw[aaN]at h;injection h with h1 h2;exact⟨0,ab,h1.symm⟩
   obtain⟨m,h1,h2⟩:=q (i+1) h;exact⟨m+1,ab,h2⟩
 obtain⟨m,h1,h2⟩:=key _ 0 h;obtain rfl:j=m:=ab;exact n j ab hj h2
theorem Fx{b:Nat}{v:Nat}{k:Nat}(h:lI g b v k):(v:Int)∉(be g b).i4/\∀j,j<k->j<(be g b).aL.length->((be g b).aL.getD j default).to≠(v:Int):=by
 refine⟨λc=>?_,λj hj hl e=>?_⟩;·have:=h _ (LG c);omega
 rw[bm hl]at e;have h2:=LF hl ab;rw[e]at h2;have:=h _ h2;omega
structure Fy(g:G.aY)(os:List (List bI))(come:List Bool)(cR:List Bool)(oR:List (List Int)):Prop where
 cm:∀b,cR.getD b false=true↔come.getD b false=true
 op:∀b,come.getD b false=true->oR.getD b []=eH (os.getD b [])/\lP (os.getD b [])
theorem runK(p:eE g)(q:lO g)(m:ff g)(j:dq g come os){k:List Bool}{l:List (List Int)}{f:Bool}(i:pG g (-1) k l f)(n:∀b,iH g (-1) k l f b):Fy g os come k l:=by
 obtain⟨c1,o1,_,_,c,d,_⟩:=q.ex;have e:=p.sh;refine⟨λb=>?_,λb hb=>?_⟩;·rw[y6 e m c d j];exact⟨λh=>((i.snd b h).comp e c d).1,λh=>(c.snd b h).wK e c d i.toFlI n⟩
 have h1:=(y6 e m c d j).1 hb;have h2:=(c.snd b h1).wK e c d i.toFlI n;have h3:=((i.snd b h2).comp e c d).2;have o:=Bs e c d j hb;exact⟨h3.symm.trans o.1,o.2⟩
theorem abB(O:eE g)(P:ff g)(m:dq g come os){n:Nat}(T:g.aW=n){N:List Bool}{A:List (List Int)}(i:Fy g os come N A){M:List (List Bool)}(C:wQ g N A n M){b:Nat}(hb:come.getD b false=true){x:Int}:Lv g os b x↔∃v:Nat,x=v/\v<n/\jr M b v:=by
 have r:∀{b:Nat}{S:Nat->Prop},come.getD b false=true->((∃w∈gj g b (A.getD b []),S w.1.toNat)↔∃w∈wW g os b,S w):=λhb=>by obtain⟨h1,h2⟩:=i.op _ hb;rw[h1];exact aby h2
 have s:∀{b:Nat},come.getD b false=true->lR g (A.getD b [])=kH g (os.getD b []):=λhb=>by obtain⟨h1,h2⟩:=i.op _ hb;rw[h1];exact abx h2
 constructor
 .intro h;have key:∀b x,Lv g os b x->come.getD b false=true->∃v:Nat,x=v/\v<n/\jr M b v:=by intro b x h;induction h with| @mL b v bt Q d=>intro c;have y:=m.lt c;obtain⟨k,J,z,f⟩:=E8 Q;simp only at z f;have R:=si O (qH y) f;obtain⟨v,rfl⟩:∃u:Nat,v=u:=⟨v.toNat,ab⟩;subst z;obtain⟨o,E⟩:=Fx d;exact⟨v,rfl,ab,C.cl b y ((i.cm b).2 c) v ab ⟨.inl (abz J f λj hj=>E j hj ab),o⟩⟩| @kG b w v D _ d F=>intro c;obtain⟨v,rfl,l,p⟩:=F (m.kG c D);obtain⟨o,E⟩:=Fx d;exact⟨v,rfl,l,C.cl b (m.lt c) ((i.cm b).2 c) v l ⟨.inl (abA ((r (S:=λw=>jr M w v) c).2 ⟨w,D,p⟩) λj hj=>E j hj hj),o⟩⟩| @qI b t v q _ d F=>intro c;obtain⟨_,_,_,_,K,_⟩:=Bi P m c q;obtain⟨v,rfl,l,p⟩:=F K;obtain⟨o,_⟩:=Fx (k:=0) d;exact⟨v,rfl,l,C.cl b (m.lt c) ((i.cm b).2 c) v l ⟨.inr ⟨t,by rw[s c];exact q,p⟩,o⟩⟩
  exact key b x h hb
 rintro⟨v,rfl,_,p⟩;refine C.snd (λb v=>Lv g os b (v:Int)) (λb v c l e=>?_) b v p;have c:=(i.cm b).1 c;obtain⟨e,G⟩:=e;rcases e with e|⟨t,q,e⟩
 .rcases Mr _ (aeq _) e with⟨k,H,I,a3⟩|⟨H,I⟩;·exact .mL (LD H I) (Fv G λj hj _=>a3 j ab hj)
  obtain⟨w,D,hl⟩:=(r (S:=λw=>Lv g os w (v:Int)) c).1 H;exact .kG D hl (Fv G λj hj L=>I j ab L)
 rw[s c]at q;exact .qI q e (Fv (k:=0) G λj hj=>by omega)
end
end
end Go.ak.R
end
