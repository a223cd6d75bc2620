/- A part. No conditions. -/
import Derived.Test.YtpplokbfajnjhaaGreatDoorA26
set_option linter.all false
set_option maxHeartbeats 16000000
open List renaming range->ah7
open Eq renaming mpr->ajP
open Prod renaming fst->ajR
noncomputable section
namespace Go.al.R
section
variable{ab:Nat->aV}
section
theorem Nw{g:G.aP}{o:List bt}(b:∀j(hj:o.length - 1 - j<o.length),j<o.length->o[o.length - 1 - j].2≠0):jU g o=none:=by
 unfold jU;rw[List.find?_eq_none.2];·rfl
 intro x a;obtain⟨i,hi,rfl⟩:=ah0 (List.mem_reverse.1 a);have:=b (o.length - 1 - i) aa aa;simp only[show o.length - 1 - (o.length - 1 - i)=i by omega]at this;simpa using this
theorem Nx{g:G.aP}{o:List bt}{k:Nat}(b:o.length - 1 - k<o.length)(a:k<o.length)(d:∀j(hj:o.length - 1 - j<o.length),j<k->o[o.length - 1 - j].2≠0)(h0:o[o.length - 1 - k].2=0):jU g o=some ((aE g o[o.length - 1 - k].1.toNat).aq.go.getD 1 default).block:=by
 unfold jU;rw[(List.find?_eq_some_iff_getElem (b:=o[o.length - 1 - k])).2];·rfl
 refine⟨by simpa using h0,k,by simpa using a,by rw[List.getElem_reverse],λj hj=>?_⟩;rw[List.getElem_reverse];simpa using d j aa hj
abbrev OpR:bt->List AV->Prop:=λo cs=>cs=[aI o.1,aU o.2]
section
variable{g:G.aP}{h m:AV}{c:ah}{H:ai}{come:List Bool}{os:List (List bt)}{f:List AV}
theorem adU(T:Tb ab)(hB:G.Sm g)(hE:fy g)(o:GX g H c h m come os f)(C:b9 g come os){b:Nat}(hb:come.getD b false=true){K:KT}(bc:∀H',aS H H'->K (match jU g (os.getD b [])with|some t=>.tuple [aI t,.bool true]|none=>.tuple [aI (-1),.bool false]) H'):YN ab XY [.aD c 0,aN b] H K:=by
 have aw:=hB.nb;have F:=C.lt hb;have p:b<os.length:=by rw[C.ol];exact F
 have⟨Y,I⟩:=hE.jm (C.cK b hb);have J:os.getD b []=os[b]:=bf p _;rw[J]at bc Y I;have hs:=o.jn.bu b p;have⟨L,M,N,ax⟩:=hs.all;have s:=o.jn.lt;have O:=o.jn.aE;obtain⟨ov,P,Q⟩:=o.jn.jm;refine YF.code T.aaf aC (au ?_);refine RO.ct (ak.bN H) λH1 y U=>?_;refine RO.dN U λH2 z U=>?_;refine RO.dN U λH3 A U=>?_;refine af ?_;refine RO.be ?_ (v:=ov) (hc:=by rw[U.gr.aY s];exact P);refine af ?_;refine RO.rW U.gr Q (λq8 o8 ay _=>?_) (j:=b);refine af ?_;refine RO.cl (Cu T.aaz bx L M N λH4 q hl=>?_);have U:=U.dq hl;refine af ?_;refine Ru.wk (L:=[(ki,.func Yo [] [.aD q 0]),(p2,.aD y 0),(p4,.aD z 0),(p5,.aD A 0)]) ?_;have U:ak H H4 ([tB E5 q [f.getD b .bM]]++[tB 4 A [.bool false],tB 3 z [aI 0],tB kK y [.aD c 0]]++[]):=U;refine Ru.oh (J:=λk ts=>ts=[tB 4 A [.bool false],tB 3 z [aI 0],tB kK y [.aD c 0]]/\∀j(hj:os[b].length - 1 - j<os[b].length),j<k->os[b][os[b].length - 1 - j].2≠0) (Dn:=λj ts=>j=.ret/\∃t,jU g os[b]=some t/\ts=[tB 4 A [.bool true],tB 3 z [aI t],tB kK y [.aD c 0]]) U (Ct (R:=OpR) (agg:=true) (size:=2) (la:=os[b]) (sv:=f.getD b .bM) (e:=E5) (nt:=19) T.aaO bx aa (λbc=>by cases bc) (λa cs bc=>by cases bc;rfl)) (λH2 hg=>km.r ((U.gr.trans hg).sl hs)) ⟨rfl,λj _ hj=>absurd hj aa⟩ (λk args ws bc=>by obtain⟨_,_,_,_,rfl⟩:=bc;rfl) (λk ts us H' B U=>km.r (U.gr.sl hs)) (λk args ws ts us l o1 o2 H' hk R B U=>?_) (λH' S D B U=>?_) (λj H' S D hj hD U=>?_)
 .obtain⟨rfl,u,cs,V,rfl⟩:=R;obtain⟨rfl,eB⟩:=B;have W:=acm u;generalize d:os[b][os[b].length - 1 - k]=oo at*;have⟨Z,i⟩:=oo;subst V;refine af ?_;refine RO.dS U λH5 q7 U=>af ?_;refine Ru.cY (xs:=[_,_,_,_]) U λH6 U=>af ?_;refine Ru.cond (λ(h0:i=0)=>?_) (λ(h0:¬i=0)=>?_)
  .have⟨g1,g2,E⟩:=Y.ok _ W;simp only at g1 g2 E;obtain⟨t,rfl⟩:∃t:Nat,Z=(t:Int):=⟨Z.toNat,aa⟩;rw[ahX]at E;have v:t<g.aj.length:=aa;have g4:g.aj[t].aq.go.length=3:=by rw[<-E,bf v]
   refine af ?_;refine RO.be ?_ (v:=h) (hc:=by rw[U.gr.aY s];exact O);refine af ?_;refine RO.bO U.gr o.bl (λq9 o9 c9 a1 X a2 hat _=>?_) (j:=t);obtain⟨vp,vs,jc,rfl,_,_,va,vk,vg,rfl,_,_,w⟩:=X;have⟨a6,_,_,_⟩:=w.all;refine af ?_;refine RO.be (v:=vg) (RO.bO U.gr w (λa8 a' ba ag x av n _=>?_) (j:=1) (hj:=by omega)) (hc:=hat 6 _ rfl);obtain⟨ve,rfl,_⟩:=x;refine af ?_;refine RO.be (RO.dJ U 2 (λH7 U=>RO.dJ U 1 (λH8 U=>af ?_))) (hc:=n 0 _ rfl);have U:=U.tail (t:=tB E4 q7 [aN t,aU i]);refine Ru.zN (ts:=[_,_,_]) U ⟨rfl,_,Nx u hk eB (by rw[d];exact h0),?_⟩;rw[d];simp only[aE,ahX,bf v];rw[bf aa];rfl
  refine af ?_;refine Ru.bz (ts:=[_,_,_]) U.tail ⟨rfl,λj hj bb=>?_⟩;by_cases e:j=k;·subst e;rw[d];exact h0
  exact eB j hj aa
 .obtain⟨rfl,eB⟩:=B;refine af ?_;refine RO.dJ U 1 (λH5 U=>RO.dJ U 0 (λH6 U=>af ?_));rw[Nw eB]at bc;refine Ru.jl (M:=[D]) (ts:=[_,_,_]) (U.bV (aii (l₁:=[_,_,_]))) λH' U=>⟨[aI (-1),.bool false],⟨⟨_,_,rfl,U.one 1⟩,⟨_,_,rfl,U.one 0⟩,trivial⟩,bc H' U.gr⟩
 obtain⟨rfl,t,ht,rfl⟩:=hD;rw[ht]at bc;exact RJ.rE (RJ.jl (M:=[D]) (ts:=[_,_,_]) (.inr rfl) (U.bV (aii (l₁:=[_,_,_]))) λH' U=>⟨[aI t,.bool true],⟨⟨_,_,rfl,U.one 1⟩,⟨_,_,rfl,U.one 0⟩,trivial⟩,bc H' U.gr⟩)
structure Ny(g:G.aP):Prop where
 fv:FV g g.aQ.toNat
 ne:0<g.aj.length
 first:(g.aj.getD 0 default).params=[]
structure Vd(g:G.aP):Prop where
 fw:nk g
 CF:lT g
 qO:ev g
 iD:jT g=false
 cK:fy g
 oG:∀come os,b9 g come os->ny g come os
theorem Vd.sm(V:Vd g):G.Sm g:=V.fw.sm
theorem Vd.gv(V:Vd g):nB g:=Nl V.qO
theorem ev.fm(b:ev g)(a:g.aQ<=6000):Ny g:=⟨⟨b.p0,b.p1,a,by have:=b.p0;have:=b.p1;omega⟩,b.ne,b.first⟩
theorem Vd.fm(V:Vd g):Ny g:=V.qO.fm (by have:=(Ai V.fw V.iD).2;omega)
theorem Nz(d:nB g):∀b∈g.aj,∀p∈cD b,0<=p.1/\p.1<g.aQ:=λb hb p a=>by have:=d.oE b hb p a;have:=d.p0;omega
theorem Vd.oE(V:Vd g):∀b∈g.aj,∀p∈cD b,0<=p.1/\p.1<g.aQ:=Nz V.gv
theorem adV(a:nB g):MD g:=by have h0:=zX a.v0;refine⟨aa,λt h1 h2=>?_⟩;have⟨i,p,hi,b⟩:=a.all t h1 h2;have:=a.at hi b;grind
theorem adW(e:ev g):∀b∈g.aj,∀p∈fD b,0<=p.1/\p.1<g.aQ:=λb hb p a=>by have⟨k,_,_,d⟩:=GB a;exact vA e hb d
theorem ev.shF(a:ev g):qE g:=⟨a.sh.ne,a.sh.t3,λb hb e he=>by have:=a.sh.rg b hb e he;omega⟩
theorem b9.eq(e:fy g){a:List Bool}{d:List (List bt)}(j:b9 g come os)(i:b9 g a d){b:Nat}(hb:come.getD b false=true):a.getD b false=true/\d.getD b []=os.getD b []:=i.oF e (j.cK b hb)
theorem iT.GC(n:fy g){e:List Bool}{i:List (List bt)}(q:b9 g come os)(o:b9 g e i){d b:Nat}(p:iT (wW g os) d b):come.getD b false=true/\iT (wW g i) d b:=by induction p with|zero j=>exact⟨q.c0,.zero j⟩| @step a x _ l j k=>refine⟨q.iq k.1 l,.step k.2 ?_ j⟩;rw[wW,(q.eq n o k.1).2];exact l
theorem ny.GC(i:fy g){a:List Bool}{d:List (List bt)}(x:b9 g come os)(j:b9 g a d)(k:ny g come os):ny g a d:=by
 have e:∀b,a.getD b false=true->come.getD b false=true/\d.getD b []=os.getD b []:=λb hb=>by have h1:=(j.eq i x hb).1;exact⟨h1,(x.eq i j h1).2⟩
 refine⟨λb hb l=>?_,λb hb n=>?_,λb hb p o=>?_⟩;·have⟨h1,h2⟩:=e b hb;rw[h2];exact k.en b h1 l
 .have⟨h1,h2⟩:=e b hb;rw[h2];exact k.rt b h1 n
 have⟨h1,h2⟩:=e b hb;have⟨t,q,r,a3⟩:=k.rd b h1 p o;refine⟨t,q,r,?_⟩;rcases a3 with a3|a3|⟨s,b1,b2,u,v⟩;·omega
 .omega
 exact .inr (.inr ⟨s,b1,b2,(x.eq i j u).1,λw=>v (iT.GC i j x w).2⟩)
def nG(g:G.aP)(e:Int):Prop:=e=5/\jT g=true\/e=4/\jT g=false/\¬ev g\/e=9/\jT g=false/\ev g/\¬jW g
theorem NA(T:Tb ab)(w:nk g)(E:lT g){cs:List AV}(hg:dt H g cs){K:KT}(L:∀H' c h m come os f,Vd g->aS H H'->GX g H' c h m come os f->b9 g come os->K (.tuple [.aD c 0,aI 0]) H')(x:∀H' e,¬Vd g->nG g e->aS H H'->K (.tuple [.j5,aI e]) H'):YN ab KP [.agg cs] H K:=by
 have J:=hg.one;have t:=w.sm;obtain⟨d,rfl,bG⟩:=hg;refine YF.code T.ZX aC (au ?_);refine RO.ct (ak.bN H) λH1 q U=>af ?_;refine RO.co U 0 ?_;refine RO.cl (ab6 T (cs:=[.str g.name,aI g.params,aI g.aQ,d]) ⟨d,rfl,bX.block.gp U.gr bG⟩ t λO z=>?_);have U:=U.bR z;cases a:jT g with
 |true=>refine af ?_;exact Ru.kg (x _ 5 (λV=>by have:=V.iD;rw[a]at this;cases this) (.inl ⟨rfl,a⟩) U.gr)
 |false=>
  have⟨p,N⟩:=Ai w a;refine af ?_;refine RO.co U 0 ?_;refine RO.cl (abZ T (cs:=[.str g.name,aI g.params,aI g.aQ,d]) t E (by have:=w.nm;omega) aa ⟨d,rfl,bX.block.gp U.gr bG⟩ λP b A r=>?_);rw[adH t]at r;have U:=U.bR A;cases b with
  |false=>
   have F:¬ev g:=λR=>by have:=r.2 R;cases this
   refine af ?_;exact Ru.kg (x _ 4 (λV=>F V.qO) (.inr (.inl ⟨rfl,a,F⟩)) U.gr)
  |true=>
   have n:=r.1 rfl;have y:=Nl n;refine af ?_;refine RO.co U 0 ?_;refine RO.cl (acr T t n.shF aa (cs:=[.str g.name,aI g.params,aI g.aQ,d]) ⟨d,rfl,bX.block.gp U.gr bG⟩ (λM c h m come os f k s G i=>?_) (λM c k B C D=>?_))
   .refine af ?_;refine RO.cl (acN T t s G i y.v0 aa (Nz y) (adW n) (adV y) λI b j u=>?_);cases b with
    |true=>have l:=u.1 rfl;refine af ?_;exact Ru.kg (L I c h m come os f ⟨w,E,n,a,s,λc2 o2 h2=>l.GC s i h2⟩ ((U.gr.trans k).trans j) (G.bR j) i)
    |false=>
     have l:¬ny g come os:=λR=>by have:=u.2 R;cases this
     refine af ?_;exact Ru.kg (x _ 9 (λV=>l (V.oG come os i)) (.inr (.inr ⟨rfl,a,n,λR=>l (adN n p R s y i)⟩)) ((U.gr.trans k).trans j))
   refine af ?_;refine RO.cl (adS T B C λI j=>?_);have v:¬fy g:=λs=>by have⟨b,o,Q,h1,h2,h3⟩:=D;exact h3 (s.vc h1 h2)
   refine af ?_;exact Ru.kg (x _ 9 (λV=>v V.cK) (.inr (.inr ⟨rfl,a,n,λR=>v (adR n p R)⟩)) ((U.gr.trans k).trans j))
theorem NB(T:Tb ab)(V:Vd g){cs:List AV}(hg:dt H g cs){K:KT}(a:∀H' c h m come os f,aS H H'->GX g H' c h m come os f->b9 g come os->K (.tuple [.aD c 0,aI 0]) H'):YN ab KP [.agg cs] H K:=NA T V.fw V.CF hg (λH' c h m come os f _=>a H' c h m come os f) λ_ _ b=>absurd V b
theorem adY(T:Tb ab)(V:Vd g){cs:List AV}(hg:dt H g cs){fv:AV}(l:fv.br=true){K:KT}(j:∀H' c h m come os f,aS H H'->GX g H' c h m come os f->b9 g come os->YF ab fv [.aD c 0] H' λv b=>v.br=true/\K (.tuple [v,aI 0]) b):YN ab KO [.agg cs,fv] H K:=by have i:=hg.one;obtain⟨a,rfl,bG⟩:=hg;refine YF.code T.Lc aC (au ?_);refine RO.ct (ak.bN H) λH1 q U=>af ?_;refine RO.co U 0 ?_;refine RO.cl (NB T V (cs:=[.str g.name,aI g.params,aI g.aQ,a]) ⟨a,rfl,bX.block.gp U.gr bG⟩ λb c h m come os f d k e=>?_);refine af ?_;refine RO.cl ((j b c h m come os f (U.gr.trans d) k e).mono λv o p=>?_);have⟨n,p⟩:=p;refine af ?_;exact Ru.kg p
theorem adZ(T:Tb ab)(j:¬Vd g)(k:nk g)(l:lT g){cs:List AV}(hg:dt H g cs){fv:AV}(o:fv.br=true){K:KT}(n:∀H' e,nG g e->aS H H'->K (.tuple [.bh,aI e]) H'):YN ab KO [.agg cs,fv] H K:=by
 have i:=hg.one;obtain⟨a,rfl,bG⟩:=hg;refine YF.code T.Lc aC (au ?_);refine RO.ct (ak.bN H) λH1 q U=>af ?_;refine RO.co U 0 ?_;refine RO.cl (NA T k l (cs:=[.str g.name,aI g.params,aI g.aQ,a]) ⟨a,rfl,bX.block.gp U.gr bG⟩ (λ_ _ _ _ _ _ _ V=>absurd V j) λp e _ he b=>?_);have d:e≠0:=by rcases he with⟨r,_⟩|⟨r,_⟩|⟨r,_⟩<;>omega
 refine af ?_;refine Ru.cond (λ_=>af ?_) (λr=>absurd d r);exact Ru.kg (n _ e he (U.gr.trans b))
theorem ad0(T:Tb ab)(V:Vd g){cs:List AV}(hg:dt H g cs){fv:AV}(l:fv.br=true){K:KT}(j:∀H' c h m come os f,aS H H'->GX g H' c h m come os f->b9 g come os->YF ab fv [.aD c 0] H' λv b=>v.br=true/\K (.tuple [v,aI 0]) b):YN ab XA [.agg cs,fv] H K:=by have i:=hg.one;obtain⟨a,rfl,bG⟩:=hg;refine YF.code T.ZM aC (au ?_);refine RO.ct (ak.bN H) λH1 q U=>af ?_;refine RO.co U 0 ?_;refine RO.cl (NB T V (cs:=[.str g.name,aI g.params,aI g.aQ,a]) ⟨a,rfl,bX.block.gp U.gr bG⟩ λb c h m come os f d k e=>?_);refine af ?_;refine RO.cl ((j b c h m come os f (U.gr.trans d) k e).mono λv o p=>?_);have⟨n,p⟩:=p;refine af ?_;exact Ru.kg p
theorem ad1(T:Tb ab)(V:Vd g){cs:List AV}(hg:dt H g cs){K:KT}(j:∀H' v come os ap,b9 g come os->eT g come os ap->ak H H' [tS 3 1 (ap.map aN) ap.length true v]->K (.tuple [v,aI 0]) H'):YN ab KN [.agg cs] H K:=by have i:=hg.one;obtain⟨a,rfl,bG⟩:=hg;refine YF.code T.Lb aC (au ?_);refine RO.ct (ak.bN H) λH1 q U=>af ?_;refine RO.co U 0 ?_;refine RO.cl (adY T V (cs:=[.str g.name,aI g.params,aI g.aQ,a]) ⟨a,rfl,bX.block.gp U.gr bG⟩ rfl λo c h m come os f d k b=>FP T V.sm V.cK k b λl v ap n hl=>?_);have⟨e,_,_,_⟩:=(hl.sl (e:=3) (size:=1) (sv:=v) (vs:=ap.map aN) (n:=ap.length) (full:=true) 0).all;refine⟨e,(af ?_)⟩;exact Ru.kg (j l v come os ap b n (hl.EZ (U.gr.trans d)))
theorem ad4(T:Tb ab)(i:¬Vd g)(j:nk g)(k:lT g){cs:List AV}(hg:dt H g cs){K:KT}(l:∀H' e,nG g e->aS H H'->K (.tuple [.bh,aI e]) H'):YN ab KN [.agg cs] H K:=by have d:=hg.one;obtain⟨a,rfl,bG⟩:=hg;refine YF.code T.Lb aC (au ?_);refine RO.ct (ak.bN H) λH1 q U=>af ?_;refine RO.co U 0 ?_;refine RO.cl (adZ T i j k (cs:=[.str g.name,aI g.params,aI g.aQ,a]) ⟨a,rfl,bX.block.gp U.gr bG⟩ rfl λn e he b=>?_);refine af ?_;exact Ru.kg (l _ e he (U.gr.trans b))
end
end
section
def jY(h:ah)(n:Nat)(vs:List AV)(ids:Nat->ah)(ap:List Nat)(S:Nat->Int->Prop):List Th:=tS Kk 1 vs n true (.slice h 0 n n true)::ap.map λb=>tM false (ids b) (S b)
structure xW(n:Nat)(vs:List AV)(ids:Nat->ah)(ap:List Nat):Prop where
 len:vs.length=n
 nd:ap.Nodup
 bu:∀b∈ap,b<n/\vs.getD b .bM=.map (ids b)
def dP(S:Nat->Int->Prop)(b:Nat)(P:Int->Prop):Nat->Int->Prop:=λx=>if x=b then P else S x
section
variable{n:Nat}{vs:List AV}{ids:Nat->ah}{ap:List Nat}{S:Nat->Int->Prop}{P:Int->Prop}{h:ah}{b:Nat}{xs us:List Th}
theorem ad5{l:List Nat}(a:l.Nodup){i b:Nat}(hi:i<l.length)(hb:b∈l):l.idxOf b=i↔l[i]=b:=by grind
theorem ad6(a:ap.Nodup)(hb:b∈ap):(jY h n vs ids ap S).set (ap.idxOf b+1) (tM false (ids b) P)=jY h n vs ids ap (dP S b P):=by simp only[jY,List.set_cons_succ];congr 1;apply ai2 aC;intro i h1 h2;rw[aig]at h2;rw[List.getElem_set,aiD,aiD];by_cases e:ap.idxOf b=i;all_goals simp_all[aG,ad5,dP,an]
theorem CG(hb:b∈ap):(jY h n vs ids ap S)[ap.idxOf b+1]?=some (tM false (ids b) (S b)):=by simp[hb,List.idxOf_lt_length_of_mem,jY,ai5,aiw,aiQ,List.getElem_idxOf,aip]
theorem pG{l m:List Th}{i:Nat}{t:Th}(a:l[i]?=some t):(xs++(l++m))[xs.length+i]?=some t:=by grind
theorem NC{l m:List Th}{i:Nat}{t:Th}(a:i<l.length):(xs++(l++m)).set (xs.length+i) t=xs++(l.set i t++m):=by grind
theorem ad7(hb:b∈ap):ap.idxOf b+1<(jY h n vs ids ap S).length:=by simp[hb,List.idxOf_lt_length_of_mem,jY,air,aig]
theorem ND{H:ai}{q:ah}{n j:Nat}{vs:List AV}{v:AV}(c:Sl H 1 vs n (.slice q 0 n n true))(hj:j<n)(a:vs.getD j .bM=v):ln H (.slice q 0 n n true) (.ofNat j)=some v:=by have hl:=c.length;have⟨i,o,cap,ex,e,_,_,b,_⟩:=c.at aa;simp_all[ln,ajP,aiV,bi,bf]
end
theorem NE{pl:List (Int×Int)}{bu v:Int}(b:(pl.map ajR).Nodup):eg.pg pl bu v=true↔∀i,(v,i)∈pl->bu<=i:=by
 induction pl with
 |nil=>simp[eg.pg]
 |cons a pl e=>
  have⟨k,g⟩:=a;simp only[ah2,aiz]at b;simp only[eg.pg];by_cases c:v=k
  .subst c;rw[aG (by simp[dV])];have f:(!jJ g bu)=true↔bu<=g:=by rw[kR];simp
   grind
  simp[c,e,b,an,dV,acT,absurd,adT]
def fE(s p d u pm h:ah)(n b:Nat)(pl:List (Int×Int))(w:Bool)(vs:List AV)(ids:Nat->ah)(ap:List Nat)(S:Nat->Int->Prop):List Th:=[tB 4 d [.bool w],tB 3 s [aN b],tB ta p [.slice h 0 n n true],tB BK u [.map pm],tI pm pl]++jY h n vs ids ap S
abbrev dl(s p d u:ah):AV:=.func Fb [] [.aD u 0,.aD p 0,.aD s 0,.aD d 0]
section
variable{A H:ai}{n b:Nat}{vs:List AV}{ids:Nat->ah}{ap:List Nat}{S:Nat->Int->Prop}{s p d u pm h:ah}{pl:List (Int×Int)}{w:Bool}{us:List Th}
theorem tB.GD{H:ai}{q:ah}{e:Nat}{vs:List AV}{f:List ah}(a:(tB e q vs).P H f):∃c,H.get q=.cells c vs.length e true [] 0/\(∀j(a:j<vs.length),c.bp .ajS j=vs[j])/\q.am<H.next.am:=a.2.2
theorem ak.kf(o:xW n vs ids ap)(hb:b∈ap)(U:ak A H (fE s p d u pm h n b pl w vs ids ap S++us)){H2:ai}{ks:List Int}{c:az AV}{nw2:Bool}{P:Int->Prop}(q:H.next.am<=H2.next.am)(hg:∀j,j≠ids b->j≠d->H2.get j=H.get j)(h1:fi (H2.get (ids b)) ks)(r:∀x,x∈ks↔P x)(h2:H2.get d=.cells c 1 4 true [] 0)(h3:c.bp .ajS 0=.bool nw2):ak A H2 (fE s p d u pm h n b pl nw2 vs ids ap (dP S b P)++us):=by
 have hat:(fE s p d u pm h n b pl w vs ids ap S++us)[5+(ap.idxOf b+1)]?=some (tM false (ids b) (S b)):=by simp only[fE,ahD];exact pG (xs:=[_,_,_,_,_]) (CG hb)
 have⟨_,_,g⟩:=U.lE _ hat;have i:d.am<H.next.am:=by obtain⟨_,a⟩:=U.get 0 rfl;obtain⟨_,_,_,_,_,v⟩:=a;exact v
 let f:ai:=H.set (ids b) (H2.get (ids b));have ga:∀j,f.get j=if j=ids b then H2.get (ids b)else H.get j:=λj=>ai.aF .. ;have e:ak A f ((fE s p d u pm h n b pl w vs ids ap S++us).set (5+(ap.idxOf b+1)) (tM false (ids b) P)):=by refine U.sc (q:=ids b) _ hat rfl (λj hj=>by rw[ga,an hj]) (λt a=>a.1) ⟨abP.2 rfl,λj hj=>abP.1 hj,⟨ks,?_,r⟩,(λv=>by cases v),g⟩;rw[ga,aG rfl];exact h1
 have e1:(fE s p d u pm h n b pl w vs ids ap S++us).set (5+(ap.idxOf b+1)) (tM false (ids b) P)=fE s p d u pm h n b pl w vs ids ap (dP S b P)++us:=by simp only[fE,ahD];refine(NC (xs:=[_,_,_,_,_]) (ad7 hb)).trans ?_;rw[ad6 o.nd hb]
 rw[e1]at e;let l:ai:=f.set d (H2.get d);have m:∀j,l.get j=if j=d then H2.get d else f.get j:=λj=>ai.aF .. ;have k:ak A l (fE s p d u pm h n b pl nw2 vs ids ap (dP S b P)++us):=by
  refine e.sc (q:=d) 0 rfl (t':=tB 4 d [.bool nw2]) rfl (λj hj=>by rw[m,an hj]) (λt a=>a.1) ⟨abP.2 rfl,λj hj=>abP.1 hj,c,?_,λj hj=>?_,i⟩;·rw[m,aG rfl];exact h2
  simp only[aiv]at hj;obtain rfl:j=0:=aa;exact h3
 refine k.bR ⟨q,λj _=>?_⟩;grind
theorem ad8(T:Tb ab)(D:xW n vs ids ap)(hb:b∈ap)(U:ak A H (fE s p d u pm h n b pl w vs ids ap S++us)){v bu:Int}{K:KT}(E:∀r H' P g,(∀x,P x↔S b x\/x=v/\∀Y,(v,Y)∈pl->bu<=Y)->(g=true↔w=true\/∃x,P x/\¬S b x)->ak A H' (fE s p d u pm h n b pl g vs ids ap (dP S b P)++us)->K r H'):YF ab (dl s p d u) [aI v,aI bu] H K:=by
 have hat:(fE s p d u pm h n b pl w vs ids ap S++us)[5+(ap.idxOf b+1)]?=some (tM false (ids b) (S b)):=by simp only[fE,ahD];exact pG (xs:=[_,_,_,_,_]) (CG hb)
 have⟨⟨ks,l,f⟩,_,V⟩:=U.lE _ hat;have⟨⟨_,_,_,_⟩,m,_⟩:=U.Cv 4 rfl;have⟨o,t⟩:=U.qF 4 rfl;have⟨y,z⟩:=D.bu b hb;have j:∀(i:Nat){e:Nat}{q:ah}{v:AV},(fE s p d u pm h n b pl w vs ids ap S++us)[i]?=some (tB e q [v])->mW H (.aD q 0)=some v:=λi _ _ _ hi=>by obtain⟨_,F⟩:=U.get i hi;exact tB.cell F rfl
 have⟨W,B⟩:=U.get 0 rfl;have⟨c,G,I,_⟩:=tB.GD B;refine⟨80,JO (pm:=pm) (s2:=.slice h 0 n n true) (kb:=3) (b:=.ofNat b) (N:=ids b) (ks:=ks) (q:=w) (fz:=0) T.aac T.aad (j 3 rfl) (j 2 rfl) (j 1 rfl) o t (ND (U.sl 5) y z) G (Nat.zero_le _) aC (I 0 aC) l λr J C c2 L M N k O _ Q _=>?_⟩;have a:=NE (bu:=bu) (v:=v) m;refine E r J (λx=>x∈C) _ (λx=>?_) ?_ (ak.kf D hb U (by rw[L];exact afM _) M N (λx=>ajH) O Q);·rw[k,f,a]
 rw[ai6,ah4,a,aiM];have R:fH v ks=false↔¬S b v:=by rw[<-f,<-pY];simp
 rw[R];constructor
 .rintro(X|⟨h1,h2⟩);·exact .inl X
  exact .inr ⟨v,(k v).2 (.inr ⟨rfl,a.2 h1⟩),h2⟩
 rintro(X|⟨x,h1,h2⟩);·exact .inl X
 rcases(k x).1 h1 with X|⟨rfl,X⟩;·exact absurd ((f x).1 X) h2
 exact .inr ⟨a.1 X,h2⟩
theorem vD{i j:ah}(a:i≠j):ah.beq i j=false:=by grind[ah.beq,absurd,ah.fg]
theorem ad9{H:ai}{i q:ah}{o:Nat}{v:AV}(b:i≠q)(a:aY H i o=some v):kI H q (.aD i o)=some v:=by simp[b,a,kI,vD,acg,bF]
theorem NF(y:xW n vs ids ap)(hb:b∈ap){to:Nat}(g:to∈ap){a:ah}(U:ak A H (tB lw a [dl s p d u]::(fE s p d u pm h n b pl w vs ids ap S++us))){bu:Int}{tos:Nat}{ch:List ah}:∃H' P m,(∀ac k,ac.get .ajS (sl 11)=.aD a 0->ac.get .ajS (sl 5)=.aD p 0->ac.get .ajS (sl tos)=aN to->k d=some bu->wS Fb k tos ch ac H=some (jw ac ch,H'))/\(∀x,P x↔S b x\/S to x/\∀av,(x,av)∈pl->bu<=av)/\(m=true↔w=true\/∃x,P x/\¬S b x)/\ak A H' (tB lw a [dl s p d u]::(fE s p d u pm h n b pl m vs ids ap (dP S b P)++us)):=by
 have hat:∀x,x∈ap->(tB lw a [dl s p d u]::(fE s p d u pm h n b pl w vs ids ap S++us))[6+(ap.idxOf x+1)]?=some (tM false (ids x) (S x)):=λx l=>by simp only[fE,ahD];exact pG (xs:=[_,_,_,_,_,_]) (CG l)
 have⟨⟨t0,o,r⟩,_,_⟩:=U.lE _ (hat b hb);have⟨⟨ks,z,B⟩,_,_⟩:=U.lE _ (hat to g);have⟨_,C,_⟩:=U.Cv 5 rfl;have⟨D,E⟩:=U.qF 5 rfl;have⟨F,G⟩:=y.bu b hb;have⟨I,J⟩:=y.bu to g;have⟨k1,Z⟩:=Ae z;have⟨s1,s2⟩:=Ae o;have X:∀(i:Nat){e:Nat}{q:ah}{v:AV},(tB lw a [dl s p d u]::(fE s p d u pm h n b pl w vs ids ap S++us))[i]?=some (tB e q [v])->aY H q 0=some v:=λi _ _ _ hi=>by obtain⟨_,hp⟩:=U.get i hi;exact tB.cell hp rfl
 have l:∀(i:Nat){e:Nat}{q:ah}{v:AV},(tB lw a [dl s p d u]::(fE s p d u pm h n b pl w vs ids ap S++us))[i]?=some (tB e q [v])->i≠1->kI H d (.aD q 0)=some v:=λi _ _ _ hi K=>ad9 (U.ne i 1 hi rfl K (λf ag=>ag.1) (λf ag=>ag.1)) (X i hi);have L:h≠d:=U.ne 6 1 rfl rfl aa (λf ag=>tS.tD ag) (λf ag=>ag.1);have M:pm≠ids b:=U.ne 5 _ rfl (hat b hb) aa (λf ag=>ag.1) (λf ag=>ag.1);have N:ids to≠pm:=U.ne _ 5 (hat to g) rfl aa (λf ag=>ag.1) (λf ag=>ag.1);have O:ids b≠d:=U.ne _ 1 (hat b hb) rfl aa (λf ag=>ag.1) (λf ag=>ag.1);have he:∀x,x<n->∀v,vs.getD x .bM=v->rC H d (.slice h 0 n n true) (.ofNat x)=some v:=λx h1 v h2=>by simp only[rC,vD L,acg,bF];exact ND (U.sl 6) h1 h2
 have⟨f6,Q⟩:=U.get 1 rfl;have⟨c,h6,h7,_⟩:=tB.GD Q;have R:c.bp .ajS 0=.bool w:=h7 0 aC;have Y:([AV.bool w]:List AV).length=1:=rfl;refine⟨((H.set (ids b) (.cS (du (fx (eg pl bu ks) t0)))).set d (.cells (ez c 0 [.bool (w||kH t0 (eg pl bu ks))]) 1 4 true [] 0)).skip,λx=>x∈fx (eg pl bu ks) t0,w||kH t0 (eg pl bu ks),λac k T e5 et ea=>?_,λx=>?_,?_,?_⟩;·unfold wS;rw[T,e5,et];have V:mW H (.aD a 0)=some (.func Fb [] [.aD u 0,.aD p 0,.aD s 0,.aD d 0]):=X 0 rfl;rw[V];simp only[aje,bi,l 3 rfl aC,l 0 rfl aC,l 4 rfl aC,l 2 rfl aC,ea,he to I _ J,he b F _ G,h6,vD M,vD N,Z,D,E,s1,R];rfl
 .simp[r,B,C,fx,eg,mc,zf,NE,or_comm]
 .rw[ai6,EH];constructor
  .rintro(ag|⟨x,h1,h2⟩);·grind
   exact .inr ⟨x,(mc ..).2 (.inl h1),λag=>h2 ((r x).2 ag)⟩
  rintro(ag|⟨x,h1,h2⟩);all_goals grind[mc,absurd]
 have W:ak A H (fE s p d u pm h n b pl w vs ids ap S++(us++[tB lw a [dl s p d u]])):=by rw[<-ahD];exact U.bV (aiq (l₁:=[_]))
 have t:=ak.kf (c:=ez c 0 [.bool (w||kH t0 (eg pl bu ks))]) (nw2:=w||kH t0 (eg pl bu ks)) (P:=λx=>x∈fx (eg pl bu ks) t0) (ks:=fx (eg pl bu ks) t0) (H2:=((H.set (ids b) (.cS (du (fx (eg pl bu ks) t0)))).set d (.cells (ez c 0 [.bool (w||kH t0 (eg pl bu ks))]) 1 4 true [] 0)).skip) y hb W (by show H.next.am<=H.next.succ.am;rw[ah.eX];omega) (λj h1 h2=>by show((H.set (ids b) _).set d _).get j=_;rw[ai.aF,an h2,ai.aF,an h1]) (by show fi (((H.set (ids b) _).set d _).get (ids b)) _;rw[ai.aF,an O,ai.aF,aG rfl];exact uw (pf _ o.1)) (λx=>ajH) (by show((H.set (ids b) _).set d _).get d=_;rw[ai.aF,aG rfl]) (by rw[li];simp);rw[<-ahD]at t;exact t.bV (aiq (l₂:=[_]))
end
end
section
def vE(g:G.aP)(os:List (List bt))(S:Nat->Int->Prop)(b:Nat)(v:Int):Prop:=
 (∃bu,(v,bu)∈fD (aE g b)/\my g b v bu)\/(∃w∈wW g os b,S w v/\my g b v (aE g b).aA.length)\/∃t,jU g (os.getD b [])=some t/\S t.toNat v/\my g b v 0
theorem GF{c P e:Int->Prop}{u b:Bool}(h0:∀x,c x->P x)(h1:∀x,P x->e x)(g:u=true↔∃x,P x/\¬c x)(f:b=true↔u=true\/∃x,e x/\¬P x):b=true↔∃x,e x/\¬c x:=by grind
theorem GG(S:Nat->Int->Prop)(b:Nat)(P Q:Int->Prop):dP (dP S b P) b Q=dP S b Q:=by grind[dP]
theorem aea{l:List (Int×Int)}(b:(l.map (·.1)).Nodup){i j:Nat}(hi:i<l.length)(hj:j<l.length)(e:l[i].1=l[j].1):i=j:=(List.getElem_inj (h₀:=by grind) (h₁:=by grind) b).1 (by grind)
theorem aeb{v:AV}{n:Nat}(b:lenOf v=some n):(∃i o c e,v=.slice i o n c e)\/v=.bh/\n=0:=by unfold lenOf at b;grind
theorem aec(S:Nat->Int->Prop)(b:Nat):dP S b (S b)=S:=by grind[dP]
theorem CH(S:Nat->Int->Prop)(b:Nat)(P:Int->Prop):dP S b P b=P:=by simp[dP]
section
variable{A H:ai}{n b:Nat}{vs:List AV}{ids:Nat->ah}{ap:List Nat}{S:Nat->Int->Prop}{h m a d pm y:ah}{pl:List (Int×Int)}{u:Bool}{us:List Th}
theorem aed{t:Th}(T:Tb ab)(g:xW n vs ids ap)(hb:b∈ap)(U:ak A H (t::(fE h m a d pm y n b pl u vs ids ap S++us))){v bu:Int}{K:KT}(i:∀r H' P c,(∀x,P x↔S b x\/x=v/\∀p,(v,p)∈pl->bu<=p)->(c=true↔u=true\/∃x,P x/\¬S b x)->ak A H' (t::(fE h m a d pm y n b pl c vs ids ap (dP S b P)++us))->K r H'):YF ab (dl h m a d) [aI v,aI bu] H K:=by
 have f:ak A H (fE h m a d pm y n b pl u vs ids ap S++(us++[t])):=by rw[<-ahD];exact U.bV (aiq (l₁:=[_]))
 refine ad8 T g hb f λr H' P c h1 h2 e=>i r H' P c h1 h2 ?_;rw[<-ahD]at e;exact e.bV (aiq (l₂:=[_]))
theorem ak.aee{xs ys:List Th}{e:Nat}{q:ah}{cs:List AV}(U:ak A H (xs++tB e q cs::ys)){o:Nat}{v:AV}(b:cs[o]?=some v):aY H q o=some v:=by have⟨_,c⟩:=(U.sY).get 0 rfl;grind[tB.cell]
end
section
variable{g:G.aP}{B C:AV}{z:ah}{A H:ai}{come:List Bool}{os:List (List bt)}{D:List AV}{n b:Nat}{vs:List AV}{ids:Nat->ah}{ap:List Nat}{S:Nat->Int->Prop}{y:ah}{us:List Th}
theorem aef(T:Tb ab)(V:Vd g)(hX:GX g A z B C come os D)(hK:b9 g come os)(hO:xW n vs ids ap)(hm:∀x,x∈ap↔come.getD x false=true)(hb:come.getD b false=true)(U:ak A H (jY y n vs ids ap S++us)){K:KT}(ej:∀H' P u,(∀v,P v↔S b v\/vE g os S b v)->(u=true↔∃v,P v/\¬S b v)->ak A H' (jY y n vs ids ap (dP S b P)++us)->K (.bool u) H'):YN ab XM [.aD z 0,aN b,.slice y 0 n n true] H K:=by
 have hB:=V.sm;have dy:=hB.nb;have ba:=hK.lt hb;have bb:=(hm b).2 hb;have ag:=hX.jn.lt;have cp:=hX.jn.aE;have⟨dz,_,_,_⟩:=hX.bl.all;have ax:=kY ba;have d0:=hB.bl _ ax;have de:=hB.st _ ax;have cv:=hB.ed _ ax;have cx:=V.gv.nd _ ax;have cy:g.aj[b]=aE g b:=(bf ba _).symm;have dv:(wW g os b).length<=12:=by have:=Ce (now:=os.getD b []) hB ba;simpa[wW,kn]using this
 refine YF.code T.Z1 aC (au ?_);refine RO.ct U λH1 h U=>RO.ct U λH2 m U=>RO.dN U λH3 a U=>af ?_;refine RO.be ?_ (v:=B) (hc:=by rw[U.gr.aY ag];exact cp);refine af ?_;refine RO.bO U.gr hX.bl (λq9 o9 ei d1 ay d2 hat hrd=>?_) (j:=b);rw[cy]at ay;generalize J:aE g b=ek at*;have a8:=ay.one;have b0:=ay;obtain⟨vp,F,jc,rfl,d3,cE,va,vk,vg,rfl,_,_,_⟩:=ay;have⟨_,_,_,ca⟩:=cE.all;refine af ?_;refine RO.dS U λH4 W U=>af ?_;refine RO.adw U λH5 pm U=>RO.dS U λH6 d U=>af ?_;refine RO.co U 2 ?_;refine RO.cl (Mu T (cs:=[vp,F,aU ek.aq.op,va,.str ek.aq.name,vk,vg]) a8 rfl λH7 q hl=>?_);have U:=U.dq hl;refine af ?_;refine Ru.wk (L:=[(rO,.func BZ [] [.aD q 0]),(p0,.aD z 0),(p4,.aD h 0),(p5,.aD m 0),(p6,.aD a 0),(p7,.aD W 0),(p8,.aD d 0)]) ?_;have U:ak A H7 ([tB cH q [vp,F,aU ek.aq.op,va,.str ek.aq.name,vk,vg]]++[tB BK d [.map pm],tI pm ((cD ek).take 0)]++(tB cH W [vp,F,aU ek.aq.op,va,.str ek.aq.name,vk,vg]::tB 4 a [.bool false]::tB ta m [.slice y 0 n n true]::tB 3 h [aN b]::(jY y n vs ids ap S++us))):=U;refine Ru.oh (J:=λk ts=>ts=[tB BK d [.map pm],tI pm ((cD ek).take k)]) (Dn:=λ_ _=>False) U (Mv T b0 aa aa) (λ_ _=>trivial) rfl (λk args ws ej=>by obtain⟨rfl,_,rfl⟩:=ej;rfl) (λ_ _ _ _ _ _=>trivial) (λk args ws ts us l o1 o2 H' hk bc hJ U=>?_) (λH' bv Z hJ U=>?_) (λj H' bv Z _ ej=>ej.elim)
 .obtain⟨rfl,a1,rfl⟩:=bc;subst hJ;have cd:((cD ek)[k]).1∉((cD ek).take k).map ajR:=λI=>by obtain⟨p,hp,e⟩:=aia.1 I;obtain⟨i,hi,rfl⟩:=ah0 hp;rw[aiA]at hi;rw[List.getElem_take]at e;have:=aea cx aa a1 e;omega
  refine au ?_;refine Ru.cY (xs:=[_,_]) U λH2 U=>af ?_;refine RO.adx U 1 cd (λH3 U=>af ?_);refine Ru.bz (ts:=[_,_]) U ?_;rw[<-ah9 a1]
 subst hJ;rw[ajg]at U;refine af ?_;refine RO.dS (xv:=dl h m a d) U λH8 E U=>af ?_;refine RO.co U 4 ?_;refine RO.cl (Mx T (cs:=[vp,F,aU ek.aq.op,va,.str ek.aq.name,vk,vg]) a8 λH9 qr hl=>?_);have U:=U.dq hl;refine af ?_;refine Ru.wk (L:=[(tf,.func B0 [] [.aD qr 0]),(p0,.aD z 0),(p4,.aD h 0),(p5,.aD m 0),(p6,.aD a 0),(p7,.aD W 0),(p8,.aD d 0),(eS,.aD E 0)]) ?_;have U:=((((((U.eh 3 rfl).eh 3 rfl).eh 7 rfl).eh 8 rfl).eh 8 rfl).eh 6 rfl).eh 6 rfl;have U:ak A H9 ([tB cH qr [vp,F,aU ek.aq.op,va,.str ek.aq.name,vk,vg]]++(tB lw E [dl h m a d]::fE h m a d pm y n b (cD ek) false vs ids ap S)++(tX Z (.deferred false)::tB cH W [vp,F,aU ek.aq.op,va,.str ek.aq.name,vk,vg]::us)):=by rw[ahD];exact U.bV (List.Perm.append_left [_,_,_,_,_,_,_] (List.perm_append_comm_assoc [_,_] _ _))
 refine Ru.oh (J:=λk ts=>∃P u,(∀x,P x↔S b x\/∃q∈(fD ek).take k,q.1=x/\∀p,(x,p)∈cD ek->q.2<=p)/\(u=true↔∃x,P x/\¬S b x)/\ts=tB lw E [dl h m a d]::fE h m a d pm y n b (cD ek) u vs ids ap (dP S b P)) (Dn:=λ_ _=>False) U (My T b0 aa (λs hs=>by have:=(de s hs).1;omega) aa aa (λe he=>by have:=cv e he;omega)) (λ_ _=>trivial) ⟨S b,false,aC,aC,by rw[aec]⟩ (λk args ws ej=>by obtain⟨rfl,_,rfl⟩:=ej;rfl) (λ_ _ _ _ _ _=>trivial) (λk args ws ts us l o1 o2 H' hk bc hJ U=>?_) (λH' bv L hJ U=>?_) (λj H' bv Z _ ej=>ej.elim)
 .obtain⟨rfl,a1,rfl⟩:=bc;obtain⟨P,u,Q,hn,rfl⟩:=hJ;refine au ?_;refine Ru.cY (xs:=tB lw E [dl h m a d]::fE h m a d pm y n b (cD ek) u vs ids ap (dP S b P)) U λH2 U=>af ?_;refine RO.cl (aed T hO bb (us:=tX l o2::us) U λr H3 P2 N h1 h2 U=>?_);rw[CH]at h1 h2;rw[GG]at U;refine af ?_;refine Ru.bz (ts:=tB lw E [dl h m a d]::fE h m a d pm y n b (cD ek) N vs ids ap (dP S b P2)) U ⟨P2,N,λx=>?_,GF (λx I=>(Q x).2 (.inl I)) (λx I=>(h1 x).2 (.inl I)) hn h2,rfl⟩;rw[h1,Q,<-ah9 a1,or_assoc];refine or_congr ajH ⟨?_,?_⟩
  .rintro(⟨q,X,ej⟩|⟨rfl,ej⟩);·exact⟨q,ah1 _ X,ej⟩
   exact⟨_,aid _ (abP.2 rfl),rfl,ej⟩
  rintro⟨q,X,e,ej⟩;rcases adX.1 X with X|X;·exact .inl ⟨q,X,e,ej⟩
  rw[abP]at X;subst X;exact .inr ⟨e.symm,by rw[e];exact ej⟩
 obtain⟨P0,b3,R,cR,rfl⟩:=hJ;rw[ajg]at R;refine af ?_;refine RO.cl (FO T V.sm V.cK (hX.bR U.gr) hK hb λd4 v hl=>?_);have U:=(U.dq hl).bV (aii (l₁:=tB lw E [dl h m a d]::fE h m a d pm y n b (cD ek) b3 vs ids ap (dP S b P0))).symm;have⟨d5,_,_,d6⟩:=(hl.sl (e:=3) (size:=1) (sv:=v) (vs:=(wW g os b).map aN) (n:=(wW g os b).length) (full:=true) 0).all;refine af ?_;refine Ru.nm λS0 M hS hM=>Ru.bI hM (up (P:=λk=>∀HX P u,(∀x,P x↔P0 x\/∃w∈(wW g os b).take k,S w x/\∀p,(x,p)∈cD ek->(ek.aA.length:Int)<=p)->(u=true↔∃x,P x/\¬S b x)->ak A HX (tB lw E [dl h m a d]::fE h m a d pm y n b (cD ek) u vs ids ap (dP S b P)++tS 3 1 ((wW g os b).map aN) (wW g os b).length true v::(tX L (.deferred false)::tX Z (.deferred false)::tB cH W [vp,F,aU ek.aq.op,va,.str ek.aq.name,vk,vg]::us))->Ru ab _ S0 ([(pp,aN k)]++pk M [p0,p4,p5,p6,p7,p8,eS,n8,na]) HX) (wW g os b).length (λk hk ih HX P u Q hn U=>?_) 0 aa _ P0 b3 aC cR U);subst hS;subst hM;refine Ru.loop (au ?_);refine Ru.cond (λag=>?_) (λag=>?_)
 .refine af ?_;have c8:=(U.sY).sl (e:=3) (size:=1) (sv:=v) (vs:=(wW g os b).map aN) (n:=(wW g os b).length) (full:=true) 0;refine RO.iQ (aS.refl _) c8 (λd7 d' dx ea=>af ?_) (j:=k);have c9:(wW g os b)[k]∈wW g os b:=acm ag;have a2:=(hm _).2 (hK.iq hb c9);have b4:(wW g os b).take (k+1)=(wW g os b).take k++[(wW g os b)[k]]:=(ah9 ag).symm;have ih:=ih (k+1) aa aa;rw[b4]at ih;clear b4;generalize(wW g os b)[k]=to at*;obtain⟨H',P2,N,hg,h1,h2,av⟩:=NF hO bb a2 U (bu:=.ofNat ek.aA.length) (tos:=15) (ch:=y9);have c':W≠a:=λe=>by have h8:=U.bV (aii (l₁:=tB lw E [dl h m a d]::fE h m a d pm y n b (cD ek) u vs ids ap (dP S b P)++[tS 3 1 ((wW g os b).map aN) (wW g os b).length true v,tX L (.deferred false),tX Z (.deferred false)]) (l₂:=us) (a:=tB cH W [vp,F,aU ek.aq.op,va,.str ek.aq.name,vk,vg])|>λej=>by simpa using ej);exact h8.ne 0 2 rfl rfl aa (λf ej=>ej.1) (λf ej=>ej.1) e
  have dm:aY HX W 1=some F:=by refine ak.aee (xs:=tB lw E [dl h m a d]::fE h m a d pm y n b (cD ek) u vs ids ap (dP S b P)++[tS 3 1 ((wW g os b).map aN) (wW g os b).length true v,tX L (.deferred false),tX Z (.deferred false)]) (ys:=us) (by simpa using U) rfl
  refine Ru.dL (ch:=y9) (H':=H') T.aba (M:=[(p0,.aD z 0),(p4,.aD h 0),(p5,.aD m 0),(p6,.aD a 0),(p7,.aD W 0),(p8,.aD d 0),(eS,.aD E 0),(n8,v),(na,aN (wW g os b).length),(pp,aN k)]) (λac O=>?_) ?_
  .refine hg ac _ (O.get (p:=sl 11) rfl rfl) (O.get (p:=sl 5) rfl rfl) (O.get (p:=sl 15) rfl rfl) ?_;simp only[O.get (p:=sl 7) (v:=.aD W 0) rfl rfl,vD c',acg,bF,dm,aif];rcases aeb ca with⟨i,o,c,e,rfl⟩|⟨rfl,h0⟩;·rfl
   rw[h0]
  rw[CH]at h1 h2;rw[GG]at av;have key:∀x,P2 x↔P0 x\/∃w∈(wW g os b).take k++[to],S w x/\∀p,(x,p)∈cD ek->(ek.aA.length:Int)<=p:=λx=>by
   have cf:∀x,S b x->P x:=λx I=>(Q x).2 (.inl ((R x).2 (.inl I)));have b6:P x->P0 x\/∃w∈(wW g os b).take k++[to],S w x/\∀p,(x,p)∈cD ek->(ek.aA.length:Int)<=p:=λej=>by
    rcases(Q x).1 ej with ej|⟨w,Y,ej⟩;·exact .inl ej
    exact .inr ⟨w,ah1 _ Y,ej⟩
   rw[h1];constructor
   .rintro(ej|⟨ej,a6⟩);·exact b6 ej
    simp only[dP]at ej;split at ej;·exact b6 ej
    exact .inr ⟨to,aid _ (abP.2 rfl),ej,a6⟩
   rintro(ej|⟨w,Y,hs,a6⟩);·exact .inl ((Q x).2 (.inl ej))
   rcases adX.1 Y with Y|Y;·exact .inl ((Q x).2 (.inr ⟨w,Y,hs,a6⟩))
   rw[abP]at Y;subst Y;by_cases e:w=b;·subst e;exact .inl (cf x hs)
   refine .inr ⟨?_,a6⟩;simp only[dP,an e];exact hs
  refine af ?_;exact Ru.wk (ih H' P2 N key (GF (λx I=>(Q x).2 (.inl ((R x).2 (.inl I)))) (λx I=>(h1 x).2 (.inl I)) hn h2) av)
 refine Ru.exitTo ?_;rw[aic aa]at Q;refine af ?_;have hR:∀x,(P x->S b x\/vE g os S b x)/\((∃q∈fD ek,q.1=x/\∀p,(x,p)∈cD ek->q.2<=p)\/(∃w∈wW g os b,S w x/\∀p,(x,p)∈cD ek->(ek.aA.length:Int)<=p)->P x)/\(S b x->P x):=λx=>by
  refine⟨λej=>?_,λej=>?_,λej=>(Q x).2 (.inl ((R x).2 (.inl ej)))⟩
  .rcases(Q x).1 ej with ej|⟨w,Y,h1,h2⟩
   .rcases(R x).1 ej with ej|⟨q,X,rfl,h2⟩;·exact .inl ej
    refine .inr (.inl ⟨q.2,?_,?_⟩);·rw[J];exact X
    simp only[my,J];exact h2
   refine .inr (.inr (.inl ⟨w,Y,h1,?_⟩));simp only[my,J];exact h2
  rcases ej with⟨q,X,ej⟩|⟨w,Y,ej⟩;·exact(Q x).2 (.inl ((R x).2 (.inr ⟨q,X,ej⟩)))
  exact(Q x).2 (.inr ⟨w,Y,ej⟩)
 have b7:∀x,vE g os S b x->P x\/∃t,jU g (os.getD b [])=some t/\S t.toNat x/\∀p,(x,p)∈cD ek->0<=p:=λx ej=>by
  rcases ej with⟨bu,h1,h2⟩|⟨w,h1,h2,h3⟩|⟨t,h1,h2,h3⟩
  .refine .inl ((hR x).2.1 (.inl ⟨(x,bu),?_,rfl,?_⟩));·rw[<-J];exact h1
   simp only[my,J]at h2;exact h2
  .refine .inl ((hR x).2.1 (.inr ⟨w,h1,h2,?_⟩));simp only[my,J]at h3;exact h3
  refine .inr ⟨t,h1,h2,?_⟩;simp only[my,J]at h3;exact h3
 refine RO.cl (adU T hB V.cK (hX.bR U.gr) hK hb λeb cn=>?_);have U:=U.bR cn;have a':∀HX P u,ak A HX (tB lw E [dl h m a d]::fE h m a d pm y n b (cD ek) u vs ids ap (dP S b P)++tS 3 1 ((wW g os b).map aN) (wW g os b).length true v::(tX L (.deferred false)::tX Z (.deferred false)::tB cH W [vp,F,aU ek.aq.op,va,.str ek.aq.name,vk,vg]::us))->ak A HX (fC [L,Z]++(tB 4 a [.bool u]::(jY y n vs ids ap (dP S b P)++us))):=λHX P u U=>by
  have h1:ak A HX (tB lw E [dl h m a d]::tB 4 a [.bool u]::tB 3 h [aN b]::tB ta m [.slice y 0 n n true]::tB BK d [.map pm]::tI pm (cD ek)::(jY y n vs ids ap (dP S b P)++(tS 3 1 ((wW g os b).map aN) (wW g os b).length true v::(tX L (.deferred false)::tX Z (.deferred false)::tB cH W [vp,F,aU ek.aq.op,va,.str ek.aq.name,vk,vg]::us)))):=by simpa only[fE,aiR,aiY,ahD]using U
  have h2:=h1.sub (.cons _ (.cons_cons _ (.cons _ (.cons _ (.cons _ (.cons _ ((aiE (jY y n vs ids ap (dP S b P))).append (.cons _ (.cons_cons _ (.cons_cons _ (.cons _ (aiE us))))))))))));exact h2.bV (List.perm_append_comm_assoc (tB 4 a [.bool u]::jY y n vs ids ap (dP S b P)) [_,_] us)
 cases ht:jU g (os.getD b [])with
 |none=>
  refine af ?_;refine RO.dJ U 1 (λdr U=>af ?_);refine Ru.jl (M:=[L,Z]) (a' _ P u U) λH' U=>⟨[.bool u],⟨⟨_,_,rfl,U.one 0⟩,trivial⟩,ej H' P u (λx=>⟨(hR x).1,λI=>?_⟩) hn U.tail⟩;rcases I with I|I;·exact(hR x).2.2 I
  rcases b7 x I with G|⟨t,G,_⟩;·exact G
  rw[ht]at G;cases G
 |some t=>
  obtain⟨_,_,_,_,b',ec⟩:=qG V.cK hK hb ht;have a2:=(hm _).2 b';obtain⟨to,rfl⟩:∃to:Nat,t=(to:Int):=⟨t.toNat,aa⟩;rw[ahX]at a2 b';obtain⟨H',P2,N,hg,h1,h2,av⟩:=NF hO bb a2 U (bu:=.ofNat 0) (tos:=17) (ch:=za);rw[CH]at h1 h2;rw[GG]at av;refine af ?_;refine Ru.dL (ch:=za) (H':=H') T.abb (M:=[(p6,.aD a 0)]) (λac O=>?_) ?_;·exact hg ac _ (O.get (p:=sl 11) rfl rfl) (O.get (p:=sl 5) rfl rfl) (O.get (p:=sl 17) rfl rfl) rfl
  refine af ?_;have U:=av;refine RO.eD U 1 ?_;refine RO.dJ U 1 (λdr U=>?_);refine af ?_;refine Ru.jl (M:=[L,Z]) (a' _ P2 N U) λH' U=>⟨[.bool N],⟨⟨_,_,rfl,U.one 0⟩,trivial⟩,ej H' P2 N (λx=>?_) (GF (λx I=>(hR x).2.2 I) (λx I=>(h1 x).2 (.inl I)) hn h2) U.tail⟩;rw[h1];constructor
  .rintro(G|⟨G,aw⟩);·exact(hR x).1 G
   simp only[dP]at G;split at G;·exact(hR x).1 G
   refine .inr (.inr (.inr ⟨_,ht,by rw[ahX];exact G,?_⟩));simp only[my,J];exact aw
  rintro(G|G);·exact .inl ((hR x).2.2 G)
  rcases b7 x G with G|⟨t,G,aw,ds⟩;·exact .inl G
  rw[ht]at G;injection G with G;subst G;rw[ahX]at aw;by_cases e:to=b;·subst e;exact .inl ((hR x).2.2 aw)
  refine .inr ⟨?_,ds⟩;simp only[dP,an e];exact aw
end
end
theorem RO.aeg{c:Cx}{s:List SI}{L:Kn}{H:ai}{d:Option ah}{l:List bD}{z:Int}{x y:aJ}(h:RO ab c l s (bq L d (.bool false)) H)(b:aT L x=.cL:=by exact cw)(e:aT L y=.int 3 z:=by exact cw):RO ab c (⟨d,.lookup .int (.bool false) false x y,none,[],[]⟩::l) s L H:=RO.op (λac a=>by simp only[aH,iH,ait,acg,bF,a.gv b rfl,a.gv e rfl]) h
def cb(p:Prop):Bool:= @decide p (Classical.propDecidable p)
theorem GH{p:Prop}:cb p=true↔p:= @decide_eq_true_iff p (Classical.propDecidable p)
def CI(nv:Nat)(ap:List Nat)(S:Nat->Int->Prop):Nat:=(ap.map λb=>((ah7 nv).filter λ(v:Nat)=>cb (¬S b (v:Int))).length).sum
theorem GI{b:Type}{p q:b->Bool}(h:∀x,p x=true->q x=true):∀l:List b,(l.filter p).length<=(l.filter q).length|[]=>afM _|a::l=>by have c:=GI h l;grind
theorem NG{d:Type}{p q:d->Bool}(h:∀x,p x=true->q x=true){y:d}(f:q y=true)(g:p y=false):∀l:List d,y∈l->(l.filter p).length<(l.filter q).length
 |[],c=>by grind
 |a::l,c=>by
  rcases acT.1 c with rfl|c;·have:=GI h l;grind
  have i:=NG h f g l c;cases b:p a with|true=>simp only[List.filter_cons,b,h a b,bi,air];omega|false=>cases e:q a<;>simp only[List.filter_cons,b,e,bi,acg,bF,air]<;>omega
theorem NH{b:Type}{f g:b->Nat}:∀l:List b,(∀x∈l,f x<=g x)->(l.map f).sum<=(l.map g).sum|[],_=>afM _|a::l,h=>by have:=NH l λx c=>h x (adT _ c);grind
theorem NI{c:Type}{f g:c->Nat}{y:c}(e:f y<g y):∀l:List c,(∀x∈l,f x<=g x)->y∈l->(l.map f).sum<(l.map g).sum
 |[],_,b=>by grind
 |a::l,h,b=>by
  have h1:=h a (acI ..);simp only[ah2,List.sum_cons];rcases acT.1 b with rfl|b;·have:=NH l λx d=>h x (adT _ d);omega
  have:=NI e l (λx d=>h x (adT _ d)) b;omega
theorem aeh{nv:Nat}{ap:List Nat}{S c:Nat->Int->Prop}(h:∀b∈ap,∀v,S b v->c b v){b:Nat}(hb:b∈ap){v:Nat}(f:v<nv)(h1:c b v)(h2:¬S b v):CI nv ap c<CI nv ap S:=by
 have a:∀x∈ap,∀w:Nat,cb (¬c x (w:Int))=true->cb (¬S x (w:Int))=true:=λx d w e=>by rw[GH]at e⊢;exact λhs=>e (h x d _ hs)
 refine NI (y:=b) (NG (a b hb) (y:=v) (GH.2 h2) ?_ _ (aiO.2 f)) ap (λx d=>GI (a x d) _) hb;simp[h1,cb,absurd,GH]
def GJ(g:G.aP)(os:List (List bt))(ap:List Nat)(S:Nat->Int->Prop):Prop:=∀b∈ap,∀v,vE g os S b v->S b v
def xX(g:G.aP)(os:List (List bt))(S:Nat->Int->Prop):Prop:=∀b v,S b v->Lv g os b v
theorem xX.iO{g:G.aP}{os:List (List bt)}{S:Nat->Int->Prop}{b:Nat}{P:Int->Prop}(h:xX g os S)(c:∀v,P v->S b v\/vE g os S b v):xX g os (dP S b P):=λx v a=>by
 simp only[dP]at a;split at a
 .rename_i e;subst e;rcases c v a with h1|⟨bu,h1,h2⟩|⟨w,h1,h2,h3⟩|⟨t,h1,h2,h3⟩;·exact h _ _ h1
  .exact .kU h1 h2
  .exact .iq h1 (h _ _ h2) h3
  exact .kl h1 (h _ _ h2) h3
 exact h _ _ a
theorem GJ.all{g:G.aP}{a:List Bool}{os:List (List bt)}{ap:List Nat}{S:Nat->Int->Prop}(k:fy g)(f:b9 g a os)(c:∀x,x∈ap↔a.getD x false=true)(h:GJ g os ap S){b:Nat}{v:Int}(hl:Lv g os b v):b∈ap->S b v:=by induction hl with| @kU b v bu h1 h2=>intro hb;exact h b hb v (.inl ⟨bu,h1,h2⟩)| @iq b w v i _ d e=>intro hb;exact h b hb v (.inr (.inl ⟨w,i,e ((c w).2 (f.iq ((c b).1 hb) i)),d⟩))| @kl b t v j _ d e=>intro hb;have⟨_,_,_,_,l,_⟩:=qG k f ((c b).1 hb) j;exact h b hb v (.inr (.inr ⟨t,j,e ((c _).2 l),d⟩))
end
end Go.al.R
end
