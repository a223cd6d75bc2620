/- A part. No conditions. -/
import Derived.Test.YtjapbgcbkolgmaaGreatDoorA23
set_option linter.all false
set_option maxHeartbeats 16000000
open List renaming replicate->aeN,range->agA
noncomputable section
namespace Go.al.R
section
variable{ac:Nat->aX}
section
def ac5:ah->List Bool->List AV->Prop:=λH l cs=>∃v,cs=[v]/\Sl H 1 (l.map .bool) l.length v
abbrev Ei(H:ah)(m:List (List Bool))(v:AV):Prop:=cP 1 ac5 H m v
abbrev ac6(l:List Bool)(v:Nat):Prop:=l.getD v false=true
structure ac7(nb n:Nat)(m:List (List Bool)):Prop where
 len:m.length=nb
 row:∀b,b<nb->(m.getD b []).length=n
theorem Od{g:G.be}(a:G.Sm g){b:Nat}(hb:b<g.aj.length){o:List Int}:(gB g b o).length<=12:=by
 have:=(a.bl _ (adq hb)).2.2.2.2.1;unfold gB;split;·simp
 split;·split<;>simp
 rw[afJ,bm,bB hb];omega
theorem Oe{g:G.be}(b:i9 g){o:List Int}(c:oN g o){t:Int}(h:km g o=some t):1<=t/\t<=(g.aj.length:Int) - 1:=by unfold km at h;cases a:o.reverse.find? λx=>x % 2==0 with|none=>rw[a]at h;cases h|some x=>rw[a]at h;simp only[afL,aaM]at h;have d:=ag3.1 (List.mem_of_find?_eq_some a);obtain⟨_,h2,h3⟩:=c x d;subst h;rw[bB ab];exact b.rg _ h2 _ (adq _)
section
variable{g:G.be}{H:ah}{cs:List AV}
end
end
section
def jS(j:G.fg):List Int:=j.args++j.go.flatMap (·.args)
theorem Im(l:List G.d9):(eN l).length<=l.length:=agE (List.length_filter_le _ _) aF
section
variable{g:G.be}{H:ah}{cs:List AV}
theorem acP(T:Tb ac){B:G.dW}(hb:ji H B cs)(hl:B.i4.length<=12/\B.aS.length<=40){K:KT}(h:∀y v,aq H y [tS 3 1 ((eH B).map aI) (eH B).length true v]->K v y):YN ac Wm [.agg cs] H K:=by
 have E:=hb.one;obtain⟨z,k,jc,rfl,l,f,A,C,D,rfl,Q,R,S⟩:=hb;have⟨V,_,_,_⟩:=l.all;have⟨W,_,_,_⟩:=f.all;refine YF.code T.Y9 aF ?_;refine au ?_;refine RO.dp (aq.ct H) λH1 q U=>?_;refine ai ?_;refine RO.lW U 1 λH2 v5 U=>?_;have⟨X,_,_,_⟩:=(U.sl 0 rfl).all;refine ai ?_;refine RO.lu U 0 (U.gr.sl l) (λF I U=>?_) (h1:=mC _);have U:aq H F [tS 3 1 ((B.i4++eN (B.aS.take 0)).map aI) (B.i4++eN (B.aS.take 0)).length true I,tB de q [z,k,aU B.aB.op,A,.str B.aB.i7,C,D]]:=by rw[agI,show eN []=[]from rfl,agk];rw[afC]at U;exact U
 have⟨Y,_,_,_⟩:=(U.sl 0 rfl).all;refine ai ?_;refine Ru.nm λJ L r m=>?_;refine Ru.bT m (up (P:=λj=>∀p i,aq H p [tS 3 1 ((B.i4++eN (B.aS.take j)).map aI) (B.i4++eN (B.aS.take j)).length true i,tB de q [z,k,aU B.aB.op,A,.str B.aB.i7,C,D]]->Ru ac _ J ([(p4,aN j),(p3,i)]++pk L [p1]) p) B.aS.length (λj hj d p i U=>?_) 0 ab _ _ U);subst r;subst m;have⟨Z,_,_,s⟩:=(U.sl 0 rfl).all;refine Ru.loop ?_;refine ai ?_;refine Ru.cond (λc=>?_) (λc=>?_)
 .have d:=d (j+1) ab ab;rw[(afK c).symm,HQ,<-afu]at d;have ag:(B.i4++eN (B.aS.take j)).length<=100:=by have:=Im (B.aS.take j);rw[afH]at this;rw[afq];omega
  generalize B.i4++eN (B.aS.take j)=l0 at*;refine ai ?_;refine RO.bY U.gr f (λM N c7 t b u a n=>?_) (j:=j);generalize O:B.aS[j]=x at*;obtain⟨w,rfl,o⟩:=b;refine ai ?_;refine RO.bi (v:=aI x.to) ?_ (hc:=a 1 _ rfl);refine ai ?_;refine Ru.cond (λe=>?_) (λe=>?_);·have e:0<=x.to:=e;rw[aJ e]at d;refine ai ?_;refine RO.bY U.gr f (λM N c7 t b u a n=>?_) (j:=j);rw[O]at b;obtain⟨w,rfl,o⟩:=b;refine ai ?_;refine RO.bi (v:=aI x.to) ?_ (hc:=a 1 _ rfl);refine RO.push U 0 (λw0 H9 P U=>?_) (ws:=[aI x.to]);have⟨av,aw,ax,_⟩:=(U.sl 0 rfl).all;refine ai ?_;exact Ru.wk (d _ P (by rw[afS,afq];exact U))
  have e:¬0<=x.to:=e;rw[ap e,agk]at d;refine ai ?_;exact Ru.wk (d _ i U)
 refine Ru.exitTo ?_;rw[afF ab]at U s;refine ai ?_;exact Ru.aP (h _ i (U.sub (.cons_cons _ (.cons _ .slnil))))
theorem NU(T:Tb ac){j:G.fg}(hj:py H j cs)(hl:j.args.length<=12/\j.go.length<=12)(o:∀e∈j.go,e.args.length<=12){K:KT}(h:∀t v,aq H t [tS 3 1 ((jS j).map aI) (jS j).length true v]->K v t):YN ac Wc [.agg cs] H K:=by
 have y:=hj.one;obtain⟨u,w,x,rfl,b,I,c⟩:=hj;have⟨J,_,_,_⟩:=b.all;have⟨L,_,_,_⟩:=c.all;refine YF.code T.YZ aF ?_;refine au ?_;refine RO.dp (aq.ct H) λZ q U=>?_;refine ai ?_;refine RO.lW U 1 λH2 v5 U=>?_;have⟨M,_,_,_⟩:=(U.sl 0 rfl).all;refine ai ?_;refine RO.lu U 0 (U.gr.sl b) (λA B U=>?_) (h1:=mC _);have U:aq H A [tS 3 1 ((j.args++(j.go.take 0).flatMap (·.args)).map aI) (j.args++(j.go.take 0).flatMap (·.args)).length true B,tB mE q [aU j.op,u,.str j.i7,w,x]]:=by rw[agI,List.flatMap_nil,agk];rw[afC]at U;exact U
 have⟨N,_,_,_⟩:=(U.sl 0 rfl).all;refine ai ?_;refine Ru.nm λC D p d=>?_;refine Ru.bT d (up (P:=λk=>∀n l,(j.args++(j.go.take k).flatMap (·.args)).length<=12+12*k->aq H n [tS 3 1 ((j.args++(j.go.take k).flatMap (·.args)).map aI) (j.args++(j.go.take k).flatMap (·.args)).length true l,tB mE q [aU j.op,u,.str j.i7,w,x]]->Ru ac _ C ([(p4,aN k),(p3,l)]++pk D [p1]) n) j.go.length (λk hk m n l O U=>?_) 0 ab _ _ (by simp;omega) U);subst p;subst d;have⟨P,_,_,r⟩:=(U.sl 0 rfl).all;refine Ru.loop ?_;refine ai ?_;refine Ru.cond (λa=>?_) (λa=>?_);·have m:=m (k+1) ab ab;have Q:=o _ (adq a);rw[(afK a).symm,afX,agc,<-afu]at m;generalize j.args++(j.go.take k).flatMap (·.args)=l0 at*;refine ai ?_;refine RO.bY U.gr c (λq7 o7 c7 R s S i z=>?_) (j:=k);generalize j.go[k]=e at*;obtain⟨E,rfl,f⟩:=s;have⟨V,_,_,_⟩:=f.all;refine ai ?_;refine RO.bi (v:=E) ?_ (hc:=i 1 _ rfl);refine RO.lu U 0 (U.gr.sl f) (λH9 F U=>?_) (h1:=mC _);have⟨W,X,Y,_⟩:=(U.sl 0 rfl).all;refine ai ?_;exact Ru.wk (m _ F (by rw[afq];omega) (by rw[afS,afq];exact U))
 refine Ru.exitTo ?_;rw[afF ab]at U r;refine ai ?_;exact Ru.aP (h _ l (U.sub (.cons_cons _ (.cons _ .slnil))))
structure jE(n np:Nat)(gl:List Int)(hist:List (Int×Nat)):Prop where
 len:gl.length=n
 aM:∀v:Nat,v<np->gl.getD v 0= -1
 bz:∀p∈hist,gl.getD p.1.toNat 0=(p.2:Int)
theorem jE.add{n c:Nat}{gl:List Int}{a:List (Int×Nat)}(h:jE n c gl a){v k:Nat}(l:v<n)(m:c<=v)(f:(v:Int)∉a.map (·.1))(b:∀x∈a.map (·.1),(0:Int)<=x):jE n c (gl.set v (k:Int)) (a++[((v:Int),k)]):=by
 have hl:=h.len;refine⟨by simpa using hl,λx i=>?_,λp d=>?_⟩;·rw[dG ab,ap ab];exact h.aM x i
 rw[dG ab];rcases ae8.1 d with h2|h2;·have h3:=afI (f:=(·.1)) h2;have j:=b _ h3;rw[ap λe=>f (by rw[<-e,Int.toNat_of_nonneg j];exact h3)];exact h.bz p h2
 rw[abx]at h2;subst h2;rw[aJ (afs v)]
def iO(g:G.be)(k:Nat):List (Int×Nat):=(agA k).flatMap λi=>(eH (bm g i)).map λv=>(v,i)
theorem AT(g:G.be):∀k,k<=g.aj.length->(iO g k).map (·.1)=(g.aj.take k).flatMap eH|0,_=>rfl|k+1,h=>by rw[iO,agS,afX,agc,afS,<-iO,AT g k ab,(afK (show k<g.aj.length by omega)).symm,afX,agc,ag1,bm,bB ab];congr 1;exact ahi _
theorem NV(T:Tb ac)(hg:gu H g cs)(hB:G.Sm g)(O:fu g)(S:g.bc<=6000){K:KT}(h:∀H' q gl,jE g.bc.toNat g.i4.toNat gl (iO g g.aj.length)->aq H H' [tS 3 1 (gl.map aI) g.bc.toNat true (.slice q 0 g.bc.toNat g.bc.toNat true)]->K (.slice q 0 g.bc.toNat g.bc.toNat true) H'):YN ac Wb [.agg cs] H K:=by
 have E:=hg.one;obtain⟨P,rfl,bW⟩:=hg;have⟨av,_,_,aw⟩:=bW.all;have ax:=hB.nb;have h0:=O.p0;have h1:=O.p1;obtain⟨n,Q⟩:∃n:Nat,g.bc=n:=⟨g.bc.toNat,ab⟩;obtain⟨j,u⟩:∃n:Nat,g.i4=n:=⟨g.i4.toNat,ab⟩;have o:=O.rg;have w:=O.nd;rw[Q,u]at h h1 o E;rw[Q]at S;simp only[afs]at h;refine YF.code T.YY aF ?_;rw[Q,u];refine ai ?_;refine RO.dp (aq.ct H) λH1 q U=>?_;refine ai ?_;refine RO.ls U (n:=n) (λH2 s U=>?_) (hz:=by rw[io];simp);have U:aq H H2 [tS 3 1 ((aeN n (0:Int)).map aI) n true (.slice s 0 n n true),tB eg q [.str g.i7,aI j,aI n,P]]:=by rw[io]at U;rw[ag7];exact U
 refine ai ?_;refine Ru.nm λS0 M hS hM=>?_;refine Ru.bT hM (up (P:=λk=>∀c gl,jE n k gl []->aq H c [tS 3 1 (gl.map aI) n true (.slice s 0 n n true),tB eg q [.str g.i7,aI j,aI n,P]]->Ru ac _ S0 ([(p4,aN k)]++pk M [p1,p3]) c) j (λk hk r c gl a U=>?_) 0 ab _ _ ⟨aF,λv hv=>by omega,λp R=>by cases R⟩ U);subst hS;subst hM;have d:=a.len;refine Ru.loop ?_;refine ai ?_;refine Ru.cond (λb=>?_) (λb=>?_)
 .refine ai ?_;refine RO.kq (f:=aI) U 0 (-1) d (λH4 U=>?_) (k:=k);refine ai ?_;exact Ru.wk (r (k+1) ab ab H4 _ ⟨by simpa using d,λv hv=>by
   rw[dG ab];by_cases e:v=k;·rw[aJ e]
   rw[ap e];exact a.aM v ab,λp R=>by cases R⟩ U)
 refine Ru.exitTo ?_;obtain rfl:j=k:=ab;refine ai ?_;refine Ru.nm λS1 M1 V y=>?_;refine Ru.bT y (up (P:=λk=>∀c gl,jE n j gl (iO g k)->aq H c [tS 3 1 (gl.map aI) n true (.slice s 0 n n true),tB eg q [.str g.i7,aI j,aI n,P]]->Ru ac _ S1 ([(p5,aN k)]++pk M1 [p1,p3]) c) g.aj.length (λk hk r c gl a U=>?_) 0 ab _ _ a U);subst V;subst y;have d:=a.len;refine Ru.loop ?_;refine ai ?_;refine Ru.cond (λb=>?_) (λb=>?_)
 .have W:=adq b;have ay:=hB.bl _ W;have F:=AT g k ab;have I:bm g k=g.aj[k]:=by rw[bm,bB b]
  have eJ:(iO g k).map (·.1)++(eH g.aj[k]++(g.aj.drop (k+1)).flatMap eH)=g.aj.flatMap eH:=by rw[F];conv=>rhs;rw[<-agy k g.aj,afX,afv b,ags]
  have r:=r (k+1) ab ab;rw[iO,agS,afX,agc,<-iO,I]at r;refine ai ?_;refine RO.bY U.gr bW (λq1 o1 c1 a1 A a2 hat hrd=>?_) (j:=k);have J:=A;generalize g.aj[k]=B at*;have ag:=A.one;refine ai ?_;refine RO.cl (acP T (cY.block U.gr J) ⟨ab,ab⟩ λH5 lv hl=>?_);have U:=U.eO hl;have⟨a6,_,_,a8⟩:=(U.sl 0 rfl).all;have a':(eH B).length<=100:=by have:=Im B.aS;rw[eH,afq];omega
  generalize eH B=l at*;refine ai ?_;refine Ru.nm λS2 M2 X C=>?_;refine Ru.bT C (up (P:=λm=>∀c gl,jE n j gl (iO g k++(l.take m).map λv=>(v,k))->aq H c [tS 3 1 (l.map aI) l.length true lv,tS 3 1 (gl.map aI) n true (.slice s 0 n n true),tB eg q [.str g.i7,aI j,aI n,P]]->Ru ac _ S2 ([(p7,aN m)]++pk M2 [p1,p3,p5,p6]) c) l.length (λm hm i c gl a U=>?_) 0 ab _ gl (by rw[agI,agu,agk];exact a) U);subst X;subst C;have d:=a.len;have Y:=U.sl 0 rfl;refine Ru.loop ?_;refine ai ?_;refine Ru.cond (λf=>?_) (λf=>?_)
  .have i:=i (m+1) ab ab;rw[(afK f).symm,afS,List.map_singleton,<-afu]at i;have D:((l.take m).map λv=>(v,k)).map (λp:Int×Nat=>p.1)=l.take m:=by rw[ag1];exact ahi _
   have L:l[m]∉(iO g k++(l.take m).map λv=>(v,k)).map (·.1):=by
    have h9:=eJ;rw[show l=l.take m++l[m]::l.drop (m+1)from by rw[<-afv f,agy]]at h9;rw[<-h9]at w;have h8:(((iO g k).map (·.1)++l.take m)++(l[m]::(l.drop (m+1)++(g.aj.drop (k+1)).flatMap eH))).Nodup:=by simpa only[afu,agb]using w
    rw[afY]at h8;intro t;rw[afS,D]at t;refine h8.2.2 l[m] ?_ l[m] (abL ..) rfl;rcases ae8.1 t with h|h;·exact afD _ h
    exact afW _ h
   have Z:l[m]∈g.aj.flatMap eH:=by rw[<-eJ];exact afW _ (afD _ (adq _))
   have hr:=o _ Z;have N:∀x∈(iO g k++(l.take m).map λv=>(v,k)).map (·.1),(0:Int)<=x:=λx t=>by
    have:x∈g.aj.flatMap eH:=by
     rw[<-eJ];rw[afS,D]at t;rcases ae8.1 t with h|h;·exact afD _ h
     refine afW _ (afD _ ?_);exact agQ h
    have:=o x this;omega
   refine ai ?_;refine RO.fO (aZ.refl _) Y (λq9 o9 ba bb=>?_) (j:=m);generalize l[m]=z at*;obtain⟨v,rfl⟩:∃v:Nat,z=v:=⟨z.toNat,ab⟩;refine ai ?_;refine RO.kq (f:=aI) U 1 (k:Int) d (λH9 U=>?_) (k:=v) (ho:=by omega);refine ai ?_;exact Ru.wk (i _ _ (a.add ab ab L N) U)
  refine Ru.exitTo ?_;rw[afF ab]at a;refine ai ?_;exact Ru.wk (r _ gl a U.tail)
 refine Ru.exitTo ?_;obtain rfl:k=g.aj.length:=ab;refine ai ?_;exact Ru.aP (h _ s gl a (U.sub (.cons_cons _ (.cons _ .slnil))))
end
end
section
structure uC(dm:List (List Bool))(vsl:List AV)(F:List Th):Prop where
 len:vsl.length=dm.length
 mem:∀b,b<dm.length->tR 1 ((dm.getD b []).map .bool) (dm.getD b []).length (vsl.getD b .b9)∈F
theorem uC.Ec{c:List (List Bool)}{a:List AV}{F:List Th}(h:uC c a F){l:List Bool}{v:AV}:uC (c++[l]) (a++[v]) (tR 1 (l.map .bool) l.length v::F):=by
 have hl:=h.len;refine⟨by simp[hl],λb hb=>?_⟩;simp only[afq,af2]at hb;by_cases e:b=c.length
 .subst e;have d:(c++[l]).getD c.length []=l:=aF;have f:(a++[v]).getD c.length .b9=v:=by rw[<-hl];simp
  rw[d,f];exact abL ..
 have d:(c++[l]).getD b []=c.getD b []:=by simp[afG (show b<c.length by omega)]
 have f:(a++[v]).getD b .b9=a.getD b .b9:=by simp[afG (show b<a.length by omega)]
 rw[d,f];exact aco _ (h.mem b ab)
def pK(c d:List Bool)(a b:Nat):Bool:=c.getD a false&&c.getD b false&&(decide (a=b)||!d.getD b false)
structure NW(g:G.be)(come:List Bool)(a:Nat)(row:List Bool):Prop where
 len:row.length=g.aj.length
 ex:∃ca oa ot,jD g (a:Int) ca oa/\(∀b,ja g (a:Int) ca oa ot b)/\∀b,b<g.aj.length->row.getD b false=pK come ca a b
structure pL(g:G.be)(dm:List (List Bool)):Prop where
 len:dm.length=g.aj.length
 ex:∃come az oth,jD g (-1) come az/\(∀b,ja g (-1) come az oth b)/\∀a,a<g.aj.length->NW g come a (dm.getD a [])
section
variable{g:G.be}
theorem gC.mono(a:i9 g){e:Int}{b:Nat}{o:List Int}(h:gC g e b o):gC g (-1) b o:=by induction h with|zero _=>exact .zero bo|step h c _ d=>obtain⟨h3,f⟩:=d.ok a;have:=(pJ a h3 f _ c).1;exact .step d c ab
theorem gC.nil(a:i9 g){c:Int}{b:Nat}{o:List Int}(h:gC g c b o)(hb:b=0):o=[]:=by cases h with|zero _=>rfl|step h d _=>obtain⟨h3,e⟩:=h.ok a;have:=(pJ a h3 e _ d).1;omega
theorem gC.comp(c:i9 g){c1:List Bool}{o1:List (List Int)}(a:jD g (-1) c1 o1)(d:∀b,ja g (-1) c1 o1 false b){b:Nat}{o:List Int}(h:gC g (-1) b o):c1.getD b false=true/\o1.getD b []=o:=by
 induction h with
 |zero h=>have h1:=a.c0 h;exact⟨h1,(a.snd 0 h1).nil c rfl⟩
 | @step b o w h e f i=>
  obtain⟨h1,h2⟩:=i;rcases d b h1 w (by rw[h2];exact e)with h3|⟨h3,j⟩;·exact absurd h3 f
  exact⟨h3,j rfl⟩
theorem gC.y7(c:i9 g){c1:List Bool}{o1:List (List Int)}(i:jD g (-1) c1 o1)(j:∀b,ja g (-1) c1 o1 false b){d:Int}{e:List Bool}{k:List (List Int)}{m:Bool}(a:jD g d e k)(f:∀b,ja g d e k m b){b:Nat}{o:List Int}(h:gC g d b o):e.getD b false=true:=by
 induction h with
 |zero h=>exact a.c0 h
 | @step b o w h n p l=>
  have q:=((a.snd b l).mono c).comp c i j;have r:=(h.mono c).comp c i j;rcases f b l w (by rw[<-q.2,r.2];exact n)with h3|⟨h3,_⟩;·exact absurd h3 p
  exact h3
theorem pL.eq(l:i9 g){c1:List Bool}{o1:List (List Int)}(m:jD g (-1) c1 o1)(n:∀b,ja g (-1) c1 o1 false b){c d:List (List Bool)}(h:pL g c)(r:pL g d){a b:Nat}(s:a<g.aj.length)(hb:b<g.aj.length):(c.getD a []).getD b false=(d.getD a []).getD b false:=by
 have key:∀{c:List (List Bool)},pL g c->((c.getD a []).getD b false=true↔(∃o,gC g (-1) a o)/\(∃o,gC g (-1) b o)/\(a=b\/¬∃o,gC g (a:Int) b o)):=by intro c h;obtain⟨f,az,w,p,k,t⟩:=h.ex;obtain⟨u,y,z,e,i,j⟩:=(t a s).ex;have q:∀x,f.getD x false=true↔∃o,gC g (-1) x o:=λx=>⟨λh=>⟨_,p.snd x h⟩,λ⟨o,h⟩=>h.y7 l m n p k⟩;have v:u.getD b false=true↔∃o,gC g (a:Int) b o:=⟨λh=>⟨_,e.snd b h⟩,λ⟨o,h⟩=>h.y7 l m n e i⟩;rw[j b hb,pK,<-q,<-q,<-v];simp[and_assoc]
 rw[agp,key h,key r]
end
section
variable{g:G.be}{H:ah}{cs:List AV}
theorem NX(T:Tb ac)(hg:gu H g cs)(hB:G.Sm g)(W:i9 g)(s:g.aj.length<=40){K:KT}(h:∀H' v d F j,pL g j->uC j d F->aq H H' [tZ F,tS rU 1 d g.aj.length true v]->K v H'):YN ac Wa [.agg cs] H K:=by
 have a':=hg.one;have C:=hg;obtain⟨vb,rfl,bW⟩:=hg;have⟨bb,_,_,bd⟩:=bW.all;have bv:=W.ne;refine YF.code T.YX aF ?_;refine au ?_;refine RO.dp (aq.ct H) λH1 q U=>?_;refine ai ?_;refine RO.dj U 0 ?_;refine RO.cl (AS T (cY.jk U.gr C) hB W s (wo:= -1) λH2 Q qs b0 Fo c az z hI ag b3 hl=>?_);have U:=(U.eO hl).sub (.cons _ (.cons _ (.cons_cons _ (agt _))));have D:=hI.lc;refine RO.lW U 1 λH3 av U=>?_;have⟨b4,_,_,_⟩:=(U.sl 0 rfl).all;refine RO.ff U λH4 q3 U=>?_;refine ai ?_;have U:=U.pE;refine Ru.nm λS0 M aw hM=>?_;refine Ru.bT hM (up (P:=λa=>∀y d F j v,j.length=a->uC j d F->(∀x,x<a->NW g c x (j.getD x []))->aq H y [tZ F,tB pA q3 [.slice Q 0 g.aj.length g.aj.length true,.slice qs 0 g.aj.length g.aj.length true,.bool z],tS rU 1 d a true v,tS 4 1 (c.map .bool) g.aj.length true (.slice Q 0 g.aj.length g.aj.length true),tB eg q [.str g.i7,aI g.i4,aI g.bc,vb]]->Ru ac _ S0 ([(p5,aN a),(p4,v)]++pk M [p1,p3]) y) g.aj.length (λa ha X y d F j v A E u U=>?_) 0 ab _ [] [] [] av rfl ⟨rfl,λb hb=>absurd hb aF⟩ (λx Y=>by omega) U);subst aw;subst hM;have⟨b6,b7,b',_⟩:=(U.sl 2 rfl).all;refine Ru.loop ?_;refine ai ?_;refine Ru.cond (λI=>?_) (λI=>?_)
 .have X:=X (a+1) ab ab;refine ai ?_;refine RO.dj U 4 ?_;refine ai ?_;refine RO.cl (AS T (cY.jk U.gr C) hB W s (wo:=(a:Int)) λH5 qa qo ca Fa r oa ot J O ba hl=>?_);have U:=(U.eO hl).sub (.cons _ (.cons _ (.cons_cons _ (agt _))));have ax:=J.lc;refine RO.lW U 1 λH6 ay U=>?_;have⟨cd,_,_,_⟩:=(U.sl 0 rfl).all;refine RO.ff U λH7 q6 U=>?_;refine ai ?_;refine Ru.nm λS1 M1 a1 L=>?_;refine Ru.bT L (up (P:=λb=>∀y(row:List Bool)w,row.length=b->(∀x,x<b->row.getD x false=pK c r a x)->aq H y [tB pA q6 [.slice qa 0 g.aj.length g.aj.length true,.slice qo 0 g.aj.length g.aj.length true,.bool ot],tS 4 1 (row.map .bool) b true w,tS 4 1 (r.map .bool) g.aj.length true (.slice qa 0 g.aj.length g.aj.length true),tZ F,tB pA q3 [.slice Q 0 g.aj.length g.aj.length true,.slice qs 0 g.aj.length g.aj.length true,.bool z],tS rU 1 d a true v,tS 4 1 (c.map .bool) g.aj.length true (.slice Q 0 g.aj.length g.aj.length true),tB eg q [.str g.i7,aI g.i4,aI g.bc,vb]]->Ru ac _ S1 ([(p8,aN b),(p7,w)]++pk M1 [p1,p3,p4,p5,p6]) y) g.aj.length (λb hb m y row w f N U=>?_) 0 ab _ [] ay rfl (λx Y=>by omega) U);subst a1;subst L;have P:=U.sl 1 rfl;have⟨a2,cf,a6,_⟩:=P.all;refine Ru.loop ?_;refine ai ?_;refine RO.iC U 7 ?_;refine ai ?_;refine Ru.cond (λn=>?_) (λn=>?_)
  .have m:=m (b+1) ab ab;have sC:∀(l:List Bool)(k:Nat),l.length=g.aj.length->k<g.aj.length->(l.map AV.bool)[0+k*1]?=some (.bool (l.getD k false)):=λl k h1 h2=>by rw[show 0+k*1=k by omega,af0,getElem?_pos l k ab,bB ab];rfl
   have i:∀t,t=pK c r a b->∀x,x<b+1->(row++[t]).getD x false=pK c r a x:=λt ht x Y=>by
    by_cases e:x=b;·subst e;rw[<-ht,<-f];simp
    rw[<-N x ab];simp[afG (show x<row.length by omega)]
   refine ai ?_;refine RO.dM U 6 (hv:=sC c a D I) ?_;refine RO.aR ?_;refine RO.oq (λB=>?_) (λB=>?_)
   .refine ai ?_;refine RO.dM U 6 (hv:=sC c b D n) ?_;refine ai ?_;refine RO.oq (λR=>?_) (λR=>?_)
    .refine ai ?_;refine RO.bR (λZ=>?_) (λZ=>?_);·refine ai ?_;refine RO.push U 1 (λS V o U=>?_) (ws:=[.bool true]);have⟨p,_,_,_⟩:=(U.sl 1 rfl).all;refine ai ?_;exact Ru.wk (m _ (row++[true]) o (by simp[f]) (i _ (by rw[pK,B,R,decide_eq_true Z];rfl)) (by rw[afS];exact U))
     refine ai ?_;refine RO.dM U 2 (hv:=sC r b ax n) ?_;refine ai ?_;refine RO.push U 1 (λS V o U=>?_) (ws:=[.bool (!r.getD b false)]);have⟨p,_,_,_⟩:=(U.sl 1 rfl).all;refine ai ?_;exact Ru.wk (m _ (row++[(!r.getD b false)]) o (by simp[f]) (i _ (by rw[pK,B,R,decide_eq_false Z];rfl)) (by rw[afS];exact U))
    refine ai ?_;refine RO.push U 1 (λS V o U=>?_) (ws:=[.bool false]);have⟨p,_,_,_⟩:=(U.sl 1 rfl).all;refine ai ?_;exact Ru.wk (m _ (row++[false]) o (by simp[f]) (i _ (by rw[pK,B,R];rfl)) (by rw[afS];exact U))
   refine ai ?_;refine RO.push U 1 (λS V o U=>?_) (ws:=[.bool false]);have⟨p,_,_,_⟩:=(U.sl 1 rfl).all;refine ai ?_;exact Ru.wk (m _ (row++[false]) o (by simp[f]) (i _ (by rw[pK,B];rfl)) (by rw[afS];exact U))
  refine Ru.exitTo ?_;obtain rfl:b=g.aj.length:=ab;refine ai ?_;have a8:=(((U.sub (.cons _ (.cons_cons _ (.cons _ (agt _))))).as (t':=tR 1 (row.map .bool) row.length w) 0 rfl λfp hp=>by have h9:=tS.kR hp;rw[<-f]at h9;exact h9)).kw;refine RO.push a8 2 (λS V o U=>?_) (ws:=[w]) (hl:=jm rfl a2 a6 rfl rfl rfl);have⟨p,_,_,_⟩:=(U.sl 2 rfl).all;refine ai ?_;exact Ru.wk (X _ (d++[w]) _ (j++[row]) o (by simp[A]) E.Ec (λx Y=>by
   by_cases e:x=a
   .subst e;have e1:(j++[row]).getD x []=row:=by rw[<-A];simp
    rw[e1];exact⟨f,r,oa,ot,J.toFlI,O,N⟩
   have e1:(j++[row]).getD x []=j.getD x []:=by simp[afG (show x<j.length by omega)]
   rw[e1];exact u x ab) U)
 refine Ru.exitTo ?_;obtain rfl:a=g.aj.length:=ab;refine ai ?_;exact Ru.aP (h _ v d F j ⟨A,c,az,z,hI.toFlI,ag,u⟩ E (U.sub (.cons_cons _ (.cons _ (.cons_cons _ (.cons _ (.cons _ .slnil)))))))
end
end
end
end Go.al.R
end
