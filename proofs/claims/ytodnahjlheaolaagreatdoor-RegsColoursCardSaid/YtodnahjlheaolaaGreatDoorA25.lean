/- A part. No conditions. -/
import Derived.Test.YtodnahjlheaolaaGreatDoorA24
set_option linter.all false
set_option maxHeartbeats 16000000
open List renaming replicate->ab7
open Prod renaming fst->ai6
noncomputable section
namespace Go.al.R
section
variable{ac:Nat->aX}
end
variable{A:G.aM}{B g:List Th}{b n nt size y:Nat}{D:List (List Int)}{L:List Int}{Q V:ai}{c:List AV}{p:KT}{o sv:AV}{Y:ah}{m:Type}
section
variable{ac:Nat->aX}
def CP(g:G.aM)(a:List Bool)(aA:List (List Int))(M:List (List Bool))(n b:Nat)(pl:List (List Int)):Prop:=
 a.getD b false=true/\pl.length=(aE g b).aB.length+1/\(∀k,k<=(aE g b).aB.length->(pl.getD k []).Pairwise (·<·)/\∀x,x∈pl.getD k []↔∃v:Nat,x=v/\v<n/\io (aE g b) (qY g aA M b) (qZ g aA M b) ((aE g b).aB.length - k+1) v)\/a.getD b false=false/\pl=[]
theorem fG.cons(h:fG D c B):fG (L::D) (o::c) (tR 1 (L.map aI) L.length o::B):=by have hl:=h.len;refine⟨by simp[hl],λb hb=>?_⟩;cases b with|zero=>exact acj .. |succ b=>rw[List.getD_cons_succ,List.getD_cons_succ];exact ab8 _ (h.mem b (by simpa using hb))
theorem G4(U:ak V Q g)(i:Nat)(hi:g[i]?=some (tZ B))(a:fG D c B)(b:tR 1 c D.length o∈B):vI Q D o:=by have⟨_,d,_,_⟩:=U.jr i hi b;have hl:=a.len;exact a.sl U i hi (by rw[hl];exact d)
theorem aet{G:List Th}(U:ak Q V (tZ B::g))(h:∀t∈G,t∈B):ak Q V (tZ G::g):=U.as 0 rfl λ_ a=>⟨λt b=>a.1 t (h t b),a.2⟩
theorem aeu(T:Tb ac)(hg:dc Q A c)(hB:G.Sm A)(hR:dT A)(a6:A.aj.length<=30)(hn:A.aO=n)(cE:n<=6000)(hb:b<A.aj.length)(h0:∀H' v a aA m F,jx A (-1) a aA m->(∀b,fc A (-1) a aA m b)->a.getD b false=false->ak Q H' [tZ F]->tR 1 [] 0 v∈F->p v H')(h:∀H' v pl f F a aA m M c2 o2 E,jx A (-1) a aA m->(∀b,fc A (-1) a aA m b)->jx A (-1) c2 o2 E->(∀b,fc A (-1) c2 o2 E b)->rf A c2 o2 n M->CP A a aA M n b pl->fG pl f F->tR 1 f pl.length v∈F->ak Q H' [tZ F]->p v H'):YN ac WX [.agg c,aN b] Q p:=by
 have gq:=hg.one;have e4:=hg;obtain⟨vb,rfl,bz⟩:=hg;have⟨g8,_,_,g9⟩:=bz.all;have gx:eV vb vb=true:=bz.bI;have d5:cD vb vb=true:=by obtain⟨_,hw,_⟩:=bz;exact Sl.cD hw
 have hS:=hR.sh;have P:=abO hb;have cR:=hB.bl _ P;have e5:=hB.st _ P;have c8:=hB.ed _ P;have d6:∀{k:Nat}{x:Int},x∈di A.aj[b] k->0<=x/\x<n:=λhx=>by have:=vN hR P hx;omega
 have e6:∀{k:Nat}(hk:k<A.aj[b].aB.length), -1<=A.aj[b].aB[k].to/\A.aj[b].aB[k].to<n:=λhk=>by have:=(hR.aB _ P _ (abO hk)).r;have h1:=this.t0;have h2:=this.t1;omega
 have b0:∀{d},aR Q d->dc d A [.str A.i7,aI A.i4,aN n,vb]:=λhg=>by have:=bV.eY hg e4;rw[hn]at this;exact this
 unfold CP at h;rw[show aE A b=A.aj[b]from aZ hb _]at h;refine YF.code T.Zq aC (au ?_);refine RO.bZ (ak.bM Q) λH1 q2 U=>?_;have U:ak Q H1 [tB cA q2 [.str A.i7,aI A.i4,aI A.aO,vb]]:=U;rw[hn]at U;refine ab ?_;refine RO.bT U 0 ?_;refine RO.cl (vK T (b0 U.gr) hB hS a6 (wo:= -1) λH2 qc qs g' Fo a aA m L c9 c' hl=>?_);have U:=U.cH hl;have e7:=L.lc;have dm:=L.lo;have e8:=c'.len;refine RO.ir U 1 λH3 b3 U=>?_;have⟨d7,_,_,_⟩:=(U.sl 0 rfl).all;refine ab ?_;refine RO.dD U λH4 q5 U=>?_;refine ab ?_;have e9:=nC (l:=a) (k:=b) e7 hb;refine RO.cJ U 4 (hv:=e9) ?_;refine ab ?_;refine Ru.d9 (λo=>?_) (λo=>?_)
 .have o:a.getD b false=false:=by simpa using o
  refine ab ?_;have U:=(((U.ep 1 rfl).as 0 rfl (t':=tR 1 [] 0 b3) λgn O=>tS.iu O).sub (.cons_cons _ (aiC _))).Gk;exact Ru.aL (h0 _ b3 a aA m _ L c9 o U (abt.2 rfl))
 have o:a.getD b false=true:=by simpa using o
 have⟨e',fa⟩:=(L.snd b o).ok hS;have gy:=L.iw b o;refine ab ?_;refine RO.eo U 5 (ab ?_);refine RO.nE U.gr bz (λha hc hf gA a8 gH d'=>?_) (j:=b);have gL:=a8.one;refine RO.ee ?_ (hc:=(d' U.gr).2);generalize A.aj[b]=B at*;obtain⟨vp,R,jc,rfl,hh,b4,va,vk,vg,rfl,fb,fd,fe⟩:=a8;have⟨ho,_,_,hp⟩:=b4.all;refine RO.dD U λH5 q7 U=>ab ?_;refine RO.bT U 6 (RO.bT U 1 (RO.bT U 6 (ab ?_)));refine RO.At (aes T (b0 U.gr) hB hR a6 hn cE λH6 iv c2 o2 E M hq ea eb dr hl=>⟨λaf ds=>?_,?_⟩);·have U:=U.bN hl.gr;have⟨_,fk⟩:=U.get 1 rfl;have⟨_,b6⟩:=U.get 6 rfl;refine qW (i:=q5) (o:=0) (vs:=[.slice qc 0 A.aj.length A.aj.length true,.slice qs 0 A.aj.length A.aj.length true,.bool m]) ds (by(conv=>lhs;whnf)<;>rfl) (by(conv=>lhs;whnf)<;>rfl) (by simp[j9,cD,ah.ft]) (tB.kl fk (m:=3) (by show 0+3<=3;omega)) ?_;exact qW (i:=q2) (o:=0) (vs:=[.str A.i7,aI A.i4,aN n,vb]) ds (by(conv=>lhs;whnf)<;>rfl) (by(conv=>lhs;whnf)<;>rfl) (Ct d5) (tB.kl b6 (m:=4) (by show 0+4<=4;omega)) rfl
 have b7:=dr.G3;have fl:=b7.len;have dv:GY H6 M iv:=N3 hl 0 (by rw[fl];rfl) λb hb=>b7.row b aa;have⟨g0,_,_,_⟩:=dv.all;have U:=U.bN hl.gr;refine RO.cl (NU T (b0 U.gr) hB hS hn cE rfl rfl (c'.sl U 3 rfl (by rw[e8,dm];exact U.sl 4 rfl)) dm dv b7 e' aa fa λN qo vh dx hr fo fp ec fq b' fs=>?_);have U:=U.cH fs;have⟨g1,_,_,_⟩:=b'.all;have cx:=U.sl 3 rfl;have ei:=U.sl 0 rfl;have⟨_,dy⟩:=U.get 1 rfl;have⟨_,b6⟩:=U.get 7 rfl;have a':=(U.pQ 1).2;have ej:=(U.pQ 7).2;have I:∀{d},aR N d->aY d q7 1=some R:=λhg=>by rw[hg.aY a'];exact tB.cell dy rfl
 have ek:∀{d},aR N d->dE d q7 2 5=some [aU B.aq.op,va,.str B.aq.i7,vk,vg]:=λhg=>by simp only[dE,hg.cI q7 a'];exact tB.kl (m:=5) dy (by show 2+5<=7;omega)
 have el:∀{d},aR N d->aY d q2 2=some (aN n):=λhg=>by rw[hg.aY ej];exact tB.cell b6 rfl
 have y:=U.gr;have f0:=NY (λs hs=>(e5 s hs).1) cR.2.2.1 cR.2.2.2.2.1 c8;have U:=ak.bM N;refine ab ?_;refine RO.ir U 1 λH8 hy U=>?_;have⟨g2,_,_,_⟩:=(U.sl 0 rfl).all;refine ab ?_;refine RO.kI U 0 (U.gr.sl ei) (λH9 v8 U=>?_) (h1:=NR _);have U:ak N H9 [tS 4 1 (dx.map .bool) n true v8]:=by rw[ahw]at U;exact U
 have⟨hA,_,_,hC⟩:=(U.sl 0 rfl).all;have U:=U.lQ;refine ab ?_;refine RO.aW (v:=R) (ab ?_) (hc:=I U.gr);refine Ru.nm λS1 M1 f1 dz=>?_;refine Ru.bH dz (up (P:=λi=>∀d lv v6(cl:List (List Int))f F,lv.length=n->(∀v,v<n->(cz lv v↔io B (qY A aA M b) (qZ A aA M b) i v))->v6.bk=true->cl.length=i->(∀j,j<i->(cl.getD j []).Pairwise (·<·)/\∀x,x∈cl.getD j []↔∃v:Nat,x=v/\v<n/\io B (qY A aA M b) (qZ A aA M b) (i - j) v)->fG cl f F->(∀d X,ak N d (tZ F::X)->Sl d 1 f i v6)->(i≠0->tR 1 f i v6∈F)->ak N d [tZ F,tS 4 1 (lv.map .bool) n true v8]->Ru ac _ S1 ([(dS,aI ((B.aB.length:Int) - i)),(p6,v6)]++pk M1 [p2,p7,p8,p9]) d) (B.aB.length+1) (λi hi ih d lv v6 cl f F Z ca hD cd ba u et ew U=>?_) 0 aa _ dx b3 [] [] [] fo ec d7 rfl (λj hj=>by omega) ⟨rfl,λb hb=>absurd hb aC⟩ (λd X hl=>hl.gr.sl cx) (λW=>absurd rfl W) U) (by simp;exact⟨rfl,rfl,trivial⟩);subst f1;subst dz;refine Ru.loop (ab ?_);refine Ru.cond (λ(f2:(0:Int)<=(B.aB.length:Int) - i)=>?_) (λ(f2:¬(0:Int)<=(B.aB.length:Int) - i)=>?_)
 .have ih:=ih (i+1) aa aa;obtain⟨k,hk⟩:∃k:Nat,(B.aB.length:Int) - i=(k:Int):=⟨B.aB.length - i,aa⟩;have f3:B.aB.length - i=k:=aa;have cy:cU f=true:=xB.2 λv hv=>by obtain⟨j,hj,rfl⟩:=ahd hv;have hm:=u.mem j (by have:=u.len;omega);rw[aZ hj]at hm;have⟨_,O,_,_⟩:=U.jr 0 rfl hm;exact O.cY
  rw[hk];refine ab ?_;refine RO.ee (RO.cl (Gr T (bV.uJ (y.trans U.gr) ⟨va,vk,vg,rfl,fb,fd,fe⟩) ⟨aa,aa⟩ c8 λhE ag hl=>?_)) (hc:=ek U.gr);have U:=U.cH hl;have⟨e0,_,_,e1⟩:=(U.sl 0 rfl).all;refine RO.bf (RO.nil (Ru.seq (Ru.oJ (P:=λM' H'=>∃rv l2,M'=[(eD,rv),(p2,.aD q2 0),(p6,v6),(p7,.aD q7 0),(p8,v8),(p9,vh),(dS,aN k)]/\rv.bk=true/\lenOf rv=some (di B k).length/\(∀d X,ak N d (tS 3 1 ((jF B.aq).map aI) (jF B.aq).length true ag::X)->dh d (di B k) rv)/\l2.length=n/\(∀v,v<n->(cz l2 v↔io B (qY A aA M b) (qZ A aA M b) i v/\¬(k<B.aB.length/\(B.aB.getD k default).to=(v:Int))))/\ak N H' [tS 3 1 ((jF B.aq).map aI) (jF B.aq).length true ag,tZ F,tS 4 1 (l2.map .bool) n true v8]) (λM' HC hP=>?_) (λs' D=>?_))));rotate_left
  .refine ab ?_;refine RO.aW (v:=R) (ab ?_) (hc:=I U.gr);refine Ru.cond (λa2=>?_) (λa2=>?_)
   .have⟨t0,t1⟩:=e6 a2;refine ab ?_;refine RO.aW (v:=R) (ab ?_) (hc:=I U.gr);refine RO.nE (y.trans U.gr) b4 (λq8 o8 g6 f4 cf f5 cn=>?_) (j:=k);obtain⟨av,rfl,bb⟩:=cf;have⟨bc,_,_,bv⟩:=bb.all;refine ab ?_;refine RO.aW (v:=av) (ab ?_) (hc:=(cn (y.trans U.gr)).1 2 _ rfl);refine RO.aW (v:=R) (ab ?_) (hc:=I U.gr);refine RO.nE (y.trans U.gr) b4 (λq8 o8 g6 f4 cf f5 cn=>?_) (j:=k);obtain⟨hF,rfl,g3⟩:=cf;refine ab ?_;refine RO.aW (v:=aI B.aB[k].to) ?_ (hc:=(cn (y.trans U.gr)).1 1 _ rfl);have hrd:di B k=B.aB[k].args:=by rw[di,aF a2,aZ a2]
    have J:∀d X,ak N d (tS 3 1 ((jF B.aq).map aI) (jF B.aq).length true ag::X)->dh d (di B k) av:=λd X U=>by rw[hrd];exact(y.trans U.gr).sl bb
    have d0:B.aB.getD k default=B.aB[k]:=aZ a2 _;refine ab ?_;refine Ru.cond (λ(g7:0<=B.aB[k].to)=>?_) (λ(g7:¬0<=B.aB[k].to)=>?_)
    .obtain⟨t,ht⟩:∃t:Nat,B.aB[k].to=t:=⟨B.aB[k].to.toNat,aa⟩;have hG:t<n:=aa;obtain⟨d1,cap,ex,rfl⟩:=U.jp 2 rfl aa;rw[ht];refine ab ?_;refine RO.fD (f:=.bool) (zs:=lv) U 2 false Z (λH9 U=>ab ?_);refine D _ _ _ ⟨av,lv.set t false,rfl,bc,by rw[hrd];exact bv,J,by simpa using Z,λv hv=>?_,U⟩ dw;rw[pU aa,d0,ht];by_cases e:v=t;·subst e;simp[a2]
     rw[an e,ca v hv];have:¬((t:Int)=(v:Int)):=aa;simp[this]
    refine ab ?_;refine D _ _ _ ⟨av,lv,rfl,bc,by rw[hrd];exact bv,J,Z,λv hv=>?_,U⟩ dw;rw[ca v hv,d0];have:¬(B.aB[k].to=(v:Int)):=aa;simp[this]
   have hrd:di B k=jF B.aq:=by rw[di,an a2]
   refine ab ?_;refine D _ _ _ ⟨_,lv,rfl,e0,by rw[hrd];exact e1,λd X U=>by rw[hrd];exact U.sl 0 rfl,Z,λv hv=>?_,U⟩ dw;rw[ca v hv];simp[a2]
  have⟨rv,l2,hM,hrd,hH,f6,f7,e2,U⟩:=hP;subst hM;have hI:=f0 k;refine ab ?_;refine Ru.nm λS2 M2 f8 d2=>Ru.bH d2 (up (P:=λj=>∀d Y,Y.length=n->(∀v,v<n->(cz Y v↔(v:Int)∈(di B k).take j\/cz l2 v))->ak N d [tS 3 1 ((jF B.aq).map aI) (jF B.aq).length true ag,tZ F,tS 4 1 (Y.map .bool) n true v8]->Ru ac _ S2 ([(iS,aN j)]++pk M2 [p2,p6,p7,p8,p9,dS,eD]) d) (di B k).length (λj hj cp d Y cv S U=>?_) 0 aa _ l2 f7 (λv hv=>by simp) U);subst f8;subst d2;refine Ru.loop (ab ?_);refine Ru.cond (λV=>?_) (λV=>?_)
  .have cp:=cp (j+1) aa aa;have⟨z0,z1⟩:=d6 (abO V);obtain⟨z,hz⟩:∃z:Nat,(di B k)[j]=z:=⟨(di B k)[j].toNat,aa⟩;have hJ:z<n:=aa;obtain⟨d1,cap,ex,rfl⟩:=U.jp 2 rfl aa;refine ab ?_;refine RO.fA (aR.refl _) (f6 _ _ U) (λq9 o9 d3 aw=>?_) (j:=j);rw[hz]at aw;refine RO.aW (v:=aN z) (ab ?_) (hc:=aw);refine RO.fD (f:=.bool) (zs:=Y) U 2 true cv (λH9 U=>ab ?_);exact Ru.wk (cp _ (Y.set z true) (by simpa using cv) (λv hv=>by
    rw[pU aa,(ahb V).symm,ac6,abt,hz];by_cases e:v=z;·subst e;simp
    rw[an e,S v hv];have:¬((v:Int)=(z:Int)):=aa;simp[this]) U)
  refine Ru.exitTo ?_;rw[aho aa]at S;have U:=U.tail;refine ab ?_;refine Ru.nm λS3 M3 f9 d4=>Ru.bH d4 (up (P:=λx=>∀d q,q.length=n->(∀v,v<n->(cz q v↔cz Y v\/v<x/\cz hr v))->ak N d [tZ F,tS 4 1 (q.map .bool) n true v8]->Ru ac _ S3 ([(iF,aN x)]++pk M3 [p2,p6,p7,p8,p9,dS]) d) n (λx hx ax d q C l U=>?_) 0 aa _ Y cv (λv hv=>by simp) U);subst f9;subst d4;refine Ru.loop (ab ?_);refine RO.aW (v:=aN n) (ab ?_) (hc:=el U.gr);refine Ru.cond (λe3=>?_) (λe3=>?_)
  .have ax:=ax (x+1) aa aa;obtain⟨d1,cap,ex,rfl⟩:=U.jp 1 rfl aa;have ay:=nC (l:=q) (k:=x) C aa;have aq:∀z:Bool,(z=true↔cz q x\/cz hr x)->∀v,v<n->(cz (q.set x z) v↔cz Y v\/v<x+1/\cz hr v):=λz hz v hv=>by
    rw[pU aa];by_cases e:v=x;·subst e;rw[aF rfl,hz,l v hv];simp
    rw[an e,l v hv];have:v<x+1↔v<x:=aa;rw[this]
   refine ab ?_;cases a1:q.getD x false with|true=>rw[a1]at ay;refine RO.cJ U 1 (hv:=ay) (ab ?_);refine RO.fD (f:=.bool) (zs:=q) U 1 true C (λH9 U=>ab ?_);exact Ru.wk (ax _ _ (by simpa using C) (aq true ⟨λ_=>.inl a1,λ_=>rfl⟩) U)|false=>rw[a1]at ay;refine RO.cJ U 1 (hv:=ay) (ab ?_);refine RO.ic U.gr (by rw[<-fp]at b';exact b') (λq9 o9 d3 aw=>?_) (j:=x) (hj:=by omega);rw[show hr[x]'d3=hr.getD x false from(aZ _ _).symm]at aw;refine ab ?_;refine RO.fD (f:=.bool) (zs:=q) U 1 (hr.getD x false) C (λH9 U=>ab ?_);exact Ru.wk (ax _ _ (by simpa using C) (aq _ ⟨λW=>.inr W,λW=>W.resolve_left (by rw[cz,a1];simp)⟩) U)
  refine Ru.exitTo ?_;have l:∀v,v<n->(cz q v↔io B (qY A aA M b) (qZ A aA M b) (i+1) v):=λv hv=>by rw[l v hv,io,f3,S v hv,e2 v hv,fq v hv];have:v<x:=aa;simp[this]
  refine ab ?_;refine RO.cl (GW T (l:=q) (by rw[C];exact U.sl 1 rfl) aa λf' w hl=>?_);have U:=((U.cH hl).as 0 rfl (t':=tR 1 ((fY q).map aI) (fY q).length w) λgn O=>tS.iu O).ie;have⟨gb,hK,gd,_⟩:=(show Sl f' 1 ((fY q).map aI) (fY q).length w by obtain⟨_,O⟩:=hl.get 0 rfl;exact cO.sl O).all;refine RO.iE U 1 (ws:=[w]) (n:=1) (λhL g4 U=>?_) (hl:=im rfl gb gd rfl rfl rfl);have gg:=et _ _ (aet (G:=F) (U.ep 1 rfl) λt ht=>ab8 _ ht);refine ab ?_;refine RO.kI U 0 gg (λhN v9 U=>?_) (h1:=cy);have⟨gi,_,_,_⟩:=(U.sl 0 rfl).all;have U:=(U.as 0 rfl (t':=tR 1 ([w]++f) (1+i) v9) λgn O=>tS.iu O).ie;refine ab ?_;refine RO.sub (a:=(k:Int)) (b:=1) (ab ?_);rw[show((k:Int) - 1)=(B.aB.length:Int) - (i+1:Nat)by omega];refine Ru.wk (ih _ q v9 (fY q::cl) (w::f) _ C l gi (by simp[cd]) (λj hj=>?_) (u.cons.Ca λt ht=>ab8 _ ht) (λd X hl=>?_) (λ_=>by rw[show i+1=1+i by omega];exact acj ..) U)
  .cases j with
   |zero=>
    rw[List.getD_cons_zero];refine⟨NT _,λx=>?_⟩;rw[AC];constructor
    .rintro⟨v,e,W⟩;have hv:v<n:=by have:=tL W aC;omega
     exact⟨v,e,hv,(l v hv).1 W⟩
    rintro⟨v,e,hv,W⟩;exact⟨v,e,(l v hv).2 W⟩
   |succ j=>rw[List.getD_cons_succ];have:=ba j aa;rw[show i+1 - (j+1)=i - j by omega];exact this
  have⟨_,O,_⟩:=hl.jr 0 rfl (acj ..);rw[show i+1=1+i by omega];exact O
 refine Ru.exitTo ?_;obtain rfl:i=B.aB.length+1:=aa;refine ab ?_;have g5:=u.len;refine Ru.aL (h _ v6 cl f F a aA m M c2 o2 E L c9 ea eb dr (.inl ⟨o,cd,λj hj=>?_⟩) u (by rw[cd];exact ew aa) ((U.sub (.cons_cons _ (aiC _))).E1 y));have:=ba j aa;rw[show B.aB.length+1 - j=B.aB.length - j+1 by omega]at this;exact this
end
section
variable{ac:Nat->aX}
def ack(size:Nat)(ld:bJ):bw:=(.seq (.region [O p4 (.aW (T p1)),O p5 (.iY (T p4)),O p6 (.arith .sub 3 (T p5) (I 3 1)),O p3 (.bf (T p6))]) (.block 0 (.loop (.seq (.seq (.region [O p7 (.bf (T p3)),O p8 (.arith .geq 3 (T p7) (I 3 0))]) (.cond (T p8) .skip (.exit 0))) (.seq (.block 1 (.seq (.region [O eD (.bf (T p0)),O gQ (.bf (T p3)),O iS (.aW (T p1)),O iF (.bf (T p3)),O km (.dH size (T iS) (T iF)),O kU ld,O lq (.call (T eD) [(T gQ),(T kU)]),O lr (.unary .not (T lq))]) (.cond (T lr) .ret .skip))) (.region [O p9 (.bf (T p3)),O dS (.arith .sub 3 (T p9) (I 3 1)),O p3 (.bf (T dS))]))))))
def acl(R:m->List AV->Prop)(agg:Bool)(a:List m)(k:Nat)(args:List AV)(c:List Th):Prop:=c=[]/\∃(h:a.length - 1 - k<a.length)(cs:List AV),R a[a.length - 1 - k] cs/\args=[aN (a.length - 1 - k),sd agg cs]
theorem Ci{e:Nat}{agg:Bool}{R:m->List AV->Prop}{la:List m}(x:ac n=.code nt [] (ack size (zV size agg (al.T km))))(F:2<=nt)(hl:la.length<=1000000)(h1:agg=false->size=1)(hd:∀a cs,R a cs->(sd agg cs).bk=true):vm ac Q (.func n [] [.aD Y 0]) la.length (acl R agg la) [tB e Y [sv]] (λH=>cQ size (λ_=>R) H la sv) (λH=>cQ size (λ_=>R) H la sv):=by
 intro y J D c us H K G I L l f g U z d;have⟨N,_,_,P⟩:=z.all;refine YF.code x (by grind) (ab ?_);refine RO.sub (a:=(la.length:Int)) (b:=1) (ab ?_);refine Ru.nm λS M A u=>?_;refine Ru.bH u (up (P:=λk=>∀i c,J k c->ak Q i (tB e Y [sv]::(c++us))->Ru ac _ S ([(p3,aI ((la.length:Int) - 1 - k))]++pk M [p0,p1]) i) la.length (λk V B i c g U=>?_) 0 aa _ c g U) (by simp;exact⟨rfl,trivial⟩);subst A;subst u;refine Ru.loop (ab ?_);refine Ru.cond (λ(p:(0:Int)<=(la.length:Int) - 1 - k)=>?_) (λ(p:¬(0:Int)<=(la.length:Int) - 1 - k)=>?_)
 .obtain⟨t,C⟩:∃t:Nat,(la.length:Int) - 1 - k=(t:Int):=⟨la.length - 1 - k,aa⟩;have r:t=la.length - 1 - k:=aa;rw[C];have hs:=l k c (tB e Y [sv]::us) i g U.BO;refine ab ?_;refine RO.bL (aR.refl _) hs (λq o cs hj w j hat hrd=>?_) (j:=t);have O:=hd _ _ w;refine RO.K7 j h1 hat hrd ?_;subst r;refine RO.cl ((f k [aN (la.length - 1 - k),sd agg cs] [] c _ _ aa ⟨rfl,hj,cs,w,rfl⟩ g U.BO).mono ?_);rintro v W⟨s,U,j⟩;rcases j with⟨rfl,h⟩|⟨rfl,h⟩;·refine ab ?_;refine RO.sub (a:=((la.length - 1 - k:Nat):Int)) (b:=1) (ab ?_);have E:(((la.length - 1 - k:Nat):Int) - 1:Int)=(la.length:Int) - 1 - (k+1:Nat):=aa;rw[E];exact Ru.wk (B (k+1) aa aa _ _ h U.tq)
  refine ab ?_;exact Ru.jo (vs:=[]) trivial (d _ s _ U.tq.tail (.inr h))
 refine Ru.exitTo (ab ?_);refine Ru.aq (vs:=[]) trivial (d _ c _ U.tail (.inl ?_));rw[show la.length=k by omega];exact g
theorem Cj(d:ac b=.code n [.tmp p2] (.seq (.region [O p1 (.box y (al.T p0)),O p2 (.bf (C .nilFunc))]) (.seq (.region [O p3 (.k6 nt [] [(al.T p1)]),O p2 (.bf (al.T p3))]) .ret)))(f:1<=n)(hd:o.bk=true)(h1:o.cY=true)(a:o.cells=[o])(e:∀c q,ak Q c [tB y q [o]]->p (.func nt [] [.aD q 0]) c):YN ac b [o] Q p:=by refine YF.code d (by simp;omega) ?_;refine au ?_;refine RO.bZ (ak.bM Q) (λg q U=>?_) (ho:=by rw[a];exact ao h1 rfl);rw[a]at U;refine au ?_;exact Ru.aL (e _ q U)
end
end Go.al.R
namespace Go.al
variable{B:List Th}{b:Nat}{P:List (Int×Int)}{L ks:List Int}{H' Q V:ai}{W:List SI}{X:Option ah}{Y q:ah}{S' Z:Int->Prop}{a:Cx}{v w z:Int}{e:Kn}{t u x:aJ}
section
def tM(ex:Bool)(q:ah)(S:Int->Prop):Th where
 P H a:=q∈a/\(∀j∈a,j=q)/\(∃ks,fx (H.get q) ks/\∀x,x∈ks↔S x)/\(ex=true->∃es c,H.get q=.map es c)/\q.ap<H.next.ap
 fr h b hg:=⟨h.1,h.2.1,by rw[hg _ h.1];exact h.2.2.1,by rw[hg _ h.1];exact h.2.2.2.1,ahC h.2.2.2.2 b⟩
 lt h:=by intro j hj;rw[h.2.1 j hj];exact h.2.2.2.2
def ik(p:Int×Int):AV×AV:=(.int 3 p.1,.int 3 p.2)
def tI(q:ah)(pl:List (Int×Int)):Th where
 P H a:=q∈a/\(∀j∈a,j=q)/\(∃es c,H.get q=.map es c/\es.map aV.kv=pl.map ik)/\(pl.map ai6).Nodup/\q.ap<H.next.ap
 fr h b hg:=⟨h.1,h.2.1,by rw[hg _ h.1];exact h.2.2.1,h.2.2.2.1,ahC h.2.2.2.2 b⟩
 lt h:=by intro j hj;rw[h.2.1 j hj];exact h.2.2.2.2
section
variable{ex:Bool}
variable{ac:Nat->aX}{l:List bD}
theorem ak.qT{t t':Th}(U:ak V Q B)(i:Nat)(hi:B[i]?=some t)(b:H'.next=Q.next)(hg:∀j,j≠q->H'.get j=Q.get j)(h1:∀a,t.P Q a->q∈a)(h2:t'.P H' [q]):ak V H' (B.set i t'):=by have⟨a,e,_,hu⟩:=U.iQ i hi;refine hu (fp':=[q]) ⟨Nat.le_of_eq (by grind),λj hj=>?_,λj hj b=>?_⟩ h2;all_goals grind
theorem ak.kW(U:ak V Q B)(i:Nat)(hi:B[i]?=some (tM ex Y Z):=by rfl):(∃b,fx (Q.get Y) b/\∀x,x∈b↔Z x)/\(ex=true->∃es a,Q.get Y=.map es a)/\Y.ap<Q.next.ap:=by have⟨f,e⟩:=U.get i hi;exact e.2.2
theorem ak.Ck(U:ak V Q B)(i:Nat)(hi:B[i]?=some (tI Y P):=by rfl):(∃es a,Q.get Y=.map es a/\es.map aV.kv=P.map ik)/\(P.map ai6).Nodup/\Y.ap<Q.next.ap:=by have⟨e,b⟩:=U.get i hi;exact b.2.2
theorem ak.Ak(U:ak Q V B)(i:Nat)(hi:B[i]?=some (tM ex Y Z))(h:∀x,Z x↔S' x):ak Q V (B.set i (tM ex Y S')):=U.as i hi λb a=>⟨a.1,a.2.1,a.2.2.1.imp λe h2=>⟨h2.1,λx=>(h2.2 x).trans (h x)⟩,a.2.2.2⟩
theorem ak.Mf(U:ak V Q B){o:bR}{S:Int->Prop}(hs:fx o ks)(b:∀x,x∈ks↔S x)(e:ex=true->∃es a,o=.map es a):ak V (Q.new o) (tM ex Q.next S::B):=U.push (fp:=[Q.next]) (aR.new Q o) ⟨abt.2 rfl,λj hj=>abt.1 hj,⟨ks,by rw[ai.cL,aF rfl];exact hs,b⟩,λh=>by rw[ai.cL,aF rfl];exact e h,by rw[ai.lm];omega⟩ (rS Q)
theorem RO.Cl(U:ak Q V B)(h:∀b Y,ak Q b (tM true Y (λ_=>False)::B)->RO ac a l W (bo e X (.map Y)) b):RO ac a (⟨X,.ky,none,[],[]⟩::l) W e V:=RO.ky (h _ _ (U.Mf (ks:=[]) ⟨aiP,[],rfl,rfl⟩ (λx=>by simp) λ_=>⟨[],0,rfl⟩))
theorem RO.Mg(U:ak Q V B)(i:Nat)(h:∀f,ak Q f (B.set i (tM ex q λt=>t=z\/Z t))->RO ac a l W (bo e X .ai8) f)(hi:B[i]?=some (tM ex q Z):=by rfl)(o:aT e t=.map q:=by exact cw)(p:aT e u=.int 3 z:=by exact cw):RO ac a (⟨X,.jK .int t u (.c (.bool true)),none,[],[]⟩::l) W e V:=λaf b=>by
 have⟨⟨E,hs,r⟩,he,g⟩:=U.kW i hi;have⟨f,v,m,w,x,F⟩:=EF (b.gv o rfl) (b.gv p rfl) hs;have k:=U.qT (q:=q) i hi (t':=tM ex q λt=>t=z\/Z t) m w (λG C=>C.1) ⟨abt.2 rfl,λj hj=>abt.1 hj,⟨_,x,λt=>by rw[zw,r]⟩,λh=>?_,by rw[m];exact g⟩;·have⟨n,D⟩:=h f k _ (b.set X .ai8);exact⟨n+1,Xo.op v D⟩
 grind
theorem RO.eZ(U:ak V Q B)(i:Nat)(h:∀n:Bool,(n=true↔Z z)->RO ac a l W (bo e X (.bool n)) Q)(hi:B[i]?=some (tM ex Y Z):=by rfl)(f:aT e t=.map Y:=by exact cw)(g:aT e u=.int 3 z:=by exact cw):RO ac a (⟨X,.lookup .int (.bool false) false t u,none,[],[]⟩::l) W e Q:=by have⟨⟨j,hs,m⟩,he,k⟩:=U.kW i hi;exact RO.op (λaf b=>Jz (b.gv f rfl) (b.gv g rfl) hs) (h (fP z j) (by grind[qz]))
theorem Mh:∀{es:List aV}{P:List (Int×Int)},es.map aV.kv=P.map ik->z∉P.map ai6->∀i0,findKey .int (.int 3 z) es i0=some none
 |[],_,_,_,_=>rfl
 |e::es,[],h,_,_=>by grind
 |e::es,p::P,h,a,i0=>by
  simp only[ahk,ahD,aV.kv,ik,afm]at h;simp only[ahk,ac2,not_or]at a;have f:gz z p.1=false:=by rw[dW];simpa using a.1
  have b:db 64 .int (.int 3 z) (.int 3 p.1)=some (gz z p.1):=by simp[db]
  simp only[findKey,h.1.1,b,f];exact Mh h.2 a.2 _
theorem RO.acn(U:ak V Q B)(h:∀b Y,ak V b (tI Y []::B)->RO ac a l W (bo e X (.map Y)) b):RO ac a (⟨X,.ky,none,[],[]⟩::l) W e Q:=RO.ky (h _ _ (U.push (fp:=[Q.next]) (aR.new Q _) ⟨abt.2 rfl,λj hj=>abt.1 hj,⟨[],0,by rw[ai.cL,aF rfl],rfl⟩,aiP,by rw[ai.lm];omega⟩ (rS Q)))
theorem RO.aco(U:ak V Q B)(i:Nat)(k:v∉P.map ai6)(h:∀m,ak V m (B.set i (tI q (P++[(v,w)])))->RO ac a l W (bo e X .ai8) m)(hi:B[i]?=some (tI q P):=by rfl)(o:aT e t=.map q:=by exact cw)(p:aT e x=.int 3 v:=by exact cw)(r:aT e u=.int 3 w:=by exact cw):RO ac a (⟨X,.jK .int t x u,none,[],[]⟩::l) W e Q:=by
 have⟨⟨es,cc,he,n⟩,C,g⟩:=U.Ck i hi;refine RO.op (λaf f=>?_) (h (Q.set q (.map (es++[⟨.int 3 v,.int 3 w,cc⟩]) (cc+1))) (U.qT (q:=q) i hi rfl (λj hj=>by rw[ai.aG,an hj]) (λF D=>D.1) ⟨abt.2 rfl,λj hj=>abt.1 hj,⟨_,_,by rw[ai.aG,aF rfl],by simp[n,aV.kv,ik]⟩,?_,by rw[ai.eK];exact g⟩));·simp only[aH,iH,ahN,abH,bF,f.gv o rfl,f.gv p rfl,f.gv r rfl,he,Mh n k 0]
 simp only[ahx,ahk,aiz];rw[ahZ];exact⟨C,aC,λI E b hb=>by simp only[abt]at hb;subst hb;exact λG=>k (G▸E)⟩
theorem Mi:∀{es:List aV}{P:List (Int×Int)},es.map aV.kv=P.map ik->jQ.go es=some P/\iB es=some (P.map ai6)|[],[],_=>⟨rfl,rfl⟩|[],_::_,h=>by grind|_::_,[],h=>by grind|e::es,p::P,h=>by simp only[ahk,ahD,aV.kv,ik,afm]at h;have⟨h1,h2⟩:=Mi h.2;simp[h,h1,h2,jQ.go,iB,ahk,and_self]
theorem ak.qQ(U:ak V Q B)(i:Nat)(hi:B[i]?=some (tI Y P):=by rfl):jQ Q Y=some P/\iD Q Y=some (P.map ai6):=by have⟨⟨es,cc,he,a⟩,b,e⟩:=U.Ck i hi;have⟨h1,h2⟩:=Mi a;simp[he,h1,h2,b,jQ,iD,dC,ux,bg,and_self]
theorem Mj:∀{es:List aV}{ks:List Int},es.map aV.kv=ks.map sk->rJ es=some ks/\iB es=some ks|[],[],_=>⟨rfl,rfl⟩|[],_::_,h=>by grind|_::_,[],h=>by grind|e::es,p::P,h=>by simp only[ahk,ahD,aV.kv,sk,afm]at h;have⟨h1,h2⟩:=Mj h.2;simp[h,h1,h2,rJ,iB,and_self]
theorem vF(h:fx (Q.get Y) L):iC Q Y=some L/\iD Q Y=some L:=by have⟨a,es,he,b⟩:=h;have⟨h1,h2⟩:=Mj b;simp[he,h1,h2,a,iC,iD,ux,bg,and_self]
theorem Ml{k:Int}:∀{es:List aV}{ks:List Int},es.map aV.kv=ks.map sk->ks.Nodup->∀i0,findKey .int (.int 3 k) es i0=some none/\k∉ks\/∃i,findKey .int (.int 3 k) es i0=some (some (i0+i,.bool true))/\∃a:List Int,(mL es i).map aV.kv=a.map sk/\a.Nodup/\∀x,x∈a↔x∈ks/\x≠k
 |[],[],_,_,_=>.inl ⟨rfl,aC⟩
 |[],_::_,h,_,_=>by grind
 |_::_,[],h,_,_=>by grind
 |e::es,x::ks,h,n,i0=>by
  simp only[ahk,ahD,aV.kv,sk,afm]at h;have⟨⟨h1,h2⟩,h3⟩:=h;have⟨p,f⟩:=ahT.1 n;have g:db 64 .int (.int 3 k) (.int 3 x)=some (gz k x):=by simp[db]
  by_cases b:k=x
  .subst b;refine .inr ⟨0,?_,ks,by trivial,f,λz=>?_⟩;·simp[h1,g,h2,findKey,dW,beq_self_eq_true,aiV]
   grind
  have o:gz k x=false:=by rw[dW];simpa using b
  rcases Ml (k:=k) h3 f (i0+1)with⟨j,m⟩|⟨i,j,a,m,r,t⟩;·simp[b,m,h1,g,o,j,findKey]
  refine .inr ⟨i+1,?_,x::a,?_,?_,λz=>?_⟩;all_goals grind[findKey,mL,aV.kv,sk,List.nodup_cons]
theorem RO.acp(U:ak V Q B)(i:Nat)(h:∀r,ak V r (B.set i (tM true q λt=>Z t/\t≠z))->RO ac a l W (bo e X .ai8) r)(hi:B[i]?=some (tM true q Z):=by rfl)(v:aT e t=.map q:=by exact cw)(w:aT e u=.int 3 z:=by exact cw):RO ac a (⟨X,.delete .int t u,none,[],[]⟩::l) W e Q:=by
 have⟨⟨D,hs,m⟩,he,g⟩:=U.kW i hi;have⟨es,cc,J⟩:=he rfl;have⟨x,I,f,C⟩:=hs;rw[J]at f;simp only[dC,aa9]at f;subst f;rcases Ml (k:=z) C x 0 with⟨k,n⟩|⟨j,k,p,n,E,F⟩
 .refine RO.op (λaf b=>?_) (h (Q.set q (.map es cc)) (U.qT (q:=q) i hi rfl (λj hj=>by rw[ai.aG,an hj]) (λG o=>o.1) ⟨abt.2 rfl,λj hj=>abt.1 hj,⟨D,by rw[ai.aG,aF rfl];exact⟨x,es,rfl,C⟩,λt=>?_⟩,λ_=>⟨es,cc,by rw[ai.aG,aF rfl]⟩,by rw[ai.eK];exact g⟩));·simp only[aH,iH,ahN,abH,bF,b.gv v rfl,b.gv w rfl,J,k]
  rw[m];exact⟨λh=>⟨h,λJ=>n (by rw[<-J,m];exact h)⟩,λh=>h.1⟩
 rw[ahw]at k;refine RO.op (λaf b=>?_) (h (Q.set q (.map (mL es j) cc)) (U.qT (q:=q) i hi rfl (λj hj=>by rw[ai.aG,an hj]) (λG o=>o.1) ⟨abt.2 rfl,λj hj=>abt.1 hj,⟨p,by rw[ai.aG,aF rfl];exact⟨E,_,rfl,n⟩,λt=>?_⟩,λ_=>⟨_,cc,by rw[ai.aG,aF rfl]⟩,by rw[ai.eK];exact g⟩));·simp only[aH,iH,ahN,abH,bF,b.gv v rfl,b.gv w rfl,J,k]
 rw[F,m]
def Al(co:List ah):Kn->Kn->Prop
 |[],_=>True
 |(p,v)::l,m=>xg p co=false/\lk m p=v/\Al co l m
theorem Al.le{co:List ah}{af:az AV}(b:Le e af):∀{M:Kn},Al co M e->Le M (jn af co)|[],_=>λp v h=>.inl h.symm|(Y,w)::M,h=>λp v a=>by simp only[lk]at a;cases hb:ah.beq Y p with|true=>rw[hb]at a;obtain rfl:=ah.ft.1 hb;rw[zD,an λf=>by have h0:=h.1;grind[EN]];exact b Y v (h.2.1.trans a)|false=>rw[hb]at a;exact Al.le b h.2.2 p v a
theorem Ru.eH{g:az AV->ai->Option (az AV×ai)}{co:List ah}{M:Kn}(i:ac b=.eH g)(hg:∀af,Le e af->g af Q=some (jn af co,H'))(h:Ru ac a W M H')(hl:Al co M e:=by repeat'(first|exact trivial|refine⟨rfl,rfl,?_⟩)):Ru ac a (.code (.eH b)::W) e Q:=λaf f=>by refine⟨1,?_⟩;simp only[Xc,exec,i,hg af f];exact h _ (hl.le f)
end
end
end Go.al
namespace Go.al.R
variable{A:G.aM}{b n:Nat}{d:G.dY}{f:G.fJ}{k:List Nat}{r:lO}{s:G.Edge}{F H:List Bool}{L:List Int}{S:G.dI}{m:Type}{D:List (List Int)}{E:List (List bp)}{h:List bp}{Q:ai}{c:List AV}{p:KT}{v z:Int}{l:Int×Int}{Y:ah}
theorem Mu:∀{l:List (Nat×oG)},(pR b l).w≠ []->b∈l.map (·.1)
 |[],h=>absurd rfl h
 |p::l,h=>by
  unfold pR at h;split at h;·grind
  exact ab8 _ (Mu h)
theorem acA(h:fB k≠0):jS k:=by
 unfold fB at h;split at h;·rename_i a;simp only[zZ,ac2,ahv,or_false]at a;rcases a with rfl|rfl|rfl|rfl|rfl<;>exact⟨bt,bt,bt⟩
 split at h;·rename_i a;simp only[z6,ac2,ahv,or_false]at a;rcases a with rfl|rfl|rfl|rfl|rfl|rfl|rfl|rfl|rfl|rfl|rfl<;>exact⟨bt,bt,bt⟩
 split at h;·rename_i a;simp only[z7,ac2,ahv,or_false]at a;subst a;exact⟨bt,bt,bt⟩
 exact absurd rfl h
structure Co(g:G.aM)(x:G.dY)(r:lO):Prop where
 c:Aa g x r
 gv:r.u9=decide (0<=x.to)
 lo: -1<=x.to
 hi:x.to<g.aO
theorem Cp{f:oG}(hg:r.u9=f.to)(i:r.x9=if f.n then f.lo else 0)(j:r.ye=if f.n then f.hi else 0)(b:lT f.nm d.i7↔yf r.nm d.i7)(e:((d.op=15\/d.op=18->d.args.length<=6)/\(d.op≠15->d.op≠18->oI (Ao f d.i7) d.args.length))↔(r.z8<=d.args.length/\d.args.length<=r.z9)):vG d A.aO f↔Co A d r:=by
 have a:(r.x9<=d.n/\d.n<=r.ye)↔((f.n=true->f.lo<=d.n/\d.n<=f.hi)/\(f.n=false->d.n=0)):=by rw[i,j];cases f.n<;>simp<;>omega
 constructor;·intro h;exact⟨⟨e.1 ⟨h.mn,h.mo⟩,b.1 h.i7,a.2 ⟨h.num,h.Mo⟩,h.l6,h.iU⟩,by rw[hg,h.to],h.t0,h.t1⟩
 intro h;have⟨h1,h2⟩:=a.1 h.c.num;have⟨h3,k⟩:=e.2 h.c.args;exact⟨by rw[<-hg,h.gv],h.lo,h.hi,h.c.iU,h1,h2,h.c.l6,b.2 h.c.i7,h3,k⟩
def yp:List Nat:=[1,2,3,4,11,40,15,18,37,38,16,17,23,24,25,26,31,32,33,34,35,39,64,13,14]
theorem Mv:∀{l:List (Nat×lO)}{i:Nat},b∉l.map (·.1)->tE b l i=none|[],_,_=>rfl|p::l,i,h=>by simp only[ahk,ac2,not_or]at h;rw[tE,an h.1];exact Mv h.2
theorem acB(h:ng d=some r):d.op∈yp:=by
 apply ahF;intro a;have b:d.op≠14:=λe=>a (by rw[e];decide);have c:d.op≠13:=λe=>a (by rw[e];decide);rw[ng,an b,an c,Mv λf=>a ?_]at h;·grind
 have:mj.map (·.1)=yp.take 23:=rfl;grind
theorem acC(h:kX A d):d.op∈yp:=by have a:=Mu h.w;have h1:=h.op;simp only[An,tQ,ah4,aie,ahk,aiz,ac2,ahv,or_false]at a;simp only[qU,ac2,ahv,or_false,not_or]at h1;simp only[yp,ac2,ahv,or_false];omega
theorem Cq(c:ng d=some r)(h1:d.op∉qU)(h2:(lS d.op).w≠ [])(h:vG d A.aO (nB d.op d.m)↔Co A d r):kX A d↔∃r,ng d=some r/\Co A d r:=⟨λb=>⟨r,c,h.1 b.r⟩,λ⟨e,a,b⟩=>by rw[c]at a;injection a with a;subst a;exact⟨h1,h2,h.2 b⟩⟩
theorem acD(hl:d.args.length<=12):kX A d↔∃r,ng d=some r/\Co A d r:=by
 by_cases c:d.op∈yp;rotate_left;·grind[absurd,acC,acB]
 have⟨op,to,args,n,m,i7⟩:=d;simp only[yp,ac2,ahv,or_false]at c;simp only at hl;rcases c with rfl|rfl|rfl|rfl|rfl|rfl|rfl|rfl|rfl|rfl|rfl|rfl|rfl|rfl|rfl|rfl|rfl|rfl|rfl|rfl|rfl|rfl|rfl|rfl|rfl;all_goals first|exact Cq rfl (by dsimp only;decide) (by dsimp only;decide) (Cp rfl rfl rfl aiY (by simp[oI,Ao,nB,lS,An,tQ,pR];try first|omega|(rw[<-List.length_eq_zero_iff];omega)))|skip
 .by_cases a:m=1;·subst a;refine Cq (r:=⟨true,0,6,1,0,0⟩) rfl (by dsimp only;decide) (by dsimp only;decide) (Cp rfl rfl rfl aiY ?_);grind[oI,Ao,nB,lS,An,tQ,pR]
  have e:nB 13 m=⟨[99,97,108,108],true, -2,false,0,0,0,0⟩:=by rw[nB,an λh=>a h.2];rfl
  refine Cq (r:=⟨true,1,7,0,0,0⟩) (by simp[a,ng]) (by dsimp only;decide) (by dsimp only;decide) ?_;rw[e];refine Cp rfl rfl rfl aiY ?_;grind[oI,Ao]
 by_cases b:fB i7=0
 .constructor;·intro h;exact absurd b h.r.i7
  simp[b,ng]
 refine Cq (r:=⟨true,fB i7,fB i7,1,0,0⟩) (by simp_all[ng,bg,aF]) (by dsimp only;decide) (by dsimp only;decide) (Cp rfl rfl rfl ⟨λ_=>acA b,λ_=>b⟩ ?_);show(_/\(_->_->oI (fB i7) args.length))↔_;grind[oI]
theorem ly.ok(h:ly A f b s)(a:¬(f.op=67/\b=2)):lu A s (fS f b):=⟨h.lo,by have:=h.hi;omega,h.aK a,h.iU⟩
theorem lu.er(h:lu A s (fS f b))(a:f.op=67->s.args=[]/\b≠2):ly A f b s:=⟨h.lo,by have:=h.hi;omega,h.iU,λc=>⟨(a c).1,λh2=>absurd h2 (a c).2⟩,λ_=>h.aK⟩
theorem Gi(b:f.op≠67)(d:∀i(h:i<k.length),k[i]=fS f i):lP A f.go k↔f.go.length=k.length/\∀i(h:i<f.go.length),ly A f i f.go[i]:=by
 have e:f.go.length=k.length->∀i,i<f.go.length->k.getD i 0=fS f i:=λhl i h=>by rw[aZ aa,d]
 constructor;·intro h;refine⟨h.len,λi a=>?_⟩;have:=h.ok i a;rw[e h.len i a]at this;exact this.er λc=>absurd c b
 rintro⟨h1,h2⟩;refine⟨h1,λi a=>?_⟩;rw[e h1 i a];exact(h2 i a).ok λc=>b c.1
theorem Mw(b:f.op=67):vi A f.go↔f.go.length=3/\∀k(h:k<f.go.length),ly A f k f.go[k]:=by
 have i0:fS f 0=0:=by simp[fS,b]
 have l:fS f 1=1:=by simp[fS,b]
 constructor;·intro h;have⟨u,v,m,he,h0,h1,⟨a0,e,d⟩,⟨b1,b2⟩,o⟩:=h.ex;rw[he];refine⟨rfl,λk p=>?_⟩;match k,p with|0,_=>exact lu.er (by rw[i0];exact h0) λ_=>⟨a0,bt⟩|1,_=>exact lu.er (by rw[l];exact h1) λ_=>⟨e,bt⟩|2,_=>exact⟨b1,by show m.block<=_;omega,by show∀a∈m.args,_;rw[d];simp,λ_=>⟨d,λ_=>Nat.ne_of_gt o⟩,λq=>absurd ⟨b,rfl⟩ q⟩
 rintro⟨h3,c⟩;match i:f.go,h3 with|[r,s,t],_=>rw[i]at c;have a0:=c 0 aC;have e:=c 1 aC;have d:=c 2 aC;have n:=a0.ok aa;have b1:=e.ok aa;rw[i0]at n;rw[l]at b1;exact⟨r,s,t,rfl,n,b1,⟨(a0.tr b).1,(e.tr b).1,(d.tr b).1⟩,⟨d.lo,by have:=d.hi;simp at this;omega⟩,Nat.pos_of_ne_zero ((d.tr b).2 rfl)⟩
theorem acE:Ab A f↔mw A f:=by
 have one:f.op≠67->fS f 0=0->(lP A f.go [0]↔f.go.length=1/\∀k(h:k<f.go.length),ly A f k f.go[k]):=λh2 h3=>Gi h2 λk l=>by
  obtain rfl:k=0:=by simpa using l
  rw[h3];rfl
 have kh:∀x,f.op≠67->fS f 0=x->fS f 1=0->(lP A f.go [x,0]↔f.go.length=2/\∀k(h:k<f.go.length),ly A f k f.go[k]):=λx h2 h3 n=>Gi h2 λk l=>by match k,l with|0,_=>exact h3.symm|1,_=>exact n.symm
 have ou:f.op=66->(lP A f.go (f.bu.map pM)↔f.go.length=(f.bu.map pM).length/\∀k(h:k<f.go.length),ly A f k f.go[k]):=λo=>Gi aa λk l=>by rw[ahs]at l;rw[ahP,pM,fS,aZ l];simp[o]
 have c:f.go.length=0->∀k(h:k<f.go.length),ly A f k f.go[k]:=λh k l=>by omega
 constructor
 .intro h;have p:f.i7≠ []->jS f.i7:=λq=>by have s:=h.i7.2 q;cases h.aq with|is _ _ a _=>exact a|_=>omega
  have i:∀{a e:Nat},AE f a e->a=f.args.length->e=f.go.length->(∀k(h:k<f.go.length),ly A f k f.go[k])->mw A f:=λh1 h2 h3 n=>⟨by rw[<-h2,<-h3];exact h1,h.iU,h.bu,h.i7,p,n⟩;cases h.aq with
  |go h1 b he=>have⟨h2,h3⟩:=(one aa (by simp[fS,h1])).1 he;exact i (.go h1) b.symm h2.symm h3
  |tF h1 b he=>have⟨h2,h3⟩:=(kh 0 aa (by simp[fS,h1]) (by simp[fS,h1])).1 he;exact i (.tF h1) b.symm h2.symm h3
  |is h1 b _ he=>have⟨h2,h3⟩:=(kh 0 aa (by simp[fS,h1]) (by simp[fS,h1])).1 he;exact i (.is h1) b.symm h2.symm h3
  |eg h1 b he=>have⟨h2,h3⟩:=(kh 1 aa (by simp[fS,h1]) (by simp[fS,h1])).1 he;exact i (.eg h1) b.symm h2.symm h3
  |ou h1 hs=>have⟨h2,h3⟩:=(ou h1).1 hs.ed;rw[ahs]at h2;exact i (.ou h1 hs.kd hs.lo hs.hi) hs.ar.symm h2.symm h3
  |tG h1 b r=>have⟨h2,h3⟩:=(Mw h1).1 r;exact i (.tG h1) b.symm h2.symm h3
  |pN h1 b hg=>exact i (.pN h1) aa hg.symm (c hg)
  |ret h1 b hg=>
   rcases h1 with h1|h1;·exact i (.ret h1) b.symm hg.symm (c hg)
   exact i (.kr h1) b.symm hg.symm (c hg)
  |stuck h1 b hg=>exact i (.stuck h1) b.symm hg.symm (c hg)
 intro h;have m:=h.ae;have d:=h.Ap;refine⟨h.iU,h.i7,h.bu,?_⟩;generalize b:f.args.length=a at m;generalize hg:f.go.length=e at m;cases m with|go h1=>exact .go h1 b ((one aa (by simp[fS,h1])).2 ⟨hg,d⟩)|tF h1=>exact .tF h1 b ((kh 0 aa (by simp[fS,h1]) (by simp[fS,h1])).2 ⟨hg,d⟩)|is h1=>exact .is h1 b (h.nm (h.i7.1 h1)) ((kh 0 aa (by simp[fS,h1]) (by simp[fS,h1])).2 ⟨hg,d⟩)|eg h1=>exact .eg h1 b ((kh 1 aa (by simp[fS,h1]) (by simp[fS,h1])).2 ⟨hg,d⟩)|ou h1 l h2 n=>exact .ou h1 ⟨l,h2,n,b,(ou h1).2 ⟨by rw[hg,ahs],d⟩⟩|tG h1=>exact .tG h1 b ((Mw h1).2 ⟨hg,d⟩)|pN h1=>exact .pN h1 aa hg|ret h1=>exact .ret (.inl h1) b hg|kr h1=>exact .ret (.inr h1) b hg|stuck h1=>exact .stuck h1 b hg
structure PI(n:Nat)(s:List Bool)(hist:List Int):Prop where
 len:s.length=n
 bq:∀v:Nat,v<n->(s.getD v false=true↔(v:Int)∈hist)
theorem Cr{st:List Bool->m->Bool×List Bool}{f:m->List Int}{P:m->Prop}{R:Int->Prop}:∀{la:List m},(∀s c a,a∈la->PI n s c->c.Nodup->((st s a).1=true↔P a/\(c++f a).Nodup/\∀v∈f a,R v)/\((st s a).1=true->PI n (st s a).2 (c++f a)))->∀s c,PI n s c->c.Nodup->((dM st s la).1=true↔(∀a∈la,P a)/\(c++la.flatMap f).Nodup/\∀v∈la.flatMap f,R v)/\((dM st s la).1=true->PI n (dM st s la).2 (c++la.flatMap f))
 |[],_,s,c,k,l=>by simpa[dM]using⟨l,k⟩
 |a::la,h,s,c,k,l=>by
  have⟨h1,h2⟩:=h s c a (acj ..) k l;rw[aim,<-ae0];by_cases e:(st s a).1=true
  .have⟨p,q,r⟩:=h1.1 e;have⟨t,u⟩:=Cr (λs c b hb=>h s c b (ab8 _ hb)) _ _ (h2 e) q;rw[dM,aF e];refine⟨t.trans ⟨λ⟨i,j,a3⟩=>⟨λb hb=>?_,j,λv d=>?_⟩,λ⟨i,j,a3⟩=>⟨λb hb=>i b (ab8 _ hb),j,λv d=>a3 v (ahu _ d)⟩⟩,u⟩
   .rcases ac2.1 hb with rfl|hb;·exact p
    exact i b hb
   rcases ac6.1 d with d|d;·exact r v d
   exact a3 v d
  rw[dM,an e];refine⟨⟨λo=>(by cases o),λ⟨i,j,a3⟩=>absurd (h1.2 ⟨i a (acj ..),(ahZ.1 j).1,λv d=>a3 v (ahj _ d)⟩) e⟩,λo=>by cases o⟩
theorem Mx(m:A.aO=b)(o:0<=A.i4)(v:Int)(c:PI b F L)(d:L.Nodup):((iT A F v).1=true↔True/\(L++[v]).Nodup/\∀u∈ [v],A.i4<=u/\u<b)/\((iT A F v).1=true->PI b (iT A F v).2 (L++[v])):=by
 have hl:=c.len;unfold iT;by_cases i:A.i4<=v/\v<=A.aO - 1
 .rw[aF i];obtain⟨v,rfl⟩:∃k:Nat,v=k:=⟨v.toNat,aa⟩;have f:v<b:=aa;rw[aeY];have hat:=c.bq v f;by_cases hs:F.getD v false=true;·rw[aF hs];exact⟨⟨λh=>(by cases h),λ⟨_,h,_⟩=>absurd rfl ((ahZ.1 h).2.2 _ (hat.1 hs) _ (abt.2 rfl))⟩,λh=>by cases h⟩
  rw[an hs];refine⟨⟨λ_=>⟨trivial,?_,λu hu=>by rw[abt]at hu;subst hu;omega⟩,λ_=>rfl⟩,λ_=>⟨by simpa using hl,λx j=>?_⟩⟩;·rw[ahZ];refine⟨d,aC,λa l p hb=>?_⟩;rw[abt]at hb;subst hb;exact λe=>hs (hat.2 (e▸l))
  rw[dA aa,ac6,abt];by_cases e:x=v;·subst e;simp
  rw[an e,c.bq x j];have:¬(x:Int)=v:=aa;simp[this]
 rw[an i];refine⟨⟨λh=>(by cases h),λ⟨_,_,h⟩=>?_⟩,λh=>by cases h⟩;have:=h v (abt.2 rfl);omega
theorem acF(l:List Int):l.flatMap (λv=>[v])=l:=by simp
theorem tT:∀l:List G.dY,eM l=l.flatMap λx=>if 0<=x.to then[x.to]else[]|[]=>rfl|x::l=>by rw[aim,<-tT l,eM,eM,ahk];by_cases h:0<=x.to<;>simp[h]
theorem acG(k:A.aO=b)(l:0<=A.i4)(hl:d.args.length<=12)(m:PI b F L)(f:L.Nodup):((stepG A F d).1=true↔kX A d/\(L++(if 0<=d.to then[d.to]else[])).Nodup/\∀u∈(if 0<=d.to then[d.to]else[]),A.i4<=u/\u<b)/\((stepG A F d).1=true->PI b (stepG A F d).2 (L++(if 0<=d.to then[d.to]else[]))):=by
 rw[acD hl];unfold stepG;cases p:ng d with
 |none=>simp
 |some r=>
  simp only[aa9,exists_eq_left'];by_cases e:Aa A d r;rotate_left;·rw[an e];exact⟨⟨λh=>(by grind),λ⟨h,_⟩=>absurd h.c e⟩,λh=>by grind⟩
  rw[aF e];cases hg:r.u9 with
  |true=>
   have⟨i,o⟩:=Mx k l d.to m f;by_cases h0:0<=d.to;·rw[aF h0];refine⟨i.trans ⟨λ⟨_,a,q⟩=>⟨⟨e,by grind,aa,?_⟩,a,q⟩,λ⟨_,a,q⟩=>⟨trivial,a,q⟩⟩,o⟩;grind
   have j:¬(iT A F d.to).1=true:=λh=>by have:=(i.1 h).2.2 d.to (abt.2 rfl);omega
   refine⟨⟨λh=>absurd h j,λ⟨h,_⟩=>?_⟩,λh=>absurd h j⟩;have:=h.gv;grind
  |false=>
   rw[an aC];simp only[decide_eq_true_eq];constructor
   .constructor;·intro h;rw[h,an aC];exact⟨⟨e,by grind,aa,aa⟩,by grind,λu hu=>by grind⟩
    rintro⟨h,_⟩;have h1:=h.gv;rw[hg]at h1;have h2:=of_decide_eq_false h1.symm;have:=h.lo;omega
   grind
theorem acH(i:G.Sm A)(e:A.aO=b)(f:0<=A.i4)(hb:S∈A.aj)(d:PI b F L)(c:L.Nodup):((kK A F S).1=true↔((∀x∈S.aB,kX A x)/\mw A S.aq)/\(L++dN S).Nodup/\∀u∈dN S,A.i4<=u/\u<b)/\((kK A F S).1=true->PI b (kK A F S).2 (L++dN S)):=by
 unfold dN kK;have⟨h1,h2⟩:=Cr (st:=iT A) (f:=λv=>[v]) (P:=λ_=>True) (R:=λv=>A.i4<=v/\v<b) (la:=S.i4) (λF L a _ d c=>Mx e f a d c) F L d c;rw[acF]at h1 h2;simp only[ahl,decide_eq_true_eq,acE];rw[tT,<-ae0];by_cases h:(dM (iT A) F S.i4).1=true;·have⟨l,j,a3⟩:=h1.1 h;have⟨h3,m⟩:=Cr (st:=stepG A) (f:=λx:G.dY=>if 0<=x.to then[x.to]else[]) (P:=kX A) (R:=λv=>A.i4<=v/\v<b) (la:=S.aB) (λF L x k d c=>acG e f (i.st S hb x k).1 d c) _ _ (h2 h) j;grind
 grind
theorem acI(u:G.Sm A):tH A↔dT A:=by
 have key:∀n:Nat,A.aO=n->0<=A.i4->_:=λn e w=>Cr (n:=n) (st:=kK A) (f:=dN) (P:=λb=>(∀x∈b.aB,kX A x)/\mw A b.aq) (R:=λv=>A.i4<=v/\v<n) (la:=A.aj) (λs t b hb c o=>acH u e w hb c o) (ab7 n false) [] ⟨aC,λv i=>by simp[ahi,ahX,i]⟩ aiP;constructor;·intro h;have a:=h.p0;have d:=h.p1;obtain⟨n,e⟩:∃n:Nat,A.aO=n:=⟨A.aO.toNat,aa⟩;have j:A.aO.toNat=n:=aa;have f:=h.run;have q:=h.all;rw[j]at f q;have⟨l,m⟩:=key n e a;have c:=m f;have⟨r,y,a3⟩:=l.1 f;refine⟨h.i7,a,d,h.ne,h.first,λb hb=>(r b hb).1,λb hb=>(r b hb).2,y,λv i=>by grind,λv h1 h2=>?_⟩;obtain⟨v,rfl⟩:∃k:Nat,v=k:=⟨v.toNat,aa⟩;have hl:=c.len;have:=q v aa h1;rw[<-aZ aa false]at this;exact(c.bq v aa).1 this
 intro h;have a:=h.p0;have d:=h.p1;obtain⟨n,e⟩:∃n:Nat,A.aO=n:=⟨A.aO.toNat,aa⟩;have j:A.aO.toNat=n:=aa;have⟨l,m⟩:=key n e a;have f:=l.2 ⟨λb hb=>⟨h.aB b hb,h.yo b hb⟩,by simpa using h.nd,λv i=>by have:=h.rg v i;omega⟩;have c:=m f;have hl:=c.len;refine⟨h.i7,a,d,h.ne,h.first,by grind,?_⟩;rw[j];intro k z p;have:=(c.bq k aa).2 (h.all k p aa);grind
theorem My:∀(l:List G.dY)(i:Nat),(∀x∈l, -1<=x.to)->(fF l i).map (·.1)=eM l
 |[],_,_=>rfl
 |x::l,i,h=>by
  have h1:=h x (acj ..);have a:=My l (i+1) λy b=>h y (ab8 _ b);rw[tT,aim,<-tT,fF,ahx,a];by_cases e:x.to= -1;·rw[aF e,an aa];rfl
  rw[an e,aF aa];rfl
theorem Gj(h:∀x∈S.aB, -1<=x.to):(cB S).map (·.1)=dN S:=by rw[cB,ahx,My _ _ h,dN,aiF];congr 1;exact List.map_id _
theorem Mz(h:dT A):nu A:=by
 have f:=h.p0;have o:=h.p1;have hb:∀b∈A.aj,(cB b).map (·.1)=dN b:=λb hb=>Gj λx l=>(h.aB b hb x l).r.t0;have e:∀b∈A.aj,∀p∈cB b,p.1∈dN b:=λb a p d=>by rw[<-hb b a];exact ahG d
 have c:=h.nd;refine⟨aa,f,λb a p d=>h.rg _ (ahI.2 ⟨b,a,e b a p d⟩),λb a=>?_,λi j hi hj v p q d m=>?_,λv h0 h1=>?_⟩;·rw[hb b a];obtain⟨i,hi,rfl⟩:=ahd a;rw[<-aig i A.aj,ahp hi,ahH,aim]at c;exact(ahZ.1 (ahZ.1 c).2.1).1
 .have h1:v∈dN A.aj[i]:=by have:=e _ (kq hi) _ d;rwa[aE,aZ hi]at this
  have h2:v∈dN A.aj[j]:=by have:=e _ (kq hj) _ m;rwa[aE,aZ hj]at this
  have key:∀i j(hi:i<A.aj.length)(hj:j<A.aj.length),i<j->v∈dN A.aj[i]->v∈dN A.aj[j]->False:=λi j hi hj s h1 h2=>by rw[<-aig j A.aj,ahp hj,ahH,aim]at c;refine(ahZ.1 c).2.2 v ?_ v (ahj _ h2) rfl;exact ahI.2 ⟨A.aj[i],by rw[List.mem_take_iff_getElem];exact⟨i,aa,rfl⟩,h1⟩
  rcases Nat.lt_trichotomy i j with h3|h3|h3;·exact(key i j hi hj h3 h1 h2).elim
  .exact h3
  exact(key j i hj hi h3 h2 h1).elim
 have⟨b,a,k⟩:=ahI.1 (h.all v h0 h1);rw[<-hb b a]at k;obtain⟨p,d,rfl⟩:=ahm.1 k;obtain⟨i,hi,rfl⟩:=ahd a;exact⟨i,p.2,hi,by rw[aE,aZ hi];exact d⟩
def eG(x:bp):Int:=2*x.1+x.2
def ff(o:List bp):List Int:=o.map eG
def mA(o:List bp):Prop:=∀x∈o,∃t:Nat,x.1=t/\(x.2=0\/x.2=1)
theorem acR{x y:bp}(a:∃t:Nat,x.1=t/\(x.2=0\/x.2=1))(b:∃t:Nat,y.1=t/\(y.2=0\/y.2=1))(h:eG x=eG y):x=y:=by grind[eG]
theorem MF:∀{o p:List bp},mA o->mA p->ff o=ff p->o=p|[],[],_,_,_=>rfl|[],_::_,_,_,h=>by cases h|_::_,[],_,_,h=>by cases h|x::o,y::p,h1,h2,h=>by simp only[ff,ahk,ahD]at h;rw[acR (h1 x (acj ..)) (h2 y (acj ..)) h.1,MF (λz a=>h1 z (ab8 _ a)) (λz a=>h2 z (ab8 _ a)) h.2]
theorem Au{x:bp}(a:∃t:Nat,x.1=t/\(x.2=0\/x.2=1)):0<=eG x/\(eG x).toNat/2=x.1.toNat:=by grind[eG]
theorem vP(i:mA h):(bX A b h).map (λw=>(w.1,ff w.2))=fU A b (ff h):=by
 simp only[bX,fU,aE];split;·simp[ff,eG]
 split
 .cases hl:h.getLast? with
  |none=>
   have:h=[]:=by simpa using hl
   subst this;rfl
  |some x=>
   have j:=List.mem_of_getLast? hl;have d:h≠ []:=λe=>by rw[e]at hl;cases hl
   have c:h.length≠0:=λe=>d (ahz e);have a:h[h.length - 1]'aa=x:=by rw[List.getLast?_eq_getElem?,getElem?_pos h _ aa]at hl;exact Option.some.inj hl
   have f:(ff h).length=h.length:=by simp[ff]
   have k:(ff h).getD (h.length - 1) 0=eG x:=by rw[aZ (by rw[f];omega)];simp only[ff,ahP,a]
   rw[f,an c,k];simp only[ahk,aiz,ahD,and_true,afm];refine⟨?_,by simp[ff,List.map_take]⟩;rw[my,gp,aE,(Au (i x j)).2]
 rw[aiF];rfl
theorem MG(d:mA h):∀w∈bX A b h,mA w.2:=by
 intro w c;have n6:∀s,s=0\/s=1->mA (h++[((b:Int),s)]):=λs hs x a=>by
  rcases ac6.1 a with a|a;·exact d x a
  rw[abt]at a;subst a;exact⟨b,rfl,hs⟩
 simp only[bX]at c;split at c;·grind
 split at c
 .split at c;·rw[abt]at c;subst c;exact λx a=>d x (aiK a)
  grind
 grind
theorem fQ.su(a:jh A)(j:fQ A b h):gT A (-1) b (ff h)/\mA h:=by
 induction j with
 |zero=>exact⟨.zero aC,λx i=>by grind⟩
 | @step b h w j c e=>
  have⟨h1,h2⟩:=e;have⟨h3,f⟩:=h1.ok a;have d:(w.1,ff w.2)∈fU A b (ff h):=by rw[<-vP h2];exact ahm.2 ⟨w,c,rfl⟩
  have:=(oK a h3 f _ d).1;exact⟨.step h1 d aa,MG h2 w c⟩
theorem gT.cG(h:gT A (-1) b L):∃p,fQ A b p/\mA p/\ff p=L:=by induction h with|zero _=>exact⟨[],.zero,λx e=>(by grind),rfl⟩| @step b L w h a f c=>obtain⟨p,h1,h2,rfl⟩:=c;rw[<-vP h2]at a;obtain⟨d,h3,rfl⟩:=ahm.1 a;exact⟨d.2,.step h1 h3,MG h2 _ h3,rfl⟩
theorem acS(a:jh A)(s:A.aj.length<=30)(d:jw A (-1) F D)(e:∀b,fc A (-1) F D false b):fE A:=by
 refine⟨λh j=>?_,λ{b o}h w k=>?_,λ{b o}h=>?_,λ{b o}h=>?_⟩;·have⟨h1,h2⟩:=h.su a;have⟨h3,c⟩:=j.su a;exact MF h2 c ((h1.comp a d e).2.symm.trans (h3.comp a d e).2)
 .have⟨h1,h2⟩:=h.su a;have⟨h3,c⟩:=h1.ok a;have l:(w.1,ff w.2)∈fU A b (ff o):=by rw[<-vP h2];exact ahm.2 ⟨w,k,rfl⟩
  have:=(oK a h3 c _ l).1;omega
 .have⟨h1,_⟩:=h.su a;exact⟨(h1.ok a).1,a.t3 b (h1.ok a).1⟩
 have⟨h1,h2⟩:=h.su a;have⟨h3,c⟩:=h1.ok a;have⟨m,n⟩:=h1.comp a d e;have i:=d.iw b m;rw[n]at i;simp only[ff,ahs]at i;refine⟨⟨λx f=>?_⟩,aa⟩;have⟨u,p⟩:=Au (h2 x f);have⟨_,q,r⟩:=c (eG x) (ahG f);rw[p]at q r;have⟨t,v,_⟩:=h2 x f;grind
theorem Av(a:jh A)(e:fE A)(c:jw A (-1) F D)(f:∀b,fc A (-1) F D false b)(d:b8 A H E):H.getD b false=true↔F.getD b false=true:=by
 constructor;·intro h;exact(((d.cG b h).su a).1.comp a c f).1
 intro h;have⟨p,h1,_,_⟩:=(c.snd b h).cG;exact(d.oE e h1).1
theorem Cu(a:jh A)(d:jw A (-1) H D)(e:∀b,fc A (-1) H D false b)(c:b8 A F E)(h:F.getD b false=true):D.getD b []=ff (E.getD b [])/\mA (E.getD b []):=⟨(((c.cG b h).su a).1.comp a d e).2,((c.cG b h).su a).2⟩
theorem MH(d:jh A)(f:fE A)(c:b8 A F E)(h:iV (wW A E) n b):F.getD b false=true/\gT A (n:Int) b (ff (E.getD b [])):=by
 induction h with
 |zero h=>refine⟨c.c0,?_⟩;have:=(c.oE f .zero).2;rw[this];exact .zero aa
 | @step a x h k p l=>
  have⟨h1,h2⟩:=l;obtain⟨w,i,rfl⟩:=ahm.1 k;have hl:=c.cG a h1;have h3:=c.oE f (.step hl i);have e:=(hl.su d).2;have j:(w.1,ff w.2)∈fU A a (ff (E.getD a [])):=by rw[<-vP e];exact ahm.2 ⟨w,i,rfl⟩
  have⟨m,o⟩:=h2.ok d;have:=(oK d m o _ j).1;refine⟨h3.1,?_⟩;rw[h3.2];exact .step h2 j aa
theorem acT(a:jh A)(k:fE A)(e:jw A (-1) F D)(f:∀b,fc A (-1) F D false b)(i:b8 A H E)(h:gT A (n:Int) b L):iV (wW A E) n b:=by induction h with|zero h=>exact .zero aa| @step b L w h c q j=>have l:=(MH a k i j).1;have⟨h1,h2⟩:=Cu a e f i l;have h3:=((h.mono a).comp a e f).2;have⟨m,o⟩:=h.ok a;have r:=(oK a m o _ c).1;rw[<-h3,h1,<-vP h2]at c;obtain⟨p,d,rfl⟩:=ahm.1 c;exact .step j (ahm.2 ⟨p,d,rfl⟩) aa
theorem MI(a:jh A)(j:fE A)(c:jw A (-1) H D)(d:∀b,fc A (-1) H D false b)(k:b8 A F E){q:List (List Bool)}(l:sq A q)(r:n<A.aj.length)(hb:b<A.aj.length):(q.getD n []).getD b false=true↔F.getD n false=true/\F.getD b false=true/\ey (wW A E) n b:=by
 have⟨c2,o2,t2,e,m,i⟩:=l.ex;have⟨_,s,v,w,f,o,p⟩:=i n r;have h2:∀{x},F.getD x false=true↔c2.getD x false=true:=λ{x}=>by
  rw[Av a j c d k];constructor;·intro h;exact(c.snd x h).yt a c d e m
  intro h;exact((e.snd x h).comp a c d).1
 rw[p b hb,qV,h2,h2];simp only[ahl,aij,decide_eq_true_eq,ah3,and_assoc];refine and_congr_right λ_=>and_congr_right λu=>?_;constructor
 .rintro(rfl|h);·exact ey.Gb
  intro t;have:=(MH a j k t).2.yt a c d f o;grind
 intro hd;cases h:s.getD b false with|false=>simp|true=>exact absurd (acT a j c d k (f.snd b h)) hd
section
variable{ac:Nat->aX}
structure acU(g:G.aM):Prop where
 iw:ny g
 acV:jW g=false
 lU:dT g
 right:jG g
theorem Aw(h:ny A)(hg:jW A=false):A.aj.length<=30/\A.aO<=200:=by simp only[jW,Bool.or_eq_false_iff,decide_eq_false_iff_not]at hg;have h1:=h.nb;have h2:=h.nv;omega
theorem MJ(T:Tb ac)(hg:dc Q A c)(d:ny A)(k:ml A)(h1:∀a,aR Q a->acU A->p (aI 0) a)(l:∀a,aR Q a->jW A=true->p (aI 5) a)(m:∀a,aR Q a->jW A=false->¬dT A->p (aI 4) a)(n:∀a,aR Q a->jW A=false->dT A->Gs A->¬jG A->p (aI 9) a):YN ac Fb [.agg c] Q p:=by
 have b:=hg;obtain⟨u,rfl,bz⟩:=hg;have⟨r,_,_,s⟩:=bz.all;refine YF.code T.Yu aC (ab ?_);refine RO.bZ (ak.bM Q) λv q U=>ab ?_;refine RO.bT U 0 ?_;refine RO.cl (acr T (bV.eY U.gr b) d.sm (λe hg i=>?_) (λe hg f=>?_));rotate_left;·have U:=U.bN hg;refine ab ?_;exact Ru.aL (l _ U.gr f)
 have U:=U.bN hg;have⟨h,t⟩:=Aw d i;refine ab ?_;refine RO.bT U 0 ?_;refine RO.cl (acz T (bV.eY U.gr b) d.sm k d.nm aa (λe hg j=>?_) (λe hg f=>?_));rotate_left;·have U:=U.bN hg;refine ab ?_;exact Ru.aL (m _ U.gr i f)
 have U:=U.bN hg;refine ab ?_;refine RO.bT U 0 ?_;refine RO.cl (acQ T (bV.eY U.gr b) d.sm j h aa (λe hg o=>?_) (λe hg gr f=>?_));rotate_left;·have U:=U.bN hg;refine ab ?_;exact Ru.aL (n _ U.gr i j gr f)
 have U:=U.bN hg;refine ab ?_;exact Ru.aL (h1 _ U.gr ⟨d,i,j,o⟩)
end
theorem Gu(h:l∈lx L b):l.1∈L/\l.2=b:=by obtain⟨x,a,rfl⟩:=ahm.1 h;grind
theorem Gv:∀{l:List G.dY}{i:Nat}{p:Int×Int},p∈ix l i->∃j,∃h:j<l.length,p.2=((i+j:Nat):Int)/\p.1∈l[j].args
 |s::l,i,p,h=>by
  rcases ac6.1 h with h|h;·have⟨h1,h2⟩:=Gu h;exact⟨0,aC,aa,h1⟩
  have⟨j,hj,h1,h2⟩:=Gv h;exact⟨j+1,by grind,aa,by grind⟩
theorem MK:∀{l:List G.Edge}{n:Nat}{p:Int×Int},p∈jg l n->p.2=n/\∃e∈l,p.1∈e.args
 |e::l,n,p,h=>by
  rcases ac6.1 h with h|h;·have⟨h1,h2⟩:=Gu h;grind
  have⟨h1,a,h2,h3⟩:=MK h;grind
theorem Gw(h:l∈fL S):∃k,k<=S.aB.length/\l.2=(k:Int)/\l.1∈di S k:=by
 have a:l.1∈jF S.aq->l.2=(S.aB.length:Int)->∃k,k<=S.aB.length/\l.2=(k:Int)/\l.1∈di S k:=λh1 h2=>⟨_,aeE _,h2,by rw[di,an aa];exact h1⟩;rcases ac6.1 h with h|h;·have⟨j,hj,h1,h2⟩:=Gv h;exact⟨j,aa,aa,by simp[hj,h2,di,aF,aZ]⟩
 rcases ac6.1 h with h|h;·have⟨h1,h2⟩:=Gu h;exact a (ahj _ h1) h2
 have⟨h1,e,h2,h3⟩:=MK h;exact a (ahu _ (ahI.2 ⟨e,h2,h3⟩)) h1
theorem ML(k:b<=S.aB.length)(h:z∈di S b):(z,(b:Int))∈fL S:=by
 unfold di at h;split at h;·rename_i a;rw[aZ a]at h;have⟨_,c,e⟩:=F6 S a;rw[e];exact ahu _ (ahj _ (ahm.2 ⟨z,h,rfl⟩))
 obtain rfl:b=S.aB.length:=aa;refine ahu _ ?_;rcases ac6.1 h with h|h;·exact ahj _ (ahm.2 ⟨z,h,rfl⟩)
 have⟨e,he,f⟩:=ahI.1 h;obtain⟨i,hi,rfl⟩:=ahd he;have⟨_,c,e⟩:=F7 S hi;have:(z,(S.aB.length:Int))∈fL S:=by rw[e];exact ahu _ (ahj _ (ahm.2 ⟨z,f,rfl⟩))
 rcases ac6.1 this with d|d;·have⟨j,hj,h1,_⟩:=Gv d;omega
 omega
theorem Ax(h:b<S.aB.length)(a:S.aB[b].to≠ -1):(S.aB[b].to,(b:Int))∈cB S:=by have⟨c,e,_⟩:=FT S h a;rw[<-e];exact abO c
theorem Cv(h:z∈S.i4):(z, -1)∈cB S:=ahj _ (ahG h)
theorem MM(d:dT A)(j:nu A)(a:ku A.aO.toNat A.i4.toNat L (jy A A.aj.length))(h0:A.i4<=v)(h1:v<A.aO):∃s:Nat,s<A.aj.length/\L.getD v.toNat 0=s/\yn A v=s:=by have e:=d.all v h0 h1;rw[<-aid (l:=A.aj),<-vL A _ (aeE _)]at e;obtain⟨p,f,rfl⟩:=ahm.1 e;have h2:=a.bq p f;have⟨i,hi,b⟩:=ahI.1 f;rw[ahR]at hi;obtain⟨x,h,rfl⟩:=ahm.1 b;refine⟨i,hi,h2,?_⟩;have hb:=kq hi;rw[<-Gj λy k=>(d.aB _ hb y k).r.t0]at h;have⟨q,l,c⟩:=ahm.1 h;have:=j.at (v:=x) (p:=q.2) hi (by rw[<-c];exact l);grind
theorem acW(z:dT A)(hn:A.aj.length<=30)(h:jG A)(W:fE A)(C:nu A)(D:b8 A F E):nq A F E:=by
 have⟨c1,o1,Z,gl,B,G,J,K,L⟩:=h.ex;have j:=z.sh;have key:∀b,F.getD b false=true->b<A.aj.length/\vM A o1 Z gl b/\o1.getD b []=ff (E.getD b [])/\mA (E.getD b [])/\pS A (ff (E.getD b [])):=λb hb=>by have h1:=(Av j W B G D).1 hb;have h2:=Cu j B G D hb;have h3:=(B.snd b h1).ok j;rw[h2.1]at h3;exact⟨h3.1,L b h3.1 h1,h2.1,h2.2,h3.2⟩
 refine⟨λb hb M=>?_,λb hb N=>?_,λb hb p hp=>?_⟩
 .have⟨d,l,H,O,eB⟩:=key b hb;have⟨h1,h2⟩:=l.en M;rw[H]at h1 h2;have hl:(ff (E.getD b [])).length=(E.getD b []).length:=by simp[ff]
  rw[hl]at h1 h2;generalize E.getD b []=o at*;have f:o.length - 1<o.length:=aa;have X:=abO f;have he:(ff o).getD (o.length - 1) 0=eG o[o.length - 1]:=by rw[aZ (by rw[hl];exact f)];simp only[ff,ahP]
  rw[he]at h2;have m:my A (eG o[o.length - 1])=gp A o[o.length - 1]:=by rw[my,gp,aE,(Au (O _ X)).2]
  have⟨_,k2,k3⟩:=eB (eG o[o.length - 1]) (ahG X);have P:=j.rg _ k2 _ (abO (l:=(aE A ((eG o[o.length - 1]).toNat/2)).aq.go) (n:=2) aa);have Q:my A (eG o[o.length - 1])=(aE A ((eG o[o.length - 1]).toNat/2)).aq.go[2].block:=by rw[my,aZ aa]
  rw[<-Q,m]at P;rw[m]at h2;exact⟨o[o.length - 1],by rw[List.getLast?_eq_getElem?,getElem?_pos o _ f],aa,aa,h2.symm⟩
 .have⟨_,l,H,_,_⟩:=key b hb;have:=l.rt N;rw[H]at this;simpa[ff]using this
 have⟨d,l,_,_,_⟩:=key b hb;have⟨k,hk,R,a⟩:=Gw hp;have hrd:=l.rd k hk p.1 a;have⟨x,bq⟩:=p;simp only at R a hrd;have S:=C.v0;have ag:=Ai S;have v:0<=x/\x<A.aO:=by
  have n:=kq d;unfold di at a;split at a;·rename_i Y;rw[aZ Y]at a;have:=(z.aB _ n _ (abO Y)).r.iU x a;omega
  have u:=z.yo _ n;rcases ac6.1 a with a|a;·have:=u.iU x a;omega
  have⟨e,he,a⟩:=ahI.1 a;obtain⟨y,I,rfl⟩:=ahd he;have:=(u.Ap y I).iU x a;omega
 obtain⟨t,rfl⟩:∃t:Nat,x=t:=⟨x.toNat,aa⟩;refine⟨t,rfl,aa,?_⟩;by_cases w:(t:Int)<A.i4;·exact .inl w
 have⟨s,hs,T,V⟩:=MM z C K (v:=(t:Int)) aa v.2;unfold qX at hrd;rw[T,aeY]at hrd;rcases hrd with h1|⟨h1,h2⟩|h1;·omega
 .have h3:=(MI j W B G D J hs d).1 h2;exact .inr (.inr ⟨s,V,aa,h3.1,h3.2.2⟩)
 obtain⟨q,hq,av⟩:∃q,((t:Int),q)∈cB (aE A b)/\q<(k:Int):=by
  rcases ac6.1 h1 with h1|h1;·exact⟨-1,Cv h1,aa⟩
  have h2:=h1;rw[tT]at h2;have⟨y,I,c⟩:=ahI.1 h2;obtain⟨i,hi,rfl⟩:=ahd I;rw[ahU]at hi;rw[List.getElem_take]at c;split at c;·rename_i h4;rw[abt]at c;refine⟨i,?_,aa⟩;rw[c];exact Ax aa aa
  cases c
 have:=C.at d hq;rw[aeY]at this;exact .inr (.inl ⟨by rw[this],by rw[this];simp only;omega⟩)
theorem acX(a:nu A)(h0:A.i4<=(b:Int))(h1:(b:Int)<A.aO)(h:((gM A).getD b (-1, -1)).1=(n:Int)):((b:Int),((gM A).getD b (-1, -1)).2)∈cB (aE A n):=by have⟨j,p,hj,c⟩:=a.all _ h0 h1;have:=a.at hj c;grind
theorem acY(h:(z,v)∈cB S)(d:v<(b:Int))(h0:0<=z):z∈S.i4++eM (S.aB.take b):=by
 rcases ac6.1 h with h|h;·grind
 refine ahu _ ?_;have key:∀(l:List G.dY)(i b:Nat),(z,v)∈fF l i->v<(b:Int)->z∈eM (l.take (b - i)):=by
  intro l;induction l with
  |nil=>intro i b h _;cases h
  |cons s l a=>
   intro i b h d;rw[fF]at h;have hi:∀(l:List G.dY)(i:Nat),(z,v)∈fF l i->(i:Int)<=v:=by
    intro l;induction l with
    |nil=>intro i h;cases h
    |cons s l a=>
     intro i h;rw[fF]at h;rcases ac6.1 h with h|h
     .split at h;·cases h
      rw[abt]at h;injection h with _ h;omega
     have:=a (i+1) h;omega
   rcases ac6.1 h with h|h
   .split at h;·cases h
    rw[abt]at h;injection h with h1 h2;obtain⟨m,c⟩:∃m,b - i=m+1:=⟨b - i - 1,aa⟩;rw[c,aiu,tT,aim];refine ahj _ ?_;rw[aF aa,h1];exact abt.2 rfl
   have h3:=hi l (i+1) h;have:=a (i+1) b h d;obtain⟨m,c⟩:∃m,b - i=m+1:=⟨b - i - 1,aa⟩;rw[c,aiu,tT,aim,<-tT];refine ahu _ ?_;rw[show m=b - (i+1)by omega];exact this
 grind
theorem acZ(y:dT A)(hn:A.aj.length<=30)(q:Gs A)(z:fE A)(B:nu A)(C:b8 A F E)(D:nq A F E):jG A:=by
 have v:=y.sh;have⟨c1,o1,H,V,gl,m,w,I⟩:=q.ex;cases a:H with
 |true=>have⟨b,o,o',W,X,Y⟩:=m.Gn a;have⟨p,Z,_,a3⟩:=W.cG;have⟨p',b1,_,b3⟩:=X.cG;exact absurd (by rw[<-a3,<-b3,z.pO Z b1]) Y
 |false=>
  subst a;have⟨n,d⟩:=I rfl;have j:=m.toFlI;refine⟨c1,o1,V,gl,j,w,n,d,λi hi R=>?_⟩;have hb:=(Av v z j w C).2 R;have⟨S,J⟩:=Cu v j w C hb;have eB:=((j.snd i R).ok v).2;have hl:(ff (E.getD i [])).length=(E.getD i []).length:=by simp[ff]
  refine⟨λK=>?_,λL=>?_,λk hk x T=>?_⟩
  .have⟨l,h1,h2,h3,G⟩:=D.en i hb K;rw[S,hl];generalize E.getD i []=o at*;have M:o≠ []:=λe=>by rw[e]at h1;cases h1
   have r:o.length≠0:=λe=>M (ahz e);have f:o[o.length - 1]'aa=l:=by rw[List.getLast?_eq_getElem?,getElem?_pos o _ aa]at h1;exact Option.some.inj h1
   have hm:l∈o:=List.mem_of_getLast? h1;have he:(ff o).getD (o.length - 1) 0=eG l:=by rw[aZ (by rw[hl];omega)];simp only[ff,ahP,f]
   have N:my A (eG l)=gp A l:=by rw[my,gp,aE,(Au (J _ hm)).2]
   rw[he,N];exact⟨r,G.symm⟩
  .have:=D.rt i hb L;rw[S,this];rfl
  have hrd:=D.rd i hb _ (ML hk T);have c:=vN y (kq hi) T;have⟨t,ht,ag,h⟩:=hrd;subst ht;by_cases u:(t:Int)<A.i4;·exact .inl (by rw[aeY,d.aK t (by have:=B.p0;omega)];decide)
  rcases h with h1|⟨h1,h2⟩|⟨s,h1,h2,h3,G⟩;·exact absurd h1 u
  .exact .inr (.inr (acY (acX B aa c.2 h1) h2 aa))
  have⟨s',O,P,Q⟩:=MM y B d (v:=(t:Int)) aa c.2;simp only[yn,aeY]at Q;obtain rfl:s'=s:=aa;refine .inr (.inl ?_);rw[P,aeY];exact⟨aa,(MI v z j w C n O hi).2 ⟨h3,hb,G⟩⟩
theorem ac0(a:dT A)(b:A.aj.length<=30)(h:jG A):fE A:=by have⟨c1,o1,j,gl,c,d,e,f,i⟩:=h.ex;exact acS a.sh b c d
section
variable{ac:Nat->aX}
theorem ac1(T:Tb ac)(b:Y.ap<Q.next.ap)(hc:aY Q Y 6=some (.bool true))(h:∀a,aR Q a->p (.bool false) a):YN ac KI [.aD Y 0] Q p:=by refine YF.code T.K2 aC (au ?_);refine RO.bZ (ak.bM Q) λc d U=>?_;refine RO.dL U λe f U=>?_;refine ab ?_;refine RO.aW ?_ (v:=.bool true) (hc:=by rw[U.gr.aY b];exact hc);refine ab ?_;refine RO.dO U 0 (λg U=>?_);refine ab ?_;exact Ru.jf (M:=[]) (ts:=[_,_]) (by simpa[fK]using U) λa U=>⟨[.bool false],⟨⟨_,_,rfl,U.one 0⟩,trivial⟩,h a U.gr⟩
end
end Go.al.R
end
