/- A part. No conditions. -/
import Derived.Test.YtjapbgcbkolgmaaGreatDoorA25
set_option linter.all false
set_option maxHeartbeats 16000000
open List renaming replicate->aeN,range->agA
open List.Perm renaming swap->agm
noncomputable section
namespace Go.al.R
section
variable{ac:Nat->aX}
section
theorem Of{f:Nat->List AV}{m:Nat}(a:∀j,(f j).length=m):∀n,((agA n).flatMap f).length=n*m|0=>by simp|n+1=>by rw[agS,afX,afq,Of a n,agc,a,Nat.succ_mul]
theorem Ej{f:Nat->List AV}{m:Nat}(a:∀j,(f j).length=m){k:Nat}:∀{n},k<n->(((agA n).flatMap f).drop (k*m)).take m=f k
 |n+1,h=>by
  rw[agS,afX,agc];have hl:=Of a n;by_cases e:k=n;·subst e;rw[List.drop_append_of_le_length ab,agR ab,agq,afF (by rw[a];exact adv _)]
  have b:k<n:=ab;have h1:k*m+m<=n*m:=by rw[<-Nat.succ_mul];exact afN _ b
  rw[List.drop_append_of_le_length ab,List.take_append_of_le_length (by rw[agv];omega)];exact Ej a b
def Iw(s:G.d9)(v:AV):List AV:=[aU s.op,aI s.to,v,aI s.n,aI s.m,.str s.i7]
def nG(l:List G.d9)(a:Nat->AV)(n:Nat):List AV:=(agA n).flatMap λk=>Iw (l.getD k default) (a k)
def sD(l:List G.Edge)(es:Nat->AV)(n:Nat):List AV:=(agA n).flatMap λk=>[aI (l.getD k default).block,es k]
theorem ac8{l:List G.d9}{a:Nat->AV}{k:Nat}{v:AV}:nG l (λi=>if i=k then v else a i) (k+1)=nG l a k++Iw (l.getD k default) v:=by rw[nG,agS,afX,agc,aJ rfl];congr 1;exact AR λi hi=>by rw[agK]at hi;rw[ap ab]
theorem ac9{l:List G.Edge}{es:Nat->AV}{k:Nat}{v:AV}:sD l (λi=>if i=k then v else es i) (k+1)=sD l es k++[aI (l.getD k default).block,v]:=by rw[sD,agS,afX,agc,aJ rfl];congr 1;exact AR λi hi=>by rw[agK]at hi;rw[ap ab]
def Ek(B:G.dW)(cs:List AV)(H:ah)(a:List af):Prop:=∃(c b d e f:AV)(i es:Nat->AV),cs=[c,b,aU B.aB.op,d,.str B.aB.i7,e,f]/\(tR 1 (B.i4.map aI) B.i4.length c).P H a/\(tR 6 (nG B.aS i B.aS.length) B.aS.length b).P H a/\(∀k(h:k<B.aS.length),(tR 1 (B.aS[k].args.map aI) B.aS[k].args.length (i k)).P H a)/\(tR 1 (B.aB.args.map aI) B.aB.args.length d).P H a/\(tR 1 (B.aB.bu.map aU) B.aB.bu.length e).P H a/\(tR 2 (sD B.aB.go es B.aB.go.length) B.aB.go.length f).P H a/\∀k(h:k<B.aB.go.length),(tR 1 (B.aB.go[k].args.map aI) B.aB.go[k].args.length (es k)).P H a
def tK(B:G.dW)(cs:List AV):Th where
 P:=Ek B cs
 fr:=by
  rintro H p j⟨c,b,d,e,f,i,es,h0,h1,h2,h3,l,m,n,o⟩a hg
  exact⟨c,b,d,e,f,i,es,h0,(tR _ _ _ _).fr h1 a hg,(tR _ _ _ _).fr h2 a hg,λk h=>(tR _ _ _ _).fr (h3 k h) a hg,(tR _ _ _ _).fr l a hg,(tR _ _ _ _).fr m a hg,(tR _ _ _ _).fr n a hg,λk h=>(tR _ _ _ _).fr (o k h) a hg⟩
 lt:=by
  rintro H j⟨c,b,d,e,f,i,es,h0,h1,_⟩
  exact h1.2.2
theorem Ek.bm{B:G.dW}{cs:List AV}{H:ah}{d:List af}(h:Ek B cs H d):ji H B cs:=by
 obtain⟨e,b,f,i,j,c,es,rfl,h1,h2,h3,l,m,n,o⟩:=h;refine⟨e,b,_,rfl,h1.1,⟨_,h2.1,λk a=>?_⟩,f,i,j,rfl,l.1,m.1,⟨_,n.1,λk a=>?_⟩⟩;·rw[nG,Ej (m:=6) (f:=λk=>Iw (B.aS.getD k default) (c k)) (λ_=>rfl) a,bB a];exact⟨c k,rfl,(h3 k a).1⟩
 rw[sD,Ej (m:=2) (f:=λk=>[aI (B.aB.go.getD k default).block,es k]) (λ_=>rfl) a,bB a];exact⟨es k,rfl,(o k a).1⟩
theorem tR.ada{size n:Nat}{b:List AV}{v:AV}{H:ah}{f a:List af}(h:(tR size b n v).P H f)(hs:∀j∈f,j∈a)(hb:∀j∈a,j.am<H.next.am):(tR size b n v).P H a:=⟨h.1,λi o m c e d=>hs _ (h.2.1 i o m c e d),hb⟩
theorem adb{A H:ah}{F:List Th}{a:List Th}(U:aq A H (tZ F::a)){B:G.dW}{vp vst va vk vg:AV}{ss es:Nat->AV}(h1:tR 1 (B.i4.map aI) B.i4.length vp∈F)(h2:tR 6 (nG B.aS ss B.aS.length) B.aS.length vst∈F)(h3:∀k(h:k<B.aS.length),tR 1 (B.aS[k].args.map aI) B.aS[k].args.length (ss k)∈F)(d:tR 1 (B.aB.args.map aI) B.aB.args.length va∈F)(e:tR 1 (B.aB.bu.map aU) B.aB.bu.length vk∈F)(i:tR 2 (sD B.aB.go es B.aB.go.length) B.aB.go.length vg∈F)(j:∀k(h:k<B.aB.go.length),tR 1 (B.aB.go[k].args.map aI) B.aB.go[k].args.length (es k)∈F):aq A H (tK B [vp,vst,aU B.aB.op,va,.str B.aB.i7,vk,vg]::a):=by
 refine U.as 0 rfl λl b=>?_;have w:∀{size n c v},tR size c n v∈F->(tR size c n v).P H l:=λh=>by obtain⟨f,m,o⟩:=b.1 _ h;exact tR.ada o m b.2
 exact⟨vp,vst,va,vk,vg,ss,es,rfl,w h1,w h2,λk h=>w (h3 k h),w d,w e,w i,λk h=>w (j k h)⟩
theorem Ix{H:ah}{size n:Nat}{b:List AV}{v:AV}(h:Sl H size b n v):∀q o m c e,v=.slice q o m c e->q.am<H.next.am:=λq o m c e a=>by
 rcases h with⟨h,_⟩|⟨i,_,_,_,_,_,_,_,_,_,h,_,_,_,_,hi,_⟩;·rw[a]at h;cases h
 rw[a]at h;injection h with h;subst h;exact hi
theorem adc{o:Nat}{n:List Nat}{a b c:AV}(d:fy a a=true)(hb:fy b b=true)(e:fy c c=true):lI [aU o,a,.str n,b,c] [aU o,a,.str n,b,c]=true:=by simp only[lI,d,hb,e,Bool.and_true];simp[fy,kf,eT]
section
variable{g:G.be}{H:ah}{cs:List AV}
theorem ade(T:Tb ac){B:G.dW}(hb:ji H B cs)(hl:yT B){K:KT}(h:∀H' N,N.length=7->cL N=true->aq H H' [tK B N]->K (.agg N) H'):YN ac Wl [.agg cs] H K:=by
 have dz:=hb.one;obtain⟨l1,l2,l3,l4,l5,_⟩:=hl.bl;obtain⟨vp,vst,jc,rfl,ag,a',va,vk,vg,rfl,O,P,av⟩:=hb;have⟨e1,e2,_,_⟩:=ag.all;have⟨e3,_,_,_⟩:=a'.all;have⟨e4,e5,_,_⟩:=O.all;have⟨cE,e6,_,_⟩:=P.all;have⟨ba,e7,_,_⟩:=av.all;obtain⟨e8,aw,_⟩:=id av;have cR:=adc (o:=B.aB.op) (n:=B.aB.i7) (Sl.fy O) (Sl.fy P) (Sl.fy aw);refine YF.code T.Y8 aF ?_;refine au ?_;refine RO.dp (aq.ct H) λH1 w U=>?_;refine RO.eL U λH2 S U=>?_;refine ai ?_;refine RO.kr U 1 (ws:=[]) (n:=0) (λH3 q7 U=>?_);refine ai ?_;have U:aq H H3 [tS 3 1 [] 0 true (.slice q7 0 0 0 true),tB de S [.aH,.aH,i 4 0,.aH,.str [],.aH,.aH],tB de w [vp,vst,aU B.aB.op,va,.str B.aB.i7,vk,vg]]:=U;obtain⟨_,b⟩:=U.get 2 rfl;have r:w∉ [q7]:=λh=>U.ne 2 0 rfl rfl ab (λf h=>h.1) (λf h=>(cM.mem h).1) (abx.1 h);refine RO.yS (o:=0) (v:=vp) (tB.cell b rfl) r (λV A C=>?_);have U:=U.bN C A;refine ai ?_;obtain⟨_,b⟩:=U.get 2 rfl;refine RO.acZ (o:=2) (m:=5) (vs:=[aU B.aB.op,va,.str B.aB.i7,vk,vg]) (tB.lV b (by show 2+5<=7;omega)) r (λV A C=>?_);have U:=U.bN C A;refine RO.eL U λH4 W U=>?_;have X:=U.ut 0;refine RO.Iv (U.cJ (agm _ _ _)) (is:=[W]) (U.gr.sl ag) (λq o m c e hv Z=>?_) (λj hj=>⟨0,_,rfl,λHx f d=>by rw[abx]at hj;subst hj;exact d.1⟩) (λV a U=>⟨λaa u=>?_,?_⟩) (h1:=mC _);·have:=Ix ag q o m c e hv;rw[abx]at Z;subst Z;omega
 .obtain⟨_,b⟩:=U.get 3 rfl;exact Ee (i:=w) (o:=2) (vs:=[aU B.aB.op,va,.str B.aB.i7,vk,vg]) u (by(conv=>lhs;whnf)<;>rfl) (by(conv=>lhs;whnf)<;>rfl) cR (tB.lV b (by show 2+5<=7;omega)) rfl
 have⟨b0,b3,b4,_⟩:=(U.sl 0 rfl).all;refine ai ?_;refine RO.build (vs:=[a,.aH,aU B.aB.op,va,.str B.aB.i7,vk,vg]) ?_ (hl:=jm rfl b0 b4 rfl rfl (jm rfl rfl rfl rfl rfl rfl));refine RO.fc U 1 (ws:=[a,.aH,aU B.aB.op,va,.str B.aB.i7,vk,vg]) (λH5 U=>?_);have U:aq H H5 [tS 3 1 (B.i4.map aI) B.i4.length true a,tB de W [a,.aH,aU B.aB.op,va,.str B.aB.i7,vk,vg],tB de S [.aH,.aH,i 4 0,.aH,.str [],.aH,.aH],tB de w [vp,vst,aU B.aB.op,va,.str B.aB.i7,vk,vg]]:=by rw[afC]at U;exact U
 have U:=(U.qE rT 6).pE;refine ai ?_;refine Ru.nm λS0 M hS hM=>?_;refine Ru.bT hM (up (P:=λk=>∀HX F ss y,(∀x(h:x<B.aS.length),x<k->tR 1 (B.aS[x].args.map aI) B.aS[x].args.length (ss x)∈F)->aq H HX [tZ F,tS rT 6 (nG B.aS ss k) k true y,tS 3 1 (B.i4.map aI) B.i4.length true a,tB de W [a,y,aU B.aB.op,va,.str B.aB.i7,vk,vg],tB de S [.aH,.aH,i 4 0,.aH,.str [],.aH,.aH],tB de w [vp,vst,aU B.aB.op,va,.str B.aB.i7,vk,vg]]->Ru ac _ S0 ([(p4,aN k)]++pk M [p1,p2,p3]) HX) B.aS.length (λk hk ih HX F ss y bb U=>?_) 0 ab _ [] (λ_=>.aH) _ (λx _ D=>by omega) U);subst hS;subst hM;have⟨d0,b6,d1,_⟩:=(U.sl 1 rfl).all;refine Ru.loop ?_;refine ai ?_;refine RO.iC U 5 ?_;refine ai ?_;refine Ru.cond (λl=>?_) (λl=>?_)
 .have cD:=hl.st _ (adq l);have ih:=ih (k+1) ab ab;have ba:B.aS.getD k default=B.aS[k]:=bB l _;refine ai ?_;refine RO.iC U 5 ?_;refine ai ?_;refine RO.bY U.gr a' (λq8 o8 c8 e' c9 fa hat hrd=>?_) (j:=k);generalize c':B.aS[k]=s at*;obtain⟨fb,rfl,Y⟩:=c9;have⟨fd,fe,_,_⟩:=Y.all;refine ai ?_;refine RO.ff U λH6 q5 U=>?_;refine ai ?_;refine RO.lW U 1 λH7 fk U=>?_;have⟨d2,_,_,_⟩:=(U.sl 0 rfl).all;refine ai ?_;refine RO.lu U 0 (U.gr.sl Y) (λH8 Q U=>?_) (h1:=mC _);have⟨d3,d4,d5,_⟩:=(U.sl 0 rfl).all;refine ai ?_;refine RO.ez U 1 (λH9 U=>?_);refine ai ?_;refine RO.iC U 5 ?_;refine ai ?_;refine RO.dj U 1 ?_;refine RO.push U 3 (λw0 HA dm U=>?_) (ws:=[aU s.op,aI s.to,Q,aI s.n,aI s.m,.str s.i7]) (hl:=jm rfl rfl rfl rfl rfl rfl);have⟨d6,d7,d',_⟩:=(U.sl 3 rfl).all;refine ai ?_;refine RO.ez U 5 (λHB U=>?_);refine ai ?_;have ax:=((U.sub (.cons_cons _ (.cons _ (agt _)))).as (t':=tR 1 (s.args.map aI) s.args.length Q) 0 rfl λfp d=>by have E:=tS.kR d;rw[afC]at E;exact E).kw;exact Ru.wk (ih HB (tR 1 (s.args.map aI) s.args.length Q::F) (λi=>if i=k then Q else ss i) dm (λx D dr=>by
   by_cases e:x=k;·subst e;simp only[aJ,c'];exact abL ..
   simp only[ap e];exact aco _ (bb x D ab)) (by rw[ac8,ba];exact ax))
 refine Ru.exitTo ?_;obtain rfl:k=B.aS.length:=ab;refine ai ?_;refine RO.kr U 1 (ws:=[]) (n:=0) (λH6 R U=>?_);refine ai ?_;have U:aq H H6 [tS 3 1 [] 0 true (.slice R 0 0 0 true),tZ F,tS rT 6 (nG B.aS ss B.aS.length) B.aS.length true y,tS 3 1 (B.i4.map aI) B.i4.length true a,tB de W [a,y,aU B.aB.op,va,.str B.aB.i7,vk,vg],tB de S [.aH,.aH,i 4 0,.aH,.str [],.aH,.aH],tB de w [vp,vst,aU B.aB.op,va,.str B.aB.i7,vk,vg]]:=U;have r:w∉ [R]:=λh=>U.ne 6 0 rfl rfl ab (λf h=>h.1) (λf h=>(cM.mem h).1) (abx.1 h);obtain⟨_,b⟩:=U.get 6 rfl;refine RO.yS (o:=3) (v:=va) (tB.cell b rfl) r (λV A C=>?_);have U:=U.bN C A;refine RO.kr U 1 (ws:=[]) (n:=0) (λH7 ay U=>?_);refine ai ?_;have U:aq H H7 [tS 5 1 [] 0 true (.slice ay 0 0 0 true),tS 3 1 [] 0 true (.slice R 0 0 0 true),tZ F,tS rT 6 (nG B.aS ss B.aS.length) B.aS.length true y,tS 3 1 (B.i4.map aI) B.i4.length true a,tB de W [a,y,aU B.aB.op,va,.str B.aB.i7,vk,vg],tB de S [.aH,.aH,i 4 0,.aH,.str [],.aH,.aH],tB de w [vp,vst,aU B.aB.op,va,.str B.aB.i7,vk,vg]]:=U;have b7:w∉ [ay,R]:=λh=>by
  rcases acn.1 h with h|h;·exact U.ne 7 0 rfl rfl ab (λf h=>h.1) (λf h=>(cM.mem h).1) h
  exact r h
 obtain⟨_,b⟩:=U.get 7 rfl;refine RO.yS (o:=5) (v:=vk) (tB.cell b rfl) b7 (λV A C=>?_);have U:=U.bN C A;have X:=U.AG 0;refine RO.Iv (U.cJ (agm _ _ _)) (is:=[ay]) (U.gr.sl O) (λq o m c e hv Z=>?_) (λj hj=>⟨0,_,rfl,λHx f d=>by rw[abx]at hj;subst hj;exact(cM.mem d).1⟩) (λV p U=>⟨λaa u=>?_,?_⟩) (h1:=mC _);·have:=Ix O q o m c e hv;rw[abx]at Z;subst Z;omega
 .obtain⟨_,b⟩:=U.get 7 rfl;exact iX (i:=w) (o:=5) (v:=vk) u (by(conv=>lhs;whnf)<;>rfl) (by(conv=>lhs;whnf)<;>rfl) cE (Sl.bN P) (tB.cell b rfl) rfl
 have⟨ea,b',eb,_⟩:=(U.sl 0 rfl).all;refine ai ?_;refine RO.lu U 1 (U.gr.sl P) (λH8 v46 U=>?_) (h1:=GU.2 λv hv=>by obtain⟨x,_,rfl⟩:=afE.1 hv;rfl);have⟨ec,ca,ei,_⟩:=(U.sl 1 rfl).all;refine ai ?_;refine RO.ez U 5 (λH9 U=>?_);refine ai ?_;refine RO.ez U 5 (λH9 U=>?_);refine ai ?_;refine RO.ez U 5 (λHE U=>?_);refine ai ?_;have z1:=(((U.fI 2 rfl).fI 1 rfl).as (t':=tR 1 (B.aB.args.map aI) B.aB.args.length p) 0 rfl λfp d=>by have E:=tS.kR d;rw[afC]at E;exact E).kw;have z2:=((z1.fI 1 rfl).as (t':=tR 1 (B.aB.bu.map aU) B.aB.bu.length v46) 0 rfl λfp d=>by have E:=tS.kR d;rw[afC]at E;exact E).kw;have z3:=((z2.fI 1 rfl).as 0 rfl λfp d=>tS.kR d).kw;have z4:=((z3.fI 1 rfl).as 0 rfl λfp d=>tS.kR d).kw;have U:=(z4.qE wm 2).cJ (agm _ _ _);have m1:∀t∈ [tR 1 (B.i4.map aI) B.i4.length a,tR 6 (nG B.aS ss B.aS.length) B.aS.length y,tR 1 (B.aB.bu.map aU) B.aB.bu.length v46,tR 1 (B.aB.args.map aI) B.aB.args.length p]++F,t∈tR 1 (B.i4.map aI) B.i4.length a::tR 6 (nG B.aS ss B.aS.length) B.aS.length y::tR 1 (B.aB.bu.map aU) B.aB.bu.length v46::tR 1 (B.aB.args.map aI) B.aB.args.length p::F:=λt ht=>ht;clear z1 z2 z3 z4;refine Ru.nm λS1 M1 ds bd=>?_;refine Ru.bT bd (up (P:=λj=>∀HX F2 es gv,(∀t∈ [tR 1 (B.i4.map aI) B.i4.length a,tR 6 (nG B.aS ss B.aS.length) B.aS.length y,tR 1 (B.aB.bu.map aU) B.aB.bu.length v46,tR 1 (B.aB.args.map aI) B.aB.args.length p]++F,t∈F2)->(∀x(h:x<B.aB.go.length),x<j->tR 1 (B.aB.go[x].args.map aI) B.aB.go[x].args.length (es x)∈F2)->aq H HX [tZ F2,tS wm 2 (sD B.aB.go es j) j true gv,tB de W [a,y,aU B.aB.op,p,.str B.aB.i7,v46,gv],tB de S [.aH,.aH,i 4 0,.aH,.str [],.aH,.aH],tB de w [vp,vst,aU B.aB.op,va,.str B.aB.i7,vk,vg]]->Ru ac _ S1 ([(p6,aN j)]++pk M1 [p1,p2,p3]) HX) B.aB.go.length (λj hj ih HX F2 es gv z gI U=>?_) 0 ab _ _ (λ_=>.aH) _ m1 (λx _ D=>by omega) U);subst ds;subst bd;have⟨cd,cf,ej,_⟩:=(U.sl 1 rfl).all;have cn:=Sl.bN (U.sl 1 rfl);refine Ru.loop ?_;refine ai ?_;refine Ru.cond (λl=>?_) (λl=>?_)
 .have cD:=hl.ed _ (adq l);have ih:=ih (j+1) ab ab;have cp:B.aB.go.getD j default=B.aB.go[j]:=bB l _;have cv:=Sl.bN aw;have a8:=Ix aw;obtain⟨qe,oe,J,a1,ce,rfl,he,fl,L,ek⟩:=av.at l;have a2:=a8 qe oe _ _ _ rfl;generalize dv:B.aB.go[j]=e at*;obtain⟨ve,rfl,bv⟩:=he;have⟨fo,_,_,_⟩:=bv.all;refine ai ?_;refine RO.bi (v:=aI e.block) ?_ (hc:=by rw[U.gr.bx a2];exact L 0 _ rfl);refine RO.kr U 1 (ws:=[]) (n:=0) (λH6 a6 U=>?_);refine ai ?_;have U:aq H H6 [tS 3 1 [] 0 true (.slice a6 0 0 0 true),tZ F2,tS wm 2 (sD B.aB.go es j) j true gv,tB de W [a,y,aU B.aB.op,p,.str B.aB.i7,v46,gv],tB de S [.aH,.aH,i 4 0,.aH,.str [],.aH,.aH],tB de w [vp,vst,aU B.aB.op,va,.str B.aB.i7,vk,.slice qe oe B.aB.go.length J a1]]:=U;have r:w∉ [a6]:=λh=>U.ne 5 0 rfl rfl ab (λf h=>h.1) (λf h=>(cM.mem h).1) (abx.1 h);have X:=U.AG 0;obtain⟨_,b⟩:=U.get 5 rfl;refine RO.yS (o:=6) (v:=.slice qe oe B.aB.go.length J a1) (tB.cell b rfl) r (λV A C=>?_);have U:=U.bN C A;refine ai ?_;refine RO.yS (is:=[a6]) (o:=oe+j*2+1) (v:=ve) (by rw[U.gr.bx a2];exact L 1 _ rfl) (λh=>by rw[abx]at h;subst h;omega) (λV A C=>?_);have U:=U.bN C A;refine RO.Iv U (is:=[]) (U.gr.sl bv) (λq o m c e hv Z=>by cases Z) (λj hj=>by cases hj) (λV I U=>⟨λaa u=>?_,?_⟩) (h1:=mC _);·obtain⟨_,b⟩:=U.get 5 rfl;obtain⟨_,dx⟩:=U.get 3 rfl;refine iX (i:=qe) (o:=oe+j*2+0) (v:=aI e.block) u (by(conv=>lhs;whnf)<;>rfl) (by(conv=>lhs;whnf)<;>rfl) rfl (by simp[gT,fy,eT]) (by rw[U.gr.bx a2];exact L 0 _ rfl) ?_;refine iX (i:=w) (o:=6) (v:=.slice qe oe B.aB.go.length J a1) u (by(conv=>lhs;whnf)<;>rfl) (by(conv=>lhs;whnf)<;>rfl) rfl cv (tB.cell b rfl) ?_;exact iX (i:=W) (o:=6) (v:=gv) u (by(conv=>lhs;whnf)<;>rfl) (by(conv=>lhs;whnf)<;>rfl) cd cn (tB.cell dx rfl) rfl
  have⟨cx,el,cy,_⟩:=(U.sl 0 rfl).all;refine RO.build (vs:=[aI e.block,I]) ?_ (hl:=jm rfl rfl rfl rfl rfl (jm rfl cx cy rfl rfl rfl));refine RO.push U 2 (λw0 HA dy U=>?_) (ws:=[aI e.block,I]) (hl:=jm rfl rfl rfl rfl rfl rfl);have⟨et,ew,e0,_⟩:=(U.sl 2 rfl).all;refine ai ?_;refine RO.ez U 3 (λHB U=>?_);refine ai ?_;have ax:=(U.as (t':=tR 1 (e.args.map aI) e.args.length I) 0 rfl λfp d=>by have E:=tS.kR d;rw[afC]at E;exact E).kw;exact Ru.wk (ih HB (tR 1 (e.args.map aI) e.args.length I::F2) (λi=>if i=j then I else es i) dy (λt ht=>aco _ (z t ht)) (λx D dr=>by
   by_cases e:x=j;·subst e;simp only[aJ,dv];exact abL ..
   simp only[ap e];exact aco _ (gI x D ab)) (by rw[ac9,cp];exact ax))
 refine Ru.exitTo ?_;obtain rfl:j=B.aB.go.length:=ab;refine ai ?_;refine RO.dj U 2 ?_;refine RO.fc U 3 (λHF U=>?_) (ws:=[a,y,aU B.aB.op,p,.str B.aB.i7,v46,gv]);refine ai ?_;have y1:=((U.fI 1 rfl).as 0 rfl λfp d=>tS.kR d).kw;have y2:=adb y1 (B:=B) (vp:=a) (vst:=y) (va:=p) (vk:=v46) (vg:=gv) (ss:=ss) (es:=es) (.tail _ (z _ aF)) (.tail _ (z _ aF)) (λx D=>.tail _ (z _ (afW _ (bb x D D)))) (.tail _ (z _ aF)) (.tail _ (z _ aF)) (.head _) (λx D=>.tail _ (gI x D D));exact Ru.iY (vs:=[_]) ⟨⟨S,0,rfl,U.agg 3⟩,trivial⟩ (h HF _ rfl (ao b3 (ao b6 (ao rfl (ao b' (ao rfl (ao ca (ao cf rfl))))))) (y2.sub (.cons_cons _ (.cons _ (.cons _ (.cons _ .slnil))))))
end
end
section
section
variable{g:G.be}{H:ah}{cs:List AV}
theorem adf(T:Tb ac)(hg:gu H g cs)(hn:g.aj.length<=5000)(P:∀b∈g.aj,yT b){K:KT}(h:∀p a,aZ H p->gu p g a->K (.agg a) p):YN ac V' [.agg cs] H K:=by
 have L:=hg.one;obtain⟨E,rfl,bW⟩:=hg;have⟨ag,av,aw,ax⟩:=bW.all;refine YF.code T.YW aF ?_;refine au ?_;refine RO.dp (aq.ct H) λH1 G U=>?_;refine RO.eL U λH2 q U=>?_;refine ai ?_;refine RO.dj U 1 ?_;refine RO.ff U λH3 r U=>?_;refine ai ?_;refine RO.ez U 0 (λQ U=>?_);have U:aq H Q [tB eg r [.str g.i7,aI g.i4,aI g.bc,.aH],tB eg q [.str [],i 3 0,i 3 0,.aH],tB eg G [.str g.i7,aI g.i4,aI g.bc,E]]:=U;have U:=(U.qE de 7).pE;refine ai ?_;refine Ru.nm λR M S I=>?_;refine Ru.bT I (up (P:=λk=>∀s F(cc:Nat->List AV)c,(∀x,(cc x).length=7)->(∀x(h:x<g.aj.length),x<k->tK g.aj[x] (cc x)∈F)->aq H s [tZ F,tS de 7 ((agA k).flatMap cc) k true c,tB eg r [.str g.i7,aI g.i4,aI g.bc,c],tB eg q [.str [],i 3 0,i 3 0,.aH],tB eg G [.str g.i7,aI g.i4,aI g.bc,E]]->Ru ac _ R ([(p4,aN k)]++pk M [p1,p2,p3]) s) g.aj.length (λk o t s F cc c d f U=>?_) 0 ab _ [] (λ_=>aeN 7 .aH) _ (λ_=>rfl) (λx _ J=>by omega) U);subst S;subst I;have j:=U.sl 1 rfl;have⟨m,N,O,_⟩:=j.all;have n:=Sl.bN j;refine Ru.loop ?_;refine ai ?_;refine Ru.cond (λl=>?_) (λl=>?_)
 .have t:=t (k+1) ab ab;have y:=P _ (adq l);refine ai ?_;refine RO.bY U.gr bW (λq8 o8 c8 ay z a1 hat hrd=>?_) (j:=k);generalize A:g.aj[k]=B at*;refine ai ?_;refine RO.Ed (ade T (cY.block U.gr z) y λH5 a V h1 hl=>⟨λaa C=>?_,?_⟩);·obtain⟨_,D⟩:=(U.eO hl).get 3 rfl;exact iX (i:=r) (o:=3) (v:=c) C (by(conv=>lhs;whnf)<;>rfl) (by(conv=>lhs;whnf)<;>rfl) m n (tB.cell D rfl) rfl
  have U:=(U.eO hl).kw;match a,V with
   |[u,v,a3,a4,a5,w,a7],_=>
    refine RO.push U 1 (λw0 H6 W U=>?_) (ws:=[u,v,a3,a4,a5,w,a7]) (hl:=jm rfl rfl rfl rfl rfl rfl);have⟨a2,a6,a8,_⟩:=(U.sl 1 rfl).all;refine ai ?_;refine RO.ez U 2 (λX U=>?_);refine ai ?_;exact Ru.wk (t X (tK B [u,v,a3,a4,a5,w,a7]::F) (λi=>if i=k then[u,v,a3,a4,a5,w,a7]else cc i) W (λx=>by
     by_cases e:x=k;·simp only[aJ e];rfl
     simp only[ap e];exact d x) (λx J a'=>by
     by_cases e:x=k;·subst e;simp only[aJ,A];exact abL ..
     simp only[ap e];exact aco _ (f x J ab)) (by rw[agS,afX,agc,aJ rfl];rw[AR (g:=cc) λi hi=>by rw[agK]at hi;rw[ap ab]];exact U))
 refine Ru.exitTo ?_;obtain rfl:k=g.aj.length:=ab;refine ai ?_;refine RO.dj U 2 ?_;refine RO.fc U 3 (λY U=>?_) (ws:=[.str g.i7,aI g.i4,aI g.bc,c]);refine ai ?_;refine Ru.iY (vs:=[_]) ⟨⟨q,0,rfl,U.agg 3⟩,trivial⟩ (h Y _ U.gr ⟨c,rfl,_,U.sl 1 rfl,λk o=>?_⟩);rw[Ej d o];obtain⟨_,Z⟩:=U.jO 0 rfl (f k o o);exact Ek.bm Z
end
end
section
section
variable{g:G.be}{H:ah}{cs cs':List AV}
end
end
section
def Og(B:G.dW)(da Cn:Nat->Prop):Nat->Nat->Prop
 |0,v=>da v
 |i+1,v=>((v:Int)∈gP B (B.aS.length - i)\/Og B da Cn i v/\¬(B.aS.length - i<B.aS.length/\(B.aS.getD (B.aS.length - i) default).to=(v:Int)))\/Cn v
section
variable{g:G.be}{H:ah}{cs:List AV}
end
end
end
theorem iN.Ec{c:List (List Int)}{a:List AV}{F:List Th}(h:iN c a F){l:List Int}{v:AV}:iN (c++[l]) (a++[v]) (tR 1 (l.map aI) l.length v::F):=by
 have hl:=h.len;refine⟨by simp[hl],λb hb=>?_⟩;simp only[afq,af2]at hb;by_cases e:b=c.length
 .subst e;have d:(c++[l]).getD c.length []=l:=aF;have f:(a++[v]).getD c.length .b9=v:=by rw[<-hl];simp
  rw[d,f];exact abL ..
 have d:(c++[l]).getD b []=c.getD b []:=by simp[afG (show b<c.length by omega)]
 have f:(a++[v]).getD b .b9=a.getD b .b9:=by simp[afG (show b<a.length by omega)]
 rw[d,f];exact aco _ (h.mem b ab)
section
variable{ac:Nat->aX}
section
variable{a:Nat->af}{n i k:Nat}{M:List (List Bool)}{r:List Bool}{X:List Th}{A H:ah}{v:AV}{q:af}
end
def Oh(g:G.be)(az:List (List Int))(S:Nat->Nat->Prop)(b v:Nat):Prop:=(Og (bm g b) (λv=>∃w∈gB g b (az.getD b []),S w.1.toNat v) (λ_=>False) ((bm g b).aS.length+1) v\/∃t,km g (az.getD b [])=some t/\S t.toNat v)/\(v:Int)∉(bm g b).i4
def AZ(M:List (List Bool))(b v:Nat):Prop:=ac6 (M.getD b []) v
def adg(g:G.be)(c:List Bool)(az:List (List Int))(n:Nat)(M:List (List Bool)):Prop:=∀Q:Nat->Nat->Prop,(∀b v,c.getD b false=true->v<n->Oh g az Q b v->Q b v)->∀b v,AZ M b v->Q b v
structure afn(g:G.be)(come:List Bool)(az:List (List Int))(n:Nat)(M:List (List Bool)):Prop where
 mat:ac7 g.aj.length n M
 cl:∀b,b<g.aj.length->come.getD b false=true->∀v,v<n->Oh g az (AZ M) b v->AZ M b v
 snd:adg g come az n M
section
variable{g:G.be}{H:ah}{cs:List AV}
end
end
end Go.al.R
end
