/- A part. No conditions. -/
import Derived.Test.YtcipmlnpjkngpaaGreatDoorA14
set_option linter.all false
set_option maxHeartbeats 16000000
open Int renaming ofNat->afq
noncomputable section
namespace Go.ak.R
section
variable{ac:Nat->aX}
section
theorem Ru.ES{c:Cx}{s:List SI}{x:SI}{L:Kn}{H:ai}{P:ai->Prop}(d:List af)(h1:∀a,P a->Ru ac c s (pk L d) a)(h2:(∀a b,P a->iR (pk L d) b->Ru ac c s b a)->Ru ac c (x::s) L H):Ru ac c (x::s) L H:=h2 λa b e hl=>(h1 a e).ph hl
structure sa(b:G.dE):Prop where
 bl:b.i4.length<=12/\b.aL.length<=40/\b.aA.args.length<=12/\b.aA.bp.length<=12/\b.aA.go.length<=12/\b.aA.i7.length<=60
 st:∀s∈b.aL,s.args.length<=12/\s.i7.length<=250
 ed:∀e∈b.aA.go,e.args.length<=12
structure oB(g:G.aY):Prop where
 sm:G.Sm g
 nb:g.aj.length<=40\/1500<g.aj.length
 nv:g.aW<=300\/6000<g.aW
 nm:g.i7.length<=60
section
variable{g:G.aY}{H:ai}{cs:List AV}
theorem zO(T:Tb ac)(hg:dS H g cs){K:KT}(hT:∀m,aZ H m->K (.bool true) m)(hF:∀m,aZ H m->oB g->K (.bool false) m):YN ac Ue [.agg cs] H K:=by
 have A:=hg.one;obtain⟨w,rfl,bH⟩:=hg;have⟨aw,n,ax,ay⟩:=bH.all;refine YF.code T.VV aC ?_;refine Ru.seq ?_;refine Ru.region ?_;refine RO.cG (al.bY H) λH1 q U=>?_;refine RO.bw ?_;refine RO.nil ?_;refine Ru.seq ?_;refine Ru.ES (P:=λm=>al H m [tB cX q [.str g.i7,aI g.i4,aI g.aW,w]]/\(g.aj.length<=40\/1500<g.aj.length)/\g.aj.length<=4000/\(g.aW<=300\/6000<g.aW)/\g.i7.length<=60) [p1] (λH2⟨U,f1,f2,f3,f4⟩=>?_) (λv=>?_);rotate_left
 .repeat'(first|refine lX ?_|refine RO.bT (λ_=>?_) (λ_=>?_))
  all_goals
   first|exact Ru.aP (hT _ U.gr)|
    refine Ru.cond (λ_=>?_) (λ_=>?_);·refine ah ?_;exact Ru.aP (hT _ U.gr)
    refine Ru.skip ?_;have e1:afq 300=300:=rfl;have e2:afq 6000=6000:=rfl;refine v _ _ ⟨U,ab,ab,ab,ab⟩ ?_;exact eg
 refine ah ?_;refine Ru.nm λS0 M hS hM=>?_;refine Ru.bM hM (up (P:=λk=>∀a,(∀i,i<k->∀h:i<g.aj.length,sa g.aj[i])->al H a [tB cX q [.str g.i7,aI g.i4,aI g.aW,w]]->Ru ac _ S0 ([(p3,aN k)]++pk M [p1]) a) g.aj.length (λk hk F a f U=>?_) 0 ab _ (λi hi=>by omega) U);subst hS;subst hM;refine Ru.loop ?_;refine ah ?_;refine Ru.cond (λS=>?_) (λS=>?_)
 .refine ah ?_;refine RO.bW U.gr bH (λq1 o1 c1 hj n a1 hat hrd=>?_) (j:=k);have A:=n.one;obtain⟨G,I,jc,rfl,V,o,J,L,N,rfl,W,X,y⟩:=n;have⟨a2,_,_,_⟩:=V.all;have⟨a6,_,_,_⟩:=o.all;have⟨a8,_,_,_⟩:=W.all;have⟨a',_,_,_⟩:=X.all;have⟨ba,_,_,_⟩:=y.all;have F:=F (k+1) ab ab;have f:sa g.aj[k]->∀i,i<k+1->∀h:i<g.aj.length,sa g.aj[i]:=λhb i hi h=>by
   by_cases e:i=k;·subst e;exact hb
   exact f i ab h
  generalize g.aj[k]=B at*;refine ah ?_;refine RO.eR U λH3 O U=>?_;repeat'(first|refine lX ?_|refine RO.bT (λ_=>?_) (λ_=>?_))
  all_goals first|exact Ru.aP (hT _ U.gr)|skip
  refine Ru.cond (λ_=>?_) (λ_=>?_);·refine ah ?_;exact Ru.aP (hT _ U.gr)
  rename_i b1 b2 b3 b4 b5 b6;have U:al H _ [tB cL O [G,I,aU B.aA.op,J,.str B.aA.i7,L,N],tB cX q [.str g.i7,aI g.i4,aI g.aW,w]]:=U;refine ah ?_;refine Ru.nm λP Q p c=>?_;refine Ru.bM c (up (P:=λj=>∀a,(∀i,i<j->∀h:i<B.aL.length,B.aL[i].args.length<=12/\B.aL[i].i7.length<=250)->al H a [tB cL O [G,I,aU B.aA.op,J,.str B.aA.i7,L,N],tB cX q [.str g.i7,aI g.i4,aI g.aW,w]]->Ru ac _ P ([(p5,aN j)]++pk Q [p1,p3,p4]) a) B.aL.length (λj hj r a cz U=>?_) 0 ab _ (λi hi=>by omega) U);subst p;subst c;refine Ru.loop ?_;refine ah ?_;refine Ru.cond (λC=>?_) (λC=>?_)
  .refine ah ?_;refine RO.bW U.gr o (λq9 o9 c9 Y t Z hat hrd=>?_) (j:=j);have r:=r (j+1) ab ab;have cz:B.aL[j].args.length<=12/\B.aL[j].i7.length<=250->∀i,i<j+1->∀h:i<B.aL.length,B.aL[i].args.length<=12/\B.aL[i].i7.length<=250:=λhb i hi h=>by
    by_cases e:i=j;·subst e;exact hb
    exact cz i ab h
   generalize ag:B.aL[j]=s at*;obtain⟨av,rfl,d⟩:=t;have⟨D,_,_,_⟩:=d.all;repeat'(first|refine lX ?_|refine RO.bT (λ_=>?_) (λ_=>?_))
   .refine ah ?_;exact Ru.aP (hT _ U.gr)
   refine RO.bW U.gr o (λq8 o8 c8 bb z bd hat hrd=>?_) (j:=j);rw[ag]at z;obtain⟨bv,rfl,_⟩:=z;refine ah ?_;refine Ru.cond (λ_=>?_) (λ_=>?_);·refine ah ?_;exact Ru.aP (hT _ U.gr)
   refine ah ?_;exact Ru.wk (r _ (cz ab) U)
  refine Ru.exitTo ?_;refine ah ?_;refine Ru.nm λP Q p c=>?_;refine Ru.bM c (up (P:=λj=>∀a,(∀i,i<j->∀h:i<B.aA.go.length,B.aA.go[i].args.length<=12)->al H a [tB cL O [G,I,aU B.aA.op,J,.str B.aA.i7,L,N],tB cX q [.str g.i7,aI g.i4,aI g.aW,w]]->Ru ac _ P ([(p6,aN j)]++pk Q [p1,p3,p4]) a) B.aA.go.length (λi hi u a l U=>?_) 0 ab _ (λi hi=>by omega) U);subst p;subst c;refine Ru.loop ?_;refine ah ?_;refine Ru.cond (λE=>?_) (λE=>?_)
  .refine ah ?_;refine RO.bW U.gr y (λq9 o9 c9 Y t Z hat hrd=>?_) (j:=i);have u:=u (i+1) ab ab;have l:B.aA.go[i].args.length<=12->∀x,x<i+1->∀h:x<B.aA.go.length,B.aA.go[x].args.length<=12:=λhb x R h=>by
    by_cases e:x=i;·subst e;exact hb
    exact l x ab h
   generalize B.aA.go[i]=e at*;obtain⟨av,rfl,d⟩:=t;have⟨D,_,_,_⟩:=d.all;refine ah ?_;refine Ru.cond (λ_=>?_) (λ_=>?_);·refine ah ?_;exact Ru.aP (hT _ U.gr)
   refine ah ?_;exact Ru.wk (u _ (l ab) U)
  refine Ru.exitTo ?_;refine ah ?_;refine Ru.wk (F _ (f ⟨⟨ab,ab,ab,ab,ab,ab⟩,λs hs=>?_,λs hs=>?_⟩) U.tail);all_goals obtain⟨x,R,rfl⟩:=aeB hs
  .exact cz x ab R
  exact l x ab R
 refine Ru.exitTo ?_;refine ah ?_;refine Ru.aP (hF _ U.gr ⟨⟨ab,λb hb=>?_,λb hb=>?_,λb hb=>?_⟩,f1,f3,f4⟩);all_goals obtain⟨i,hi,rfl⟩:=aeB hb;have:=f i ab hi
 .exact this.bl
 .exact this.st
 exact this.ed
end
end
def lJ:List G.Edge->Nat
 |[]=>0
 |e::l=>e.args.length+lJ l
def jZ:List G.dE->Nat
 |[]=>0
 |b::l=>b.aL.length+lJ b.aA.go+jZ l
def jq(g:G.aY):Bool:=decide (1500<g.aj.length)||decide (6000<g.aW)||decide (6000<jZ g.aj)
theorem K2{l:List G.Edge}{n:Nat}(h:∀e∈l,e.args.length<=n):lJ l<=n*l.length:=by induction l with|nil=>simp[lJ]|cons e l a=>have:=h e (acm ..);have:=a λe he=>h e (aen _ he);simp only[lJ,aeJ,Nat.mul_succ];omega
theorem K3{l:List G.dE}{n:Nat}(h:∀b∈l,b.aL.length+lJ b.aA.go<=n):jZ l<=n*l.length:=by induction l with|nil=>simp[jZ]|cons e l a=>have:=h e (acm ..);have:=a λe he=>h e (aen _ he);simp only[jZ,aeJ,Nat.mul_succ];omega
theorem ZH(T:Tb ac){H:ai}{g:G.aY}{cs:List AV}(hg:dS H g cs)(n:G.Sm g){K:KT}(o:∀y,aZ H y->K (.bool (jq g)) y):YN ac UL [.agg cs] H K:=by
 obtain⟨z,rfl,bH⟩:=hg;have⟨hd,h1,_,Q⟩:=bH.all;have hb:=n.nb;have hs:jZ g.aj<=1000*g.aj.length:=K3 λb hb=>by have h1:=n.bl b hb;have h2:=K2 (n.ed b hb);omega
 refine YF.code T.Wx aC ?_;refine au ?_;refine RO.cG (al.bY H) (λR q U=>?_);refine aS ?_;refine Ru.nm λS M p i=>?_;refine Ru.bM i (up (P:=λk=>∀d a,a+jZ (g.aj.drop k)=jZ g.aj->al H d [tB cX q [.str g.i7,aI g.i4,aI g.aW,z]]->Ru ac _ S ([(fJ,aN k),(p3,aN a)]++pk M [p1,p9,gf]) d) g.aj.length (λk V A d a r U=>?_) 0 ab _ 0 aC U);subst p;subst i;refine Ru.loop ?_;refine aS ?_;refine Ru.cond (λh=>?_) (λh=>?_)
 .rw[aeE h]at r;simp only[jZ]at r;have F:=n.bl _ (acI h);refine au ?_;refine RO.bW U.gr bH λB o1 c1 hj c t hat hrd=>?_;have m:=c.one;obtain⟨W,X,Y,rfl,_,u,C,Z,vg,rfl,_,_,l⟩:=c;have⟨I,_,_,J⟩:=u.all;have⟨L,_,_,N⟩:=l.all;refine aS ?_;refine RO.eR U (λD E U=>?_);refine aS ?_;refine Ru.nm λS M p i=>?_;refine Ru.bM i (up (P:=λj=>∀d x,x+lJ (g.aj[k].aA.go.drop j)=a+(g.aj[k].aL.length+lJ g.aj[k].aA.go)->al H d [tB cX q [.str g.i7,aI g.i4,aI g.aW,z]]->Ru ac _ S ([(vV,aN j),(p3,aN x)]++pk M [p1,p9,gf,fJ,rN,vU]) d) g.aj[k].aA.go.length (λj hj v d x s U=>?_) 0 ab _ (a+g.aj[k].aL.length) (by simp;omega) U.tail);subst p;subst i;refine Ru.loop ?_;refine aS ?_;refine Ru.cond (λf=>?_) (λf=>?_);·rw[aeE f]at s;simp only[lJ]at s;refine au ?_;refine RO.bW U.gr l λB o1 c1 hj c t hat hrd=>?_;have m:=c.one;obtain⟨C,rfl,w⟩:=c;have⟨O,_,_,P⟩:=w.all;refine aS ?_;refine RO.eR U (λD E U=>?_);refine aS ?_;exact Ru.wk (v (j+1) ab ab _ (x+g.aj[k].aA.go[j].args.length) ab U.tail)
  refine Ru.exitTo ?_;refine aS ?_;exact Ru.wk (A (k+1) ab ab _ x (by simp[af3 (show g.aj[k].aA.go.length<=j by omega),lJ]at s;omega) U)
 simp only[af3 (show g.aj.length<=k by omega),jZ]at r;have e:a=jZ g.aj:=ab;subst e;refine Ru.exitTo ?_;refine aS ?_;refine RO.bT (λh1=>?_) (λh1=>?_);·refine aS ?_;refine Ru.aP ?_;simpa[jq,h1]using o d U.gr
 refine aS ?_;refine RO.bT (λ(h2:(6000:Int)<g.aW)=>?_) (λ(h2:¬(6000:Int)<g.aW)=>?_);·refine aS ?_;refine Ru.aP ?_;simpa[jq,h1,h2]using o d U.gr
 refine aS ?_;refine Ru.aP ?_;simpa[jq,h1,h2]using o d U.gr
end
end Go.ak.R
end
