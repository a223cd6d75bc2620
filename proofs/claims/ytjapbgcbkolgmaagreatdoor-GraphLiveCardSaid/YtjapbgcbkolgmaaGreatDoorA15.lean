/- A part. No conditions. -/
import Derived.Test.YtjapbgcbkolgmaaGreatDoorA14
set_option linter.all false
set_option maxHeartbeats 16000000
open Int renaming ofNat->age
noncomputable section
namespace Go.al.R
section
variable{ac:Nat->aX}
section
theorem Ru.Hu{c:Cx}{s:List SI}{x:SI}{L:Kn}{H:ah}{P:ah->Prop}(d:List af)(h1:∀a,P a->Ru ac c s (pk L d) a)(h2:(∀a b,P a->iW (pk L d) b->Ru ac c s b a)->Ru ac c (x::s) L H):Ru ac c (x::s) L H:=h2 λa b e hl=>(h1 a e).pv hl
structure yT(b:G.dW):Prop where
 bl:b.i4.length<=12/\b.aS.length<=40/\b.aB.args.length<=12/\b.aB.bu.length<=12/\b.aB.go.length<=12/\b.aB.i7.length<=60
 st:∀s∈b.aS,s.args.length<=12/\s.i7.length<=250
 ed:∀e∈b.aB.go,e.args.length<=12
structure yU(g:G.be):Prop where
 sm:G.Sm g
 nb:g.aj.length<=40\/1500<g.aj.length
 nv:g.bc<=300\/6000<g.bc
 nm:g.i7.length<=60
section
variable{g:G.be}{H:ah}{cs:List AV}
theorem BG(T:Tb ac)(hg:gu H g cs){K:KT}(hT:∀m,aZ H m->K (.bool true) m)(hF:∀m,aZ H m->yU g->K (.bool false) m):YN ac Wf [.agg cs] H K:=by
 have A:=hg.one;obtain⟨w,rfl,bW⟩:=hg;have⟨aw,n,ax,ay⟩:=bW.all;refine YF.code T.Y2 aF ?_;refine Ru.seq ?_;refine Ru.region ?_;refine RO.dp (aq.ct H) λH1 q U=>?_;refine RO.aR ?_;refine RO.nil ?_;refine Ru.seq ?_;refine Ru.Hu (P:=λm=>aq H m [tB eg q [.str g.i7,aI g.i4,aI g.bc,w]]/\(g.aj.length<=40\/1500<g.aj.length)/\g.aj.length<=4000/\(g.bc<=300\/6000<g.bc)/\g.i7.length<=60) [p1] (λH2⟨U,f1,f2,f3,f4⟩=>?_) (λv=>?_);rotate_left
 .repeat'(first|refine mf ?_|refine RO.bR (λ_=>?_) (λ_=>?_))
  all_goals
   first|exact Ru.aP (hT _ U.gr)|
    refine Ru.cond (λ_=>?_) (λ_=>?_);·refine ai ?_;exact Ru.aP (hT _ U.gr)
    refine Ru.skip ?_;have e1:age 300=300:=rfl;have e2:age 6000=6000:=rfl;refine v _ _ ⟨U,ab,ab,ab,ab⟩ ?_;exact ey
 refine ai ?_;refine Ru.nm λS0 M hS hM=>?_;refine Ru.bT hM (up (P:=λk=>∀a,(∀i,i<k->∀h:i<g.aj.length,yT g.aj[i])->aq H a [tB eg q [.str g.i7,aI g.i4,aI g.bc,w]]->Ru ac _ S0 ([(p3,aN k)]++pk M [p1]) a) g.aj.length (λk hk F a f U=>?_) 0 ab _ (λi hi=>by omega) U);subst hS;subst hM;refine Ru.loop ?_;refine ai ?_;refine Ru.cond (λS=>?_) (λS=>?_)
 .refine ai ?_;refine RO.bY U.gr bW (λq1 o1 c1 hj n a1 hat hrd=>?_) (j:=k);have A:=n.one;obtain⟨G,I,jc,rfl,V,o,J,L,N,rfl,W,X,y⟩:=n;have⟨a2,_,_,_⟩:=V.all;have⟨a6,_,_,_⟩:=o.all;have⟨a8,_,_,_⟩:=W.all;have⟨a',_,_,_⟩:=X.all;have⟨ba,_,_,_⟩:=y.all;have F:=F (k+1) ab ab;have f:yT g.aj[k]->∀i,i<k+1->∀h:i<g.aj.length,yT g.aj[i]:=λhb i hi h=>by
   by_cases e:i=k;·subst e;exact hb
   exact f i ab h
  generalize g.aj[k]=B at*;refine ai ?_;refine RO.ff U λH3 O U=>?_;repeat'(first|refine mf ?_|refine RO.bR (λ_=>?_) (λ_=>?_))
  all_goals first|exact Ru.aP (hT _ U.gr)|skip
  refine Ru.cond (λ_=>?_) (λ_=>?_);·refine ai ?_;exact Ru.aP (hT _ U.gr)
  rename_i b1 b2 b3 b4 b5 b6;have U:aq H _ [tB de O [G,I,aU B.aB.op,J,.str B.aB.i7,L,N],tB eg q [.str g.i7,aI g.i4,aI g.bc,w]]:=U;refine ai ?_;refine Ru.nm λP Q p c=>?_;refine Ru.bT c (up (P:=λj=>∀a,(∀i,i<j->∀h:i<B.aS.length,B.aS[i].args.length<=12/\B.aS[i].i7.length<=250)->aq H a [tB de O [G,I,aU B.aB.op,J,.str B.aB.i7,L,N],tB eg q [.str g.i7,aI g.i4,aI g.bc,w]]->Ru ac _ P ([(p5,aN j)]++pk Q [p1,p3,p4]) a) B.aS.length (λj hj r a cD U=>?_) 0 ab _ (λi hi=>by omega) U);subst p;subst c;refine Ru.loop ?_;refine ai ?_;refine Ru.cond (λC=>?_) (λC=>?_)
  .refine ai ?_;refine RO.bY U.gr o (λq9 o9 c9 Y t Z hat hrd=>?_) (j:=j);have r:=r (j+1) ab ab;have cD:B.aS[j].args.length<=12/\B.aS[j].i7.length<=250->∀i,i<j+1->∀h:i<B.aS.length,B.aS[i].args.length<=12/\B.aS[i].i7.length<=250:=λhb i hi h=>by
    by_cases e:i=j;·subst e;exact hb
    exact cD i ab h
   generalize ag:B.aS[j]=s at*;obtain⟨av,rfl,d⟩:=t;have⟨D,_,_,_⟩:=d.all;repeat'(first|refine mf ?_|refine RO.bR (λ_=>?_) (λ_=>?_))
   .refine ai ?_;exact Ru.aP (hT _ U.gr)
   refine RO.bY U.gr o (λq8 o8 c8 bb z bd hat hrd=>?_) (j:=j);rw[ag]at z;obtain⟨bv,rfl,_⟩:=z;refine ai ?_;refine Ru.cond (λ_=>?_) (λ_=>?_);·refine ai ?_;exact Ru.aP (hT _ U.gr)
   refine ai ?_;exact Ru.wk (r _ (cD ab) U)
  refine Ru.exitTo ?_;refine ai ?_;refine Ru.nm λP Q p c=>?_;refine Ru.bT c (up (P:=λj=>∀a,(∀i,i<j->∀h:i<B.aB.go.length,B.aB.go[i].args.length<=12)->aq H a [tB de O [G,I,aU B.aB.op,J,.str B.aB.i7,L,N],tB eg q [.str g.i7,aI g.i4,aI g.bc,w]]->Ru ac _ P ([(p6,aN j)]++pk Q [p1,p3,p4]) a) B.aB.go.length (λi hi u a l U=>?_) 0 ab _ (λi hi=>by omega) U);subst p;subst c;refine Ru.loop ?_;refine ai ?_;refine Ru.cond (λE=>?_) (λE=>?_)
  .refine ai ?_;refine RO.bY U.gr y (λq9 o9 c9 Y t Z hat hrd=>?_) (j:=i);have u:=u (i+1) ab ab;have l:B.aB.go[i].args.length<=12->∀x,x<i+1->∀h:x<B.aB.go.length,B.aB.go[x].args.length<=12:=λhb x R h=>by
    by_cases e:x=i;·subst e;exact hb
    exact l x ab h
   generalize B.aB.go[i]=e at*;obtain⟨av,rfl,d⟩:=t;have⟨D,_,_,_⟩:=d.all;refine ai ?_;refine Ru.cond (λ_=>?_) (λ_=>?_);·refine ai ?_;exact Ru.aP (hT _ U.gr)
   refine ai ?_;exact Ru.wk (u _ (l ab) U)
  refine Ru.exitTo ?_;refine ai ?_;refine Ru.wk (F _ (f ⟨⟨ab,ab,ab,ab,ab,ab⟩,λs hs=>?_,λs hs=>?_⟩) U.tail);all_goals obtain⟨x,R,rfl⟩:=afr hs
  .exact cD x ab R
  exact l x ab R
 refine Ru.exitTo ?_;refine ai ?_;refine Ru.aP (hF _ U.gr ⟨⟨ab,λb hb=>?_,λb hb=>?_,λb hb=>?_⟩,f1,f3,f4⟩);all_goals obtain⟨i,hi,rfl⟩:=afr hb;have:=f i ab hi
 .exact this.bl
 .exact this.st
 exact this.ed
end
end
def lY:List G.Edge->Nat
 |[]=>0
 |e::l=>e.args.length+lY l
def kh:List G.dW->Nat
 |[]=>0
 |b::l=>b.aS.length+lY b.aB.go+kh l
def jC(g:G.be):Bool:=decide (1500<g.aj.length)||decide (6000<g.bc)||decide (6000<kh g.aj)
theorem M0{l:List G.Edge}{n:Nat}(h:∀e∈l,e.args.length<=n):lY l<=n*l.length:=by induction l with|nil=>simp[lY]|cons e l a=>have:=h e (abL ..);have:=a λe he=>h e (aco _ he);simp only[lY,afB,Nat.mul_succ];omega
theorem M5{l:List G.dW}{n:Nat}(h:∀b∈l,b.aS.length+lY b.aB.go<=n):kh l<=n*l.length:=by induction l with|nil=>simp[kh]|cons e l a=>have:=h e (abL ..);have:=a λe he=>h e (aco _ he);simp only[kh,afB,Nat.mul_succ];omega
theorem abC(T:Tb ac){H:ah}{g:G.be}{cs:List AV}(hg:gu H g cs)(n:G.Sm g){K:KT}(o:∀y,aZ H y->K (.bool (jC g)) y):YN ac WA [.agg cs] H K:=by
 obtain⟨z,rfl,bW⟩:=hg;have⟨hd,h1,_,Q⟩:=bW.all;have hb:=n.nb;have hs:kh g.aj<=1000*g.aj.length:=M5 λb hb=>by have h1:=n.bl b hb;have h2:=M0 (n.ed b hb);omega
 refine YF.code T.Zo aF ?_;refine au ?_;refine RO.dp (aq.ct H) (λR q U=>?_);refine aV ?_;refine Ru.nm λS M p i=>?_;refine Ru.bT i (up (P:=λk=>∀d a,a+kh (g.aj.drop k)=kh g.aj->aq H d [tB eg q [.str g.i7,aI g.i4,aI g.bc,z]]->Ru ac _ S ([(eK,aN k),(p3,aN a)]++pk M [p1,p9,eP]) d) g.aj.length (λk V A d a r U=>?_) 0 ab _ 0 aF U);subst p;subst i;refine Ru.loop ?_;refine aV ?_;refine Ru.cond (λh=>?_) (λh=>?_)
 .rw[afv h]at r;simp only[kh]at r;have F:=n.bl _ (adq h);refine au ?_;refine RO.bY U.gr bW λB o1 c1 hj c t hat hrd=>?_;have m:=c.one;obtain⟨W,X,Y,rfl,_,u,C,Z,vg,rfl,_,_,l⟩:=c;have⟨I,_,_,J⟩:=u.all;have⟨L,_,_,N⟩:=l.all;refine aV ?_;refine RO.ff U (λD E U=>?_);refine aV ?_;refine Ru.nm λS M p i=>?_;refine Ru.bT i (up (P:=λj=>∀d x,x+lY (g.aj[k].aB.go.drop j)=a+(g.aj[k].aS.length+lY g.aj[k].aB.go)->aq H d [tB eg q [.str g.i7,aI g.i4,aI g.bc,z]]->Ru ac _ S ([(wt,aN j),(p3,aN x)]++pk M [p1,p9,eP,eK,rW,wp]) d) g.aj[k].aB.go.length (λj hj v d x s U=>?_) 0 ab _ (a+g.aj[k].aS.length) (by simp;omega) U.tail);subst p;subst i;refine Ru.loop ?_;refine aV ?_;refine Ru.cond (λf=>?_) (λf=>?_);·rw[afv f]at s;simp only[lY]at s;refine au ?_;refine RO.bY U.gr l λB o1 c1 hj c t hat hrd=>?_;have m:=c.one;obtain⟨C,rfl,w⟩:=c;have⟨O,_,_,P⟩:=w.all;refine aV ?_;refine RO.ff U (λD E U=>?_);refine aV ?_;exact Ru.wk (v (j+1) ab ab _ (x+g.aj[k].aB.go[j].args.length) ab U.tail)
  refine Ru.exitTo ?_;refine aV ?_;exact Ru.wk (A (k+1) ab ab _ x (by simp[agR (show g.aj[k].aB.go.length<=j by omega),lY]at s;omega) U)
 simp only[agR (show g.aj.length<=k by omega),kh]at r;have e:a=kh g.aj:=ab;subst e;refine Ru.exitTo ?_;refine aV ?_;refine RO.bR (λh1=>?_) (λh1=>?_);·refine aV ?_;refine Ru.aP ?_;simpa[jC,h1]using o d U.gr
 refine aV ?_;refine RO.bR (λ(h2:(6000:Int)<g.bc)=>?_) (λ(h2:¬(6000:Int)<g.bc)=>?_);·refine aV ?_;refine Ru.aP ?_;simpa[jC,h1,h2]using o d U.gr
 refine aV ?_;refine Ru.aP ?_;simpa[jC,h1,h2]using o d U.gr
end
end Go.al.R
end
