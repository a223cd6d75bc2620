/- A part. No conditions. -/
import Derived.Test.YtpplokbfajnjhaaGreatDoorA12
set_option linter.all false
set_option maxHeartbeats 16000000
open Int renaming ofNat->aiC
noncomputable section
namespace Go.al.R
section
variable{ab:Nat->aV}
section
theorem Ru.FE{c:Cx}{s:List SI}{x:SI}{L:Kn}{H:ai}{P:ai->Prop}(b:List ah)(h1:∀H',P H'->Ru ab c s (pk L b) H')(h2:(∀H' a,P H'->iZ (pk L b) a->Ru ab c s a H')->Ru ab c (x::s) L H):Ru ab c (x::s) L H:=h2 λH' a d hl=>(h1 H' d).ph hl
structure zQ(b:G.dK):Prop where
 bl:b.params.length<=12/\b.aA.length<=40/\b.aq.args.length<=12/\b.aq.bw.length<=12/\b.aq.go.length<=12/\b.aq.name.length<=60
 st:∀s∈b.aA,s.args.length<=12/\s.name.length<=250
 ed:∀e∈b.aq.go,e.args.length<=12
structure nk(g:G.aP):Prop where
 sm:G.Sm g
 nb:g.aj.length<=30\/1500<g.aj.length
 nv:g.aQ<=200\/6000<g.aQ
 nm:g.name.length<=60
section
variable{g:G.aP}{H:ai}{cs:List AV}
theorem AY(T:Tb ab)(hg:dt H g cs){K:KT}(m:∀H',aS H H'->K (.bool true) H')(hF:∀H',aS H H'->nk g->K (.bool false) H'):YN ab WL [.agg cs] H K:=by
 have A:=hg.one;obtain⟨w,rfl,bG⟩:=hg;have⟨aw,n,ax,ay⟩:=bG.all;refine YF.code T.YX aC (Ru.seq (Ru.region (RO.ct (ak.bN H) λH1 q U=>RO.bg (RO.nil (Ru.seq (Ru.FE (P:=λH'=>ak H H' [tB cJ q [.str g.name,aI g.params,aI g.aQ,w]]/\(g.aj.length<=30\/1500<g.aj.length)/\g.aj.length<=3000/\(g.aQ<=200\/6000<g.aQ)/\g.name.length<=60) [p1] (λH2⟨U,f1,f2,f3,f4⟩=>?_) (λv=>?_)))))));rotate_left
 .repeat'(first|refine nO ?_|refine RO.bW (λ_=>?_) (λ_=>?_))
  all_goals
   first|exact Ru.aL (m _ U.gr)|
    refine Ru.cond (λ_=>?_) (λ_=>?_);·refine af ?_;exact Ru.aL (m _ U.gr)
    refine Ru.skip ?_;have e1:aiC 200=200:=rfl;have e2:aiC 6000=6000:=rfl;exact v _ _ ⟨U,aa,aa,aa,aa⟩ dC
 refine af ?_;refine Ru.nm λS0 M hS hM=>Ru.bI hM (up (P:=λk=>∀a,(∀i,i<k->∀h:i<g.aj.length,zQ g.aj[i])->ak H a [tB cJ q [.str g.name,aI g.params,aI g.aQ,w]]->Ru ab _ S0 ([(p3,aN k)]++pk M [p1]) a) g.aj.length (λk hk F a f U=>?_) 0 aa _ (λi hi=>by omega) U);subst hS;subst hM;refine Ru.loop (af ?_);refine Ru.cond (λS=>?_) (λS=>?_)
 .refine af ?_;refine RO.bO U.gr bG (λq1 o1 c1 hj n a1 hat hrd=>?_) (j:=k);have A:=n.one;obtain⟨G,I,jc,rfl,V,o,J,L,N,rfl,W,X,y⟩:=n;have⟨a2,_,_,_⟩:=V.all;have⟨a6,_,_,_⟩:=o.all;have⟨a8,_,_,_⟩:=W.all;have⟨a',_,_,_⟩:=X.all;have⟨ba,_,_,_⟩:=y.all;have F:=F (k+1) aa aa;have f:zQ g.aj[k]->∀i,i<k+1->∀h:i<g.aj.length,zQ g.aj[i]:=λhb i hi h=>by
   by_cases e:i=k;·subst e;exact hb
   exact f i aa h
  generalize g.aj[k]=B at*;refine af ?_;refine RO.dS U λH3 O U=>?_;repeat'(first|refine nO ?_|refine RO.bW (λ_=>?_) (λ_=>?_))
  all_goals first|exact Ru.aL (m _ U.gr)|skip
  refine Ru.cond (λ_=>?_) (λ_=>?_);·refine af ?_;exact Ru.aL (m _ U.gr)
  rename_i b1 b2 b3 b4 b5 b6;have U:ak H _ [tB cH O [G,I,aU B.aq.op,J,.str B.aq.name,L,N],tB cJ q [.str g.name,aI g.params,aI g.aQ,w]]:=U;refine af ?_;refine Ru.nm λP Q p c=>Ru.bI c (up (P:=λj=>∀a,(∀i,i<j->∀h:i<B.aA.length,B.aA[i].args.length<=12/\B.aA[i].name.length<=250)->ak H a [tB cH O [G,I,aU B.aq.op,J,.str B.aq.name,L,N],tB cJ q [.str g.name,aI g.params,aI g.aQ,w]]->Ru ab _ P ([(p5,aN j)]++pk Q [p1,p3,p4]) a) B.aA.length (λj hj r a de U=>?_) 0 aa _ (λi hi=>by omega) U);subst p;subst c;refine Ru.loop (af ?_);refine Ru.cond (λC=>?_) (λC=>?_)
  .refine af ?_;refine RO.bO U.gr o (λq9 o9 c9 Y t Z hat hrd=>?_) (j:=j);have r:=r (j+1) aa aa;have de:B.aA[j].args.length<=12/\B.aA[j].name.length<=250->∀i,i<j+1->∀h:i<B.aA.length,B.aA[i].args.length<=12/\B.aA[i].name.length<=250:=λhb i hi h=>by
    by_cases e:i=j;·subst e;exact hb
    exact de i aa h
   generalize ag:B.aA[j]=s at*;obtain⟨av,rfl,d⟩:=t;have⟨D,_,_,_⟩:=d.all;repeat'(first|refine nO ?_|refine RO.bW (λ_=>?_) (λ_=>?_))
   .refine af ?_;exact Ru.aL (m _ U.gr)
   refine RO.bO U.gr o (λq8 o8 c8 bb z bc hat hrd=>?_) (j:=j);rw[ag]at z;obtain⟨bv,rfl,_⟩:=z;refine af ?_;refine Ru.cond (λ_=>?_) (λ_=>?_);·refine af ?_;exact Ru.aL (m _ U.gr)
   refine af ?_;exact Ru.wk (r _ (de aa) U)
  refine Ru.exitTo ?_;refine af ?_;refine Ru.nm λP Q p c=>?_;refine Ru.bI c (up (P:=λj=>∀a,(∀i,i<j->∀h:i<B.aq.go.length,B.aq.go[i].args.length<=12)->ak H a [tB cH O [G,I,aU B.aq.op,J,.str B.aq.name,L,N],tB cJ q [.str g.name,aI g.params,aI g.aQ,w]]->Ru ab _ P ([(p6,aN j)]++pk Q [p1,p3,p4]) a) B.aq.go.length (λi hi u a l U=>?_) 0 aa _ (λi hi=>by omega) U);subst p;subst c;refine Ru.loop ?_;refine af ?_;refine Ru.cond (λE=>?_) (λE=>?_)
  .refine af ?_;refine RO.bO U.gr y (λq9 o9 c9 Y t Z hat hrd=>?_) (j:=i);have u:=u (i+1) aa aa;have l:B.aq.go[i].args.length<=12->∀x,x<i+1->∀h:x<B.aq.go.length,B.aq.go[x].args.length<=12:=λhb x R h=>by
    by_cases e:x=i;·subst e;exact hb
    exact l x aa h
   generalize B.aq.go[i]=e at*;obtain⟨av,rfl,d⟩:=t;have⟨D,_,_,_⟩:=d.all;refine af ?_;refine Ru.cond (λ_=>?_) (λ_=>?_);·refine af ?_;exact Ru.aL (m _ U.gr)
   refine af ?_;exact Ru.wk (u _ (l aa) U)
  refine Ru.exitTo ?_;refine af ?_;refine Ru.wk (F _ (f ⟨⟨aa,aa,aa,aa,aa,aa⟩,λs hs=>?_,λs hs=>?_⟩) U.tail);all_goals obtain⟨x,R,rfl⟩:=ah0 hs
  .exact de x aa R
  exact l x aa R
 refine Ru.exitTo ?_;refine af ?_;refine Ru.aL (hF _ U.gr ⟨⟨aa,λb hb=>?_,λb hb=>?_,λb hb=>?_⟩,f1,f3,f4⟩);all_goals obtain⟨i,hi,rfl⟩:=ah0 hb;have:=f i aa hi
 .exact this.bl
 .exact this.st
 exact this.ed
end
end
def mu:List G.Edge->Nat
 |[]=>0
 |e::l=>e.args.length+mu l
def kM:List G.dK->Nat
 |[]=>0
 |b::l=>b.aA.length+mu b.aq.go+kM l
def jT(g:G.aP):Bool:=decide (1500<g.aj.length)||decide (6000<g.aQ)||decide (6000<kM g.aj)
theorem LP{l:List G.Edge}{n:Nat}(h:∀e∈l,e.args.length<=n):mu l<=n*l.length:=by induction l with|nil=>simp[mu]|cons e l a=>grind[List.mem_cons_self,List.mem_cons_of_mem,mu,List.length_cons,Nat.mul_succ]
theorem LQ{l:List G.dK}{n:Nat}(h:∀b∈l,b.aA.length+mu b.aq.go<=n):kM l<=n*l.length:=by induction l with|nil=>simp[kM]|cons e l a=>grind[List.mem_cons_self,List.mem_cons_of_mem,kM,List.length_cons,Nat.mul_succ]
theorem ab6(T:Tb ab){H:ai}{g:G.aP}{cs:List AV}(hg:dt H g cs)(n:G.Sm g){K:KT}(o:∀H',aS H H'->K (.bool (jT g)) H'):YN ab XS [.agg cs] H K:=by
 obtain⟨y,rfl,bG⟩:=hg;have⟨hd,h1,_,P⟩:=bG.all;have hb:=n.nb;have hs:kM g.aj<=1000*g.aj.length:=LQ λb hb=>by have h1:=n.bl b hb;have h2:=LP (n.ed b hb);omega
 refine YF.code T.Z7 aC (au ?_);refine RO.ct (ak.bN H) (λH1 q U=>?_);refine aX ?_;refine Ru.nm λS M p i=>?_;refine Ru.bI i (up (P:=λk=>∀d a,a+kM (g.aj.drop k)=kM g.aj->ak H d [tB cJ q [.str g.name,aI g.params,aI g.aQ,y]]->Ru ab _ S ([(eS,aN k),(p3,aN a)]++pk M [p1,p9,eM]) d) g.aj.length (λk Q z d a r U=>?_) 0 aa _ 0 aC U);subst p;subst i;refine Ru.loop (aX ?_);refine Ru.cond (λh=>?_) (λh=>?_)
 .rw[ah6 h]at r;simp only[kM]at r;have E:=n.bl _ (acm h);refine au ?_;refine RO.bO U.gr bG λA o1 c1 hj c t hat hrd=>?_;have m:=c.one;obtain⟨R,V,W,rfl,_,u,B,X,Y,rfl,_,_,l⟩:=c;have⟨F,_,_,I⟩:=u.all;have⟨J,_,_,L⟩:=l.all;refine aX ?_;refine RO.dS U (λC D U=>?_);refine aX ?_;refine Ru.nm λS M p i=>?_;refine Ru.bI i (up (P:=λj=>∀d x,x+mu (g.aj[k].aq.go.drop j)=a+(g.aj[k].aA.length+mu g.aj[k].aq.go)->ak H d [tB cJ q [.str g.name,aI g.params,aI g.aQ,y]]->Ru ab _ S ([(tc,aN j),(p3,aN x)]++pk M [p1,p9,eM,eS,qq,tb]) d) g.aj[k].aq.go.length (λj hj v d x s U=>?_) 0 aa _ (a+g.aj[k].aA.length) (by simp;omega) U.tail);subst p;subst i;refine Ru.loop (aX ?_);refine Ru.cond (λf=>?_) (λf=>?_);·rw[ah6 f]at s;simp only[mu]at s;refine au ?_;refine RO.bO U.gr l λA o1 c1 hj c t hat hrd=>?_;have m:=c.one;obtain⟨B,rfl,w⟩:=c;have⟨N,_,_,O⟩:=w.all;refine aX ?_;refine RO.dS U (λC D U=>?_);refine aX ?_;exact Ru.wk (v (j+1) aa aa _ (x+g.aj[k].aq.go[j].args.length) aa U.tail)
  refine Ru.exitTo ?_;refine aX ?_;exact Ru.wk (z (k+1) aa aa _ x (by simp[List.drop_of_length_le (show g.aj[k].aq.go.length<=j by omega),mu]at s;omega) U)
 simp only[List.drop_of_length_le (show g.aj.length<=k by omega),kM]at r;have e:a=kM g.aj:=aa;subst e;refine Ru.exitTo ?_;refine aX ?_;refine RO.bW (λh1=>?_) (λh1=>?_);·refine aX ?_;refine Ru.aL ?_;simpa[jT,h1]using o d U.gr
 refine aX ?_;refine RO.bW (λ(h2:(6000:Int)<g.aQ)=>?_) (λ(h2:¬(6000:Int)<g.aQ)=>?_);·refine aX ?_;refine Ru.aL ?_;simpa[jT,h1,h2]using o d U.gr
 refine aX ?_;refine Ru.aL ?_;simpa[jT,h1,h2]using o d U.gr
end
end Go.al.R
end
