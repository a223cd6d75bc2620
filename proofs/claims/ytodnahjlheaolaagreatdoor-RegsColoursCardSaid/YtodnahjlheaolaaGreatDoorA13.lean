/- A part. No conditions. -/
import Derived.Test.YtodnahjlheaolaaGreatDoorA12
set_option linter.all false
set_option maxHeartbeats 16000000
open Int renaming ofNat->ah0
noncomputable section
namespace Go.al.R
section
variable{ac:Nat->aX}
end
variable{A:ai}{B:G.aM}{D:KT}{C:Nat}
section
variable{ac:Nat->aX}
theorem Ru.Gd{c:Cx}{s:List SI}{x:SI}{L:Kn}{P:ai->Prop}(d:List ah)(h1:∀a,P a->Ru ac c s (pk L d) a)(h2:(∀a b,P a->ja (pk L d) b->Ru ac c s b a)->Ru ac c (x::s) L A):Ru ac c (x::s) L A:=h2 λa b e hl=>(h1 a e).rP hl
structure Am(b:G.dI):Prop where
 bl:b.i4.length<=12/\b.aB.length<=40/\b.aq.args.length<=12/\b.aq.bu.length<=12/\b.aq.go.length<=12/\b.aq.i7.length<=60
 st:∀s∈b.aB,s.args.length<=12/\s.i7.length<=250
 ed:∀e∈b.aq.go,e.args.length<=12
structure ny(g:G.aM):Prop where
 sm:G.Sm g
 nb:g.aj.length<=30\/1500<g.aj.length
 nv:g.aO<=200\/6000<g.aO
 nm:g.i7.length<=60
section
variable{cs:List AV}
theorem Be(T:Tb ac)(hg:dc A B cs)(m:∀n,aR A n->D (.bool true) n)(hF:∀n,aR A n->ny B->D (.bool false) n):YN ac V5 [.agg cs] A D:=by
 have E:=hg.one;obtain⟨y,rfl,bz⟩:=hg;have⟨a1,o,a2,a6⟩:=bz.all;refine YF.code T.Yq aC (Ru.seq (Ru.region (RO.bZ (ak.bM A) λH1 q U=>RO.bf (RO.nil (Ru.seq (Ru.Gd (P:=λn=>ak A n [tB cA q [.str B.i7,aI B.i4,aI B.aO,y]]/\(B.aj.length<=30\/1500<B.aj.length)/\B.aj.length<=3000/\(B.aO<=200\/6000<B.aO)/\B.i7.length<=60) [p1] (λH2⟨U,f1,f2,f3,f4⟩=>?_) (λw=>?_)))))));rotate_left
 .repeat'(first|refine nO ?_|refine RO.bP (λ_=>?_) (λ_=>?_))
  all_goals
   first|exact Ru.aL (m _ U.gr)|
    refine Ru.cond (λ_=>?_) (λ_=>?_);·refine ab ?_;exact Ru.aL (m _ U.gr)
    refine Ru.skip ?_;have e1:ah0 200=200:=rfl;have e2:ah0 6000=6000:=rfl;exact w _ _ ⟨U,aa,aa,aa,aa⟩ dw
 refine ab ?_;refine Ru.nm λS0 M hS hM=>Ru.bH hM (up (P:=λk=>∀a,(∀i,i<k->∀h:i<B.aj.length,Am B.aj[i])->ak A a [tB cA q [.str B.i7,aI B.i4,aI B.aO,y]]->Ru ac _ S0 ([(p3,aN k)]++pk M [p1]) a) B.aj.length (λk hk J a f U=>?_) 0 aa _ (λi hi=>by omega) U);subst hS;subst hM;refine Ru.loop (ab ?_);refine Ru.cond (λX=>?_) (λX=>?_)
 .refine ab ?_;refine RO.bL U.gr bz (λq1 o1 c1 hj o a8 hat hrd=>?_) (j:=k);have E:=o.one;obtain⟨L,N,jc,rfl,Y,p,O,P,Q,rfl,Z,ag,z⟩:=o;have⟨a',_,_,_⟩:=Y.all;have⟨ba,_,_,_⟩:=p.all;have⟨bb,_,_,_⟩:=Z.all;have⟨bc,_,_,_⟩:=ag.all;have⟨bv,_,_,_⟩:=z.all;have J:=J (k+1) aa aa;have f:Am B.aj[k]->∀i,i<k+1->∀h:i<B.aj.length,Am B.aj[i]:=λhb i hi h=>by
   by_cases e:i=k;·subst e;exact hb
   exact f i aa h
  generalize B.aj[k]=ca at*;refine ab ?_;refine RO.dD U λH3 R U=>?_;repeat'(first|refine nO ?_|refine RO.bP (λ_=>?_) (λ_=>?_))
  all_goals first|exact Ru.aL (m _ U.gr)|skip
  refine Ru.cond (λ_=>?_) (λ_=>?_);·refine ab ?_;exact Ru.aL (m _ U.gr)
  rename_i b1 b2 b6 b7 b5 b';have U:ak A _ [tB cS R [L,N,aU ca.aq.op,O,.str ca.aq.i7,P,Q],tB cA q [.str B.i7,aI B.i4,aI B.aO,y]]:=U;refine ab ?_;refine Ru.nm λS V r c=>Ru.bH c (up (P:=λj=>∀a,(∀i,i<j->∀h:i<ca.aB.length,ca.aB[i].args.length<=12/\ca.aB[i].i7.length<=250)->ak A a [tB cS R [L,N,aU ca.aq.op,O,.str ca.aq.i7,P,Q],tB cA q [.str B.i7,aI B.i4,aI B.aO,y]]->Ru ac _ S ([(p5,aN j)]++pk V [p1,p3,p4]) a) ca.aB.length (λj hj t a dg U=>?_) 0 aa _ (λi hi=>by omega) U);subst r;subst c;refine Ru.loop (ab ?_);refine Ru.cond (λF=>?_) (λF=>?_)
  .refine ab ?_;refine RO.bL U.gr p (λq9 o9 c9 av u aw hat hrd=>?_) (j:=j);have t:=t (j+1) aa aa;have dg:ca.aB[j].args.length<=12/\ca.aB[j].i7.length<=250->∀i,i<j+1->∀h:i<ca.aB.length,ca.aB[i].args.length<=12/\ca.aB[i].i7.length<=250:=λhb i hi h=>by
    by_cases e:i=j;·subst e;exact hb
    exact dg i aa h
   generalize ax:ca.aB[j]=s at*;obtain⟨ay,rfl,d⟩:=u;have⟨G,_,_,_⟩:=d.all;repeat'(first|refine nO ?_|refine RO.bP (λ_=>?_) (λ_=>?_))
   .refine ab ?_;exact Ru.aL (m _ U.gr)
   refine RO.bL U.gr p (λq8 o8 c8 b0 C b3 hat hrd=>?_) (j:=j);rw[ax]at C;obtain⟨b4,rfl,_⟩:=C;refine ab ?_;refine Ru.cond (λ_=>?_) (λ_=>?_);·refine ab ?_;exact Ru.aL (m _ U.gr)
   refine ab ?_;exact Ru.wk (t _ (dg aa) U)
  refine Ru.exitTo ?_;refine ab ?_;refine Ru.nm λS V r c=>?_;refine Ru.bH c (up (P:=λj=>∀a,(∀i,i<j->∀h:i<ca.aq.go.length,ca.aq.go[i].args.length<=12)->ak A a [tB cS R [L,N,aU ca.aq.op,O,.str ca.aq.i7,P,Q],tB cA q [.str B.i7,aI B.i4,aI B.aO,y]]->Ru ac _ S ([(p6,aN j)]++pk V [p1,p3,p4]) a) ca.aq.go.length (λi hi v a l U=>?_) 0 aa _ (λi hi=>by omega) U);subst r;subst c;refine Ru.loop ?_;refine ab ?_;refine Ru.cond (λI=>?_) (λI=>?_)
  .refine ab ?_;refine RO.bL U.gr z (λq9 o9 c9 av u aw hat hrd=>?_) (j:=i);have v:=v (i+1) aa aa;have l:ca.aq.go[i].args.length<=12->∀x,x<i+1->∀h:x<ca.aq.go.length,ca.aq.go[x].args.length<=12:=λhb x W h=>by
    by_cases e:x=i;·subst e;exact hb
    exact l x aa h
   generalize ca.aq.go[i]=e at*;obtain⟨ay,rfl,d⟩:=u;have⟨G,_,_,_⟩:=d.all;refine ab ?_;refine Ru.cond (λ_=>?_) (λ_=>?_);·refine ab ?_;exact Ru.aL (m _ U.gr)
   refine ab ?_;exact Ru.wk (v _ (l aa) U)
  refine Ru.exitTo ?_;refine ab ?_;refine Ru.wk (J _ (f ⟨⟨aa,aa,aa,aa,aa,aa⟩,λs hs=>?_,λs hs=>?_⟩) U.tail);all_goals obtain⟨x,W,rfl⟩:=ahd hs
  .exact dg x aa W
  exact l x aa W
 refine Ru.exitTo ?_;refine ab ?_;refine Ru.aL (hF _ U.gr ⟨⟨aa,λb hb=>?_,λb hb=>?_,λb hb=>?_⟩,f1,f3,f4⟩);all_goals obtain⟨i,hi,rfl⟩:=ahd hb;have:=f i aa hi
 .exact this.bl
 .exact this.st
 exact this.ed
end
end
section
variable{ac:Nat->aX}
def mu:List G.Edge->Nat
 |[]=>0
 |e::l=>e.args.length+mu l
def kM:List G.dI->Nat
 |[]=>0
 |b::l=>b.aB.length+mu b.aq.go+kM l
def jW(g:G.aM):Bool:=decide (1500<g.aj.length)||decide (6000<g.aO)||decide (6000<kM g.aj)
theorem Md{l:List G.Edge}(h:∀e∈l,e.args.length<=C):mu l<=C*l.length:=by induction l with|nil=>simp[mu]|cons e l a=>grind[List.mem_cons_self,List.mem_cons_of_mem,mu,List.length_cons,Nat.mul_succ]
theorem Me{l:List G.dI}(h:∀b∈l,b.aB.length+mu b.aq.go<=C):kM l<=C*l.length:=by induction l with|nil=>simp[kM]|cons e l a=>grind[List.mem_cons_self,List.mem_cons_of_mem,kM,List.length_cons,Nat.mul_succ]
theorem acm(T:Tb ac){cs:List AV}(hg:dc A B cs)(m:G.Sm B)(n:∀w,aR A w->D (.bool (jW B)) w):YN ac Xb [.agg cs] A D:=by
 obtain⟨y,rfl,bz⟩:=hg;have⟨hd,h1,_,R⟩:=bz.all;have hb:=m.nb;have hs:kM B.aj<=1000*B.aj.length:=Me λb hb=>by have h1:=m.bl b hb;have h2:=Md (m.ed b hb);omega
 refine YF.code T.ZG aC (au ?_);refine RO.bZ (ak.bM A) (λV q U=>?_);refine aS ?_;refine Ru.nm λS M o h=>?_;refine Ru.bH h (up (P:=λk=>∀d a,a+kM (B.aj.drop k)=kM B.aj->ak A d [tB cA q [.str B.i7,aI B.i4,aI B.aO,y]]->Ru ac _ S ([(eD,aN k),(p3,aN a)]++pk M [p1,p9,dS]) d) B.aj.length (λk W z d a p U=>?_) 0 aa _ 0 aC U);subst o;subst h;refine Ru.loop (aS ?_);refine Ru.cond (λg=>?_) (λg=>?_)
 .rw[ahp g]at p;simp only[kM]at p;have I:=m.bl _ (abO g);refine au ?_;refine RO.bL U.gr bz λC o1 c1 hj c s hat hrd=>?_;have l:=c.one;obtain⟨X,Y,Z,rfl,_,t,E,vk,vg,rfl,_,_,i⟩:=c;have⟨J,_,_,L⟩:=t.all;have⟨N,_,_,O⟩:=i.all;refine aS ?_;refine RO.dD U (λF H U=>?_);refine aS ?_;refine Ru.nm λS M o h=>?_;refine Ru.bH h (up (P:=λj=>∀d x,x+mu (B.aj[k].aq.go.drop j)=a+(B.aj[k].aB.length+mu B.aj[k].aq.go)->ak A d [tB cA q [.str B.i7,aI B.i4,aI B.aO,y]]->Ru ac _ S ([(rV,aN j),(p3,aN x)]++pk M [p1,p9,dS,eD,pI,tw]) d) B.aj[k].aq.go.length (λj hj u d x r U=>?_) 0 aa _ (a+B.aj[k].aB.length) (by simp;omega) U.tail);subst o;subst h;refine Ru.loop (aS ?_);refine Ru.cond (λf=>?_) (λf=>?_);·rw[ahp f]at r;simp only[mu]at r;refine au ?_;refine RO.bL U.gr i λC o1 c1 hj c s hat hrd=>?_;have l:=c.one;obtain⟨E,rfl,v⟩:=c;have⟨P,_,_,Q⟩:=v.all;refine aS ?_;refine RO.dD U (λF H U=>?_);refine aS ?_;exact Ru.wk (u (j+1) aa aa _ (x+B.aj[k].aq.go[j].args.length) aa U.tail)
  refine Ru.exitTo ?_;refine aS ?_;exact Ru.wk (z (k+1) aa aa _ x (by simp[List.drop_of_length_le (show B.aj[k].aq.go.length<=j by omega),mu]at r;omega) U)
 simp only[List.drop_of_length_le (show B.aj.length<=k by omega),kM]at p;have e:a=kM B.aj:=aa;subst e;refine Ru.exitTo ?_;refine aS ?_;refine RO.bP (λh1=>?_) (λh1=>?_);·refine aS ?_;refine Ru.aL ?_;simpa[jW,h1]using n d U.gr
 refine aS ?_;refine RO.bP (λ(h2:(6000:Int)<B.aO)=>?_) (λ(h2:¬(6000:Int)<B.aO)=>?_);·refine aS ?_;refine Ru.aL ?_;simpa[jW,h1,h2]using n d U.gr
 refine aS ?_;refine Ru.aL ?_;simpa[jW,h1,h2]using n d U.gr
end
end Go.al.R
end
