/- A part of the proof. No conditions. -/
import Derived.Test.YtjhkgigolpfcfaaGreatDoorA12
set_option linter.all false
set_option maxHeartbeats 16000000
open List renaming mem_cons_of_mem->aey,mem_cons_self->aeU,length_cons->akA
open Nat renaming le_of_ble_eq_true->akc
open Int renaming ofNat->ak1
noncomputable section
namespace Go.am.R
section
variable{ac:Nat->aG}
section
theorem Ru.Je{c:Cx}{s:List SI}{x:SI}{L:Kn}{H:ai}{P:ai->Prop}(d:List ab)(h1:∀a,P a->Ru ac c s (pk L d) a)(h2:(∀a b,P a->ky (pk L d) b->Ru ac c s b a)->Ru ac c (x::s) L H):Ru ac c (x::s) L H:=h2 λa b e hl=>(h1 a e).rZ hl
structure CJ(b:G.gV):Prop where
 bl:b.params.length<=12/\b.aD.length<=40/\b.aA.args.length<=12/\b.aA.b9.length<=12/\b.aA.go.length<=12/\b.aA.name.length<=60
 st:∀s∈b.aD,s.args.length<=12/\s.name.length<=250
 ed:∀e∈b.aA.go,e.args.length<=12
structure EW(g:G.bu):Prop where
 sm:G.Sm g
 nb:g.al.length<=30\/1500<g.al.length
 nv:g.bp<=200\/6000<g.bp
 nm:g.name.length<=60
section
variable{g:G.bu}{H:ai}{cs:List AV}
theorem DE(T:Tb ac)(hg:iG H g cs){K:KT}(m:∀n,bm H n->K (.bool true) n)(hF:∀n,bm H n->EW g->K (.bool false) n):YN ac We [.agg cs] H K:=by
 have C:=hg.one;obtain⟨y,rfl,cA⟩:=hg;have⟨ax,o,ay,a0⟩:=cA.all;refine YF.code T.aaY aB ?_;refine Ru.seq ?_;refine Ru.region ?_;refine RO.dL (aj.dc H) λH1 q U=>?_;refine RO.bg ?_;refine RO.nil ?_;refine Ru.seq ?_;refine Ru.Je (P:=λn=>aj H n [tB fI q [.str g.name,aI g.params,aI g.bp,y]]/\(g.al.length<=30\/1500<g.al.length)/\g.al.length<=3000/\(g.bp<=200\/6000<g.bp)/\g.name.length<=60) [p1] (λH2⟨U,f1,f2,f3,f4⟩=>?_) (λw=>?_);rotate_left
 .repeat'(first|refine rR ?_|refine RO.de (λ_=>?_) (λ_=>?_))
  all_goals
   first|exact Ru.aV (m _ U.gr)|
    refine Ru.cond (λ_=>?_) (λ_=>?_);·refine ah ?_;exact Ru.aV (m _ U.gr)
    refine Ru.skip ?_;have e1:ak1 200=200:=rfl;have e2:ak1 6000=6000:=rfl;refine w _ _ ⟨U,af,af,af,af⟩ ?_;exact fB
 refine ah ?_;refine Ru.nm λS0 M hS hM=>?_;refine Ru.cC hM (up (P:=λk=>∀a,(∀i,i<k->∀h:i<g.al.length,CJ g.al[i])->aj H a [tB fI q [.str g.name,aI g.params,aI g.bp,y]]->Ru ac _ S0 ([(p3,aN k)]++pk M [p1]) a) g.al.length (λk hk G a f U=>?_) 0 af _ (λi hi=>by omega) U);subst hS;subst hM;refine Ru.loop ?_;refine ah ?_;refine Ru.cond (λV=>?_) (λV=>?_)
 .refine ah ?_;refine RO.cZ U.gr cA (λq1 o1 c1 hj o a1 hat hrd=>?_) (j:=k);have C:=o.one;obtain⟨I,J,jc,rfl,W,p,L,N,O,rfl,X,Y,z⟩:=o;have⟨a2,_,_,_⟩:=W.all;have⟨a3,_,_,_⟩:=p.all;have⟨a4,_,_,_⟩:=X.all;have⟨a5,_,_,_⟩:=Y.all;have⟨a6,_,_,_⟩:=z.all;have G:=G (k+1) af af;have f:CJ g.al[k]->∀i,i<k+1->∀h:i<g.al.length,CJ g.al[i]:=λhb i hi h=>by
   by_cases e:i=k;·subst e;exact hb
   exact f i af h
  generalize g.al[k]=B at*;refine ah ?_;refine RO.fx U λH3 P U=>?_;repeat'(first|refine rR ?_|refine RO.de (λ_=>?_) (λ_=>?_))
  all_goals first|exact Ru.aV (m _ U.gr)|skip
  refine Ru.cond (λ_=>?_) (λ_=>?_);·refine ah ?_;exact Ru.aV (m _ U.gr)
  rename_i b1 b2 b3 b4 b5 b6;have U:aj H _ [tB dW P [I,J,aU B.aA.op,L,.str B.aA.name,N,O],tB fI q [.str g.name,aI g.params,aI g.bp,y]]:=U;refine ah ?_;refine Ru.nm λQ R r c=>?_;refine Ru.cC c (up (P:=λj=>∀a,(∀i,i<j->∀h:i<B.aD.length,B.aD[i].args.length<=12/\B.aD[i].name.length<=250)->aj H a [tB dW P [I,J,aU B.aA.op,L,.str B.aA.name,N,O],tB fI q [.str g.name,aI g.params,aI g.bp,y]]->Ru ac _ Q ([(p5,aN j)]++pk R [p1,p3,p4]) a) B.aD.length (λj hj t a eh U=>?_) 0 af _ (λi hi=>by omega) U);subst r;subst c;refine Ru.loop ?_;refine ah ?_;refine Ru.cond (λD=>?_) (λD=>?_)
  .refine ah ?_;refine RO.cZ U.gr p (λq9 o9 c9 Z u ag hat hrd=>?_) (j:=j);have t:=t (j+1) af af;have eh:B.aD[j].args.length<=12/\B.aD[j].name.length<=250->∀i,i<j+1->∀h:i<B.aD.length,B.aD[i].args.length<=12/\B.aD[i].name.length<=250:=λhb i hi h=>by
    by_cases e:i=j;·subst e;exact hb
    exact eh i af h
   generalize av:B.aD[j]=s at*;obtain⟨aw,rfl,d⟩:=u;have⟨E,_,_,_⟩:=d.all;repeat'(first|refine rR ?_|refine RO.de (λ_=>?_) (λ_=>?_))
   .refine ah ?_;exact Ru.aV (m _ U.gr)
   refine RO.cZ U.gr p (λq8 o8 c8 a8 A a9 hat hrd=>?_) (j:=j);rw[av]at A;obtain⟨a',rfl,_⟩:=A;refine ah ?_;refine Ru.cond (λ_=>?_) (λ_=>?_);·refine ah ?_;exact Ru.aV (m _ U.gr)
   refine ah ?_;exact Ru.wk (t _ (eh af) U)
  refine Ru.exitTo ?_;refine ah ?_;refine Ru.nm λQ R r c=>?_;refine Ru.cC c (up (P:=λj=>∀a,(∀i,i<j->∀h:i<B.aA.go.length,B.aA.go[i].args.length<=12)->aj H a [tB dW P [I,J,aU B.aA.op,L,.str B.aA.name,N,O],tB fI q [.str g.name,aI g.params,aI g.bp,y]]->Ru ac _ Q ([(p6,aN j)]++pk R [p1,p3,p4]) a) B.aA.go.length (λi hi v a l U=>?_) 0 af _ (λi hi=>by omega) U);subst r;subst c;refine Ru.loop ?_;refine ah ?_;refine Ru.cond (λF=>?_) (λF=>?_)
  .refine ah ?_;refine RO.cZ U.gr z (λq9 o9 c9 Z u ag hat hrd=>?_) (j:=i);have v:=v (i+1) af af;have l:B.aA.go[i].args.length<=12->∀x,x<i+1->∀h:x<B.aA.go.length,B.aA.go[x].args.length<=12:=λhb x S h=>by
    by_cases e:x=i;·subst e;exact hb
    exact l x af h
   generalize B.aA.go[i]=e at*;obtain⟨aw,rfl,d⟩:=u;have⟨E,_,_,_⟩:=d.all;refine ah ?_;refine Ru.cond (λ_=>?_) (λ_=>?_);·refine ah ?_;exact Ru.aV (m _ U.gr)
   refine ah ?_;exact Ru.wk (v _ (l af) U)
  refine Ru.exitTo ?_;refine ah ?_;refine Ru.wk (G _ (f ⟨⟨af,af,af,af,af,af⟩,λs hs=>?_,λs hs=>?_⟩) U.tail);all_goals obtain⟨x,S,rfl⟩:=aka hs
  .exact eh x af S
  exact l x af S
 refine Ru.exitTo ?_;refine ah ?_;refine Ru.aV (hF _ U.gr ⟨⟨af,λb hb=>?_,λb hb=>?_,λb hb=>?_⟩,f1,f3,f4⟩);all_goals obtain⟨i,hi,rfl⟩:=aka hb;have:=f i af hi
 .exact this.bl
 .exact this.st
 exact this.ed
end
end
def pH:List G.Edge->Nat
 |[]=>0
 |e::l=>e.args.length+pH l
def mJ:List G.gV->Nat
 |[]=>0
 |b::l=>b.aD.length+pH b.aA.go+mJ l
def uc(g:G.bu):Bool:=decide (1500<g.al.length)||decide (6000<g.bp)||decide (6000<mJ g.al)
theorem OV{l:List G.Edge}{n:Nat}(h:∀e∈l,e.args.length<=n):pH l<=n*l.length:=by induction l with|nil=>simp[pH]|cons e l a=>grind[aeU,aey,pH,akA,Nat.mul_succ]
theorem OW{l:List G.gV}{n:Nat}(h:∀b∈l,b.aD.length+pH b.aA.go<=n):mJ l<=n*l.length:=by induction l with|nil=>simp[mJ]|cons e l a=>grind[aeU,aey,mJ,akA,Nat.mul_succ]
theorem aei(T:Tb ac){H:ai}{g:G.bu}{cs:List AV}(hg:iG H g cs)(n:G.Sm g){K:KT}(o:∀y,bm H y->K (.bool (uc g)) y):YN ac Xj [.agg cs] H K:=by
 obtain⟨z,rfl,cA⟩:=hg;have⟨hd,h1,_,Q⟩:=cA.all;have hb:=n.nb;have hs:mJ g.al<=1000*g.al.length:=OW λb hb=>by have h1:=n.bl b hb;have h2:=OV (n.ed b hb);omega
 refine YF.code T.aca aB ?_;refine au ?_;refine RO.dL (aj.dc H) (λH1 q U=>?_);refine bD ?_;refine Ru.nm λS M p i=>?_;refine Ru.cC i (up (P:=λk=>∀d a,a+mJ (g.al.drop k)=mJ g.al->aj H d [tB fI q [.str g.name,aI g.params,aI g.bp,z]]->Ru ac _ S ([(aR,aN k),(p3,aN a)]++pk M [p1,p9,aO]) d) g.al.length (λk R A d a r U=>?_) 0 af _ 0 aB U);subst p;subst i;refine Ru.loop ?_;refine bD ?_;refine Ru.cond (λh=>?_) (λh=>?_)
 .rw[aj9 h]at r;simp only[mJ]at r;have F:=n.bl _ (agB h);refine au ?_;refine RO.cZ U.gr cA λB o1 c1 hj c t hat hrd=>?_;have m:=c.one;obtain⟨V,W,X,rfl,_,u,C,Y,Z,rfl,_,_,l⟩:=c;have⟨I,_,_,J⟩:=u.all;have⟨L,_,_,N⟩:=l.all;refine bD ?_;refine RO.fx U (λD E U=>?_);refine bD ?_;refine Ru.nm λS M p i=>?_;refine Ru.cC i (up (P:=λj=>∀d x,x+pH (g.al[k].aA.go.drop j)=a+(g.al[k].aD.length+pH g.al[k].aA.go)->aj H d [tB fI q [.str g.name,aI g.params,aI g.bp,z]]->Ru ac _ S ([(bK,aN j),(p3,aN x)]++pk M [p1,p9,aO,aR,bO,bL]) d) g.al[k].aA.go.length (λj hj v d x s U=>?_) 0 af _ (a+g.al[k].aD.length) (by simp;omega) U.tail);subst p;subst i;refine Ru.loop ?_;refine bD ?_;refine Ru.cond (λf=>?_) (λf=>?_);·rw[aj9 f]at s;simp only[pH]at s;refine au ?_;refine RO.cZ U.gr l λB o1 c1 hj c t hat hrd=>?_;have m:=c.one;obtain⟨C,rfl,w⟩:=c;have⟨O,_,_,P⟩:=w.all;refine bD ?_;refine RO.fx U (λD E U=>?_);refine bD ?_;exact Ru.wk (v (j+1) af af _ (x+g.al[k].aA.go[j].args.length) af U.tail)
  refine Ru.exitTo ?_;refine bD ?_;exact Ru.wk (A (k+1) af af _ x (by simp[List.drop_of_length_le (show g.al[k].aA.go.length<=j by omega),pH]at s;omega) U)
 simp only[List.drop_of_length_le (show g.al.length<=k by omega),mJ]at r;have e:a=mJ g.al:=af;subst e;refine Ru.exitTo ?_;refine bD ?_;refine RO.de (λh1=>?_) (λh1=>?_);·refine bD ?_;refine Ru.aV ?_;simpa[uc,h1]using o d U.gr
 refine bD ?_;refine RO.de (λ(h2:(6000:Int)<g.bp)=>?_) (λ(h2:¬(6000:Int)<g.bp)=>?_);·refine bD ?_;refine Ru.aV ?_;simpa[uc,h1,h2]using o d U.gr
 refine bD ?_;refine Ru.aV ?_;simpa[uc,h1,h2]using o d U.gr
end
end Go.am.R
end
