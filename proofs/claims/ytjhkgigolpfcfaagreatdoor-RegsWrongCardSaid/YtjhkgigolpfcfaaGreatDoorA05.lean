/- A part of the proof. No conditions. -/
import Derived.Test.YtjhkgigolpfcfaaGreatDoorA04
set_option linter.all false
open List renaming mem_cons_of_mem->aey,mem_cons_self->aeU,length_cons->akA
open Nat renaming le_of_ble_eq_true->akc
open Int renaming ofNat->ak1
noncomputable section
namespace Go.am.R
section
variable{ac:Nat->aG}
section
theorem Ru.Je{c:Cx}{s:List SI}{x:SI}{L:Kn}{H:ai}{P:ai->Prop}(b:List ab)(h1:∀H',P H'->Ru ac c s (pk L b) H')(h2:(∀H' a,P H'->ky (pk L b) a->Ru ac c s a H')->Ru ac c (x::s) L H):Ru ac c (x::s) L H:=h2 λH' a d hl=>(h1 H' d).rZ hl
structure CJ(b:G.gV):Prop where
 bl:b.params.length<=12/\b.aD.length<=40/\b.aA.args.length<=12/\b.aA.b9.length<=12/\b.aA.go.length<=12/\b.aA.name.length<=60
 st:∀s∈b.aD,s.args.length<=12/\s.name.length<=250
 ed:∀e∈b.aA.go,e.args.length<=12
structure EW(g:G.bu):Prop where
 sm:G.Sm g
 nb:g.al.length<=30\/1500<g.al.length
 nv:g.bp<=200\/6000<g.bp
 nm:g.name.length<=60
section
variable{g:G.bu}{H:ai}{cs:List AV}
set_option maxHeartbeats 4000000 in theorem DE(T:Tb ac)(hg:iG H g cs){K:KT}(m:∀H',bm H H'->K (.bool true) H')(hF:∀H',bm H H'->EW g->K (.bool false) H'):YN ac We [.agg cs] H K:=by
 have A:=hg.one;obtain⟨w,rfl,cA⟩:=hg;have⟨av,n,aw,ax⟩:=cA.all;refine YF.code T.aaY aB ?_;refine Ru.seq ?_;refine Ru.region ?_;refine RO.dL (aj.dc H) λH1 q U=>?_;refine RO.bg ?_;refine RO.nil ?_;refine Ru.seq ?_;refine Ru.Je (P:=λH'=>aj H H' [tB fI q [.str g.name,aI g.params,aI g.bp,w]]/\(g.al.length<=30\/1500<g.al.length)/\g.al.length<=3000/\(g.bp<=200\/6000<g.bp)/\g.name.length<=60) [p1] (λH2⟨U,f1,f2,f3,f4⟩=>?_) (λv=>?_);rotate_left
 .repeat'(first|refine rR ?_|refine RO.de (λ_=>?_) (λ_=>?_))
  all_goals
   first|exact Ru.aV (m _ U.gr)|
    refine Ru.cond (λ_=>?_) (λ_=>?_);·refine ah ?_;exact Ru.aV (m _ U.gr)
    refine Ru.skip ?_;have e1:ak1 200=200:=rfl;have e2:ak1 6000=6000:=rfl;refine v _ _ ⟨U,af,af,af,af⟩ ?_;exact fB
 refine ah ?_;refine Ru.nm λS0 M hS hM=>?_;refine Ru.cC hM (up (P:=λk=>∀a,(∀i,i<k->∀h:i<g.al.length,CJ g.al[i])->aj H a [tB fI q [.str g.name,aI g.params,aI g.bp,w]]->Ru ac _ S0 ([(p3,aN k)]++pk M [p1]) a) g.al.length (λk hk F a f U=>?_) 0 af _ (λi hi=>by omega) U);subst hS;subst hM;refine Ru.loop ?_;refine ah ?_;refine Ru.cond (λS=>?_) (λS=>?_)
 .refine ah ?_;refine RO.cZ U.gr cA (λq1 o1 c1 hj n ay hat hrd=>?_) (j:=k);have A:=n.one;obtain⟨G,I,jc,rfl,V,o,J,L,N,rfl,W,X,y⟩:=n;have⟨a1,_,_,_⟩:=V.all;have⟨a2,_,_,_⟩:=o.all;have⟨a6,_,_,_⟩:=W.all;have⟨a8,_,_,_⟩:=X.all;have⟨a',_,_,_⟩:=y.all;have F:=F (k+1) af af;have f:CJ g.al[k]->∀i,i<k+1->∀h:i<g.al.length,CJ g.al[i]:=λhb i hi h=>by
   by_cases e:i=k;·subst e;exact hb
   exact f i af h
  generalize g.al[k]=B at*;refine ah ?_;refine RO.fx U λH3 O U=>?_;repeat'(first|refine rR ?_|refine RO.de (λ_=>?_) (λ_=>?_))
  all_goals first|exact Ru.aV (m _ U.gr)|skip
  refine Ru.cond (λ_=>?_) (λ_=>?_);·refine ah ?_;exact Ru.aV (m _ U.gr)
  rename_i b1 b2 b3 b4 b5 b6;have U:aj H _ [tB dW O [G,I,aU B.aA.op,J,.str B.aA.name,L,N],tB fI q [.str g.name,aI g.params,aI g.bp,w]]:=U;refine ah ?_;refine Ru.nm λP Q p c=>?_;refine Ru.cC c (up (P:=λj=>∀a,(∀i,i<j->∀h:i<B.aD.length,B.aD[i].args.length<=12/\B.aD[i].name.length<=250)->aj H a [tB dW O [G,I,aU B.aA.op,J,.str B.aA.name,L,N],tB fI q [.str g.name,aI g.params,aI g.bp,w]]->Ru ac _ P ([(p5,aN j)]++pk Q [p1,p3,p4]) a) B.aD.length (λj hj r a eh U=>?_) 0 af _ (λi hi=>by omega) U);subst p;subst c;refine Ru.loop ?_;refine ah ?_;refine Ru.cond (λC=>?_) (λC=>?_)
  .refine ah ?_;refine RO.cZ U.gr o (λq9 o9 c9 Y t Z hat hrd=>?_) (j:=j);have r:=r (j+1) af af;have eh:B.aD[j].args.length<=12/\B.aD[j].name.length<=250->∀i,i<j+1->∀h:i<B.aD.length,B.aD[i].args.length<=12/\B.aD[i].name.length<=250:=λhb i hi h=>by
    by_cases e:i=j;·subst e;exact hb
    exact eh i af h
   generalize ag:B.aD[j]=s at*;obtain⟨ar,rfl,d⟩:=t;have⟨D,_,_,_⟩:=d.all;repeat'(first|refine rR ?_|refine RO.de (λ_=>?_) (λ_=>?_))
   .refine ah ?_;exact Ru.aV (m _ U.gr)
   refine RO.cZ U.gr o (λq8 o8 c8 ba z bb hat hrd=>?_) (j:=j);rw[ag]at z;obtain⟨bc,rfl,_⟩:=z;refine ah ?_;refine Ru.cond (λ_=>?_) (λ_=>?_);·refine ah ?_;exact Ru.aV (m _ U.gr)
   refine ah ?_;exact Ru.wk (r _ (eh af) U)
  refine Ru.exitTo ?_;refine ah ?_;refine Ru.nm λP Q p c=>?_;refine Ru.cC c (up (P:=λj=>∀a,(∀i,i<j->∀h:i<B.aA.go.length,B.aA.go[i].args.length<=12)->aj H a [tB dW O [G,I,aU B.aA.op,J,.str B.aA.name,L,N],tB fI q [.str g.name,aI g.params,aI g.bp,w]]->Ru ac _ P ([(p6,aN j)]++pk Q [p1,p3,p4]) a) B.aA.go.length (λi hi u a l U=>?_) 0 af _ (λi hi=>by omega) U);subst p;subst c;refine Ru.loop ?_;refine ah ?_;refine Ru.cond (λE=>?_) (λE=>?_)
  .refine ah ?_;refine RO.cZ U.gr y (λq9 o9 c9 Y t Z hat hrd=>?_) (j:=i);have u:=u (i+1) af af;have l:B.aA.go[i].args.length<=12->∀x,x<i+1->∀h:x<B.aA.go.length,B.aA.go[x].args.length<=12:=λhb x R h=>by
    by_cases e:x=i;·subst e;exact hb
    exact l x af h
   generalize B.aA.go[i]=e at*;obtain⟨ar,rfl,d⟩:=t;have⟨D,_,_,_⟩:=d.all;refine ah ?_;refine Ru.cond (λ_=>?_) (λ_=>?_);·refine ah ?_;exact Ru.aV (m _ U.gr)
   refine ah ?_;exact Ru.wk (u _ (l af) U)
  refine Ru.exitTo ?_;refine ah ?_;refine Ru.wk (F _ (f ⟨⟨af,af,af,af,af,af⟩,λs hs=>?_,λs hs=>?_⟩) U.tail);all_goals obtain⟨x,R,rfl⟩:=aka hs
  .exact eh x af R
  exact l x af R
 refine Ru.exitTo ?_;refine ah ?_;refine Ru.aV (hF _ U.gr ⟨⟨af,λb hb=>?_,λb hb=>?_,λb hb=>?_⟩,f1,f3,f4⟩);all_goals obtain⟨i,hi,rfl⟩:=aka hb;have:=f i af hi
 .exact this.bl
 .exact this.st
 exact this.ed
end
end
theorem OT:∀{l:List Nat}{k:Nat}(h:k<l.length),Bc l k=some l[k]|_::_,0,_=>rfl|_::l,k+1,h=>OT (l:=l) (by simpa using h)
theorem RO.nu{c:Cx}{s:List SI}{L:Kn}{H:ai}{d:Option ab}{l:List be}{x y:aJ}{t:List Nat}{j kd:Nat}(hj:j<t.length)(h:RO ac c l s (bC L d (.int 4 (.ofNat t[j]))) H)(b:bf L x=.str t:=by exact cw)(e:bf L y=.int kd (.ofNat j):=by exact cw):RO ac c (⟨d,.nu x y,none,[],[]⟩::l) s L H:=RO.op (λaa a=>by simp only[aE,a.gv b rfl,a.gv e rfl,OT hj,akt]) h
theorem sx(T:Tb ac){H:ai}{a b n:Int}{K:KT}(h1:a<=n->n<=b->K (.bool true) H)(h2:¬(a<=n/\n<=b)->K (.bool false) H):YN ac WE [.int 3 n,.int 3 a,.int 3 b] H K:=by
 refine YF.code T.abq aB ?_;repeat'(first|refine rR ?_|refine RO.de (λ_=>?_) (λ_=>?_))
 .rename_i d;by_cases c:n<=b;·rw[decide_eq_true c];exact Ru.aV (h1 d c)
  rw[decide_eq_false c];exact Ru.aV (h2 λh=>c h.2)
 rename_i d;exact Ru.aV (h2 λh=>d h.1)
theorem EX(T:Tb ac){H:ai}{t:List Nat}(hb:∀x∈t,x<256)(hl:t.length<=1000000){K:KT}(h1:su t->K (.bool true) H)(h2:K (.bool false) H):YN ac WK [.str t] H K:=by
 refine YF.code T.aby aB ?_;refine ah ?_;refine Ru.nm λS M j f=>?_;refine Ru.cC f (up (P:=λk=>(∀i,i<k->∀h:i<t.length,33<=t[i]/\t[i]<=126/\t[i]≠34)->Ru ac _ S ([(p3,aN k)]++pk M [p0]) H) t.length (λk o l g=>?_) 0 af (λi hi=>by omega));subst j;subst f;refine Ru.loop ?_;refine ah ?_;refine Ru.cond (λa=>?_) (λa=>?_)
 .have n:=hb _ (agB a);refine ah ?_;refine RO.nu a ?_ (j:=k);refine RO.kX ?_;rw[pY (n:=.ofNat t[k]) (by rw[aj5];omega) (by rw[aj5];omega)];refine RO.cl (sx T (λc d=>?_) (λ_=>?_))
  .refine ah ?_;refine RO.nu a ?_ (j:=k);refine ah ?_;refine Ru.cond (λm=>?_) (λm=>?_);·refine ah ?_;exact Ru.aV h2
   refine ah ?_;refine Ru.wk (l (k+1) af af λi hi h=>?_);by_cases e:i=k;·subst e;simp only[aj5]at c d;omega
   exact g i af h
  refine ah ?_;exact Ru.aV h2
 refine Ru.exitTo ?_;refine ah ?_;refine RO.cl (sx T (λc d=>?_) (λ_=>?_));·refine ah ?_;refine Ru.aV (h1 ⟨by simp only[aj5]at c;omega,by simp only[aj5]at d;omega,λb hb=>?_⟩);obtain⟨i,hi,rfl⟩:=aka hb;exact g i af hi
 refine ah ?_;exact Ru.aV h2
theorem aeh(T:Tb ac){H:ai}{t:List Nat}(hb:∀x∈t,x<256)(hl:t.length<=1000000){K:KT}(h1:EO t->K (.bool true) H)(h2:K (.bool false) H):YN ac W3 [.str t] H K:=by
 refine YF.code T.abU aB ?_;refine ah ?_;refine Ru.nm λS M l g=>?_;refine Ru.cC g (up (P:=λk=>(∀i,i<k->∀h:i<t.length,(32<=t[i]/\t[i]<=126)\/t[i]=10)->Ru ac _ S ([(p3,aN k)]++pk M [p0]) H) t.length (λk p f j=>?_) 0 af (λi hi=>by omega));subst l;subst g;refine Ru.loop ?_;refine ah ?_;refine Ru.cond (λa=>?_) (λa=>?_)
 .have o:=hb _ (agB a);have f:=f (k+1) af af;have d:(32<=t[k]/\t[k]<=126)\/t[k]=10->∀i,i<k+1->∀h:i<t.length,(32<=t[i]/\t[i]<=126)\/t[i]=10:=λhg i hi h=>by
   by_cases e:i=k;·subst e;exact hg
   exact j i af h
  refine ah ?_;refine RO.nu a ?_ (j:=k);refine RO.kX ?_;rw[pY (n:=.ofNat t[k]) (by rw[aj5];omega) (by rw[aj5];omega)];refine RO.cl (sx T (λm c=>?_) (λ_=>?_));·refine ah ?_;exact Ru.wk (f (d (.inl (by simp only[aj5]at m c;omega))))
  refine ah ?_;refine RO.nu a ?_ (j:=k);refine ah ?_;refine Ru.cond (λn=>?_) (λn=>?_);·refine ah ?_;exact Ru.aV h2
  refine ah ?_;exact Ru.wk (f (d (.inr af)))
 refine Ru.exitTo ?_;refine ah ?_;by_cases c:t.length<=200;·rw[decide_eq_true c];refine Ru.aV (h1 ⟨c,λb hb=>?_⟩);obtain⟨i,hi,rfl⟩:=aka hb;exact j i af hi
 rw[decide_eq_false c];exact Ru.aV h2
theorem Jf(T:Tb ac){H:ai}{l:List Int}{v:AV}(b:fZ H l v)(hl:l.length<=1000000){n:Int}(p:0<=n)(w:n<=1000000){K:KT}(h1:(∀x∈l,0<=x/\x<=n - 1)->K (.bool true) H)(h2:K (.bool false) H):YN ac W2 [v,.int 3 n] H K:=by
 have⟨q,r,s,t⟩:=b.all;refine YF.code T.abT aB ?_;refine ah ?_;refine Ru.nm λS M f c=>?_;refine Ru.cC c (up (P:=λk=>(∀i,i<k->∀h:i<l.length,0<=l[i]/\l[i]<=n - 1)->Ru ac _ S ([(p5,aN k)]++pk M [p0,p1]) H) l.length (λk y g d=>?_) 0 af (λi hi=>by omega));subst f;subst c;refine Ru.loop ?_;refine ah ?_;refine Ru.cond (λa=>?_) (λa=>?_)
 .refine ah ?_;refine RO.kz (bm.refl H) b (λz o1 hj u=>?_) (j:=k);refine ah ?_;refine RO.sub ?_ (a:=n) (b:=1);refine RO.cl (sx T (λj m=>?_) (λ_=>?_))
  .refine ah ?_;refine Ru.wk (g (k+1) af af λi hi h=>?_);by_cases e:i=k;·subst e;exact⟨j,m⟩
   exact d i af h
  refine ah ?_;exact Ru.aV h2
 refine Ru.exitTo ?_;refine ah ?_;refine Ru.aV (h1 λx o=>?_);obtain⟨i,hi,rfl⟩:=aka o;exact d i af hi
theorem OU(T:Tb ac){H:ai}{l:List Int}{v:AV}(c:fZ H l v)(hl:l.length<=1000000){n:Int}{K:KT}(h1:n∈l->K (.bool true) H)(h2:n∉l->K (.bool false) H):YN ac WD [v,.int 3 n] H K:=by
 have⟨o,p,q,r⟩:=c.all;refine YF.code T.abp aB ?_;refine ah ?_;refine Ru.nm λS M g d=>?_;refine Ru.cC d (up (P:=λk=>(∀i,i<k->∀h:i<l.length,l[i]≠n)->Ru ac _ S ([(p5,aN k)]++pk M [p0,p1]) H) l.length (λk t j f=>?_) 0 af (λi hi=>by omega));subst g;subst d;refine Ru.loop ?_;refine ah ?_;refine Ru.cond (λa=>?_) (λa=>?_)
 .refine ah ?_;refine RO.kz (bm.refl H) c (λu o1 hj s=>?_) (j:=k);refine ah ?_;refine Ru.cond (λb=>?_) (λb=>?_);·refine ah ?_;exact Ru.aV (h1 (b▸agB a))
  refine ah ?_;refine Ru.wk (j (k+1) af af λi hi h=>?_);by_cases e:i=k;·subst e;exact b
  exact f i af h
 refine Ru.exitTo ?_;refine ah ?_;refine Ru.aV (h2 λm=>?_);obtain⟨i,hi,e⟩:=aka m;exact f i af hi e
def pH:List G.Edge->Nat
 |[]=>0
 |e::l=>e.args.length+pH l
def mJ:List G.gV->Nat
 |[]=>0
 |b::l=>b.aD.length+pH b.aA.go+mJ l
def uc(g:G.bu):Bool:=decide (1500<g.al.length)||decide (6000<g.bp)||decide (6000<mJ g.al)
theorem OV{l:List G.Edge}{n:Nat}(h:∀e∈l,e.args.length<=n):pH l<=n*l.length:=by induction l with|nil=>simp[pH]|cons e l a=>grind[aeU,aey,pH,akA,Nat.mul_succ]
theorem OW{l:List G.gV}{n:Nat}(h:∀b∈l,b.aD.length+pH b.aA.go<=n):mJ l<=n*l.length:=by induction l with|nil=>simp[mJ]|cons e l a=>grind[aeU,aey,mJ,akA,Nat.mul_succ]
theorem aei(T:Tb ac){H:ai}{g:G.bu}{cs:List AV}(hg:iG H g cs)(n:G.Sm g){K:KT}(o:∀H',bm H H'->K (.bool (uc g)) H'):YN ac Xj [.agg cs] H K:=by
 obtain⟨y,rfl,cA⟩:=hg;have⟨hd,h1,_,P⟩:=cA.all;have hb:=n.nb;have hs:mJ g.al<=1000*g.al.length:=OW λb hb=>by have h1:=n.bl b hb;have h2:=OV (n.ed b hb);omega
 refine YF.code T.aca aB ?_;refine au ?_;refine RO.dL (aj.dc H) (λH1 q U=>?_);refine bD ?_;refine Ru.nm λS M p i=>?_;refine Ru.cC i (up (P:=λk=>∀d a,a+mJ (g.al.drop k)=mJ g.al->aj H d [tB fI q [.str g.name,aI g.params,aI g.bp,y]]->Ru ac _ S ([(aR,aN k),(p3,aN a)]++pk M [p1,p9,aO]) d) g.al.length (λk Q z d a r U=>?_) 0 af _ 0 aB U);subst p;subst i;refine Ru.loop ?_;refine bD ?_;refine Ru.cond (λh=>?_) (λh=>?_)
 .rw[aj9 h]at r;simp only[mJ]at r;have E:=n.bl _ (agB h);refine au ?_;refine RO.cZ U.gr cA λA o1 c1 hj c t hat hrd=>?_;have m:=c.one;obtain⟨R,V,W,rfl,_,u,B,X,Y,rfl,_,_,l⟩:=c;have⟨F,_,_,I⟩:=u.all;have⟨J,_,_,L⟩:=l.all;refine bD ?_;refine RO.fx U (λC D U=>?_);refine bD ?_;refine Ru.nm λS M p i=>?_;refine Ru.cC i (up (P:=λj=>∀d x,x+pH (g.al[k].aA.go.drop j)=a+(g.al[k].aD.length+pH g.al[k].aA.go)->aj H d [tB fI q [.str g.name,aI g.params,aI g.bp,y]]->Ru ac _ S ([(bK,aN j),(p3,aN x)]++pk M [p1,p9,aO,aR,bO,bL]) d) g.al[k].aA.go.length (λj hj v d x s U=>?_) 0 af _ (a+g.al[k].aD.length) (by simp;omega) U.tail);subst p;subst i;refine Ru.loop ?_;refine bD ?_;refine Ru.cond (λf=>?_) (λf=>?_);·rw[aj9 f]at s;simp only[pH]at s;refine au ?_;refine RO.cZ U.gr l λA o1 c1 hj c t hat hrd=>?_;have m:=c.one;obtain⟨B,rfl,w⟩:=c;have⟨N,_,_,O⟩:=w.all;refine bD ?_;refine RO.fx U (λC D U=>?_);refine bD ?_;exact Ru.wk (v (j+1) af af _ (x+g.al[k].aA.go[j].args.length) af U.tail)
  refine Ru.exitTo ?_;refine bD ?_;exact Ru.wk (z (k+1) af af _ x (by simp[List.drop_of_length_le (show g.al[k].aA.go.length<=j by omega),pH]at s;omega) U)
 simp only[List.drop_of_length_le (show g.al.length<=k by omega),mJ]at r;have e:a=mJ g.al:=af;subst e;refine Ru.exitTo ?_;refine bD ?_;refine RO.de (λh1=>?_) (λh1=>?_);·refine bD ?_;refine Ru.aV ?_;simpa[uc,h1]using o d U.gr
 refine bD ?_;refine RO.de (λ(h2:(6000:Int)<g.bp)=>?_) (λ(h2:¬(6000:Int)<g.bp)=>?_);·refine bD ?_;refine Ru.aV ?_;simpa[uc,h1,h2]using o d U.gr
 refine bD ?_;refine Ru.aV ?_;simpa[uc,h1,h2]using o d U.gr
section
section
variable{g:G.bu}{H:ai}{cs:List AV}
theorem aej(T:Tb ac)(hg:iG H g cs)(p:G.Sm g){K:KT}(h1:∀H',bm H H'->uc g=false->K (.bool true) H')(h2:∀H',bm H H'->K (.bool false) H'):YN ac Ws [.agg cs] H K:=by
 have F:=hg.one;obtain⟨W,rfl,cA⟩:=hg;have⟨J,a,L,N⟩:=cA.all;have hb:=p.nb;have hs:mJ g.al<=1000*g.al.length:=OW λb hb=>by have h1:=p.bl b hb;have h2:=OV (p.ed b hb);omega
 refine YF.code T.abc aB ?_;refine ah ?_;refine RO.dL (aj.dc H) (λH1 q U=>?_);refine ah ?_;refine Ru.nm λS M s m=>?_;refine Ru.cC m (up (P:=λk=>∀c,c+mJ (g.al.drop k)=mJ g.al->Ru ac _ S ([(p4,aN k),(p3,aN c)]++pk M [p1]) H1) g.al.length (λk X I c t=>?_) 0 af 0 aB);subst s;subst m;refine Ru.loop ?_;refine ah ?_;refine Ru.cond (λh=>?_) (λh=>?_)
 .rw[aj9 h]at t;simp only[mJ]at t;have O:=p.bl _ (agB h);refine ah ?_;refine RO.cZ U.gr cA (λu o1 c1 hj a i hat hrd=>?_) (j:=k);obtain⟨A,B,C,rfl,_,l,v,D,r,rfl,_,_,d⟩:=a;have⟨P,_,_,Q⟩:=l.all;have⟨n,_,_,o⟩:=d.all;refine ah ?_;refine Ru.nm λS M s m=>?_;refine Ru.cC m (up (P:=λj=>∀x,x+pH (g.al[k].aA.go.drop j)=c+(g.al[k].aD.length+pH g.al[k].aA.go)->Ru ac _ S ([(p5,aN j),(p3,aN x)]++pk M [p1,p4]) H1) g.al[k].aA.go.length (λj hj y x w=>?_) 0 af (c+g.al[k].aD.length) (by simp;omega));subst s;subst m;refine Ru.loop ?_;refine ah ?_;refine RO.cZ U.gr cA (λu o1 c1 hj a i hat hrd=>?_) (j:=k);obtain⟨A,B,C,rfl,_,l,v,D,r,rfl,_,_,d⟩:=a;have⟨n,_,_,o⟩:=d.all;refine ah ?_;refine RO.aW (v:=r) ?_ (hc:=hat 6 _ rfl);refine ah ?_;refine Ru.cond (λf=>?_) (λf=>?_);·rw[aj9 f]at w;simp only[pH]at w;refine ah ?_;refine RO.cZ U.gr cA (λu o1 c1 hj a i hat hrd=>?_) (j:=k);obtain⟨A,B,C,rfl,_,l,v,D,r,rfl,_,_,d⟩:=a;have⟨n,_,_,o⟩:=d.all;refine ah ?_;refine RO.aW (v:=r) ?_ (hc:=hat 6 _ rfl);refine ah ?_;refine RO.cZ U.gr d (λu o1 c1 hj a i hat hrd=>?_) (j:=j);obtain⟨v,rfl,z⟩:=a;have⟨R,_,_,V⟩:=z.all;refine ah ?_;exact Ru.wk (y (j+1) af af (x+g.al[k].aA.go[j].args.length) af)
  refine Ru.exitTo ?_;refine ah ?_;exact Ru.wk (I (k+1) af af x (by simp[List.drop_of_length_le (show g.al[k].aA.go.length<=j by omega),pH]at w;omega))
 simp only[List.drop_of_length_le (show g.al.length<=k by omega),mJ]at t;have e:c=mJ g.al:=af;subst e;refine Ru.exitTo ?_;have e1:ak1 6000=6000:=rfl;repeat'(first|refine rR ?_|refine RO.de (λ_=>?_) (λ_=>?_))
 .rename_i Y Z;by_cases E:mJ g.al<=6000;·rw[decide_eq_true E];exact Ru.aV (h1 _ U.gr (by simp only[uc,Bool.or_eq_false_iff,decide_eq_false_iff_not];omega))
  rw[decide_eq_false E];exact Ru.aV (h2 _ U.gr)
 all_goals exact Ru.aV (h2 _ U.gr)
theorem aek(T:Tb ac){t:List Nat}{K:KT}(h:K (aN (iu t)) H):YN ac W4 [.str t] H K:=by
 refine YF.code T.abV aB ?_;repeat'(first|refine rR ?_|(refine Ru.kN (λa=>?_) (λa=>?_)<;>rw[a]))
 all_goals first|(rw[qv,decide_eq_true_eq]at a;subst a;exact Ru.aV (by simpa[iu,Cu,Cv,Cw]using h))|skip
 simp only[qv,decide_eq_false_iff_not]at*;exact Ru.aV (by simpa[iu,Cu,Cv,Cw, *]using h)
end
end
structure rm where
 w:List Nat
 to:Bool
 sy:Int
 n:Bool
 lo:Int
 hi:Int
 nm:Int
 go:Int
def Jg(s:rm):AV:=.agg [.str s.w,.bool s.to,aI s.sy,.bool s.n,aI s.lo,aI s.hi,aI s.nm,aI s.go]
def OX:rm:=⟨[],false,0,false,0,0,0,0⟩
def ud(op:Nat):List (Nat×rm)->rm
 |[]=>OX
 |p::l=>if op=p.1 then p.2 else ud op l
def EY:List (Nat×rm):=[(1,⟨[105,110,116],true,0,true,(-1000000000),1000000000,0,0⟩),(2,⟨[98,111,111,108],true,0,true,0,1,0,0⟩),(3,⟨[116,101,120,116],true,0,false,0,0,1,0⟩),(4,⟨[117,110,105,116],true,0,false,0,0,0,0⟩),(11,⟨[102,110],true,0,false,0,0,2,0⟩),(40,⟨[99,108,111,115,101],true,(-1),false,0,0,2,0⟩),(14,⟨[112,114,105,109],true,(-1),false,0,0,3,0⟩),(15,⟨[110,101,119],true,(-1),false,0,0,4,0⟩),(16,⟨[103,101,116],true,1,true,0,5,5,0⟩),(17,⟨[112,117,116],false,2,true,0,5,5,0⟩),(18,⟨[99,97,115,101],true,(-1),false,0,0,6,0⟩),(13,⟨[99,97,108,108],true,(-2),false,0,0,0,0⟩),(21,⟨[116,104,114,111,119],false,1,false,0,0,0,0⟩),(23,⟨[115,112,97,119,110],false,1,false,0,0,0,0⟩),(24,⟨[99,104,97,110],true,0,true,1,8,0,0⟩),(25,⟨[115,101,110,100],false,2,false,0,0,0,0⟩),(26,⟨[114,101,99,118],true,1,false,0,0,0,0⟩),(31,⟨[121,105,101,108,100],false,0,false,0,0,0,0⟩),(32,⟨[111,117,116],false,1,false,0,0,0,0⟩),(33,⟨[105,110],true,0,false,0,0,0,0⟩),(34,⟨[99,111,108,108,101,99,116],false,0,false,0,0,0,0⟩),(35,⟨[119,101,97,107],true,1,false,0,0,0,0⟩)]
def yM:List (Nat×rm):=[(37,⟨[114,111,111,116],true,0,false,0,0,7,0⟩),(38,⟨[115,101,116,114,111,111,116],false,1,false,0,0,7,0⟩),(39,⟨[116,105,99,107],false,0,false,0,0,0,0⟩),(60,⟨[109,111,118,101],true,1,false,0,0,0,0⟩),(61,⟨[103,111],false,0,false,0,0,0,1⟩),(62,⟨[105,102],false,1,false,0,0,0,2⟩),(63,⟨[105,115],false,1,false,0,0,6,2⟩),(64,⟨[112,97,114,116],true,1,true,0,3,0,0⟩),(65,⟨[104,111,108,100],true,1,false,0,0,0,2⟩),(66,⟨[115,101,108,101,99,116],false,0,false,0,0,0,0⟩),(67,⟨[116,114,121],true,0,false,0,0,0,1⟩),(68,⟨[101,110,100],false,0,false,0,0,0,0⟩),(69,⟨[114,101,116],false,1,false,0,0,0,0⟩),(70,⟨[115,116,117,99,107],false,0,false,0,0,0,0⟩)]
def sA(op:Nat):rm:=ud op (EY++yM)
set_option maxHeartbeats 4000000 in theorem ael(T:Tb ac){H:ai}{op:Nat}{K:KT}(a:∀H',bm H H'->K (Jg (ud op yM)) H'):YN ac Xs [aU op] H K:=by
 refine YF.code T.acm aB ?_;refine au ?_;refine RO.gI (aj.dc H) λH1 q U=>?_;refine ah ?_;iterate 14
  refine Ru.cond (λb=>?_) (λb=>?_);·subst b;refine ah ?_;refine RO.iT U 0 (λc U=>?_);refine ah ?_;exact Ru.lM (vs:=[_]) ⟨⟨q,0,rfl,U.agg 0⟩,trivial⟩ (a _ U.gr)
  refine ah ?_
 have e:ud op yM=OX:=by simp only[yM,ud, *,bP]
 rw[e]at a;refine RO.iT U 0 (λc U=>?_);refine ah ?_;exact Ru.lM (vs:=[_]) ⟨⟨q,0,rfl,U.agg 0⟩,trivial⟩ (a _ U.gr)
set_option maxHeartbeats 4000000 in theorem Jh(T:Tb ac){H:ai}{op:Nat}{K:KT}(b:∀H',bm H H'->K (Jg (sA op)) H'):YN ac Xh [aU op] H K:=by
 refine YF.code T.ab8 aB ?_;refine au ?_;refine RO.gI (aj.dc H) λH1 q U=>?_;refine ah ?_;refine Ru.cond (λa=>?_) (λa=>?_);·subst a;refine ah ?_;refine RO.iT U 0 (λc U=>?_);refine ah ?_;exact Ru.lM (vs:=[_]) ⟨⟨q,0,rfl,U.agg 0⟩,trivial⟩ (b _ U.gr)
 refine ah ?_;iterate 21
  refine Ru.cond (λa=>?_) (λa=>?_);·subst a;refine ah ?_;refine RO.iT U 0 (λc U=>?_);refine ah ?_;exact Ru.lM (vs:=[_]) ⟨⟨q,0,rfl,U.agg 0⟩,trivial⟩ (b _ U.gr)
  refine ah ?_
 have e:sA op=ud op yM:=by simp only[sA,EY,akV,ak0,ud, *,bP]
 rw[e]at b;refine RO.cl (ael T λc hg=>?_);have U:=U.cI hg;refine RO.iT U 0 (λd U=>?_);refine ah ?_;exact Ru.lM (vs:=[_]) ⟨⟨q,0,rfl,U.agg 0⟩,trivial⟩ (b _ U.gr)
def ue(op:Nat)(m:Int):rm:=if op=13/\m=1 then⟨[102,114,101,101],true, -3,false,0,0,2,0⟩else sA op
theorem aem(T:Tb ac){H:ai}{op:Nat}{m:Int}{K:KT}(b:∀H',bm H H'->K (Jg (ue op m)) H'):YN ac W1 [aU op,aI m] H K:=by
 refine YF.code T.abS aB ?_;refine au ?_;refine RO.gI (aj.dc H) λH1 q U=>?_;repeat'(first|refine rR ?_|refine RO.de (λ_=>?_) (λ_=>?_))
 .rename_i a;refine Ru.cond (λc=>?_) (λc=>?_);·rw[ue,aK ⟨a,c⟩]at b;refine ah ?_;refine RO.iT U 0 (λd U=>?_);refine ah ?_;exact Ru.lM (vs:=[_]) ⟨⟨q,0,rfl,U.agg 0⟩,trivial⟩ (b _ U.gr)
  rw[ue,aq λh=>c h.2]at b;refine ah ?_;refine RO.cl (Jh T λd hg=>?_);have U:=U.cI hg;refine RO.iT U 0 (λe U=>?_);refine ah ?_;exact Ru.lM (vs:=[_]) ⟨⟨q,0,rfl,U.agg 0⟩,trivial⟩ (b _ U.gr)
 rename_i a;rw[ue,aq λh=>a h.1]at b;refine RO.cl (Jh T λd hg=>?_);have U:=U.cI hg;refine RO.iT U 0 (λe U=>?_);refine ah ?_;exact Ru.lM (vs:=[_]) ⟨⟨q,0,rfl,U.agg 0⟩,trivial⟩ (b _ U.gr)
section
theorem Ru.aen{c:Cx}{s:List SI}{x:SI}{L:Kn}{H:ai}(P:Kn->ai->Prop)(h1:∀M H',P M H'->Ru ac c s M H')(h2:(∀H' a M,P M H'->ky M a->Ru ac c s a H')->Ru ac c (x::s) L H):Ru ac c (x::s) L H:=h2 λH' a M b hl=>(h1 M H' b).rZ hl
def CM:List Nat:=[21,60,61,62,63,65,66,67,68,69,70]
theorem aeo(T:Tb ac){H:ai}{op:Nat}{K:KT}(h1:∀H',bm H H'->op∉CM->(sA op).w≠ []->K (.bool true) H')(h2:∀H',bm H H'->K (.bool false) H'):YN ac W0 [aU op] H K:=by
 refine YF.code T.abR aB ?_;repeat'(first|refine rR ?_|(refine Ru.kN (λc=>?_) (λc=>?_)<;>rw[c]))
 rotate_right
 .have b:op∉CM:=by simp only[decide_eq_false_iff_not]at*;simp[CM, *]
  refine RO.cl (Jh T λd hg=>?_);refine ah ?_;by_cases a:(sA op).w=[]
  .have e:j8 (sA op).w []=true:=by rw[qv];simpa using a
   rw[e];exact Ru.aV (h2 _ hg)
  have e:j8 (sA op).w []=false:=by rw[qv];simpa using a
  rw[e];exact Ru.aV (h1 _ hg b a)
 all_goals exact Ru.aV (h2 _ (bm.refl H))
def sB(m:Int)(l:Nat):Prop:=m= -1\/m= -2/\1<=l/\l<=7\/m= -3/\l<=6\/m=l
def yN(nm:Int)(t:List Nat):Prop:=if nm=0 then t=[]else if nm=1 then EO t else if nm=3 then iu t≠0 else su t
def OY(f:rm)(t:List Nat):Int:=if f.nm=3 then iu t else f.sy
structure EZ(x:G.ic)(v:Int)(f:rm):Prop where
 to:f.to=decide (0<=x.to)
 t0: -1<=x.to
 t1:x.to<v
 pF:∀a∈x.args,0<=a/\a<=v - 1
 num:f.n=true->f.lo<=x.n/\x.n<=f.hi
 nun:f.n=false->x.n=0
 xx:x.m=0\/x.op=13/\x.m=1
 name:yN f.nm x.name
 mn:x.op=15\/x.op=18->x.args.length<=6
 mo:x.op≠15->x.op≠18->sB (OY f x.name) x.args.length
section
variable{g:G.bu}{H:ai}{cs:List AV}
set_option maxHeartbeats 8000000 in theorem aeq(T:Tb ac){x:G.ic}(A:qT H x cs)(hb:∀c∈x.name,c<256)(V:x.name.length<=1000)(W:x.args.length<=1000){v:Int}(z:0<=v)(X:v<=6000){K:KT}(h1:∀H',bm H H'->x.op∉CM->(sA x.op).w≠ []->EZ x v (ue x.op x.m)->K (.bool true) H')(h2:∀H',bm H H'->K (.bool false) H'):YN ac WL [.agg cs,aI v] H K:=by
 have E:=A.one;obtain⟨s,rfl,r⟩:=A;have⟨Y,Z,ag,ar⟩:=r.all;refine YF.code T.abz aB ?_;refine ah ?_;refine RO.dL (aj.dc H) λH1 q U=>?_;refine ah ?_;refine RO.cl (aeo T (λB hg j g=>?_) (λB hg=>?_));rotate_left;·refine ah ?_;exact Ru.aV (h2 _ (U.gr.trans hg))
 have U:=U.cI hg;have U:aj H B [tB qU q [aU x.op,aI x.to,s,aI x.n,aI x.m,.str x.name]]:=U;refine ah ?_;refine RO.cl (aem T λH3 hg=>?_);have U:=U.cI hg;generalize ue x.op x.m=f at*;obtain⟨w,to,sy,n,lo,hi,nm,go⟩:=f;refine RO.fx U λH4 t U=>?_;refine RO.nil ?_;refine Ru.seq ?_;refine Ru.Je (P:=λH'=>aj H H' [tB Im t [.str w,.bool to,aI sy,.bool n,aI lo,aI hi,aI nm,aI go],tB qU q [aU x.op,aI x.to,s,aI x.n,aI x.m,.str x.name]]/\to=decide (0<=x.to)/\ -1<=x.to/\x.to<v/\∀a∈x.args,0<=a/\a<=v - 1) [p1,p2,p5] (λH5⟨U,F,I,J,L⟩=>?_) (λe=>?_);rotate_left
 .refine ah ?_;refine RO.eq (t:=to==decide (0<=x.to)) ?_ (ht:=rfl);refine ah ?_;refine RO.tq (λht=>?_) (λht=>?_);·refine ah ?_;exact Ru.aV (h2 _ U.gr)
  repeat'(first|refine rR ?_|refine RO.de (λ_=>?_) (λ_=>?_))
  all_goals first|exact Ru.aV (h2 _ U.gr)|skip
  refine RO.cl (Jf T (U.gr.sl r) af z af (λl=>?_) ?_);·refine iS ?_;refine e _ _ ⟨U,by simpa using ht,by simp only[Int.negSucc_eq]at*;omega,af,l⟩ ?_;exact fB
  refine ah ?_;exact Ru.aV (h2 _ U.gr)
 refine Ru.seq ?_;refine Ru.Je (P:=λH'=>aj H H' [tB Im t [.str w,.bool to,aI sy,.bool n,aI lo,aI hi,aI nm,aI go],tB qU q [aU x.op,aI x.to,s,aI x.n,aI x.m,.str x.name]]/\(n=true->lo<=x.n/\x.n<=hi)/\(n=false->x.n=0)/\(x.m=0\/x.op=13/\x.m=1)) [p1,p2,p5] (λH6⟨U,N,O,P⟩=>?_) (λe=>?_);rotate_left
 .refine Ru.seq ?_;refine Ru.region ?_;refine iS ?_;cases n with
  |true=>
   refine iS ?_;refine RO.cl (sx T (λj g=>?_) (λ_=>?_));rotate_left;·refine ah ?_;exact Ru.aV (h2 _ U.gr)
   refine iS ?_;refine RO.de (λi=>?_) (λi=>?_);rotate_left;·refine iS ?_;refine e _ _ ⟨U,λ_=>⟨j,g⟩,λh=>(by cases h),.inl (by simpa using i)⟩ ?_;exact fB
   refine iS ?_;refine RO.de (λl=>?_) (λl=>?_);rotate_left;·refine ah ?_;exact Ru.aV (h2 _ U.gr)
   refine iS ?_;refine Ru.kN (λp=>?_) (λp=>?_);·refine ah ?_;exact Ru.aV (h2 _ U.gr)
   refine iS ?_;refine e _ _ ⟨U,λ_=>⟨j,g⟩,λh=>(by cases h),.inr ⟨l,by simpa using p⟩⟩ ?_;exact fB
  |false=>
   refine iS ?_;refine RO.de (λi=>?_) (λi=>?_);·refine ah ?_;exact Ru.aV (h2 _ U.gr)
   have i:x.n=0:=by simpa using i
   refine iS ?_;refine RO.de (λC=>?_) (λC=>?_);rotate_left;·refine iS ?_;refine e _ _ ⟨U,λh=>(by cases h),λ_=>i,.inl (by simpa using C)⟩ ?_;exact fB
   refine iS ?_;refine RO.de (λl=>?_) (λl=>?_);rotate_left;·refine ah ?_;exact Ru.aV (h2 _ U.gr)
   refine iS ?_;refine Ru.kN (λp=>?_) (λp=>?_);·refine ah ?_;exact Ru.aV (h2 _ U.gr)
   refine iS ?_;refine e _ _ ⟨U,λh=>(by cases h),λ_=>i,.inr ⟨l,by simpa using p⟩⟩ ?_;exact fB
 refine Ru.seq ?_;refine Ru.region ?_;refine iS ?_;refine Ru.seq ?_;refine Ru.aen (P:=λM H'=>∃mn:Int,M=[(p6,aI mn),(p2,.az q 0),(p5,.az t 0)]/\aj H H' [tB Im t [.str w,.bool to,aI sy,.bool n,aI lo,aI hi,aI nm,aI go],tB qU q [aU x.op,aI x.to,s,aI x.n,aI x.m,.str x.name]]/\yN nm x.name/\mn=if nm=3 then(iu x.name:Int)else sy) (λM H7⟨mn,Q,U,R,S⟩=>?_) (λe=>?_);rotate_left
 .refine Ru.seq ?_;refine Ru.region ?_;refine iS ?_;refine Ru.block ?_;refine Ru.seq ?_;refine Ru.region ?_;refine iS ?_;refine Ru.cond (λj=>?_) (λj=>?_)
  .refine Ru.seq ?_;refine Ru.region ?_;refine iS ?_;refine Ru.kN (λg=>?_) (λg=>?_);·refine ah ?_;exact Ru.aV (h2 _ U.gr)
   have g:x.name=[]:=by simpa[qv]using g
   have j:nm=0:=j;refine iS ?_;refine e _ _ _ ⟨sy,rfl,U,by rw[yN,aK j];exact g,by rw[aq af]⟩ ?_;exact fB
  have j:¬nm=0:=j;refine Ru.seq ?_;refine Ru.region ?_;refine iS ?_;refine Ru.cond (λg=>?_) (λg=>?_)
  .have g:nm=1:=g;refine Ru.seq ?_;refine Ru.region ?_;refine iS ?_;refine RO.cl (aeh T hb af (λi=>?_) ?_);rotate_left;·refine ah ?_;exact Ru.aV (h2 _ U.gr)
   refine iS ?_;refine e _ _ _ ⟨sy,rfl,U,by rw[yN,aq j,aK g];exact i,by rw[aq af]⟩ ?_;exact fB
  have g:¬nm=1:=g;refine Ru.seq ?_;refine Ru.region ?_;refine iS ?_;refine Ru.cond (λi=>?_) (λi=>?_)
  .have i:nm=3:=i;refine Ru.seq ?_;refine Ru.region ?_;refine iS ?_;refine RO.cl (aek T ?_);refine iS ?_;refine Ru.seq ?_;refine Ru.region ?_;refine iS ?_;refine Ru.cond (λl=>?_) (λl=>?_);·refine ah ?_;exact Ru.aV (h2 _ U.gr)
   refine iS ?_;refine e _ _ _ ⟨iu x.name,rfl,U,by rw[yN,aq j,aq g,aK i];exact l,by rw[aK i]⟩ ?_;exact fB
  have i:¬nm=3:=i;refine Ru.seq ?_;refine Ru.region ?_;refine iS ?_;refine RO.cl (EX T hb af (λl=>?_) ?_);rotate_left;·refine ah ?_;exact Ru.aV (h2 _ U.gr)
  refine iS ?_;refine e _ _ _ ⟨sy,rfl,U,by rw[yN,aq j,aq g,aq i];exact l,by rw[aq i]⟩ ?_;exact fB
 subst Q;have o:(x.op=15\/x.op=18->x.args.length<=6)->(x.op≠15->x.op≠18->sB mn x.args.length)->EZ x v ⟨w,to,sy,n,lo,hi,nm,go⟩:=λa b=>⟨F,I,J,L,N,O,P,R,a,λc d=>by have D:=b c d;rw[S]at D;exact D⟩;refine ah ?_;refine RO.de (λy=>?_) (λy=>?_)
 .refine ah ?_;by_cases k:x.args.length<=6;·rw[decide_eq_true k];exact Ru.aV (h1 _ U.gr j g (o (λ_=>k) λh=>absurd y h))
  rw[decide_eq_false k];exact Ru.aV (h2 _ U.gr)
 refine ah ?_;refine Ru.cond (λa3=>?_) (λa3=>?_)
 .refine ah ?_;by_cases k:x.args.length<=6;·rw[decide_eq_true k];exact Ru.aV (h1 _ U.gr j g (o (λ_=>k) λ_ h=>absurd a3 h))
  rw[decide_eq_false k];exact Ru.aV (h2 _ U.gr)
 have o:=o λh=>h.elim (absurd · y) (absurd · a3);refine ah ?_;refine Ru.cond (λa4=>?_) (λa4=>?_);·refine ah ?_;exact Ru.aV (h1 _ U.gr j g (o λ_ _=>.inl a4))
 refine ah ?_;refine Ru.cond (λa5=>?_) (λa5=>?_)
 .refine ah ?_;refine RO.cl (sx T (λu a7=>?_) (λ_=>?_));·refine ah ?_;exact Ru.aV (h1 _ U.gr j g (o λ_ _=>.inr (.inl ⟨a5,by simp only[aj5]at u;omega,by simp only[aj5]at a7;omega⟩)))
  refine ah ?_;exact Ru.aV (h2 _ U.gr)
 refine ah ?_;refine Ru.cond (λu=>?_) (λu=>?_)
 .refine ah ?_;by_cases k:x.args.length<=6;·rw[decide_eq_true k];exact Ru.aV (h1 _ U.gr j g (o λ_ _=>.inr (.inr (.inl ⟨u,k⟩))))
  rw[decide_eq_false k];exact Ru.aV (h2 _ U.gr)
 refine ah ?_;by_cases k:ak1 x.args.length=mn;·rw[decide_eq_true k];exact Ru.aV (h1 _ U.gr j g (o λ_ _=>.inr (.inr (.inr k.symm))))
 rw[decide_eq_false k];exact Ru.aV (h2 _ U.gr)
end
end
section
theorem Ru.wP{c:Cx}{s:List SI}{x:SI}{L:Kn}{H:ai}(P:Kn->ai->Prop)(h1:∀M H',P M H'->Ru ac c s M H')(h2:∀b,(∀H' a M,P M H'->ky M a->Ru ac c b a H')->Ru ac c (x::b) L H):Ru ac c (x::s) L H:=h2 s λH' a M d hl=>(h1 M H' d).rZ hl
theorem RO.OZ{H:ai}{c:Cx}{s:List SI}{L:Kn}{d:Option ab}{l:List be}{f:aJ}{args:List aJ}{fv:AV}{a:List AV}{p:ab}{x:aJ}{i:ab}{o:Nat}{v:AV}{k:Option (ab×Bool)}(h:YF ac fv a H λr H'=>bh H' i o=some v/\RO ac c l s (bC L d r) H')(m:∀r,bf (bC L d r) x=.az i o:=by(intro r;conv=>lhs;whnf)<;>rfl)(n:∀r,lk (bC L d r) p=v:=by(intro r;conv=>lhs;whnf)<;>rfl)(b:v.bB=true:=by first|rfl|assumption)(hvs:iy v v=true:=by first|rfl|assumption|simp[iy,gz,fQ])(q:bf L f=fv:=by exact cw)(e:fv.bB=true:=by first|rfl|assumption)(t:args.map (bf L)=a:=by rfl)(g:a.all AV.bB=true:=by repeat first|rfl|assumption|(refine ad ?_ ?_)):RO ac c (⟨d,.call f args,none,[],[⟨p,.aW x,k⟩]⟩::l) s L H:=RO.HT (h.mono λr H' h=>⟨λaa j=>by have:=il (re:=[]) j (m r) (n r) b hvs h.1 rfl;simp_all[fG,fF,bq,Bool.and_true],h.2⟩) q e t g
theorem Sl.bX{H:ai}{size n:Nat}{a:List AV}{v:AV}(h:Sl H size a n v):iy v v=true:=by rcases h with⟨rfl,_⟩|⟨i,o,cap,ex,c,m,e,b,aM,fz,rfl,_⟩;all_goals simp[iy,gz,ab.ip]
def ko(j:G.lD)(k:Nat):Nat:=if j.op=65/\k=0\/j.op=67/\k=1\/j.op=66/\j.b9.getD k 0=2 then 1 else 0
section
variable{g:G.bu}{j:G.lD}{H:ai}{cs:List AV}
theorem O8(T:Tb ac)(hj:tw H j cs){k:Nat}{K:KT}(h:∀H',bm H H'->K (aN (ko j k)) H'):YN ac W5 [.agg cs,aN k] H K:=by
 have i:=hj.one;obtain⟨l,m,n,rfl,f,e,g⟩:=hj;have⟨o,_,_,p⟩:=e.all;have⟨r,_,_,_⟩:=f.all;have⟨s,_,_,_⟩:=g.all;obtain⟨op,args,name,b9,t⟩:=j;refine YF.code T.abW aB ?_;refine ah ?_;refine RO.dL (aj.dc H) λH1 q U=>?_;have h:=h H1 U.gr;have one:(op=65/\k=0\/op=67/\k=1\/op=66/\b9.getD k 0=2)->K (aN 1) H1:=λh1=>by rw[ko,aK h1]at h;exact h
 have zero:¬(op=65/\k=0\/op=67/\k=1\/op=66/\b9.getD k 0=2)->K (aN 0) H1:=λh1=>by rw[ko,aq h1]at h;exact h
 clear h;have U:aj H H1 [tB tx q [aU op,l,.str name,m,n]]:=U;refine ah ?_;refine RO.de (λb=>?_) (λb=>?_)
 .subst b;refine ah ?_;refine Ru.cond (λh0=>?_) (λh0=>?_);·subst h0;refine ah ?_;exact Ru.aV (one aB)
  refine ah ?_;exact Ru.aV (zero (by simp[h0]))
 refine ah ?_;refine RO.de (λc=>?_) (λc=>?_)
 .subst c;refine ah ?_;refine Ru.cond (λh0=>?_) (λh0=>?_);·subst h0;refine ah ?_;exact Ru.aV (one aB)
  refine ah ?_;exact Ru.aV (zero (by simp[h0]))
 refine ah ?_;refine RO.de (λd=>?_) (λd=>?_)
 .subst d;refine ah ?_;refine RO.de (λa=>?_) (λa=>?_)
  .refine ah ?_;refine RO.lg U.gr e (λw o1 u v=>?_) (j:=k);refine ah ?_;refine Ru.cond (λh0=>?_) (λh0=>?_);·refine ah ?_;exact Ru.aV (one (by rw[bF a];exact .inr (.inr ⟨rfl,h0⟩)))
   refine ah ?_;exact Ru.aV (zero (by rw[bF a];simp[h0]))
  refine ah ?_;exact Ru.aV (zero (by rw[akm,List.getElem?_eq_none (Nat.le_of_not_lt a)];simp))
 refine ah ?_;exact Ru.aV (zero (by simp[b,c,d]))
inductive AE(j:G.lD):Nat->Nat->Prop
 |go(h:j.op=61):AE j 0 1
 |Cz(h:j.op=62):AE j 1 2
 |is(h:j.op=63):AE j 1 2
 |gE(h:j.op=65):AE j 1 2
 |AR(h:j.op=66)(hk:∀i(h:i<j.b9.length),1<=j.b9[i]/\j.b9[i]<=3/\(j.b9[i]=3->i+1=j.b9.length))(h1:1<=j.b9.length)(h4:j.b9.length<=4):AE j (mH j.b9) j.b9.length
 |CB(h:j.op=67):AE j 0 3
 |CC(h:j.op=68):AE j (max 1 j.args.length) 0
 |ret(h:j.op=69):AE j 1 0
 |sC(h:j.op=21):AE j 1 0
 |stuck(h:j.op=70):AE j 0 0
end
end
end
end Go.am.R
end
