/- A part of the proof. No conditions. -/
import Derived.Test.YtjhkgigolpfcfaaGreatDoorA09
set_option linter.all false
set_option maxHeartbeats 16000000
open Nat renaming le_of_ble_eq_true->akc
open Int renaming ofNat->ak1
noncomputable section
namespace Go.am.R
section
variable{ac:Nat->aG}
section
theorem Ru.Je{c:Cx}{s:List SI}{x:SI}{L:Kn}{H:ai}{P:ai->Prop}(b:List ab)(h1:∀H',P H'->Ru ac c s (pk L b) H')(h2:(∀H' a,P H'->ky (pk L b) a->Ru ac c s a H')->Ru ac c (x::s) L H):Ru ac c (x::s) L H:=h2 λH' a d hl=>(h1 H' d).rZ hl
structure CJ(b:G.gV):Prop where
 bl:b.params.length<=12/\b.aD.length<=40/\b.aA.args.length<=12/\b.aA.b9.length<=12/\b.aA.go.length<=12/\b.aA.name.length<=60
 st:∀s∈b.aD,s.args.length<=12/\s.name.length<=250
 ed:∀e∈b.aA.go,e.args.length<=12
structure EW(g:G.bu):Prop where
 sm:G.Sm g
 nb:g.al.length<=30\/1500<g.al.length
 nv:g.bp<=200\/6000<g.bp
 nm:g.name.length<=60
section
variable{g:G.bu}{H:ai}{cs:List AV}
theorem DE(T:Tb ac)(hg:iG H g cs){K:KT}(m:∀H',bm H H'->K (.bool true) H')(hF:∀H',bm H H'->EW g->K (.bool false) H'):YN ac We [.agg cs] H K:=by
 have A:=hg.one;obtain⟨w,rfl,cA⟩:=hg;have⟨av,n,aw,ax⟩:=cA.all;refine YF.code T.aaY aB ?_;refine Ru.seq ?_;refine Ru.region ?_;refine RO.dL (aj.dc H) λH1 q U=>?_;refine RO.bg ?_;refine RO.nil ?_;refine Ru.seq ?_;refine Ru.Je (P:=λH'=>aj H H' [tB fI q [.str g.name,aI g.params,aI g.bp,w]]/\(g.al.length<=30\/1500<g.al.length)/\g.al.length<=3000/\(g.bp<=200\/6000<g.bp)/\g.name.length<=60) [p1] (λH2⟨U,f1,f2,f3,f4⟩=>?_) (λv=>?_);rotate_left
 .repeat'(first|refine rR ?_|refine RO.de (λ_=>?_) (λ_=>?_))
  all_goals
   first|exact Ru.aV (m _ U.gr)|
    refine Ru.cond (λ_=>?_) (λ_=>?_);·refine ah ?_;exact Ru.aV (m _ U.gr)
    refine Ru.skip ?_;have e1:ak1 200=200:=rfl;have e2:ak1 6000=6000:=rfl;refine v _ _ ⟨U,af,af,af,af⟩ ?_;exact fB
 refine ah ?_;refine Ru.nm λS0 M hS hM=>?_;refine Ru.cC hM (up (P:=λk=>∀a,(∀i,i<k->∀h:i<g.al.length,CJ g.al[i])->aj H a [tB fI q [.str g.name,aI g.params,aI g.bp,w]]->Ru ac _ S0 ([(p3,aN k)]++pk M [p1]) a) g.al.length (λk hk F a f U=>?_) 0 af _ (λi hi=>by omega) U);subst hS;subst hM;refine Ru.loop ?_;refine ah ?_;refine Ru.cond (λS=>?_) (λS=>?_)
 .refine ah ?_;refine RO.cZ U.gr cA (λq1 o1 c1 hj n ay hat hrd=>?_) (j:=k);have A:=n.one;obtain⟨G,I,jc,rfl,V,o,J,L,N,rfl,W,X,y⟩:=n;have⟨a0,_,_,_⟩:=V.all;have⟨a1,_,_,_⟩:=o.all;have⟨a2,_,_,_⟩:=W.all;have⟨a3,_,_,_⟩:=X.all;have⟨a4,_,_,_⟩:=y.all;have F:=F (k+1) af af;have f:CJ g.al[k]->∀i,i<k+1->∀h:i<g.al.length,CJ g.al[i]:=λhb i hi h=>by
   by_cases e:i=k;·subst e;exact hb
   exact f i af h
  generalize g.al[k]=B at*;refine ah ?_;refine RO.fx U λH3 O U=>?_;repeat'(first|refine rR ?_|refine RO.de (λ_=>?_) (λ_=>?_))
  all_goals first|exact Ru.aV (m _ U.gr)|skip
  refine Ru.cond (λ_=>?_) (λ_=>?_);·refine ah ?_;exact Ru.aV (m _ U.gr)
  rename_i b1 b2 b3 b4 b5 b6;have U:aj H _ [tB dW O [G,I,aU B.aA.op,J,.str B.aA.name,L,N],tB fI q [.str g.name,aI g.params,aI g.bp,w]]:=U;refine ah ?_;refine Ru.nm λP Q p c=>?_;refine Ru.cC c (up (P:=λj=>∀a,(∀i,i<j->∀h:i<B.aD.length,B.aD[i].args.length<=12/\B.aD[i].name.length<=250)->aj H a [tB dW O [G,I,aU B.aA.op,J,.str B.aA.name,L,N],tB fI q [.str g.name,aI g.params,aI g.bp,w]]->Ru ac _ P ([(p5,aN j)]++pk Q [p1,p3,p4]) a) B.aD.length (λj hj r a eh U=>?_) 0 af _ (λi hi=>by omega) U);subst p;subst c;refine Ru.loop ?_;refine ah ?_;refine Ru.cond (λC=>?_) (λC=>?_)
  .refine ah ?_;refine RO.cZ U.gr o (λq9 o9 c9 Y t Z hat hrd=>?_) (j:=j);have r:=r (j+1) af af;have eh:B.aD[j].args.length<=12/\B.aD[j].name.length<=250->∀i,i<j+1->∀h:i<B.aD.length,B.aD[i].args.length<=12/\B.aD[i].name.length<=250:=λhb i hi h=>by
    by_cases e:i=j;·subst e;exact hb
    exact eh i af h
   generalize ag:B.aD[j]=s at*;obtain⟨ar,rfl,d⟩:=t;have⟨D,_,_,_⟩:=d.all;repeat'(first|refine rR ?_|refine RO.de (λ_=>?_) (λ_=>?_))
   .refine ah ?_;exact Ru.aV (m _ U.gr)
   refine RO.cZ U.gr o (λq8 o8 c8 a5 z a6 hat hrd=>?_) (j:=j);rw[ag]at z;obtain⟨a8,rfl,_⟩:=z;refine ah ?_;refine Ru.cond (λ_=>?_) (λ_=>?_);·refine ah ?_;exact Ru.aV (m _ U.gr)
   refine ah ?_;exact Ru.wk (r _ (eh af) U)
  refine Ru.exitTo ?_;refine ah ?_;refine Ru.nm λP Q p c=>?_;refine Ru.cC c (up (P:=λj=>∀a,(∀i,i<j->∀h:i<B.aA.go.length,B.aA.go[i].args.length<=12)->aj H a [tB dW O [G,I,aU B.aA.op,J,.str B.aA.name,L,N],tB fI q [.str g.name,aI g.params,aI g.bp,w]]->Ru ac _ P ([(p6,aN j)]++pk Q [p1,p3,p4]) a) B.aA.go.length (λi hi u a l U=>?_) 0 af _ (λi hi=>by omega) U);subst p;subst c;refine Ru.loop ?_;refine ah ?_;refine Ru.cond (λE=>?_) (λE=>?_)
  .refine ah ?_;refine RO.cZ U.gr y (λq9 o9 c9 Y t Z hat hrd=>?_) (j:=i);have u:=u (i+1) af af;have l:B.aA.go[i].args.length<=12->∀x,x<i+1->∀h:x<B.aA.go.length,B.aA.go[x].args.length<=12:=λhb x R h=>by
    by_cases e:x=i;·subst e;exact hb
    exact l x af h
   generalize B.aA.go[i]=e at*;obtain⟨ar,rfl,d⟩:=t;have⟨D,_,_,_⟩:=d.all;refine ah ?_;refine Ru.cond (λ_=>?_) (λ_=>?_);·refine ah ?_;exact Ru.aV (m _ U.gr)
   refine ah ?_;exact Ru.wk (u _ (l af) U)
  refine Ru.exitTo ?_;refine ah ?_;refine Ru.wk (F _ (f ⟨⟨af,af,af,af,af,af⟩,λs hs=>?_,λs hs=>?_⟩) U.tail);all_goals obtain⟨x,R,rfl⟩:=aka hs
  .exact eh x af R
  exact l x af R
 refine Ru.exitTo ?_;refine ah ?_;refine Ru.aV (hF _ U.gr ⟨⟨af,λb hb=>?_,λb hb=>?_,λb hb=>?_⟩,f1,f3,f4⟩);all_goals obtain⟨i,hi,rfl⟩:=aka hb;have:=f i af hi
 .exact this.bl
 .exact this.st
 exact this.ed
end
end
theorem OT:∀{l:List Nat}{k:Nat}(h:k<l.length),Bc l k=some l[k]|_::_,0,_=>rfl|_::l,k+1,h=>OT (l:=l) (by simpa using h)
theorem RO.nu{c:Cx}{s:List SI}{L:Kn}{H:ai}{d:Option ab}{l:List be}{x y:aJ}{t:List Nat}{j kd:Nat}(hj:j<t.length)(h:RO ac c l s (bC L d (.int 4 (.ofNat t[j]))) H)(b:bf L x=.str t:=by exact cw)(e:bf L y=.int kd (.ofNat j):=by exact cw):RO ac c (⟨d,.nu x y,none,[],[]⟩::l) s L H:=RO.op (λaa a=>by simp only[aE,a.gv b rfl,a.gv e rfl,OT hj,akt]) h
theorem sx(T:Tb ac){H:ai}{a b n:Int}{K:KT}(h1:a<=n->n<=b->K (.bool true) H)(h2:¬(a<=n/\n<=b)->K (.bool false) H):YN ac WE [.int 3 n,.int 3 a,.int 3 b] H K:=by
 refine YF.code T.abq aB ?_;repeat'(first|refine rR ?_|refine RO.de (λ_=>?_) (λ_=>?_))
 .rename_i d;by_cases c:n<=b;·rw[decide_eq_true c];exact Ru.aV (h1 d c)
  rw[decide_eq_false c];exact Ru.aV (h2 λh=>c h.2)
 rename_i d;exact Ru.aV (h2 λh=>d h.1)
theorem EX(T:Tb ac){H:ai}{t:List Nat}(hb:∀x∈t,x<256)(hl:t.length<=1000000){K:KT}(h1:su t->K (.bool true) H)(h2:K (.bool false) H):YN ac WK [.str t] H K:=by
 refine YF.code T.aby aB ?_;refine ah ?_;refine Ru.nm λS M j f=>?_;refine Ru.cC f (up (P:=λk=>(∀i,i<k->∀h:i<t.length,33<=t[i]/\t[i]<=126/\t[i]≠34)->Ru ac _ S ([(p3,aN k)]++pk M [p0]) H) t.length (λk o l g=>?_) 0 af (λi hi=>by omega));subst j;subst f;refine Ru.loop ?_;refine ah ?_;refine Ru.cond (λa=>?_) (λa=>?_)
 .have n:=hb _ (agB a);refine ah ?_;refine RO.nu a ?_ (j:=k);refine RO.kX ?_;rw[pY (n:=.ofNat t[k]) (by rw[aj5];omega) (by rw[aj5];omega)];refine RO.cl (sx T (λc d=>?_) (λ_=>?_))
  .refine ah ?_;refine RO.nu a ?_ (j:=k);refine ah ?_;refine Ru.cond (λm=>?_) (λm=>?_);·refine ah ?_;exact Ru.aV h2
   refine ah ?_;refine Ru.wk (l (k+1) af af λi hi h=>?_);by_cases e:i=k;·subst e;simp only[aj5]at c d;omega
   exact g i af h
  refine ah ?_;exact Ru.aV h2
 refine Ru.exitTo ?_;refine ah ?_;refine RO.cl (sx T (λc d=>?_) (λ_=>?_));·refine ah ?_;refine Ru.aV (h1 ⟨by simp only[aj5]at c;omega,by simp only[aj5]at d;omega,λb hb=>?_⟩);obtain⟨i,hi,rfl⟩:=aka hb;exact g i af hi
 refine ah ?_;exact Ru.aV h2
theorem aeh(T:Tb ac){H:ai}{t:List Nat}(hb:∀x∈t,x<256)(hl:t.length<=1000000){K:KT}(h1:EO t->K (.bool true) H)(h2:K (.bool false) H):YN ac W3 [.str t] H K:=by
 refine YF.code T.abU aB ?_;refine ah ?_;refine Ru.nm λS M l g=>?_;refine Ru.cC g (up (P:=λk=>(∀i,i<k->∀h:i<t.length,(32<=t[i]/\t[i]<=126)\/t[i]=10)->Ru ac _ S ([(p3,aN k)]++pk M [p0]) H) t.length (λk p f j=>?_) 0 af (λi hi=>by omega));subst l;subst g;refine Ru.loop ?_;refine ah ?_;refine Ru.cond (λa=>?_) (λa=>?_)
 .have o:=hb _ (agB a);have f:=f (k+1) af af;have d:(32<=t[k]/\t[k]<=126)\/t[k]=10->∀i,i<k+1->∀h:i<t.length,(32<=t[i]/\t[i]<=126)\/t[i]=10:=λhg i hi h=>by
   by_cases e:i=k;·subst e;exact hg
   exact j i af h
  refine ah ?_;refine RO.nu a ?_ (j:=k);refine RO.kX ?_;rw[pY (n:=.ofNat t[k]) (by rw[aj5];omega) (by rw[aj5];omega)];refine RO.cl (sx T (λm c=>?_) (λ_=>?_));·refine ah ?_;exact Ru.wk (f (d (.inl (by simp only[aj5]at m c;omega))))
  refine ah ?_;refine RO.nu a ?_ (j:=k);refine ah ?_;refine Ru.cond (λn=>?_) (λn=>?_);·refine ah ?_;exact Ru.aV h2
  refine ah ?_;exact Ru.wk (f (d (.inr af)))
 refine Ru.exitTo ?_;refine ah ?_;by_cases c:t.length<=200;·rw[decide_eq_true c];refine Ru.aV (h1 ⟨c,λb hb=>?_⟩);obtain⟨i,hi,rfl⟩:=aka hb;exact j i af hi
 rw[decide_eq_false c];exact Ru.aV h2
theorem Jf(T:Tb ac){H:ai}{l:List Int}{v:AV}(b:fZ H l v)(hl:l.length<=1000000){n:Int}(p:0<=n)(w:n<=1000000){K:KT}(h1:(∀x∈l,0<=x/\x<=n - 1)->K (.bool true) H)(h2:K (.bool false) H):YN ac W2 [v,.int 3 n] H K:=by
 have⟨q,r,s,t⟩:=b.all;refine YF.code T.abT aB ?_;refine ah ?_;refine Ru.nm λS M f c=>?_;refine Ru.cC c (up (P:=λk=>(∀i,i<k->∀h:i<l.length,0<=l[i]/\l[i]<=n - 1)->Ru ac _ S ([(p5,aN k)]++pk M [p0,p1]) H) l.length (λk y g d=>?_) 0 af (λi hi=>by omega));subst f;subst c;refine Ru.loop ?_;refine ah ?_;refine Ru.cond (λa=>?_) (λa=>?_)
 .refine ah ?_;refine RO.kz (bm.refl H) b (λz o1 hj u=>?_) (j:=k);refine ah ?_;refine RO.sub ?_ (a:=n) (b:=1);refine RO.cl (sx T (λj m=>?_) (λ_=>?_))
  .refine ah ?_;refine Ru.wk (g (k+1) af af λi hi h=>?_);by_cases e:i=k;·subst e;exact⟨j,m⟩
   exact d i af h
  refine ah ?_;exact Ru.aV h2
 refine Ru.exitTo ?_;refine ah ?_;refine Ru.aV (h1 λx o=>?_);obtain⟨i,hi,rfl⟩:=aka o;exact d i af hi
theorem OU(T:Tb ac){H:ai}{l:List Int}{v:AV}(c:fZ H l v)(hl:l.length<=1000000){n:Int}{K:KT}(h1:n∈l->K (.bool true) H)(h2:n∉l->K (.bool false) H):YN ac WD [v,.int 3 n] H K:=by
 have⟨o,p,q,r⟩:=c.all;refine YF.code T.abp aB ?_;refine ah ?_;refine Ru.nm λS M g d=>?_;refine Ru.cC d (up (P:=λk=>(∀i,i<k->∀h:i<l.length,l[i]≠n)->Ru ac _ S ([(p5,aN k)]++pk M [p0,p1]) H) l.length (λk t j f=>?_) 0 af (λi hi=>by omega));subst g;subst d;refine Ru.loop ?_;refine ah ?_;refine Ru.cond (λa=>?_) (λa=>?_)
 .refine ah ?_;refine RO.kz (bm.refl H) c (λu o1 hj s=>?_) (j:=k);refine ah ?_;refine Ru.cond (λb=>?_) (λb=>?_);·refine ah ?_;exact Ru.aV (h1 (b▸agB a))
  refine ah ?_;refine Ru.wk (j (k+1) af af λi hi h=>?_);by_cases e:i=k;·subst e;exact b
  exact f i af h
 refine Ru.exitTo ?_;refine ah ?_;refine Ru.aV (h2 λm=>?_);obtain⟨i,hi,e⟩:=aka m;exact f i af hi e
end
end Go.am.R
end
