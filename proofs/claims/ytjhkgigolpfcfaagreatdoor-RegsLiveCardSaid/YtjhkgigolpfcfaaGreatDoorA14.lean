/- A part of the proof. No conditions. -/
import Derived.Test.YtjhkgigolpfcfaaGreatDoorA13
set_option linter.all false
set_option maxHeartbeats 16000000
open Nat renaming le_of_ble_eq_true->akc
open Int renaming ofNat->ak1
noncomputable section
namespace Go.am.R
section
variable{ac:Nat->aG}
theorem OT:∀{l:List Nat}{k:Nat}(h:k<l.length),Bc l k=some l[k]|_::_,0,_=>rfl|_::l,k+1,h=>OT (l:=l) (by simpa using h)
theorem RO.nu{c:Cx}{s:List SI}{L:Kn}{H:ai}{d:Option ab}{l:List be}{x y:aJ}{t:List Nat}{j kd:Nat}(hj:j<t.length)(h:RO ac c l s (bC L d (.int 4 (.ofNat t[j]))) H)(b:bf L x=.str t:=by exact cw)(e:bf L y=.int kd (.ofNat j):=by exact cw):RO ac c (⟨d,.nu x y,none,[],[]⟩::l) s L H:=RO.op (λaa a=>by simp only[aE,a.gv b rfl,a.gv e rfl,OT hj,akt]) h
theorem sx(T:Tb ac){H:ai}{a b n:Int}{K:KT}(h1:a<=n->n<=b->K (.bool true) H)(h2:¬(a<=n/\n<=b)->K (.bool false) H):YN ac WE [.int 3 n,.int 3 a,.int 3 b] H K:=by
 refine YF.code T.abq aB ?_;repeat'(first|refine rR ?_|refine RO.de (λ_=>?_) (λ_=>?_))
 .rename_i d;by_cases c:n<=b;·rw[decide_eq_true c];exact Ru.aV (h1 d c)
  rw[decide_eq_false c];exact Ru.aV (h2 λh=>c h.2)
 rename_i d;exact Ru.aV (h2 λh=>d h.1)
theorem EX(T:Tb ac){H:ai}{t:List Nat}(hb:∀x∈t,x<256)(hl:t.length<=1000000){K:KT}(h1:su t->K (.bool true) H)(h2:¬su t->K (.bool false) H):YN ac WK [.str t] H K:=by
 refine YF.code T.aby aB ?_;refine ah ?_;refine Ru.nm λS M m j=>?_;refine Ru.cC j (up (P:=λk=>(∀i,i<k->∀h:i<t.length,33<=t[i]/\t[i]<=126/\t[i]≠34)->Ru ac _ S ([(p3,aN k)]++pk M [p0]) H) t.length (λk q n l=>?_) 0 af (λi hi=>by omega));subst m;subst j;refine Ru.loop ?_;refine ah ?_;refine Ru.cond (λa=>?_) (λa=>?_)
 .have p:=hb _ (agB a);refine ah ?_;refine RO.nu a ?_ (j:=k);refine RO.kX ?_;rw[pY (n:=.ofNat t[k]) (by rw[aj5];omega) (by rw[aj5];omega)];refine RO.cl (sx T (λd f=>?_) (λg=>?_))
  .refine ah ?_;refine RO.nu a ?_ (j:=k);refine ah ?_;refine Ru.cond (λo=>?_) (λo=>?_);·refine ah ?_;exact Ru.aV (h2 λc=>by have:=c.2.2 _ (agB a);omega)
   refine ah ?_;refine Ru.wk (n (k+1) af af λi hi h=>?_);by_cases e:i=k;·subst e;simp only[aj5]at d f;omega
   exact l i af h
  refine ah ?_;exact Ru.aV (h2 λc=>g (by have:=c.2.2 _ (agB a);simp only[aj5];omega))
 refine Ru.exitTo ?_;refine ah ?_;refine RO.cl (sx T (λd f=>?_) (λg=>?_));·refine ah ?_;refine Ru.aV (h1 ⟨by simp only[aj5]at d;omega,by simp only[aj5]at f;omega,λb hb=>?_⟩);obtain⟨i,hi,rfl⟩:=aka hb;exact l i af hi
 refine ah ?_;exact Ru.aV (h2 λc=>g (by have h3:=c.1;have r:=c.2.1;simp only[aj5];omega))
theorem aeh(T:Tb ac){H:ai}{t:List Nat}(hb:∀x∈t,x<256)(hl:t.length<=1000000){K:KT}(h1:EO t->K (.bool true) H)(h2:¬EO t->K (.bool false) H):YN ac W3 [.str t] H K:=by
 refine YF.code T.abU aB ?_;refine ah ?_;refine Ru.nm λS M m j=>?_;refine Ru.cC j (up (P:=λk=>(∀i,i<k->∀h:i<t.length,(32<=t[i]/\t[i]<=126)\/t[i]=10)->Ru ac _ S ([(p3,aN k)]++pk M [p0]) H) t.length (λk r f l=>?_) 0 af (λi hi=>by omega));subst m;subst j;refine Ru.loop ?_;refine ah ?_;refine Ru.cond (λa=>?_) (λa=>?_)
 .have q:=hb _ (agB a);have f:=f (k+1) af af;have d:(32<=t[k]/\t[k]<=126)\/t[k]=10->∀i,i<k+1->∀h:i<t.length,(32<=t[i]/\t[i]<=126)\/t[i]=10:=λhg i hi h=>by
   by_cases e:i=k;·subst e;exact hg
   exact l i af h
  refine ah ?_;refine RO.nu a ?_ (j:=k);refine RO.kX ?_;rw[pY (n:=.ofNat t[k]) (by rw[aj5];omega) (by rw[aj5];omega)];refine RO.cl (sx T (λn c=>?_) (λo=>?_));·refine ah ?_;exact Ru.wk (f (d (.inl (by simp only[aj5]at n c;omega))))
  refine ah ?_;refine RO.nu a ?_ (j:=k);refine ah ?_;refine Ru.cond (λp=>?_) (λp=>?_);·refine ah ?_;exact Ru.aV (h2 λg=>by have:=g.2 _ (agB a);simp only[aj5]at o;omega)
  refine ah ?_;exact Ru.wk (f (d (.inr af)))
 refine Ru.exitTo ?_;refine ah ?_;by_cases c:t.length<=200;·rw[decide_eq_true c];refine Ru.aV (h1 ⟨c,λb hb=>?_⟩);obtain⟨i,hi,rfl⟩:=aka hb;exact l i af hi
 rw[decide_eq_false c];exact Ru.aV (h2 λg=>c g.1)
theorem Jf(T:Tb ac){H:ai}{l:List Int}{v:AV}(b:fZ H l v)(hl:l.length<=1000000){n:Int}(r:0<=n)(z:n<=1000000){K:KT}(h1:(∀x∈l,0<=x/\x<=n - 1)->K (.bool true) H)(h2:(¬∀x∈l,0<=x/\x<=n - 1)->K (.bool false) H):YN ac W2 [v,.int 3 n] H K:=by
 have⟨s,t,u,w⟩:=b.all;refine YF.code T.abT aB ?_;refine ah ?_;refine Ru.nm λS M f c=>?_;refine Ru.cC c (up (P:=λk=>(∀i,i<k->∀h:i<l.length,0<=l[i]/\l[i]<=n - 1)->Ru ac _ S ([(p5,aN k)]++pk M [p0,p1]) H) l.length (λk A g d=>?_) 0 af (λi hi=>by omega));subst f;subst c;refine Ru.loop ?_;refine ah ?_;refine Ru.cond (λa=>?_) (λa=>?_)
 .refine ah ?_;refine RO.kz (bm.refl H) b (λB o1 hj y=>?_) (j:=k);refine ah ?_;refine RO.sub ?_ (a:=n) (b:=1);refine RO.cl (sx T (λj m=>?_) (λo=>?_))
  .refine ah ?_;refine Ru.wk (g (k+1) af af λi hi h=>?_);by_cases e:i=k;·subst e;exact⟨j,m⟩
   exact d i af h
  refine ah ?_;exact Ru.aV (h2 λp=>o (p _ (agB a)))
 refine Ru.exitTo ?_;refine ah ?_;refine Ru.aV (h1 λx q=>?_);obtain⟨i,hi,rfl⟩:=aka q;exact d i af hi
theorem OU(T:Tb ac){H:ai}{l:List Int}{v:AV}(c:fZ H l v)(hl:l.length<=1000000){n:Int}{K:KT}(h1:n∈l->K (.bool true) H)(h2:n∉l->K (.bool false) H):YN ac WD [v,.int 3 n] H K:=by
 have⟨o,p,q,r⟩:=c.all;refine YF.code T.abp aB ?_;refine ah ?_;refine Ru.nm λS M g d=>?_;refine Ru.cC d (up (P:=λk=>(∀i,i<k->∀h:i<l.length,l[i]≠n)->Ru ac _ S ([(p5,aN k)]++pk M [p0,p1]) H) l.length (λk t j f=>?_) 0 af (λi hi=>by omega));subst g;subst d;refine Ru.loop ?_;refine ah ?_;refine Ru.cond (λa=>?_) (λa=>?_)
 .refine ah ?_;refine RO.kz (bm.refl H) c (λu o1 hj s=>?_) (j:=k);refine ah ?_;refine Ru.cond (λb=>?_) (λb=>?_);·refine ah ?_;exact Ru.aV (h1 (b▸agB a))
  refine ah ?_;refine Ru.wk (j (k+1) af af λi hi h=>?_);by_cases e:i=k;·subst e;exact b
  exact f i af h
 refine Ru.exitTo ?_;refine ah ?_;refine Ru.aV (h2 λm=>?_);obtain⟨i,hi,e⟩:=aka m;exact f i af hi e
section
section
variable{g:G.bu}{H:ai}{cs:List AV}
theorem aej(T:Tb ac)(hg:iG H g cs)(r:G.Sm g){K:KT}(h1:∀m,bm H m->uc g=false->K (.bool true) m)(h2:∀m,bm H m->uc g=true->K (.bool false) m):YN ac Ws [.agg cs] H K:=by
 have I:=hg.one;obtain⟨X,rfl,cA⟩:=hg;have⟨L,a,N,O⟩:=cA.all;have hb:=r.nb;have hs:mJ g.al<=1000*g.al.length:=OW λb hb=>by have h1:=r.bl b hb;have h2:=OV (r.ed b hb);omega
 refine YF.code T.abc aB ?_;refine ah ?_;refine RO.dL (aj.dc H) (λH1 q U=>?_);refine ah ?_;refine Ru.nm λS M t n=>?_;refine Ru.cC n (up (P:=λk=>∀c,c+mJ (g.al.drop k)=mJ g.al->Ru ac _ S ([(p4,aN k),(p3,aN c)]++pk M [p1]) H1) g.al.length (λk Y J c u=>?_) 0 af 0 aB);subst t;subst n;refine Ru.loop ?_;refine ah ?_;refine Ru.cond (λh=>?_) (λh=>?_)
 .rw[aj9 h]at u;simp only[mJ]at u;have P:=r.bl _ (agB h);refine ah ?_;refine RO.cZ U.gr cA (λv o1 c1 hj a i hat hrd=>?_) (j:=k);obtain⟨B,C,D,rfl,_,l,w,E,s,rfl,_,_,d⟩:=a;have⟨Q,_,_,R⟩:=l.all;have⟨o,_,_,p⟩:=d.all;refine ah ?_;refine Ru.nm λS M t n=>?_;refine Ru.cC n (up (P:=λj=>∀x,x+pH (g.al[k].aA.go.drop j)=c+(g.al[k].aD.length+pH g.al[k].aA.go)->Ru ac _ S ([(p5,aN j),(p3,aN x)]++pk M [p1,p4]) H1) g.al[k].aA.go.length (λj hj z x y=>?_) 0 af (c+g.al[k].aD.length) (by simp;omega));subst t;subst n;refine Ru.loop ?_;refine ah ?_;refine RO.cZ U.gr cA (λv o1 c1 hj a i hat hrd=>?_) (j:=k);obtain⟨B,C,D,rfl,_,l,w,E,s,rfl,_,_,d⟩:=a;have⟨o,_,_,p⟩:=d.all;refine ah ?_;refine RO.aW (v:=s) ?_ (hc:=hat 6 _ rfl);refine ah ?_;refine Ru.cond (λf=>?_) (λf=>?_);·rw[aj9 f]at y;simp only[pH]at y;refine ah ?_;refine RO.cZ U.gr cA (λv o1 c1 hj a i hat hrd=>?_) (j:=k);obtain⟨B,C,D,rfl,_,l,w,E,s,rfl,_,_,d⟩:=a;have⟨o,_,_,p⟩:=d.all;refine ah ?_;refine RO.aW (v:=s) ?_ (hc:=hat 6 _ rfl);refine ah ?_;refine RO.cZ U.gr d (λv o1 c1 hj a i hat hrd=>?_) (j:=j);obtain⟨w,rfl,A⟩:=a;have⟨V,_,_,W⟩:=A.all;refine ah ?_;exact Ru.wk (z (j+1) af af (x+g.al[k].aA.go[j].args.length) af)
  refine Ru.exitTo ?_;refine ah ?_;exact Ru.wk (J (k+1) af af x (by simp[List.drop_of_length_le (show g.al[k].aA.go.length<=j by omega),pH]at y;omega))
 simp only[List.drop_of_length_le (show g.al.length<=k by omega),mJ]at u;have e:c=mJ g.al:=af;subst e;refine Ru.exitTo ?_;have e1:ak1 6000=6000:=rfl;repeat'(first|refine rR ?_|refine RO.de (λ_=>?_) (λ_=>?_))
 .rename_i Z g2;by_cases F:mJ g.al<=6000;·rw[decide_eq_true F];exact Ru.aV (h1 _ U.gr (by simp only[uc,Bool.or_eq_false_iff,decide_eq_false_iff_not];omega))
  rw[decide_eq_false F];exact Ru.aV (h2 _ U.gr (by simp only[uc,alf,decide_eq_true_eq];omega))
 all_goals exact Ru.aV (h2 _ U.gr (by simp only[uc,alf,decide_eq_true_eq];omega))
theorem aek(T:Tb ac){t:List Nat}{K:KT}(h:K (aN (iu t)) H):YN ac W4 [.str t] H K:=by
 refine YF.code T.abV aB ?_;repeat'(first|refine rR ?_|(refine Ru.kN (λa=>?_) (λa=>?_)<;>rw[a]))
 all_goals first|(rw[qv,decide_eq_true_eq]at a;subst a;exact Ru.aV (by simpa[iu,Cu,Cv,Cw]using h))|skip
 simp only[qv,decide_eq_false_iff_not]at*;exact Ru.aV (by simpa[iu,Cu,Cv,Cw, *]using h)
end
end
structure rm where
 w:List Nat
 to:Bool
 sy:Int
 n:Bool
 lo:Int
 hi:Int
 nm:Int
 go:Int
def Jg(s:rm):AV:=.agg [.str s.w,.bool s.to,aI s.sy,.bool s.n,aI s.lo,aI s.hi,aI s.nm,aI s.go]
def OX:rm:=⟨[],false,0,false,0,0,0,0⟩
def ud(op:Nat):List (Nat×rm)->rm
 |[]=>OX
 |p::l=>if op=p.1 then p.2 else ud op l
def EY:List (Nat×rm):=[(1,⟨[105,110,116],true,0,true,(-1000000000),1000000000,0,0⟩),(2,⟨[98,111,111,108],true,0,true,0,1,0,0⟩),(3,⟨[116,101,120,116],true,0,false,0,0,1,0⟩),(4,⟨[117,110,105,116],true,0,false,0,0,0,0⟩),(11,⟨[102,110],true,0,false,0,0,2,0⟩),(40,⟨[99,108,111,115,101],true,(-1),false,0,0,2,0⟩),(14,⟨[112,114,105,109],true,(-1),false,0,0,3,0⟩),(15,⟨[110,101,119],true,(-1),false,0,0,4,0⟩),(16,⟨[103,101,116],true,1,true,0,5,5,0⟩),(17,⟨[112,117,116],false,2,true,0,5,5,0⟩),(18,⟨[99,97,115,101],true,(-1),false,0,0,6,0⟩),(13,⟨[99,97,108,108],true,(-2),false,0,0,0,0⟩),(21,⟨[116,104,114,111,119],false,1,false,0,0,0,0⟩),(23,⟨[115,112,97,119,110],false,1,false,0,0,0,0⟩),(24,⟨[99,104,97,110],true,0,true,1,8,0,0⟩),(25,⟨[115,101,110,100],false,2,false,0,0,0,0⟩),(26,⟨[114,101,99,118],true,1,false,0,0,0,0⟩),(31,⟨[121,105,101,108,100],false,0,false,0,0,0,0⟩),(32,⟨[111,117,116],false,1,false,0,0,0,0⟩),(33,⟨[105,110],true,0,false,0,0,0,0⟩),(34,⟨[99,111,108,108,101,99,116],false,0,false,0,0,0,0⟩),(35,⟨[119,101,97,107],true,1,false,0,0,0,0⟩)]
def yM:List (Nat×rm):=[(37,⟨[114,111,111,116],true,0,false,0,0,7,0⟩),(38,⟨[115,101,116,114,111,111,116],false,1,false,0,0,7,0⟩),(39,⟨[116,105,99,107],false,0,false,0,0,0,0⟩),(60,⟨[109,111,118,101],true,1,false,0,0,0,0⟩),(61,⟨[103,111],false,0,false,0,0,0,1⟩),(62,⟨[105,102],false,1,false,0,0,0,2⟩),(63,⟨[105,115],false,1,false,0,0,6,2⟩),(64,⟨[112,97,114,116],true,1,true,0,3,0,0⟩),(65,⟨[104,111,108,100],true,1,false,0,0,0,2⟩),(66,⟨[115,101,108,101,99,116],false,0,false,0,0,0,0⟩),(67,⟨[116,114,121],true,0,false,0,0,0,1⟩),(68,⟨[101,110,100],false,0,false,0,0,0,0⟩),(69,⟨[114,101,116],false,1,false,0,0,0,0⟩),(70,⟨[115,116,117,99,107],false,0,false,0,0,0,0⟩)]
def sA(op:Nat):rm:=ud op (EY++yM)
theorem ael(T:Tb ac){H:ai}{op:Nat}{K:KT}(a:∀b,bm H b->K (Jg (ud op yM)) b):YN ac Xs [aU op] H K:=by
 refine YF.code T.acm aB ?_;refine au ?_;refine RO.gI (aj.dc H) λH1 q U=>?_;refine ah ?_;iterate 14
  refine Ru.cond (λc=>?_) (λc=>?_);·subst c;refine ah ?_;refine RO.iT U 0 (λd U=>?_);refine ah ?_;exact Ru.lM (vs:=[_]) ⟨⟨q,0,rfl,U.agg 0⟩,trivial⟩ (a _ U.gr)
  refine ah ?_
 have e:ud op yM=OX:=by simp only[yM,ud, *,bP]
 rw[e]at a;refine RO.iT U 0 (λd U=>?_);refine ah ?_;exact Ru.lM (vs:=[_]) ⟨⟨q,0,rfl,U.agg 0⟩,trivial⟩ (a _ U.gr)
theorem Jh(T:Tb ac){H:ai}{op:Nat}{K:KT}(b:∀c,bm H c->K (Jg (sA op)) c):YN ac Xh [aU op] H K:=by
 refine YF.code T.ab8 aB ?_;refine au ?_;refine RO.gI (aj.dc H) λH1 q U=>?_;refine ah ?_;refine Ru.cond (λa=>?_) (λa=>?_);·subst a;refine ah ?_;refine RO.iT U 0 (λd U=>?_);refine ah ?_;exact Ru.lM (vs:=[_]) ⟨⟨q,0,rfl,U.agg 0⟩,trivial⟩ (b _ U.gr)
 refine ah ?_;iterate 21
  refine Ru.cond (λa=>?_) (λa=>?_);·subst a;refine ah ?_;refine RO.iT U 0 (λd U=>?_);refine ah ?_;exact Ru.lM (vs:=[_]) ⟨⟨q,0,rfl,U.agg 0⟩,trivial⟩ (b _ U.gr)
  refine ah ?_
 have e:sA op=ud op yM:=by simp only[sA,EY,akV,ak0,ud, *,bP]
 rw[e]at b;refine RO.cl (ael T λd hg=>?_);have U:=U.cI hg;refine RO.iT U 0 (λf U=>?_);refine ah ?_;exact Ru.lM (vs:=[_]) ⟨⟨q,0,rfl,U.agg 0⟩,trivial⟩ (b _ U.gr)
def ue(op:Nat)(m:Int):rm:=if op=13/\m=1 then⟨[102,114,101,101],true, -3,false,0,0,2,0⟩else sA op
theorem aem(T:Tb ac){H:ai}{op:Nat}{m:Int}{K:KT}(b:∀d,bm H d->K (Jg (ue op m)) d):YN ac W1 [aU op,aI m] H K:=by
 refine YF.code T.abS aB ?_;refine au ?_;refine RO.gI (aj.dc H) λH1 q U=>?_;repeat'(first|refine rR ?_|refine RO.de (λ_=>?_) (λ_=>?_))
 .rename_i a;refine Ru.cond (λc=>?_) (λc=>?_);·rw[ue,aK ⟨a,c⟩]at b;refine ah ?_;refine RO.iT U 0 (λe U=>?_);refine ah ?_;exact Ru.lM (vs:=[_]) ⟨⟨q,0,rfl,U.agg 0⟩,trivial⟩ (b _ U.gr)
  rw[ue,aq λh=>c h.2]at b;refine ah ?_;refine RO.cl (Jh T λe hg=>?_);have U:=U.cI hg;refine RO.iT U 0 (λf U=>?_);refine ah ?_;exact Ru.lM (vs:=[_]) ⟨⟨q,0,rfl,U.agg 0⟩,trivial⟩ (b _ U.gr)
 rename_i a;rw[ue,aq λh=>a h.1]at b;refine RO.cl (Jh T λe hg=>?_);have U:=U.cI hg;refine RO.iT U 0 (λf U=>?_);refine ah ?_;exact Ru.lM (vs:=[_]) ⟨⟨q,0,rfl,U.agg 0⟩,trivial⟩ (b _ U.gr)
end
end Go.am.R
end
