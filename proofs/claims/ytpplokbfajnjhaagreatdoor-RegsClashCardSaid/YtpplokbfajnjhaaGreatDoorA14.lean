/- A part. No conditions. -/
import Derived.Test.YtpplokbfajnjhaaGreatDoorA13
set_option linter.all false
set_option maxHeartbeats 16000000
open Int renaming ofNat->aiC
noncomputable section
namespace Go.al.R
section
variable{ab:Nat->aV}
theorem LN:∀{l:List Nat}{k:Nat}(h:k<l.length),yg l k=some l[k]|_::_,0,_=>rfl|_::l,k+1,h=>LN (l:=l) (by simpa using h)
theorem RO.nH{c:Cx}{s:List SI}{L:Kn}{H:ai}{d:Option ah}{l:List bD}{x y:aJ}{t:List Nat}{j kd:Nat}(hj:j<t.length)(h:RO ab c l s (bq L d (.int 4 (.ofNat t[j]))) H)(b:aT L x=.str t:=by exact cw)(e:aT L y=.int kd (.ofNat j):=by exact cw):RO ab c (⟨d,.nH x y,none,[],[]⟩::l) s L H:=RO.op (λac a=>by simp only[aH,a.gv b rfl,a.gv e rfl,LN hj,aip]) h
theorem py(T:Tb ab){H:ai}{a b n:Int}{K:KT}(h1:a<=n->n<=b->K (.bool true) H)(h2:¬(a<=n/\n<=b)->K (.bool false) H):YN ab W6 [.int 3 n,.int 3 a,.int 3 b] H K:=by
 refine YF.code T.Zk aC ?_;repeat'(first|refine nO ?_|refine RO.bW (λ_=>?_) (λ_=>?_))
 .rename_i d;by_cases c:n<=b;·rw[decide_eq_true c];exact Ru.aL (h1 d c)
  rw[decide_eq_false c];exact Ru.aL (h2 λh=>c h.2)
 rename_i d;exact Ru.aL (h2 λh=>d h.1)
theorem B'(T:Tb ab){H:ai}{t:List Nat}(hb:∀x∈t,x<256)(hl:t.length<=1000000){K:KT}(h1:jR t->K (.bool true) H)(h2:¬jR t->K (.bool false) H):YN ab W5 [.str t] H K:=by
 refine YF.code T.Zj aC (af ?_);refine Ru.nm λS M m j=>Ru.bI j (up (P:=λk=>(∀i,i<k->∀h:i<t.length,33<=t[i]/\t[i]<=126/\t[i]≠34)->Ru ab _ S ([(p3,aN k)]++pk M [p0]) H) t.length (λk q n l=>?_) 0 aa (λi hi=>by omega));subst m;subst j;refine Ru.loop (af ?_);refine Ru.cond (λa=>?_) (λa=>?_)
 .have p:=hb _ (acm a);refine af ?_;refine RO.nH a (RO.ku ?_) (j:=k);rw[m8 (n:=.ofNat t[k]) (by rw[ahU];omega) (by rw[ahU];omega)];refine RO.cl (py T (λd f=>?_) (λg=>?_))
  .refine af ?_;refine RO.nH a (af ?_) (j:=k);refine Ru.cond (λo=>?_) (λo=>?_);·refine af ?_;exact Ru.aL (h2 λc=>by have:=c.2.2 _ (acm a);omega)
   refine af ?_;refine Ru.wk (n (k+1) aa aa λi hi h=>?_);by_cases e:i=k;·subst e;simp only[ahU]at d f;omega
   exact l i aa h
  refine af ?_;exact Ru.aL (h2 λc=>g (by have:=c.2.2 _ (acm a);simp only[ahU];omega))
 refine Ru.exitTo ?_;refine af ?_;refine RO.cl (py T (λd f=>?_) (λg=>?_));·refine af ?_;refine Ru.aL (h1 ⟨by simp only[ahU]at d;omega,by simp only[ahU]at f;omega,λb hb=>?_⟩);obtain⟨i,hi,rfl⟩:=ah0 hb;exact l i aa hi
 refine af ?_;exact Ru.aL (h2 λc=>g (by have h3:=c.1;have r:=c.2.1;simp only[ahU];omega))
theorem ab5(T:Tb ab){H:ai}{t:List Nat}(hb:∀x∈t,x<256)(hl:t.length<=1000000){K:KT}(h1:rU t->K (.bool true) H)(h2:¬rU t->K (.bool false) H):YN ab Xs [.str t] H K:=by
 refine YF.code T.ZE aC (af ?_);refine Ru.nm λS M m j=>Ru.bI j (up (P:=λk=>(∀i,i<k->∀h:i<t.length,(32<=t[i]/\t[i]<=126)\/t[i]=10)->Ru ab _ S ([(p3,aN k)]++pk M [p0]) H) t.length (λk r f l=>?_) 0 aa (λi hi=>by omega));subst m;subst j;refine Ru.loop (af ?_);refine Ru.cond (λa=>?_) (λa=>?_)
 .have q:=hb _ (acm a);have f:=f (k+1) aa aa;have d:(32<=t[k]/\t[k]<=126)\/t[k]=10->∀i,i<k+1->∀h:i<t.length,(32<=t[i]/\t[i]<=126)\/t[i]=10:=λhg i hi h=>by
   by_cases e:i=k;·subst e;exact hg
   exact l i aa h
  refine af ?_;refine RO.nH a (RO.ku ?_) (j:=k);rw[m8 (n:=.ofNat t[k]) (by rw[ahU];omega) (by rw[ahU];omega)];refine RO.cl (py T (λn c=>?_) (λo=>?_));·refine af ?_;exact Ru.wk (f (d (.inl (by simp only[ahU]at n c;omega))))
  refine af ?_;refine RO.nH a (af ?_) (j:=k);refine Ru.cond (λp=>?_) (λp=>?_);·refine af ?_;exact Ru.aL (h2 λg=>by have:=g.2 _ (acm a);simp only[ahU]at o;omega)
  refine af ?_;exact Ru.wk (f (d (.inr aa)))
 refine Ru.exitTo ?_;refine af ?_;by_cases c:t.length<=200;·rw[decide_eq_true c];refine Ru.aL (h1 ⟨c,λb hb=>?_⟩);obtain⟨i,hi,rfl⟩:=ah0 hb;exact l i aa hi
 rw[decide_eq_false c];exact Ru.aL (h2 λg=>c g.1)
theorem FF(T:Tb ab){H:ai}{l:List Int}{v:AV}(b:eE H l v)(hl:l.length<=1000000){n:Int}(r:0<=n)(z:n<=1000000){K:KT}(h1:(∀x∈l,0<=x/\x<=n - 1)->K (.bool true) H)(h2:(¬∀x∈l,0<=x/\x<=n - 1)->K (.bool false) H):YN ab Xr [v,.int 3 n] H K:=by
 have⟨s,t,u,w⟩:=b.all;refine YF.code T.ZD aC (af ?_);refine Ru.nm λS M f c=>Ru.bI c (up (P:=λk=>(∀i,i<k->∀h:i<l.length,0<=l[i]/\l[i]<=n - 1)->Ru ab _ S ([(p5,aN k)]++pk M [p0,p1]) H) l.length (λk A g d=>?_) 0 aa (λi hi=>by omega));subst f;subst c;refine Ru.loop (af ?_);refine Ru.cond (λa=>?_) (λa=>?_)
 .refine af ?_;refine RO.jk (aS.refl H) b (λB o1 hj y=>af ?_) (j:=k);refine RO.sub (RO.cl (py T (λj m=>?_) (λo=>?_))) (a:=n) (b:=1)
  .refine af ?_;refine Ru.wk (g (k+1) aa aa λi hi h=>?_);by_cases e:i=k;·subst e;exact⟨j,m⟩
   exact d i aa h
  refine af ?_;exact Ru.aL (h2 λp=>o (p _ (acm a)))
 refine Ru.exitTo ?_;refine af ?_;refine Ru.aL (h1 λx q=>?_);obtain⟨i,hi,rfl⟩:=ah0 q;exact d i aa hi
theorem FG(T:Tb ab){H:ai}{l:List Int}{v:AV}(c:eE H l v)(hl:l.length<=1000000){n:Int}{K:KT}(h1:n∈l->K (.bool true) H)(h2:n∉l->K (.bool false) H):YN ab Xe [v,.int 3 n] H K:=by
 have⟨o,p,q,r⟩:=c.all;refine YF.code T.Zr aC (af ?_);refine Ru.nm λS M g d=>Ru.bI d (up (P:=λk=>(∀i,i<k->∀h:i<l.length,l[i]≠n)->Ru ab _ S ([(p5,aN k)]++pk M [p0,p1]) H) l.length (λk t j f=>?_) 0 aa (λi hi=>by omega));subst g;subst d;refine Ru.loop (af ?_);refine Ru.cond (λa=>?_) (λa=>?_)
 .refine af ?_;refine RO.jk (aS.refl H) c (λu o1 hj s=>af ?_) (j:=k);refine Ru.cond (λb=>?_) (λb=>?_);·refine af ?_;exact Ru.aL (h1 (b▸acm a))
  refine af ?_;refine Ru.wk (j (k+1) aa aa λi hi h=>?_);by_cases e:i=k;·subst e;exact b
  exact f i aa h
 refine Ru.exitTo ?_;refine af ?_;refine Ru.aL (h2 λm=>?_);have⟨i,hi,e⟩:=ah0 m;exact f i aa hi e
section
section
variable{g:G.aP}{H:ai}{cs:List AV}
theorem ab7(T:Tb ab)(hg:dt H g cs)(p:G.Sm g){K:KT}(h1:∀H',aS H H'->jT g=false->K (.bool true) H')(h2:∀H',aS H H'->jT g=true->K (.bool false) H'):YN ab WW [.agg cs] H K:=by
 have F:=hg.one;obtain⟨W,rfl,bG⟩:=hg;have⟨J,a,L,N⟩:=bG.all;have hb:=p.nb;have hs:kM g.aj<=1000*g.aj.length:=LQ λb hb=>by have h1:=p.bl b hb;have h2:=LP (p.ed b hb);omega
 refine YF.code T.Y' aC (af ?_);refine RO.ct (ak.bN H) (λH1 q U=>af ?_);refine Ru.nm λS M s m=>Ru.bI m (up (P:=λk=>∀c,c+kM (g.aj.drop k)=kM g.aj->Ru ab _ S ([(p4,aN k),(p3,aN c)]++pk M [p1]) H1) g.aj.length (λk X I c t=>?_) 0 aa 0 aC);subst s;subst m;refine Ru.loop (af ?_);refine Ru.cond (λh=>?_) (λh=>?_)
 .rw[ah6 h]at t;simp only[kM]at t;have O:=p.bl _ (acm h);refine af ?_;refine RO.bO U.gr bG (λu o1 c1 hj a i hat hrd=>?_) (j:=k);obtain⟨A,B,C,rfl,_,l,v,D,r,rfl,_,_,d⟩:=a;have⟨P,_,_,Q⟩:=l.all;have⟨n,_,_,o⟩:=d.all;refine af ?_;refine Ru.nm λS M s m=>?_;refine Ru.bI m (up (P:=λj=>∀x,x+mu (g.aj[k].aq.go.drop j)=c+(g.aj[k].aA.length+mu g.aj[k].aq.go)->Ru ab _ S ([(p5,aN j),(p3,aN x)]++pk M [p1,p4]) H1) g.aj[k].aq.go.length (λj hj y x w=>?_) 0 aa (c+g.aj[k].aA.length) (by simp;omega));subst s;subst m;refine Ru.loop (af ?_);refine RO.bO U.gr bG (λu o1 c1 hj a i hat hrd=>?_) (j:=k);obtain⟨A,B,C,rfl,_,l,v,D,r,rfl,_,_,d⟩:=a;have⟨n,_,_,o⟩:=d.all;refine af ?_;refine RO.be (v:=r) (af ?_) (hc:=hat 6 _ rfl);refine Ru.cond (λf=>?_) (λf=>?_);·rw[ah6 f]at w;simp only[mu]at w;refine af ?_;refine RO.bO U.gr bG (λu o1 c1 hj a i hat hrd=>?_) (j:=k);obtain⟨A,B,C,rfl,_,l,v,D,r,rfl,_,_,d⟩:=a;have⟨n,_,_,o⟩:=d.all;refine af ?_;refine RO.be (v:=r) (af ?_) (hc:=hat 6 _ rfl);refine RO.bO U.gr d (λu o1 c1 hj a i hat hrd=>?_) (j:=j);obtain⟨v,rfl,z⟩:=a;have⟨R,_,_,V⟩:=z.all;refine af ?_;exact Ru.wk (y (j+1) aa aa (x+g.aj[k].aq.go[j].args.length) aa)
  refine Ru.exitTo ?_;refine af ?_;exact Ru.wk (I (k+1) aa aa x (by simp[List.drop_of_length_le (show g.aj[k].aq.go.length<=j by omega),mu]at w;omega))
 simp only[List.drop_of_length_le (show g.aj.length<=k by omega),kM]at t;have e:c=kM g.aj:=aa;subst e;refine Ru.exitTo ?_;have e1:aiC 6000=6000:=rfl;repeat'(first|refine nO ?_|refine RO.bW (λ_=>?_) (λ_=>?_))
 .rename_i Y Z;by_cases E:kM g.aj<=6000;·rw[decide_eq_true E];exact Ru.aL (h1 _ U.gr (by simp only[jT,Bool.or_eq_false_iff,decide_eq_false_iff_not];omega))
  rw[decide_eq_false E];exact Ru.aL (h2 _ U.gr (by simp only[jT,ai6,decide_eq_true_eq];omega))
 all_goals exact Ru.aL (h2 _ U.gr (by simp only[jT,ai6,decide_eq_true_eq];omega))
theorem ab8(T:Tb ab){t:List Nat}{K:KT}(h:K (aN (ft t)) H):YN ab Xt [.str t] H K:=by
 refine YF.code T.ZF aC ?_;repeat'(first|refine nO ?_|(refine Ru.eC (λa=>?_) (λa=>?_)<;>rw[a]))
 all_goals first|(rw[jS,decide_eq_true_eq]at a;subst a;exact Ru.aL (by simpa[ft,zF,zG,zH]using h))|skip
 simp only[jS,decide_eq_false_iff_not]at*;exact Ru.aL (by simpa[ft,zF,zG,zH, *]using h)
end
end
structure oq where
 w:List Nat
 to:Bool
 ou:Int
 n:Bool
 lo:Int
 hi:Int
 nm:Int
 go:Int
def FH(s:oq):AV:=.agg [.str s.w,.bool s.to,aI s.ou,.bool s.n,aI s.lo,aI s.hi,aI s.nm,aI s.go]
def LR:oq:=⟨[],false,0,false,0,0,0,0⟩
def pz(op:Nat):List (Nat×oq)->oq
 |[]=>LR
 |p::l=>if op=p.1 then p.2 else pz op l
def zR:List (Nat×oq):=[(1,⟨[105,110,116],true,0,true,(-1000000000),1000000000,0,0⟩),(2,⟨[98,111,111,108],true,0,true,0,1,0,0⟩),(3,⟨[116,101,120,116],true,0,false,0,0,1,0⟩),(4,⟨[117,110,105,116],true,0,false,0,0,0,0⟩),(11,⟨[102,110],true,0,false,0,0,2,0⟩),(40,⟨[99,108,111,115,101],true,(-1),false,0,0,2,0⟩),(14,⟨[112,114,105,109],true,(-1),false,0,0,3,0⟩),(15,⟨[110,101,119],true,(-1),false,0,0,4,0⟩),(16,⟨[103,101,116],true,1,true,0,5,5,0⟩),(17,⟨[112,117,116],false,2,true,0,5,5,0⟩),(18,⟨[99,97,115,101],true,(-1),false,0,0,6,0⟩),(13,⟨[99,97,108,108],true,(-2),false,0,0,0,0⟩),(21,⟨[116,104,114,111,119],false,1,false,0,0,0,0⟩),(23,⟨[115,112,97,119,110],false,1,false,0,0,0,0⟩),(24,⟨[99,104,97,110],true,0,true,1,8,0,0⟩),(25,⟨[115,101,110,100],false,2,false,0,0,0,0⟩),(26,⟨[114,101,99,118],true,1,false,0,0,0,0⟩),(31,⟨[121,105,101,108,100],false,0,false,0,0,0,0⟩),(32,⟨[111,117,116],false,1,false,0,0,0,0⟩),(33,⟨[105,110],true,0,false,0,0,0,0⟩),(34,⟨[99,111,108,108,101,99,116],false,0,false,0,0,0,0⟩),(35,⟨[119,101,97,107],true,1,false,0,0,0,0⟩)]
def tz:List (Nat×oq):=[(37,⟨[114,111,111,116],true,0,false,0,0,7,0⟩),(38,⟨[115,101,116,114,111,111,116],false,1,false,0,0,7,0⟩),(39,⟨[116,105,99,107],false,0,false,0,0,0,0⟩),(60,⟨[109,111,118,101],true,1,false,0,0,0,0⟩),(61,⟨[103,111],false,0,false,0,0,0,1⟩),(62,⟨[105,102],false,1,false,0,0,0,2⟩),(63,⟨[105,115],false,1,false,0,0,6,2⟩),(64,⟨[112,97,114,116],true,1,true,0,3,0,0⟩),(65,⟨[104,111,108,100],true,1,false,0,0,0,2⟩),(66,⟨[115,101,108,101,99,116],false,0,false,0,0,0,0⟩),(67,⟨[116,114,121],true,0,false,0,0,0,1⟩),(68,⟨[101,110,100],false,0,false,0,0,0,0⟩),(69,⟨[114,101,116],false,1,false,0,0,0,0⟩),(70,⟨[115,116,117,99,107],false,0,false,0,0,0,0⟩)]
def lW(op:Nat):oq:=pz op (zR++tz)
theorem ab9(T:Tb ab){H:ai}{op:Nat}{K:KT}(a:∀H',aS H H'->K (FH (pz op tz)) H'):YN ab XQ [aU op] H K:=by
 refine YF.code T.Z5 aC (au ?_);refine RO.dN (ak.bN H) λH1 q U=>af ?_;iterate 14
  refine Ru.cond (λb=>?_) (λb=>?_);·subst b;refine af ?_;refine RO.eY U 0 (λc U=>af ?_);exact Ru.i9 (vs:=[_]) ⟨⟨q,0,rfl,U.agg 0⟩,trivial⟩ (a _ U.gr)
  refine af ?_
 have e:pz op tz=LR:=by simp only[tz,pz, *,bF]
 rw[e]at a;refine RO.eY U 0 (λc U=>af ?_);exact Ru.i9 (vs:=[_]) ⟨⟨q,0,rfl,U.agg 0⟩,trivial⟩ (a _ U.gr)
theorem FI(T:Tb ab){H:ai}{op:Nat}{K:KT}(b:∀H',aS H H'->K (FH (lW op)) H'):YN ab XG [aU op] H K:=by
 refine YF.code T.ZU aC (au ?_);refine RO.dN (ak.bN H) λH1 q U=>af ?_;refine Ru.cond (λa=>?_) (λa=>?_);·subst a;refine af ?_;refine RO.eY U 0 (λc U=>af ?_);exact Ru.i9 (vs:=[_]) ⟨⟨q,0,rfl,U.agg 0⟩,trivial⟩ (b _ U.gr)
 refine af ?_;iterate 21
  refine Ru.cond (λa=>?_) (λa=>?_);·subst a;refine af ?_;refine RO.eY U 0 (λc U=>af ?_);exact Ru.i9 (vs:=[_]) ⟨⟨q,0,rfl,U.agg 0⟩,trivial⟩ (b _ U.gr)
  refine af ?_
 have e:lW op=pz op tz:=by simp only[lW,zR,aiR,aiY,pz, *,bF]
 rw[e]at b;refine RO.cl (ab9 T λc hg=>?_);have U:=U.bR hg;refine RO.eY U 0 (λd U=>af ?_);exact Ru.i9 (vs:=[_]) ⟨⟨q,0,rfl,U.agg 0⟩,trivial⟩ (b _ U.gr)
def nq(op:Nat)(m:Int):oq:=if op=13/\m=1 then⟨[102,114,101,101],true, -3,false,0,0,2,0⟩else lW op
theorem aca(T:Tb ab){H:ai}{op:Nat}{m:Int}{K:KT}(b:∀H',aS H H'->K (FH (nq op m)) H'):YN ab Xq [aU op,aI m] H K:=by
 refine YF.code T.ZC aC (au ?_);refine RO.dN (ak.bN H) λH1 q U=>?_;repeat'(first|refine nO ?_|refine RO.bW (λ_=>?_) (λ_=>?_))
 .rename_i a;refine Ru.cond (λc=>?_) (λc=>?_);·rw[nq,aG ⟨a,c⟩]at b;refine af ?_;refine RO.eY U 0 (λd U=>af ?_);exact Ru.i9 (vs:=[_]) ⟨⟨q,0,rfl,U.agg 0⟩,trivial⟩ (b _ U.gr)
  rw[nq,an λh=>c h.2]at b;refine af ?_;refine RO.cl (FI T λd hg=>?_);have U:=U.bR hg;refine RO.eY U 0 (λe U=>af ?_);exact Ru.i9 (vs:=[_]) ⟨⟨q,0,rfl,U.agg 0⟩,trivial⟩ (b _ U.gr)
 rename_i a;rw[nq,an λh=>a h.1]at b;refine RO.cl (FI T λd hg=>?_);have U:=U.bR hg;refine RO.eY U 0 (λe U=>af ?_);exact Ru.i9 (vs:=[_]) ⟨⟨q,0,rfl,U.agg 0⟩,trivial⟩ (b _ U.gr)
end
end Go.al.R
end
