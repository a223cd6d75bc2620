/- A part. No conditions. -/
import Derived.Test.YtcipmlnpjkngpaaGreatDoorA15
set_option linter.all false
set_option maxHeartbeats 16000000
open Int renaming ofNat->afq
noncomputable section
namespace Go.ak.R
section
variable{ac:Nat->aX}
theorem K8:∀{l:List Nat}{k:Nat}(h:k<l.length),sF l k=some l[k]|_::_,0,_=>rfl|_::l,k+1,h=>K8 (l:=l) (by simpa using h)
theorem RO.mw{c:Cx}{s:List SI}{L:Kn}{H:ai}{d:Option af}{l:List bu}{x y:aK}{t:List Nat}{j kd:Nat}(hj:j<t.length)(h:RO ac c l s (bj L d (.int 4 (.ofNat t[j]))) H)(b:aT L x=.str t:=by exact cw)(e:aT L y=.int kd (.ofNat j):=by exact cw):RO ac c (⟨d,.mw x y,none,[],[]⟩::l) s L H:=RO.op (λaa a=>by simp only[aE,a.gv b rfl,a.gv e rfl,K8 hj,aeT]) h
theorem oC(T:Tb ac){H:ai}{a b n:Int}{K:KT}(h1:a<=n->n<=b->K (.bool true) H)(h2:¬(a<=n/\n<=b)->K (.bool false) H):YN ac UC [.int 3 n,.int 3 a,.int 3 b] H K:=by
 refine YF.code T.Wn aC ?_;repeat'(first|refine lX ?_|refine RO.bT (λ_=>?_) (λ_=>?_))
 .rename_i d;by_cases c:n<=b;·rw[decide_eq_true c];exact Ru.aP (h1 d c)
  rw[decide_eq_false c];exact Ru.aP (h2 λh=>c h.2)
 rename_i d;exact Ru.aP (h2 λh=>d h.1)
theorem Bk(T:Tb ac){H:ai}{t:List Nat}(hb:∀x∈t,x<256)(hl:t.length<=1000000){K:KT}(h1:jo t->K (.bool true) H)(h2:¬jo t->K (.bool false) H):YN ac UB [.str t] H K:=by
 refine YF.code T.Wm aC ?_;refine ah ?_;refine Ru.nm λS M m j=>?_;refine Ru.bM j (up (P:=λk=>(∀i,i<k->∀h:i<t.length,33<=t[i]/\t[i]<=126/\t[i]≠34)->Ru ac _ S ([(p3,aN k)]++pk M [p0]) H) t.length (λk q n l=>?_) 0 ab (λi hi=>by omega));subst m;subst j;refine Ru.loop ?_;refine ah ?_;refine Ru.cond (λa=>?_) (λa=>?_)
 .have p:=hb _ (acI a);refine ah ?_;refine RO.mw a ?_ (j:=k);refine RO.jM ?_;rw[ma (n:=.ofNat t[k]) (by rw[aev];omega) (by rw[aev];omega)];refine RO.cl (oC T (λd f=>?_) (λg=>?_))
  .refine ah ?_;refine RO.mw a ?_ (j:=k);refine ah ?_;refine Ru.cond (λo=>?_) (λo=>?_);·refine ah ?_;exact Ru.aP (h2 λc=>by have:=c.2.2 _ (acI a);omega)
   refine ah ?_;refine Ru.wk (n (k+1) ab ab λi hi h=>?_);by_cases e:i=k;·subst e;simp only[aev]at d f;omega
   exact l i ab h
  refine ah ?_;exact Ru.aP (h2 λc=>g (by have:=c.2.2 _ (acI a);simp only[aev];omega))
 refine Ru.exitTo ?_;refine ah ?_;refine RO.cl (oC T (λd f=>?_) (λg=>?_));·refine ah ?_;refine Ru.aP (h1 ⟨by simp only[aev]at d;omega,by simp only[aev]at f;omega,λb hb=>?_⟩);obtain⟨i,hi,rfl⟩:=aeB hb;exact l i ab hi
 refine ah ?_;exact Ru.aP (h2 λc=>g (by have h3:=c.1;have r:=c.2.1;simp only[aev];omega))
theorem ZM(T:Tb ac){H:ai}{t:List Nat}(hb:∀x∈t,x<256)(hl:t.length<=1000000){K:KT}(h1:qE t->K (.bool true) H)(h2:¬qE t->K (.bool false) H):YN ac U2 [.str t] H K:=by
 refine YF.code T.WR aC ?_;refine ah ?_;refine Ru.nm λS M m j=>?_;refine Ru.bM j (up (P:=λk=>(∀i,i<k->∀h:i<t.length,(32<=t[i]/\t[i]<=126)\/t[i]=10)->Ru ac _ S ([(p3,aN k)]++pk M [p0]) H) t.length (λk r f l=>?_) 0 ab (λi hi=>by omega));subst m;subst j;refine Ru.loop ?_;refine ah ?_;refine Ru.cond (λa=>?_) (λa=>?_)
 .have q:=hb _ (acI a);have f:=f (k+1) ab ab;have d:(32<=t[k]/\t[k]<=126)\/t[k]=10->∀i,i<k+1->∀h:i<t.length,(32<=t[i]/\t[i]<=126)\/t[i]=10:=λhg i hi h=>by
   by_cases e:i=k;·subst e;exact hg
   exact l i ab h
  refine ah ?_;refine RO.mw a ?_ (j:=k);refine RO.jM ?_;rw[ma (n:=.ofNat t[k]) (by rw[aev];omega) (by rw[aev];omega)];refine RO.cl (oC T (λn c=>?_) (λo=>?_));·refine ah ?_;exact Ru.wk (f (d (.inl (by simp only[aev]at n c;omega))))
  refine ah ?_;refine RO.mw a ?_ (j:=k);refine ah ?_;refine Ru.cond (λp=>?_) (λp=>?_);·refine ah ?_;exact Ru.aP (h2 λg=>by have:=g.2 _ (acI a);simp only[aev]at o;omega)
  refine ah ?_;exact Ru.wk (f (d (.inr ab)))
 refine Ru.exitTo ?_;refine ah ?_;by_cases c:t.length<=200;·rw[decide_eq_true c];refine Ru.aP (h1 ⟨c,λb hb=>?_⟩);obtain⟨i,hi,rfl⟩:=aeB hb;exact l i ab hi
 rw[decide_eq_false c];exact Ru.aP (h2 λg=>c g.1)
theorem ET(T:Tb ac){H:ai}{l:List Int}{v:AV}(b:fx H l v)(hl:l.length<=1000000){n:Int}(r:0<=n)(z:n<=1000000){K:KT}(h1:(∀x∈l,0<=x/\x<=n - 1)->K (.bool true) H)(h2:(¬∀x∈l,0<=x/\x<=n - 1)->K (.bool false) H):YN ac U1 [v,.int 3 n] H K:=by
 have⟨s,t,u,w⟩:=b.all;refine YF.code T.WQ aC ?_;refine ah ?_;refine Ru.nm λS M f c=>?_;refine Ru.bM c (up (P:=λk=>(∀i,i<k->∀h:i<l.length,0<=l[i]/\l[i]<=n - 1)->Ru ac _ S ([(p5,aN k)]++pk M [p0,p1]) H) l.length (λk A g d=>?_) 0 ab (λi hi=>by omega));subst f;subst c;refine Ru.loop ?_;refine ah ?_;refine Ru.cond (λa=>?_) (λa=>?_)
 .refine ah ?_;refine RO.kZ (aZ.refl H) b (λB o1 hj y=>?_) (j:=k);refine ah ?_;refine RO.sub ?_ (a:=n) (b:=1);refine RO.cl (oC T (λj m=>?_) (λo=>?_))
  .refine ah ?_;refine Ru.wk (g (k+1) ab ab λi hi h=>?_);by_cases e:i=k;·subst e;exact⟨j,m⟩
   exact d i ab h
  refine ah ?_;exact Ru.aP (h2 λp=>o (p _ (acI a)))
 refine Ru.exitTo ?_;refine ah ?_;refine Ru.aP (h1 λx q=>?_);obtain⟨i,hi,rfl⟩:=aeB q;exact d i ab hi
theorem K9(T:Tb ac){H:ai}{l:List Int}{v:AV}(c:fx H l v)(hl:l.length<=1000000){n:Int}{K:KT}(h1:n∈l->K (.bool true) H)(h2:n∉l->K (.bool false) H):YN ac UH [v,.int 3 n] H K:=by
 have⟨o,p,q,r⟩:=c.all;refine YF.code T.Wt aC ?_;refine ah ?_;refine Ru.nm λS M g d=>?_;refine Ru.bM d (up (P:=λk=>(∀i,i<k->∀h:i<l.length,l[i]≠n)->Ru ac _ S ([(p5,aN k)]++pk M [p0,p1]) H) l.length (λk t j f=>?_) 0 ab (λi hi=>by omega));subst g;subst d;refine Ru.loop ?_;refine ah ?_;refine Ru.cond (λa=>?_) (λa=>?_)
 .refine ah ?_;refine RO.kZ (aZ.refl H) c (λu o1 hj s=>?_) (j:=k);refine ah ?_;refine Ru.cond (λb=>?_) (λb=>?_);·refine ah ?_;exact Ru.aP (h1 (b▸acI a))
  refine ah ?_;refine Ru.wk (j (k+1) ab ab λi hi h=>?_);by_cases e:i=k;·subst e;exact b
  exact f i ab h
 refine Ru.exitTo ?_;refine ah ?_;refine Ru.aP (h2 λm=>?_);obtain⟨i,hi,e⟩:=aeB m;exact f i ab hi e
section
section
variable{g:G.aY}{H:ai}{cs:List AV}
theorem ZN(T:Tb ac)(hg:dS H g cs)(r:G.Sm g){K:KT}(h1:∀m,aZ H m->jq g=false->K (.bool true) m)(h2:∀m,aZ H m->jq g=true->K (.bool false) m):YN ac Un [.agg cs] H K:=by
 have J:=hg.one;obtain⟨Y,rfl,bH⟩:=hg;have⟨N,a,O,P⟩:=bH.all;have hb:=r.nb;have hs:jZ g.aj<=1000*g.aj.length:=K3 λb hb=>by have h1:=r.bl b hb;have h2:=K2 (r.ed b hb);omega
 refine YF.code T.V6 aC ?_;refine ah ?_;refine RO.cG (al.bY H) (λB q U=>?_);refine ah ?_;refine Ru.nm λS M t n=>?_;refine Ru.bM n (up (P:=λk=>∀c,c+jZ (g.aj.drop k)=jZ g.aj->Ru ac _ S ([(p4,aN k),(p3,aN c)]++pk M [p1]) B) g.aj.length (λk Z L c u=>?_) 0 ab 0 aC);subst t;subst n;refine Ru.loop ?_;refine ah ?_;refine Ru.cond (λh=>?_) (λh=>?_)
 .rw[aeE h]at u;simp only[jZ]at u;have Q:=r.bl _ (acI h);refine ah ?_;refine RO.bW U.gr bH (λv o1 c1 hj a i hat hrd=>?_) (j:=k);obtain⟨C,D,E,rfl,_,l,w,F,s,rfl,_,_,d⟩:=a;have⟨R,_,_,V⟩:=l.all;have⟨o,_,_,p⟩:=d.all;refine ah ?_;refine Ru.nm λS M t n=>?_;refine Ru.bM n (up (P:=λj=>∀x,x+lJ (g.aj[k].aA.go.drop j)=c+(g.aj[k].aL.length+lJ g.aj[k].aA.go)->Ru ac _ S ([(p5,aN j),(p3,aN x)]++pk M [p1,p4]) B) g.aj[k].aA.go.length (λj hj z x y=>?_) 0 ab (c+g.aj[k].aL.length) (by simp;omega));subst t;subst n;refine Ru.loop ?_;refine ah ?_;refine RO.bW U.gr bH (λv o1 c1 hj a i hat hrd=>?_) (j:=k);obtain⟨C,D,E,rfl,_,l,w,F,s,rfl,_,_,d⟩:=a;have⟨o,_,_,p⟩:=d.all;refine ah ?_;refine RO.bk (v:=s) ?_ (hc:=hat 6 _ rfl);refine ah ?_;refine Ru.cond (λf=>?_) (λf=>?_);·rw[aeE f]at y;simp only[lJ]at y;refine ah ?_;refine RO.bW U.gr bH (λv o1 c1 hj a i hat hrd=>?_) (j:=k);obtain⟨C,D,E,rfl,_,l,w,F,s,rfl,_,_,d⟩:=a;have⟨o,_,_,p⟩:=d.all;refine ah ?_;refine RO.bk (v:=s) ?_ (hc:=hat 6 _ rfl);refine ah ?_;refine RO.bW U.gr d (λv o1 c1 hj a i hat hrd=>?_) (j:=j);obtain⟨w,rfl,A⟩:=a;have⟨W,_,_,X⟩:=A.all;refine ah ?_;exact Ru.wk (z (j+1) ab ab (x+g.aj[k].aA.go[j].args.length) ab)
  refine Ru.exitTo ?_;refine ah ?_;exact Ru.wk (L (k+1) ab ab x (by simp[af3 (show g.aj[k].aA.go.length<=j by omega),lJ]at y;omega))
 simp only[af3 (show g.aj.length<=k by omega),jZ]at u;have e:c=jZ g.aj:=ab;subst e;refine Ru.exitTo ?_;have e1:afq 6000=6000:=rfl;repeat'(first|refine lX ?_|refine RO.bT (λ_=>?_) (λ_=>?_))
 .rename_i g1 g2;by_cases I:jZ g.aj<=6000;·rw[decide_eq_true I];exact Ru.aP (h1 _ U.gr (by simp only[jq,Bool.or_eq_false_iff,decide_eq_false_iff_not];omega))
  rw[decide_eq_false I];exact Ru.aP (h2 _ U.gr (by simp only[jq,afm,decide_eq_true_eq];omega))
 all_goals exact Ru.aP (h2 _ U.gr (by simp only[jq,afm,decide_eq_true_eq];omega))
theorem ZO(T:Tb ac){t:List Nat}{K:KT}(h:K (aN (eM t)) H):YN ac U3 [.str t] H K:=by
 refine YF.code T.WS aC ?_;repeat'(first|refine lX ?_|(refine Ru.eh (λa=>?_) (λa=>?_)<;>rw[a]))
 all_goals first|(rw[jp,decide_eq_true_eq]at a;subst a;exact Ru.aP (by simpa[eM,yz,yA,yB]using h))|skip
 simp only[jp,decide_eq_false_iff_not]at*;exact Ru.aP (by simpa[eM,yz,yA,yB, *]using h)
end
end
structure mW where
 w:List Nat
 to:Bool
 mX:Int
 n:Bool
 lo:Int
 hi:Int
 nm:Int
 go:Int
def EU(s:mW):AV:=.agg [.str s.w,.bool s.to,aI s.mX,.bool s.n,aI s.lo,aI s.hi,aI s.nm,aI s.go]
def La:mW:=⟨[],false,0,false,0,0,0,0⟩
def oD(op:Nat):List (Nat×mW)->mW
 |[]=>La
 |p::l=>if op=p.1 then p.2 else oD op l
def yQ:List (Nat×mW):=[(1,⟨[105,110,116],true,0,true,(-1000000000),1000000000,0,0⟩),(2,⟨[98,111,111,108],true,0,true,0,1,0,0⟩),(3,⟨[116,101,120,116],true,0,false,0,0,1,0⟩),(4,⟨[117,110,105,116],true,0,false,0,0,0,0⟩),(11,⟨[102,110],true,0,false,0,0,2,0⟩),(40,⟨[99,108,111,115,101],true,(-1),false,0,0,2,0⟩),(14,⟨[112,114,105,109],true,(-1),false,0,0,3,0⟩),(15,⟨[110,101,119],true,(-1),false,0,0,4,0⟩),(16,⟨[103,101,116],true,1,true,0,5,5,0⟩),(17,⟨[112,117,116],false,2,true,0,5,5,0⟩),(18,⟨[99,97,115,101],true,(-1),false,0,0,6,0⟩),(13,⟨[99,97,108,108],true,(-2),false,0,0,0,0⟩),(21,⟨[116,104,114,111,119],false,1,false,0,0,0,0⟩),(23,⟨[115,112,97,119,110],false,1,false,0,0,0,0⟩),(24,⟨[99,104,97,110],true,0,true,1,8,0,0⟩),(25,⟨[115,101,110,100],false,2,false,0,0,0,0⟩),(26,⟨[114,101,99,118],true,1,false,0,0,0,0⟩),(31,⟨[121,105,101,108,100],false,0,false,0,0,0,0⟩),(32,⟨[111,117,116],false,1,false,0,0,0,0⟩),(33,⟨[105,110],true,0,false,0,0,0,0⟩),(34,⟨[99,111,108,108,101,99,116],false,0,false,0,0,0,0⟩),(35,⟨[119,101,97,107],true,1,false,0,0,0,0⟩)]
def sc:List (Nat×mW):=[(37,⟨[114,111,111,116],true,0,false,0,0,7,0⟩),(38,⟨[115,101,116,114,111,111,116],false,1,false,0,0,7,0⟩),(39,⟨[116,105,99,107],false,0,false,0,0,0,0⟩),(60,⟨[109,111,118,101],true,1,false,0,0,0,0⟩),(61,⟨[103,111],false,0,false,0,0,0,1⟩),(62,⟨[105,102],false,1,false,0,0,0,2⟩),(63,⟨[105,115],false,1,false,0,0,6,2⟩),(64,⟨[112,97,114,116],true,1,true,0,3,0,0⟩),(65,⟨[104,111,108,100],true,1,false,0,0,0,2⟩),(66,⟨[115,101,108,101,99,116],false,0,false,0,0,0,0⟩),(67,⟨[116,114,121],true,0,false,0,0,0,1⟩),(68,⟨[101,110,100],false,0,false,0,0,0,0⟩),(69,⟨[114,101,116],false,1,false,0,0,0,0⟩),(70,⟨[115,116,117,99,107],false,0,false,0,0,0,0⟩)]
def li(op:Nat):mW:=oD op (yQ++sc)
theorem ZP(T:Tb ac){H:ai}{op:Nat}{K:KT}(a:∀b,aZ H b->K (EU (oD op sc)) b):YN ac Vn [aU op] H K:=by
 refine YF.code T.Xr aC ?_;refine au ?_;refine RO.dM (al.bY H) λf q U=>?_;refine ah ?_;iterate 14
  refine Ru.cond (λc=>?_) (λc=>?_);·subst c;refine ah ?_;refine RO.eQ U 0 (λd U=>?_);refine ah ?_;exact Ru.iT (vs:=[_]) ⟨⟨q,0,rfl,U.agg 0⟩,trivial⟩ (a _ U.gr)
  refine ah ?_
 have e:oD op sc=La:=by simp only[sc,oD, *,bA]
 rw[e]at a;refine RO.eQ U 0 (λd U=>?_);refine ah ?_;exact Ru.iT (vs:=[_]) ⟨⟨q,0,rfl,U.agg 0⟩,trivial⟩ (a _ U.gr)
theorem EV(T:Tb ac){H:ai}{op:Nat}{K:KT}(b:∀c,aZ H c->K (EU (li op)) c):YN ac Ve [aU op] H K:=by
 refine YF.code T.W9 aC ?_;refine au ?_;refine RO.dM (al.bY H) λf q U=>?_;refine ah ?_;refine Ru.cond (λa=>?_) (λa=>?_);·subst a;refine ah ?_;refine RO.eQ U 0 (λd U=>?_);refine ah ?_;exact Ru.iT (vs:=[_]) ⟨⟨q,0,rfl,U.agg 0⟩,trivial⟩ (b _ U.gr)
 refine ah ?_;iterate 21
  refine Ru.cond (λa=>?_) (λa=>?_);·subst a;refine ah ?_;refine RO.eQ U 0 (λd U=>?_);refine ah ?_;exact Ru.iT (vs:=[_]) ⟨⟨q,0,rfl,U.agg 0⟩,trivial⟩ (b _ U.gr)
  refine ah ?_
 have e:li op=oD op sc:=by simp only[li,yQ,afk,afz,oD, *,bA]
 rw[e]at b;refine RO.cl (ZP T λd hg=>?_);have U:=U.bZ hg;refine RO.eQ U 0 (λg U=>?_);refine ah ?_;exact Ru.iT (vs:=[_]) ⟨⟨q,0,rfl,U.agg 0⟩,trivial⟩ (b _ U.gr)
def lL(op:Nat)(m:Int):mW:=if op=13/\m=1 then⟨[102,114,101,101],true, -3,false,0,0,2,0⟩else li op
theorem ZQ(T:Tb ac){H:ai}{op:Nat}{m:Int}{K:KT}(b:∀d,aZ H d->K (EU (lL op m)) d):YN ac U0 [aU op,aI m] H K:=by
 refine YF.code T.WP aC ?_;refine au ?_;refine RO.dM (al.bY H) λg q U=>?_;repeat'(first|refine lX ?_|refine RO.bT (λ_=>?_) (λ_=>?_))
 .rename_i a;refine Ru.cond (λc=>?_) (λc=>?_);·rw[lL,aH ⟨a,c⟩]at b;refine ah ?_;refine RO.eQ U 0 (λe U=>?_);refine ah ?_;exact Ru.iT (vs:=[_]) ⟨⟨q,0,rfl,U.agg 0⟩,trivial⟩ (b _ U.gr)
  rw[lL,ap λh=>c h.2]at b;refine ah ?_;refine RO.cl (EV T λe hg=>?_);have U:=U.bZ hg;refine RO.eQ U 0 (λf U=>?_);refine ah ?_;exact Ru.iT (vs:=[_]) ⟨⟨q,0,rfl,U.agg 0⟩,trivial⟩ (b _ U.gr)
 rename_i a;rw[lL,ap λh=>a h.1]at b;refine RO.cl (EV T λe hg=>?_);have U:=U.bZ hg;refine RO.eQ U 0 (λf U=>?_);refine ah ?_;exact Ru.iT (vs:=[_]) ⟨⟨q,0,rfl,U.agg 0⟩,trivial⟩ (b _ U.gr)
end
end Go.ak.R
end
