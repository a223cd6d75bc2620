/- A part. No conditions. -/
import Derived.Test.YtjapbgcbkolgmaaGreatDoorA15
set_option linter.all false
set_option maxHeartbeats 16000000
open Int renaming ofNat->age
noncomputable section
namespace Go.al.R
section
variable{ac:Nat->aX}
theorem MZ:∀{l:List Nat}{k:Nat}(h:k<l.length),sO l k=some l[k]|_::_,0,_=>rfl|_::l,k+1,h=>MZ (l:=l) (by simpa using h)
theorem RO.mL{c:Cx}{s:List SI}{L:Kn}{H:ah}{d:Option af}{l:List bA}{x y:aL}{t:List Nat}{j kd:Nat}(hj:j<t.length)(h:RO ac c l s (bq L d (.int 4 (.ofNat t[j]))) H)(b:aW L x=.str t:=by exact cw)(e:aW L y=.int kd (.ofNat j):=by exact cw):RO ac c (⟨d,.mL x y,none,[],[]⟩::l) s L H:=RO.op (λaa a=>by simp only[aD,a.gv b rfl,a.gv e rfl,MZ hj,afL]) h
theorem oH(T:Tb ac){H:ah}{a b n:Int}{K:KT}(h1:a<=n->n<=b->K (.bool true) H)(h2:¬(a<=n/\n<=b)->K (.bool false) H):YN ac Ww [.int 3 n,.int 3 a,.int 3 b] H K:=by
 refine YF.code T.Zk aF ?_;repeat'(first|refine mf ?_|refine RO.bR (λ_=>?_) (λ_=>?_))
 .rename_i d;by_cases c:n<=b;·rw[decide_eq_true c];exact Ru.aP (h1 d c)
  rw[decide_eq_false c];exact Ru.aP (h2 λh=>c h.2)
 rename_i d;exact Ru.aP (h2 λh=>d h.1)
theorem DY(T:Tb ac){H:ah}{t:List Nat}(hb:∀x∈t,x<256)(hl:t.length<=1000000){K:KT}(h1:jB t->K (.bool true) H)(h2:¬jB t->K (.bool false) H):YN ac Wv [.str t] H K:=by
 refine YF.code T.Zj aF ?_;refine ai ?_;refine Ru.nm λS M m j=>?_;refine Ru.bT j (up (P:=λk=>(∀i,i<k->∀h:i<t.length,33<=t[i]/\t[i]<=126/\t[i]≠34)->Ru ac _ S ([(p3,aN k)]++pk M [p0]) H) t.length (λk q n l=>?_) 0 ab (λi hi=>by omega));subst m;subst j;refine Ru.loop ?_;refine ai ?_;refine Ru.cond (λa=>?_) (λa=>?_)
 .have p:=hb _ (adq a);refine ai ?_;refine RO.mL a ?_ (j:=k);refine RO.jT ?_;rw[mA (n:=.ofNat t[k]) (by rw[afm];omega) (by rw[afm];omega)];refine RO.cl (oH T (λd f=>?_) (λg=>?_))
  .refine ai ?_;refine RO.mL a ?_ (j:=k);refine ai ?_;refine Ru.cond (λo=>?_) (λo=>?_);·refine ai ?_;exact Ru.aP (h2 λc=>by have:=c.2.2 _ (adq a);omega)
   refine ai ?_;refine Ru.wk (n (k+1) ab ab λi hi h=>?_);by_cases e:i=k;·subst e;simp only[afm]at d f;omega
   exact l i ab h
  refine ai ?_;exact Ru.aP (h2 λc=>g (by have:=c.2.2 _ (adq a);simp only[afm];omega))
 refine Ru.exitTo ?_;refine ai ?_;refine RO.cl (oH T (λd f=>?_) (λg=>?_));·refine ai ?_;refine Ru.aP (h1 ⟨by simp only[afm]at d;omega,by simp only[afm]at f;omega,λb hb=>?_⟩);obtain⟨i,hi,rfl⟩:=afr hb;exact l i ab hi
 refine ai ?_;exact Ru.aP (h2 λc=>g (by have h3:=c.1;have r:=c.2.1;simp only[afm];omega))
theorem abB(T:Tb ac){H:ah}{t:List Nat}(hb:∀x∈t,x<256)(hl:t.length<=1000000){K:KT}(h1:qM t->K (.bool true) H)(h2:¬qM t->K (.bool false) H):YN ac WQ [.str t] H K:=by
 refine YF.code T.ZG aF ?_;refine ai ?_;refine Ru.nm λS M m j=>?_;refine Ru.bT j (up (P:=λk=>(∀i,i<k->∀h:i<t.length,(32<=t[i]/\t[i]<=126)\/t[i]=10)->Ru ac _ S ([(p3,aN k)]++pk M [p0]) H) t.length (λk r f l=>?_) 0 ab (λi hi=>by omega));subst m;subst j;refine Ru.loop ?_;refine ai ?_;refine Ru.cond (λa=>?_) (λa=>?_)
 .have q:=hb _ (adq a);have f:=f (k+1) ab ab;have d:(32<=t[k]/\t[k]<=126)\/t[k]=10->∀i,i<k+1->∀h:i<t.length,(32<=t[i]/\t[i]<=126)\/t[i]=10:=λhg i hi h=>by
   by_cases e:i=k;·subst e;exact hg
   exact l i ab h
  refine ai ?_;refine RO.mL a ?_ (j:=k);refine RO.jT ?_;rw[mA (n:=.ofNat t[k]) (by rw[afm];omega) (by rw[afm];omega)];refine RO.cl (oH T (λn c=>?_) (λo=>?_));·refine ai ?_;exact Ru.wk (f (d (.inl (by simp only[afm]at n c;omega))))
  refine ai ?_;refine RO.mL a ?_ (j:=k);refine ai ?_;refine Ru.cond (λp=>?_) (λp=>?_);·refine ai ?_;exact Ru.aP (h2 λg=>by have:=g.2 _ (adq a);simp only[afm]at o;omega)
  refine ai ?_;exact Ru.wk (f (d (.inr ab)))
 refine Ru.exitTo ?_;refine ai ?_;by_cases c:t.length<=200;·rw[decide_eq_true c];refine Ru.aP (h1 ⟨c,λb hb=>?_⟩);obtain⟨i,hi,rfl⟩:=afr hb;exact l i ab hi
 rw[decide_eq_false c];exact Ru.aP (h2 λg=>c g.1)
theorem Hv(T:Tb ac){H:ah}{l:List Int}{v:AV}(b:eU H l v)(hl:l.length<=1000000){n:Int}(r:0<=n)(z:n<=1000000){K:KT}(h1:(∀x∈l,0<=x/\x<=n - 1)->K (.bool true) H)(h2:(¬∀x∈l,0<=x/\x<=n - 1)->K (.bool false) H):YN ac WP [v,.int 3 n] H K:=by
 have⟨s,t,u,w⟩:=b.all;refine YF.code T.ZF aF ?_;refine ai ?_;refine Ru.nm λS M f c=>?_;refine Ru.bT c (up (P:=λk=>(∀i,i<k->∀h:i<l.length,0<=l[i]/\l[i]<=n - 1)->Ru ac _ S ([(p5,aN k)]++pk M [p0,p1]) H) l.length (λk A g d=>?_) 0 ab (λi hi=>by omega));subst f;subst c;refine Ru.loop ?_;refine ai ?_;refine Ru.cond (λa=>?_) (λa=>?_)
 .refine ai ?_;refine RO.mD (aZ.refl H) b (λB o1 hj y=>?_) (j:=k);refine ai ?_;refine RO.sub ?_ (a:=n) (b:=1);refine RO.cl (oH T (λj m=>?_) (λo=>?_))
  .refine ai ?_;refine Ru.wk (g (k+1) ab ab λi hi h=>?_);by_cases e:i=k;·subst e;exact⟨j,m⟩
   exact d i ab h
  refine ai ?_;exact Ru.aP (h2 λp=>o (p _ (adq a)))
 refine Ru.exitTo ?_;refine ai ?_;refine Ru.aP (h1 λx q=>?_);obtain⟨i,hi,rfl⟩:=afr q;exact d i ab hi
theorem AH(T:Tb ac){H:ah}{l:List Int}{v:AV}(c:eU H l v)(hl:l.length<=1000000){n:Int}{K:KT}(h1:n∈l->K (.bool true) H)(h2:n∉l->K (.bool false) H):YN ac We [v,.int 3 n] H K:=by
 have⟨o,p,q,r⟩:=c.all;refine YF.code T.Y1 aF ?_;refine ai ?_;refine Ru.nm λS M g d=>?_;refine Ru.bT d (up (P:=λk=>(∀i,i<k->∀h:i<l.length,l[i]≠n)->Ru ac _ S ([(p5,aN k)]++pk M [p0,p1]) H) l.length (λk t j f=>?_) 0 ab (λi hi=>by omega));subst g;subst d;refine Ru.loop ?_;refine ai ?_;refine Ru.cond (λa=>?_) (λa=>?_)
 .refine ai ?_;refine RO.mD (aZ.refl H) c (λu o1 hj s=>?_) (j:=k);refine ai ?_;refine Ru.cond (λb=>?_) (λb=>?_);·refine ai ?_;exact Ru.aP (h1 (b▸adq a))
  refine ai ?_;refine Ru.wk (j (k+1) ab ab λi hi h=>?_);by_cases e:i=k;·subst e;exact b
  exact f i ab h
 refine Ru.exitTo ?_;refine ai ?_;refine Ru.aP (h2 λm=>?_);obtain⟨i,hi,e⟩:=afr m;exact f i ab hi e
section
section
variable{g:G.be}{H:ah}{cs:List AV}
theorem abD(T:Tb ac)(hg:gu H g cs)(r:G.Sm g){K:KT}(h1:∀m,aZ H m->jC g=false->K (.bool true) m)(h2:∀m,aZ H m->jC g=true->K (.bool false) m):YN ac Wn [.agg cs] H K:=by
 have J:=hg.one;obtain⟨Y,rfl,bW⟩:=hg;have⟨N,a,O,P⟩:=bW.all;have hb:=r.nb;have hs:kh g.aj<=1000*g.aj.length:=M5 λb hb=>by have h1:=r.bl b hb;have h2:=M0 (r.ed b hb);omega
 refine YF.code T.Y' aF ?_;refine ai ?_;refine RO.dp (aq.ct H) (λB q U=>?_);refine ai ?_;refine Ru.nm λS M t n=>?_;refine Ru.bT n (up (P:=λk=>∀c,c+kh (g.aj.drop k)=kh g.aj->Ru ac _ S ([(p4,aN k),(p3,aN c)]++pk M [p1]) B) g.aj.length (λk Z L c u=>?_) 0 ab 0 aF);subst t;subst n;refine Ru.loop ?_;refine ai ?_;refine Ru.cond (λh=>?_) (λh=>?_)
 .rw[afv h]at u;simp only[kh]at u;have Q:=r.bl _ (adq h);refine ai ?_;refine RO.bY U.gr bW (λv o1 c1 hj a i hat hrd=>?_) (j:=k);obtain⟨C,D,E,rfl,_,l,w,F,s,rfl,_,_,d⟩:=a;have⟨R,_,_,V⟩:=l.all;have⟨o,_,_,p⟩:=d.all;refine ai ?_;refine Ru.nm λS M t n=>?_;refine Ru.bT n (up (P:=λj=>∀x,x+lY (g.aj[k].aB.go.drop j)=c+(g.aj[k].aS.length+lY g.aj[k].aB.go)->Ru ac _ S ([(p5,aN j),(p3,aN x)]++pk M [p1,p4]) B) g.aj[k].aB.go.length (λj hj z x y=>?_) 0 ab (c+g.aj[k].aS.length) (by simp;omega));subst t;subst n;refine Ru.loop ?_;refine ai ?_;refine RO.bY U.gr bW (λv o1 c1 hj a i hat hrd=>?_) (j:=k);obtain⟨C,D,E,rfl,_,l,w,F,s,rfl,_,_,d⟩:=a;have⟨o,_,_,p⟩:=d.all;refine ai ?_;refine RO.bi (v:=s) ?_ (hc:=hat 6 _ rfl);refine ai ?_;refine Ru.cond (λf=>?_) (λf=>?_);·rw[afv f]at y;simp only[lY]at y;refine ai ?_;refine RO.bY U.gr bW (λv o1 c1 hj a i hat hrd=>?_) (j:=k);obtain⟨C,D,E,rfl,_,l,w,F,s,rfl,_,_,d⟩:=a;have⟨o,_,_,p⟩:=d.all;refine ai ?_;refine RO.bi (v:=s) ?_ (hc:=hat 6 _ rfl);refine ai ?_;refine RO.bY U.gr d (λv o1 c1 hj a i hat hrd=>?_) (j:=j);obtain⟨w,rfl,A⟩:=a;have⟨W,_,_,X⟩:=A.all;refine ai ?_;exact Ru.wk (z (j+1) ab ab (x+g.aj[k].aB.go[j].args.length) ab)
  refine Ru.exitTo ?_;refine ai ?_;exact Ru.wk (L (k+1) ab ab x (by simp[agR (show g.aj[k].aB.go.length<=j by omega),lY]at y;omega))
 simp only[agR (show g.aj.length<=k by omega),kh]at u;have e:c=kh g.aj:=ab;subst e;refine Ru.exitTo ?_;have e1:age 6000=6000:=rfl;repeat'(first|refine mf ?_|refine RO.bR (λ_=>?_) (λ_=>?_))
 .rename_i g1 g2;by_cases I:kh g.aj<=6000;·rw[decide_eq_true I];exact Ru.aP (h1 _ U.gr (by simp only[jC,Bool.or_eq_false_iff,decide_eq_false_iff_not];omega))
  rw[decide_eq_false I];exact Ru.aP (h2 _ U.gr (by simp only[jC,agd,decide_eq_true_eq];omega))
 all_goals exact Ru.aP (h2 _ U.gr (by simp only[jC,agd,decide_eq_true_eq];omega))
theorem abE(T:Tb ac){t:List Nat}{K:KT}(h:K (aN (eQ t)) H):YN ac WR [.str t] H K:=by
 refine YF.code T.ZH aF ?_;repeat'(first|refine mf ?_|(refine Ru.eE (λa=>?_) (λa=>?_)<;>rw[a]))
 all_goals first|(rw[kf,decide_eq_true_eq]at a;subst a;exact Ru.aP (by simpa[eQ,Au,Av,Aw]using h))|skip
 simp only[kf,decide_eq_false_iff_not]at*;exact Ru.aP (by simpa[eQ,Au,Av,Aw, *]using h)
end
end
structure nj where
 w:List Nat
 to:Bool
 nk:Int
 n:Bool
 lo:Int
 hi:Int
 nm:Int
 go:Int
def Hw(s:nj):AV:=.agg [.str s.w,.bool s.to,aI s.nk,.bool s.n,aI s.lo,aI s.hi,aI s.nm,aI s.go]
def M6:nj:=⟨[],false,0,false,0,0,0,0⟩
def oI(op:Nat):List (Nat×nj)->nj
 |[]=>M6
 |p::l=>if op=p.1 then p.2 else oI op l
def AI:List (Nat×nj):=[(1,⟨[105,110,116],true,0,true,(-1000000000),1000000000,0,0⟩),(2,⟨[98,111,111,108],true,0,true,0,1,0,0⟩),(3,⟨[116,101,120,116],true,0,false,0,0,1,0⟩),(4,⟨[117,110,105,116],true,0,false,0,0,0,0⟩),(11,⟨[102,110],true,0,false,0,0,2,0⟩),(40,⟨[99,108,111,115,101],true,(-1),false,0,0,2,0⟩),(14,⟨[112,114,105,109],true,(-1),false,0,0,3,0⟩),(15,⟨[110,101,119],true,(-1),false,0,0,4,0⟩),(16,⟨[103,101,116],true,1,true,0,5,5,0⟩),(17,⟨[112,117,116],false,2,true,0,5,5,0⟩),(18,⟨[99,97,115,101],true,(-1),false,0,0,6,0⟩),(13,⟨[99,97,108,108],true,(-2),false,0,0,0,0⟩),(21,⟨[116,104,114,111,119],false,1,false,0,0,0,0⟩),(23,⟨[115,112,97,119,110],false,1,false,0,0,0,0⟩),(24,⟨[99,104,97,110],true,0,true,1,8,0,0⟩),(25,⟨[115,101,110,100],false,2,false,0,0,0,0⟩),(26,⟨[114,101,99,118],true,1,false,0,0,0,0⟩),(31,⟨[121,105,101,108,100],false,0,false,0,0,0,0⟩),(32,⟨[111,117,116],false,1,false,0,0,0,0⟩),(33,⟨[105,110],true,0,false,0,0,0,0⟩),(34,⟨[99,111,108,108,101,99,116],false,0,false,0,0,0,0⟩),(35,⟨[119,101,97,107],true,1,false,0,0,0,0⟩)]
def sq:List (Nat×nj):=[(37,⟨[114,111,111,116],true,0,false,0,0,7,0⟩),(38,⟨[115,101,116,114,111,111,116],false,1,false,0,0,7,0⟩),(39,⟨[116,105,99,107],false,0,false,0,0,0,0⟩),(60,⟨[109,111,118,101],true,1,false,0,0,0,0⟩),(61,⟨[103,111],false,0,false,0,0,0,1⟩),(62,⟨[105,102],false,1,false,0,0,0,2⟩),(63,⟨[105,115],false,1,false,0,0,6,2⟩),(64,⟨[112,97,114,116],true,1,true,0,3,0,0⟩),(65,⟨[104,111,108,100],true,1,false,0,0,0,2⟩),(66,⟨[115,101,108,101,99,116],false,0,false,0,0,0,0⟩),(67,⟨[116,114,121],true,0,false,0,0,0,1⟩),(68,⟨[101,110,100],false,0,false,0,0,0,0⟩),(69,⟨[114,101,116],false,1,false,0,0,0,0⟩),(70,⟨[115,116,117,99,107],false,0,false,0,0,0,0⟩)]
def lA(op:Nat):nj:=oI op (AI++sq)
theorem abF(T:Tb ac){H:ah}{op:Nat}{K:KT}(a:∀b,aZ H b->K (Hw (oI op sq)) b):YN ac Xd [aU op] H K:=by
 refine YF.code T.aae aF ?_;refine au ?_;refine RO.eL (aq.ct H) λf q U=>?_;refine ai ?_;iterate 14
  refine Ru.cond (λc=>?_) (λc=>?_);·subst c;refine ai ?_;refine RO.fc U 0 (λd U=>?_);refine ai ?_;exact Ru.iY (vs:=[_]) ⟨⟨q,0,rfl,U.agg 0⟩,trivial⟩ (a _ U.gr)
  refine ai ?_
 have e:oI op sq=M6:=by simp only[sq,oI, *,bD]
 rw[e]at a;refine RO.fc U 0 (λd U=>?_);refine ai ?_;exact Ru.iY (vs:=[_]) ⟨⟨q,0,rfl,U.agg 0⟩,trivial⟩ (a _ U.gr)
theorem Hy(T:Tb ac){H:ah}{op:Nat}{K:KT}(b:∀c,aZ H c->K (Hw (lA op)) c):YN ac W2 [aU op] H K:=by
 refine YF.code T.Z0 aF ?_;refine au ?_;refine RO.eL (aq.ct H) λf q U=>?_;refine ai ?_;refine Ru.cond (λa=>?_) (λa=>?_);·subst a;refine ai ?_;refine RO.fc U 0 (λd U=>?_);refine ai ?_;exact Ru.iY (vs:=[_]) ⟨⟨q,0,rfl,U.agg 0⟩,trivial⟩ (b _ U.gr)
 refine ai ?_;iterate 21
  refine Ru.cond (λa=>?_) (λa=>?_);·subst a;refine ai ?_;refine RO.fc U 0 (λd U=>?_);refine ai ?_;exact Ru.iY (vs:=[_]) ⟨⟨q,0,rfl,U.agg 0⟩,trivial⟩ (b _ U.gr)
  refine ai ?_
 have e:lA op=oI op sq:=by simp only[lA,AI,agb,agq,oI, *,bD]
 rw[e]at b;refine RO.cl (abF T λd hg=>?_);have U:=U.cq hg;refine RO.fc U 0 (λg U=>?_);refine ai ?_;exact Ru.iY (vs:=[_]) ⟨⟨q,0,rfl,U.agg 0⟩,trivial⟩ (b _ U.gr)
def lZ(op:Nat)(m:Int):nj:=if op=13/\m=1 then⟨[102,114,101,101],true, -3,false,0,0,2,0⟩else lA op
theorem abG(T:Tb ac){H:ah}{op:Nat}{m:Int}{K:KT}(b:∀d,aZ H d->K (Hw (lZ op m)) d):YN ac WO [aU op,aI m] H K:=by
 refine YF.code T.ZE aF ?_;refine au ?_;refine RO.eL (aq.ct H) λg q U=>?_;repeat'(first|refine mf ?_|refine RO.bR (λ_=>?_) (λ_=>?_))
 .rename_i a;refine Ru.cond (λc=>?_) (λc=>?_);·rw[lZ,aJ ⟨a,c⟩]at b;refine ai ?_;refine RO.fc U 0 (λe U=>?_);refine ai ?_;exact Ru.iY (vs:=[_]) ⟨⟨q,0,rfl,U.agg 0⟩,trivial⟩ (b _ U.gr)
  rw[lZ,ap λh=>c h.2]at b;refine ai ?_;refine RO.cl (Hy T λe hg=>?_);have U:=U.cq hg;refine RO.fc U 0 (λf U=>?_);refine ai ?_;exact Ru.iY (vs:=[_]) ⟨⟨q,0,rfl,U.agg 0⟩,trivial⟩ (b _ U.gr)
 rename_i a;rw[lZ,ap λh=>a h.1]at b;refine RO.cl (Hy T λe hg=>?_);have U:=U.cq hg;refine RO.fc U 0 (λf U=>?_);refine ai ?_;exact Ru.iY (vs:=[_]) ⟨⟨q,0,rfl,U.agg 0⟩,trivial⟩ (b _ U.gr)
end
end Go.al.R
end
