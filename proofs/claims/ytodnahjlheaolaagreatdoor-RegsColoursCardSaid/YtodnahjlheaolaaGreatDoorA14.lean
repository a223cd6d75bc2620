/- A part. No conditions. -/
import Derived.Test.YtodnahjlheaolaaGreatDoorA13
set_option linter.all false
set_option maxHeartbeats 16000000
open Int renaming ofNat->ah0
noncomputable section
namespace Go.al.R
section
variable{ac:Nat->aX}
end
variable{A:ai}{B:KT}{C:List Nat}{D:Nat}{a b n:Int}{E:List Int}{F:AV}
section
variable{ac:Nat->aX}
theorem Mm:∀{l:List Nat}{k:Nat}(h:k<l.length),yH l k=some l[k]|_::_,0,_=>rfl|_::l,k+1,h=>Mm (l:=l) (by simpa using h)
theorem RO.nH{c:Cx}{s:List SI}{L:Kn}{d:Option ah}{l:List bD}{x y:aJ}{j:Nat}(hj:j<C.length)(h:RO ac c l s (bo L d (.int 4 (.ofNat C[j]))) A)(b:aT L x=.str C:=by exact cw)(e:aT L y=.int D (.ofNat j):=by exact cw):RO ac c (⟨d,.nH x y,none,[],[]⟩::l) s L A:=RO.op (λaf a=>by simp only[aH,a.gv b rfl,a.gv e rfl,Mm hj,ahQ]) h
theorem oF(T:Tb ac)(h1:a<=n->n<=b->B (.bool true) A)(h2:¬(a<=n/\n<=b)->B (.bool false) A):YN ac Wn [.int 3 n,.int 3 a,.int 3 b] A B:=by
 refine YF.code T.YL aC ?_;repeat'(first|refine nO ?_|refine RO.bP (λ_=>?_) (λ_=>?_))
 .rename_i d;by_cases c:n<=b;·rw[decide_eq_true c];exact Ru.aL (h1 d c)
  rw[decide_eq_false c];exact Ru.aL (h2 λh=>c h.2)
 rename_i d;exact Ru.aL (h2 λh=>d h.1)
theorem Cm(T:Tb ac)(hb:∀x∈C,x<256)(hl:C.length<=1000000)(h1:jS C->B (.bool true) A)(h2:¬jS C->B (.bool false) A):YN ac Wy [.str C] A B:=by
 refine YF.code T.YW aC (ab ?_);refine Ru.nm λS M m j=>Ru.bH j (up (P:=λk=>(∀i,i<k->∀h:i<C.length,33<=C[i]/\C[i]<=126/\C[i]≠34)->Ru ac _ S ([(p3,aN k)]++pk M [p0]) A) C.length (λk q n l=>?_) 0 aa (λi hi=>by omega));subst m;subst j;refine Ru.loop (ab ?_);refine Ru.cond (λa=>?_) (λa=>?_)
 .have p:=hb _ (abO a);refine ab ?_;refine RO.nH a (RO.kx ?_) (j:=k);rw[mY (n:=.ofNat C[k]) (by rw[ag0];omega) (by rw[ag0];omega)];refine RO.cl (oF T (λd f=>?_) (λg=>?_))
  .refine ab ?_;refine RO.nH a (ab ?_) (j:=k);refine Ru.cond (λo=>?_) (λo=>?_);·refine ab ?_;exact Ru.aL (h2 λc=>by have:=c.2.2 _ (abO a);omega)
   refine ab ?_;refine Ru.wk (n (k+1) aa aa λi hi h=>?_);by_cases e:i=k;·subst e;simp only[ag0]at d f;omega
   exact l i aa h
  refine ab ?_;exact Ru.aL (h2 λc=>g (by have:=c.2.2 _ (abO a);simp only[ag0];omega))
 refine Ru.exitTo ?_;refine ab ?_;refine RO.cl (oF T (λd f=>?_) (λg=>?_));·refine ab ?_;refine Ru.aL (h1 ⟨by simp only[ag0]at d;omega,by simp only[ag0]at f;omega,λb hb=>?_⟩);obtain⟨i,hi,rfl⟩:=ahd hb;exact l i aa hi
 refine ab ?_;exact Ru.aL (h2 λc=>g (by have h3:=c.1;have r:=c.2.1;simp only[ag0];omega))
theorem acq(T:Tb ac)(hb:∀x∈C,x<256)(hl:C.length<=1000000)(h1:sf C->B (.bool true) A)(h2:¬sf C->B (.bool false) A):YN ac WU [.str C] A B:=by
 refine YF.code T.Zn aC (ab ?_);refine Ru.nm λS M m j=>Ru.bH j (up (P:=λk=>(∀i,i<k->∀h:i<C.length,(32<=C[i]/\C[i]<=126)\/C[i]=10)->Ru ac _ S ([(p3,aN k)]++pk M [p0]) A) C.length (λk r f l=>?_) 0 aa (λi hi=>by omega));subst m;subst j;refine Ru.loop (ab ?_);refine Ru.cond (λa=>?_) (λa=>?_)
 .have q:=hb _ (abO a);have f:=f (k+1) aa aa;have d:(32<=C[k]/\C[k]<=126)\/C[k]=10->∀i,i<k+1->∀h:i<C.length,(32<=C[i]/\C[i]<=126)\/C[i]=10:=λhg i hi h=>by
   by_cases e:i=k;·subst e;exact hg
   exact l i aa h
  refine ab ?_;refine RO.nH a (RO.kx ?_) (j:=k);rw[mY (n:=.ofNat C[k]) (by rw[ag0];omega) (by rw[ag0];omega)];refine RO.cl (oF T (λn c=>?_) (λo=>?_));·refine ab ?_;exact Ru.wk (f (d (.inl (by simp only[ag0]at n c;omega))))
  refine ab ?_;refine RO.nH a (ab ?_) (j:=k);refine Ru.cond (λp=>?_) (λp=>?_);·refine ab ?_;exact Ru.aL (h2 λg=>by have:=g.2 _ (abO a);simp only[ag0]at o;omega)
  refine ab ?_;exact Ru.wk (f (d (.inr aa)))
 refine Ru.exitTo ?_;refine ab ?_;by_cases c:C.length<=200;·rw[decide_eq_true c];refine Ru.aL (h1 ⟨c,λb hb=>?_⟩);obtain⟨i,hi,rfl⟩:=ahd hb;exact l i aa hi
 rw[decide_eq_false c];exact Ru.aL (h2 λg=>c g.1)
theorem Ge(T:Tb ac)(b:dh A E F)(hl:E.length<=1000000)(q:0<=n)(w:n<=1000000)(h1:(∀x∈E,0<=x/\x<=n - 1)->B (.bool true) A)(h2:(¬∀x∈E,0<=x/\x<=n - 1)->B (.bool false) A):YN ac WT [F,.int 3 n] A B:=by
 have⟨r,s,t,u⟩:=b.all;refine YF.code T.Zm aC (ab ?_);refine Ru.nm λS M f c=>Ru.bH c (up (P:=λk=>(∀i,i<k->∀h:i<E.length,0<=E[i]/\E[i]<=n - 1)->Ru ac _ S ([(p5,aN k)]++pk M [p0,p1]) A) E.length (λk y g d=>?_) 0 aa (λi hi=>by omega));subst f;subst c;refine Ru.loop (ab ?_);refine Ru.cond (λa=>?_) (λa=>?_)
 .refine ab ?_;refine RO.fA (aR.refl A) b (λz o1 hj v=>ab ?_) (j:=k);refine RO.sub (RO.cl (oF T (λj l=>?_) (λm=>?_))) (a:=n) (b:=1)
  .refine ab ?_;refine Ru.wk (g (k+1) aa aa λi hi h=>?_);by_cases e:i=k;·subst e;exact⟨j,l⟩
   exact d i aa h
  refine ab ?_;exact Ru.aL (h2 λo=>m (o _ (abO a)))
 refine Ru.exitTo ?_;refine ab ?_;refine Ru.aL (h1 λx p=>?_);obtain⟨i,hi,rfl⟩:=ahd p;exact d i aa hi
theorem Cn(T:Tb ac)(c:dh A E F)(hl:E.length<=1000000)(h1:n∈E->B (.bool true) A)(h2:n∉E->B (.bool false) A):YN ac Wk [F,.int 3 n] A B:=by
 have⟨m,o,p,q⟩:=c.all;refine YF.code T.YI aC (ab ?_);refine Ru.nm λS M g d=>Ru.bH d (up (P:=λk=>(∀i,i<k->∀h:i<E.length,E[i]≠n)->Ru ac _ S ([(p5,aN k)]++pk M [p0,p1]) A) E.length (λk s j f=>?_) 0 aa (λi hi=>by omega));subst g;subst d;refine Ru.loop (ab ?_);refine Ru.cond (λa=>?_) (λa=>?_)
 .refine ab ?_;refine RO.fA (aR.refl A) c (λt o1 hj r=>ab ?_) (j:=k);refine Ru.cond (λb=>?_) (λb=>?_);·refine ab ?_;exact Ru.aL (h1 (b▸abO a))
  refine ab ?_;refine Ru.wk (j (k+1) aa aa λi hi h=>?_);by_cases e:i=k;·subst e;exact b
  exact f i aa h
 refine Ru.exitTo ?_;refine ab ?_;refine Ru.aL (h2 λl=>?_);have⟨i,hi,e⟩:=ahd l;exact f i aa hi e
end
section
variable{ac:Nat->aX}
section
section
variable{g:G.aM}{cs:List AV}
theorem acr(T:Tb ac)(hg:dc A g cs)(r:G.Sm g)(h1:∀m,aR A m->jW g=false->B (.bool true) m)(h2:∀m,aR A m->jW g=true->B (.bool false) m):YN ac We [.agg cs] A B:=by
 have N:=hg.one;obtain⟨vb,rfl,bz⟩:=hg;have⟨P,a,Q,R⟩:=bz.all;have hb:=r.nb;have hs:kM g.aj<=1000*g.aj.length:=Me λb hb=>by have h1:=r.bl b hb;have h2:=Md (r.ed b hb);omega
 refine YF.code T.YB aC (ab ?_);refine RO.bZ (ak.bM A) (λD q U=>ab ?_);refine Ru.nm λS M t n=>Ru.bH n (up (P:=λk=>∀c,c+kM (g.aj.drop k)=kM g.aj->Ru ac _ S ([(p4,aN k),(p3,aN c)]++pk M [p1]) D) g.aj.length (λk hk O c u=>?_) 0 aa 0 aC);subst t;subst n;refine Ru.loop (ab ?_);refine Ru.cond (λh=>?_) (λh=>?_)
 .rw[ahp h]at u;simp only[kM]at u;have V:=r.bl _ (abO h);refine ab ?_;refine RO.bL U.gr bz (λv o1 c1 hj a i hat hrd=>?_) (j:=k);obtain⟨E,F,I,rfl,_,l,w,J,s,rfl,_,_,d⟩:=a;have⟨W,_,_,X⟩:=l.all;have⟨o,_,_,p⟩:=d.all;refine ab ?_;refine Ru.nm λS M t n=>?_;refine Ru.bH n (up (P:=λj=>∀x,x+mu (g.aj[k].aq.go.drop j)=c+(g.aj[k].aB.length+mu g.aj[k].aq.go)->Ru ac _ S ([(p5,aN j),(p3,aN x)]++pk M [p1,p4]) D) g.aj[k].aq.go.length (λj hj z x y=>?_) 0 aa (c+g.aj[k].aB.length) (by simp;omega));subst t;subst n;refine Ru.loop (ab ?_);refine RO.bL U.gr bz (λv o1 c1 hj a i hat hrd=>?_) (j:=k);obtain⟨E,F,I,rfl,_,l,w,J,s,rfl,_,_,d⟩:=a;have⟨o,_,_,p⟩:=d.all;refine ab ?_;refine RO.aW (v:=s) (ab ?_) (hc:=hat 6 _ rfl);refine Ru.cond (λf=>?_) (λf=>?_);·rw[ahp f]at y;simp only[mu]at y;refine ab ?_;refine RO.bL U.gr bz (λv o1 c1 hj a i hat hrd=>?_) (j:=k);obtain⟨E,F,I,rfl,_,l,w,J,s,rfl,_,_,d⟩:=a;have⟨o,_,_,p⟩:=d.all;refine ab ?_;refine RO.aW (v:=s) (ab ?_) (hc:=hat 6 _ rfl);refine RO.bL U.gr d (λv o1 c1 hj a i hat hrd=>?_) (j:=j);obtain⟨w,rfl,C⟩:=a;have⟨Y,_,_,Z⟩:=C.all;refine ab ?_;exact Ru.wk (z (j+1) aa aa (x+g.aj[k].aq.go[j].args.length) aa)
  refine Ru.exitTo ?_;refine ab ?_;exact Ru.wk (O (k+1) aa aa x (by simp[List.drop_of_length_le (show g.aj[k].aq.go.length<=j by omega),mu]at y;omega))
 simp only[List.drop_of_length_le (show g.aj.length<=k by omega),kM]at u;have e:c=kM g.aj:=aa;subst e;refine Ru.exitTo ?_;have e1:ah0 6000=6000:=rfl;repeat'(first|refine nO ?_|refine RO.bP (λ_=>?_) (λ_=>?_))
 .rename_i g1 g2;by_cases L:kM g.aj<=6000;·rw[decide_eq_true L];exact Ru.aL (h1 _ U.gr (by simp only[jW,Bool.or_eq_false_iff,decide_eq_false_iff_not];omega))
  rw[decide_eq_false L];exact Ru.aL (h2 _ U.gr (by simp only[jW,aij,decide_eq_true_eq];omega))
 all_goals exact Ru.aL (h2 _ U.gr (by simp only[jW,aij,decide_eq_true_eq];omega))
theorem acs(T:Tb ac)(h:B (aN (fB C)) A):YN ac WV [.str C] A B:=by
 refine YF.code T.Zo aC ?_;repeat'(first|refine nO ?_|(refine Ru.d9 (λa=>?_) (λa=>?_)<;>rw[a]))
 all_goals first|(rw[jT,decide_eq_true_eq]at a;subst a;exact Ru.aL (by simpa[fB,zZ,z6,z7]using h))|skip
 simp only[jT,decide_eq_false_iff_not]at*;exact Ru.aL (by simpa[fB,zZ,z6,z7, *]using h)
end
end
structure oG where
 w:List Nat
 to:Bool
 oH:Int
 n:Bool
 lo:Int
 hi:Int
 nm:Int
 go:Int
def Gf(s:oG):AV:=.agg [.str s.w,.bool s.to,aI s.oH,.bool s.n,aI s.lo,aI s.hi,aI s.nm,aI s.go]
def Mn:oG:=⟨[],false,0,false,0,0,0,0⟩
def pR(op:Nat):List (Nat×oG)->oG
 |[]=>Mn
 |p::l=>if op=p.1 then p.2 else pR op l
def An:List (Nat×oG):=[(1,⟨[105,110,116],true,0,true,(-1000000000),1000000000,0,0⟩),(2,⟨[98,111,111,108],true,0,true,0,1,0,0⟩),(3,⟨[116,101,120,116],true,0,false,0,0,1,0⟩),(4,⟨[117,110,105,116],true,0,false,0,0,0,0⟩),(11,⟨[102,110],true,0,false,0,0,2,0⟩),(40,⟨[99,108,111,115,101],true,(-1),false,0,0,2,0⟩),(14,⟨[112,114,105,109],true,(-1),false,0,0,3,0⟩),(15,⟨[110,101,119],true,(-1),false,0,0,4,0⟩),(16,⟨[103,101,116],true,1,true,0,5,5,0⟩),(17,⟨[112,117,116],false,2,true,0,5,5,0⟩),(18,⟨[99,97,115,101],true,(-1),false,0,0,6,0⟩),(13,⟨[99,97,108,108],true,(-2),false,0,0,0,0⟩),(21,⟨[116,104,114,111,119],false,1,false,0,0,0,0⟩),(23,⟨[115,112,97,119,110],false,1,false,0,0,0,0⟩),(24,⟨[99,104,97,110],true,0,true,1,8,0,0⟩),(25,⟨[115,101,110,100],false,2,false,0,0,0,0⟩),(26,⟨[114,101,99,118],true,1,false,0,0,0,0⟩),(31,⟨[121,105,101,108,100],false,0,false,0,0,0,0⟩),(32,⟨[111,117,116],false,1,false,0,0,0,0⟩),(33,⟨[105,110],true,0,false,0,0,0,0⟩),(34,⟨[99,111,108,108,101,99,116],false,0,false,0,0,0,0⟩),(35,⟨[119,101,97,107],true,1,false,0,0,0,0⟩)]
def tQ:List (Nat×oG):=[(37,⟨[114,111,111,116],true,0,false,0,0,7,0⟩),(38,⟨[115,101,116,114,111,111,116],false,1,false,0,0,7,0⟩),(39,⟨[116,105,99,107],false,0,false,0,0,0,0⟩),(60,⟨[109,111,118,101],true,1,false,0,0,0,0⟩),(61,⟨[103,111],false,0,false,0,0,0,1⟩),(62,⟨[105,102],false,1,false,0,0,0,2⟩),(63,⟨[105,115],false,1,false,0,0,6,2⟩),(64,⟨[112,97,114,116],true,1,true,0,3,0,0⟩),(65,⟨[104,111,108,100],true,1,false,0,0,0,2⟩),(66,⟨[115,101,108,101,99,116],false,0,false,0,0,0,0⟩),(67,⟨[116,114,121],true,0,false,0,0,0,1⟩),(68,⟨[101,110,100],false,0,false,0,0,0,0⟩),(69,⟨[114,101,116],false,1,false,0,0,0,0⟩),(70,⟨[115,116,117,99,107],false,0,false,0,0,0,0⟩)]
def lS(op:Nat):oG:=pR op (An++tQ)
theorem act(T:Tb ac)(a:∀b,aR A b->B (Gf (pR D tQ)) b):YN ac Xk [aU D] A B:=by
 refine YF.code T.ZQ aC (au ?_);refine RO.dL (ak.bM A) λf q U=>ab ?_;iterate 14
  refine Ru.cond (λc=>?_) (λc=>?_);·subst c;refine ab ?_;refine RO.eT U 0 (λd U=>ab ?_);exact Ru.je (vs:=[_]) ⟨⟨q,0,rfl,U.agg 0⟩,trivial⟩ (a _ U.gr)
  refine ab ?_
 have e:pR D tQ=Mn:=by simp only[tQ,pR, *,bF]
 rw[e]at a;refine RO.eT U 0 (λd U=>ab ?_);exact Ru.je (vs:=[_]) ⟨⟨q,0,rfl,U.agg 0⟩,trivial⟩ (a _ U.gr)
theorem Gg(T:Tb ac)(b:∀c,aR A c->B (Gf (lS D)) c):YN ac W7 [aU D] A B:=by
 refine YF.code T.ZC aC (au ?_);refine RO.dL (ak.bM A) λf q U=>ab ?_;refine Ru.cond (λa=>?_) (λa=>?_);·subst a;refine ab ?_;refine RO.eT U 0 (λd U=>ab ?_);exact Ru.je (vs:=[_]) ⟨⟨q,0,rfl,U.agg 0⟩,trivial⟩ (b _ U.gr)
 refine ab ?_;iterate 21
  refine Ru.cond (λa=>?_) (λa=>?_);·subst a;refine ab ?_;refine RO.eT U 0 (λd U=>ab ?_);exact Ru.je (vs:=[_]) ⟨⟨q,0,rfl,U.agg 0⟩,trivial⟩ (b _ U.gr)
  refine ab ?_
 have e:lS D=pR D tQ:=by simp only[lS,An,ah4,aie,pR, *,bF]
 rw[e]at b;refine RO.cl (act T λd hg=>?_);have U:=U.bN hg;refine RO.eT U 0 (λg U=>ab ?_);exact Ru.je (vs:=[_]) ⟨⟨q,0,rfl,U.agg 0⟩,trivial⟩ (b _ U.gr)
def nB(op:Nat)(m:Int):oG:=if op=13/\m=1 then⟨[102,114,101,101],true, -3,false,0,0,2,0⟩else lS op
theorem acu(T:Tb ac)(b:∀d,aR A d->B (Gf (nB D n)) d):YN ac WS [aU D,aI n] A B:=by
 refine YF.code T.Zl aC (au ?_);refine RO.dL (ak.bM A) λg q U=>?_;repeat'(first|refine nO ?_|refine RO.bP (λ_=>?_) (λ_=>?_))
 .rename_i a;refine Ru.cond (λc=>?_) (λc=>?_);·rw[nB,aF ⟨a,c⟩]at b;refine ab ?_;refine RO.eT U 0 (λe U=>ab ?_);exact Ru.je (vs:=[_]) ⟨⟨q,0,rfl,U.agg 0⟩,trivial⟩ (b _ U.gr)
  rw[nB,an λh=>c h.2]at b;refine ab ?_;refine RO.cl (Gg T λe hg=>?_);have U:=U.bN hg;refine RO.eT U 0 (λf U=>ab ?_);exact Ru.je (vs:=[_]) ⟨⟨q,0,rfl,U.agg 0⟩,trivial⟩ (b _ U.gr)
 rename_i a;rw[nB,an λh=>a h.1]at b;refine RO.cl (Gg T λe hg=>?_);have U:=U.bN hg;refine RO.eT U 0 (λf U=>ab ?_);exact Ru.je (vs:=[_]) ⟨⟨q,0,rfl,U.agg 0⟩,trivial⟩ (b _ U.gr)
end
end Go.al.R
end
