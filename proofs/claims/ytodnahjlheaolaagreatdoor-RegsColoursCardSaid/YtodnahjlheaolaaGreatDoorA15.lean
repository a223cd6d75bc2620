/- A part. No conditions. -/
import Derived.Test.YtodnahjlheaolaaGreatDoorA14
set_option linter.all false
set_option maxHeartbeats 16000000
open Int renaming ofNat->ah0
noncomputable section
namespace Go.al.R
section
variable{ac:Nat->aX}
end
variable{A:ai}{B:List AV}{D H L o:Nat}{C:List SI}{E:Cx}{F:Kn}{I:KT}{J:SI}{M v:AV}
section
variable{ac:Nat->aX}
theorem Ru.acv(P:Kn->ai->Prop)(h1:∀M a,P M a->Ru ac E C M a)(h2:(∀a b M,P M a->ja M b->Ru ac E C b a)->Ru ac E (J::C) F A):Ru ac E (J::C) F A:=h2 λa b M c hl=>(h1 M a c).rP hl
def qU:List Nat:=[21,60,61,62,63,65,66,67,68,69,70]
theorem acw(T:Tb ac)(h1:∀a,aR A a->o∉qU->(lS o).w≠ []->I (.bool true) a)(h2:∀a,aR A a->¬(o∉qU/\(lS o).w≠ [])->I (.bool false) a):YN ac WR [aU o] A I:=by
 refine YF.code T.Zk aC ?_;repeat'(first|refine nO ?_|(refine Ru.d9 (λf=>?_) (λf=>?_)<;>rw[f]))
 rotate_right
 .have d:o∉qU:=by simp only[decide_eq_false_iff_not]at*;simp[qU, *]
  refine RO.cl (Gg T λh hg=>ab ?_);by_cases b:(lS o).w=[]
  .have e:iG (lS o).w []=true:=by rw[jT];simpa using b
   rw[e];exact Ru.aL (h2 _ hg λc=>c.2 b)
  have e:iG (lS o).w []=false:=by rw[jT];simpa using b
  rw[e];exact Ru.aL (h1 _ hg d b)
 all_goals exact Ru.aL (h2 _ (aR.refl A) λc=>c.1 (by simp only[decide_eq_true_eq]at*;simp[qU, *]))
def oI(m:Int)(l:Nat):Prop:=m= -1\/m= -2/\1<=l/\l<=7\/m= -3/\l<=6\/m=l
def lT(nm:Int)(t:List Nat):Prop:=if nm=0 then t=[]else if nm=1 then sf t else if nm=3 then fB t≠0 else jS t
def Ao(f:oG)(t:List Nat):Int:=if f.nm=3 then fB t else f.oH
structure vG(x:G.dY)(v:Int)(f:oG):Prop where
 to:f.to=decide (0<=x.to)
 t0: -1<=x.to
 t1:x.to<v
 iU:∀a∈x.args,0<=a/\a<=v - 1
 num:f.n=true->f.lo<=x.n/\x.n<=f.hi
 Mo:f.n=false->x.n=0
 l6:x.m=0\/x.op=13/\x.m=1
 i7:lT f.nm x.i7
 mn:x.op=15\/x.op=18->x.args.length<=6
 mo:x.op≠15->x.op≠18->oI (Ao f x.i7) x.args.length
theorem acx(T:Tb ac){x:G.dY}(O:nY A x B)(hb:∀c∈x.i7,c<256)(ag:x.i7.length<=1000)(av:x.args.length<=1000){v:Int}(N:0<=v)(aw:v<=6000)(h1:∀s,aR A s->x.op∉qU->(lS x.op).w≠ []->vG x v (nB x.op x.m)->I (.bool true) s)(h2:∀s,aR A s->¬(x.op∉qU/\(lS x.op).w≠ []/\vG x v (nB x.op x.m))->I (.bool false) s):YN ac Wz [.agg B,aI v] A I:=by
 have W:=O.one;obtain⟨E,rfl,D⟩:=O;have⟨ax,ay,a1,a2⟩:=D.all;refine YF.code T.YX aC (ab ?_);refine RO.bZ (ak.bM A) λH1 q U=>?_;refine ab ?_;refine RO.cl (acw T (λP hg l j=>?_) (λP hg t=>?_));rotate_left;·refine ab ?_;exact Ru.aL (h2 _ (U.gr.trans hg) λi=>t ⟨i.1,i.2.1⟩)
 have U:=U.bN hg;have U:ak A P [tB n8 q [aU x.op,aI x.to,E,aI x.n,aI x.m,.str x.i7]]:=U;refine ab ?_;refine RO.cl (acu T λH3 hg=>?_);have U:=U.bN hg;generalize nB x.op x.m=f at*;have⟨a8,to,oH,a6,lo,hi,nm,go⟩:=f;refine RO.dD U λH4 F U=>RO.nil (Ru.seq (Ru.Gd (P:=λs=>ak A s [tB E9 F [.str a8,.bool to,aI oH,.bool a6,aI lo,aI hi,aI nm,aI go],tB n8 q [aU x.op,aI x.to,E,aI x.n,aI x.m,.str x.i7]]/\to=decide (0<=x.to)/\ -1<=x.to/\x.to<v/\∀a∈x.args,0<=a/\a<=v - 1) [p1,p2,p5] (λH5⟨U,X,Y,Z,f4⟩=>?_) (λe=>?_)));rotate_left
 .refine ab ?_;refine RO.eq (t:=to==decide (0<=x.to)) (ab ?_) (ht:=rfl);refine RO.pD (λht=>?_) (λht=>?_);·refine ab ?_;exact Ru.aL (h2 _ U.gr λi=>by have:=i.2.2.to;simp_all)
  repeat'(first|refine nO ?_|refine RO.bP (λ_=>?_) (λ_=>?_))
  all_goals first|exact Ru.aL (h2 _ U.gr λi=>by have p:=i.2.2.t0;have L:=i.2.2.t1;simp only[Int.negSucc_eq]at*;omega)|skip
  refine RO.cl (Ge T (U.gr.sl D) aa N aa (λr=>?_) λt=>?_);·refine gE ?_;refine e _ _ ⟨U,by simpa using ht,by simp only[Int.negSucc_eq]at*;omega,aa,r⟩ ?_;exact dw
  refine ab ?_;exact Ru.aL (h2 _ U.gr λi=>t i.2.2.iU)
 refine Ru.seq (Ru.Gd (P:=λs=>ak A s [tB E9 F [.str a8,.bool to,aI oH,.bool a6,aI lo,aI hi,aI nm,aI go],tB n8 q [aU x.op,aI x.to,E,aI x.n,aI x.m,.str x.i7]]/\(a6=true->lo<=x.n/\x.n<=hi)/\(a6=false->x.n=0)/\(x.m=0\/x.op=13/\x.m=1)) [p1,p2,p5] (λH6⟨U,f5,f6,f7⟩=>?_) (λe=>?_));rotate_left
 .refine Ru.seq (Ru.region (gE ?_));cases a6 with
  |true=>
   refine gE ?_;refine RO.cl (oF T (λQ R=>?_) (λt=>?_));rotate_left;·refine ab ?_;exact Ru.aL (h2 _ U.gr λi=>t (i.2.2.num rfl))
   refine gE ?_;refine RO.bP (λk=>?_) (λk=>?_);rotate_left;·refine gE ?_;exact e _ _ ⟨U,λ_=>⟨Q,R⟩,λh=>(by cases h),.inl (by simpa using k)⟩ dw
   refine gE ?_;refine RO.bP (λr=>?_) (λr=>?_);rotate_left;·refine ab ?_;exact Ru.aL (h2 _ U.gr λi=>by have:=i.2.2.l6;simp_all)
   refine gE ?_;refine Ru.d9 (λy=>?_) (λy=>?_);·refine ab ?_;exact Ru.aL (h2 _ U.gr λi=>by have:=i.2.2.l6;simp_all)
   refine gE ?_;exact e _ _ ⟨U,λ_=>⟨Q,R⟩,λh=>(by cases h),.inr ⟨r,by simpa using y⟩⟩ dw
  |false=>
   refine gE ?_;refine RO.bP (λk=>?_) (λk=>?_);·refine ab ?_;exact Ru.aL (h2 _ U.gr λi=>by have:=i.2.2.Mo rfl;simp_all)
   have k:x.n=0:=by simpa using k
   refine gE ?_;refine RO.bP (λS=>?_) (λS=>?_);rotate_left;·refine gE ?_;exact e _ _ ⟨U,λh=>(by cases h),λ_=>k,.inl (by simpa using S)⟩ dw
   refine gE ?_;refine RO.bP (λr=>?_) (λr=>?_);rotate_left;·refine ab ?_;exact Ru.aL (h2 _ U.gr λi=>by have:=i.2.2.l6;simp_all)
   refine gE ?_;refine Ru.d9 (λy=>?_) (λy=>?_);·refine ab ?_;exact Ru.aL (h2 _ U.gr λi=>by have:=i.2.2.l6;simp_all)
   refine gE ?_;exact e _ _ ⟨U,λh=>(by cases h),λ_=>k,.inr ⟨r,by simpa using y⟩⟩ dw
 refine Ru.seq (Ru.region (gE ?_));refine Ru.seq (Ru.acv (P:=λM s=>∃mn:Int,M=[(p6,aI mn),(p2,.aD q 0),(p5,.aD F 0)]/\ak A s [tB E9 F [.str a8,.bool to,aI oH,.bool a6,aI lo,aI hi,aI nm,aI go],tB n8 q [aU x.op,aI x.to,E,aI x.n,aI x.m,.str x.i7]]/\lT nm x.i7/\mn=if nm=3 then(fB x.i7:Int)else oH) (λM H7⟨mn,hM,U,f8,V⟩=>?_) (λe=>?_));rotate_left
 .refine Ru.seq (Ru.region (gE ?_));refine Ru.block (Ru.seq (Ru.region (gE ?_)));refine Ru.cond (λl=>?_) (λl=>?_)
  .refine Ru.seq (Ru.region (gE ?_));refine Ru.d9 (λj=>?_) (λj=>?_);·refine ab ?_;exact Ru.aL (h2 _ U.gr λi=>by have p:lT nm x.i7:=i.2.2.i7;rw[lT,aF (show nm=0 from l)]at p;simp[p,jT]at j)
   have j:x.i7=[]:=by simpa[jT]using j
   have l:nm=0:=l;refine gE ?_;refine e _ _ _ ⟨oH,rfl,U,by rw[lT,aF l];exact j,by rw[an aa]⟩ ?_;exact dw
  have l:¬nm=0:=l;refine Ru.seq (Ru.region (gE ?_));refine Ru.cond (λj=>?_) (λj=>?_)
  .have j:nm=1:=j;refine Ru.seq (Ru.region (gE ?_));refine RO.cl (acq T hb aa (λk=>?_) λt=>?_);rotate_left;·refine ab ?_;exact Ru.aL (h2 _ U.gr λi=>t (by have p:lT nm x.i7:=i.2.2.i7;rwa[lT,an l,aF j]at p))
   refine gE ?_;refine e _ _ _ ⟨oH,rfl,U,by rw[lT,an l,aF j];exact k,by rw[an aa]⟩ ?_;exact dw
  have j:¬nm=1:=j;refine Ru.seq (Ru.region (gE ?_));refine Ru.cond (λk=>?_) (λk=>?_)
  .have k:nm=3:=k;refine Ru.seq (Ru.region (gE ?_));refine RO.cl (acs T (gE ?_));refine Ru.seq (Ru.region (gE ?_));refine Ru.cond (λr=>?_) (λr=>?_);·refine ab ?_;exact Ru.aL (h2 _ U.gr λi=>by have p:lT nm x.i7:=i.2.2.i7;rw[lT,an l,an j,aF k]at p;exact p r)
   refine gE ?_;refine e _ _ _ ⟨fB x.i7,rfl,U,by rw[lT,an l,an j,aF k];exact r,by rw[aF k]⟩ ?_;exact dw
  have k:¬nm=3:=k;refine Ru.seq (Ru.region (gE ?_));refine RO.cl (Cm T hb aa (λr=>?_) λt=>?_);rotate_left;·refine ab ?_;exact Ru.aL (h2 _ U.gr λi=>t (by have p:lT nm x.i7:=i.2.2.i7;rwa[lT,an l,an j,an k]at p))
  refine gE ?_;refine e _ _ _ ⟨oH,rfl,U,by rw[lT,an l,an j,an k];exact r,by rw[an k]⟩ ?_;exact dw
 subst hM;have u:(x.op=15\/x.op=18->x.args.length<=6)->(x.op≠15->x.op≠18->oI mn x.args.length)->vG x v ⟨a8,to,oH,a6,lo,hi,nm,go⟩:=λa b=>⟨X,Y,Z,f4,f5,f6,f7,f8,a,λc d=>by have L:=b c d;rw[V]at L;exact L⟩;have z:x.op≠15->x.op≠18->vG x v ⟨a8,to,oH,a6,lo,hi,nm,go⟩->oI mn x.args.length:=λa b h=>by rw[V];exact h.mo a b
 refine ab ?_;refine RO.bP (λC=>?_) (λC=>?_)
 .refine ab ?_;by_cases o:x.args.length<=6;·rw[decide_eq_true o];exact Ru.aL (h1 _ U.gr l j (u (λ_=>o) λh=>absurd C h))
  rw[decide_eq_false o];exact Ru.aL (h2 _ U.gr λi=>o (i.2.2.mn (.inl C)))
 refine ab ?_;refine Ru.cond (λa3=>?_) (λa3=>?_)
 .refine ab ?_;by_cases o:x.args.length<=6;·rw[decide_eq_true o];exact Ru.aL (h1 _ U.gr l j (u (λ_=>o) λ_ h=>absurd a3 h))
  rw[decide_eq_false o];exact Ru.aL (h2 _ U.gr λi=>o (i.2.2.mn (.inr a3)))
 have u:=u λh=>h.elim (absurd · C) (absurd · a3);have z:=z C a3;refine ab ?_;refine Ru.cond (λa4=>?_) (λa4=>?_);·refine ab ?_;exact Ru.aL (h1 _ U.gr l j (u λ_ _=>.inl a4))
 refine ab ?_;refine Ru.cond (λa5=>?_) (λa5=>?_)
 .refine ab ?_;refine RO.cl (oF T (λJ a7=>?_) (λt=>?_));·refine ab ?_;exact Ru.aL (h1 _ U.gr l j (u λ_ _=>.inr (.inl ⟨a5,by simp only[ag0]at J;omega,by simp only[ag0]at a7;omega⟩)))
  refine ab ?_;exact Ru.aL (h2 _ U.gr λi=>by have p:=z i.2.2;unfold oI at p;simp only[ag0]at t;omega)
 refine ab ?_;refine Ru.cond (λJ=>?_) (λJ=>?_)
 .refine ab ?_;by_cases o:x.args.length<=6;·rw[decide_eq_true o];exact Ru.aL (h1 _ U.gr l j (u λ_ _=>.inr (.inr (.inl ⟨J,o⟩))))
  rw[decide_eq_false o];exact Ru.aL (h2 _ U.gr λi=>by have p:=z i.2.2;unfold oI at p;omega)
 refine ab ?_;by_cases o:ah0 x.args.length=mn;·rw[decide_eq_true o];exact Ru.aL (h1 _ U.gr l j (u λ_ _=>.inr (.inr (.inr o.symm))))
 rw[decide_eq_false o];exact Ru.aL (h2 _ U.gr λi=>by have p:=z i.2.2;unfold oI at p;simp only[ag0]at o;omega)
end
section
variable{ac:Nat->aX}
theorem Ru.oJ(P:Kn->ai->Prop)(h1:∀M a,P M a->Ru ac E C M a)(h2:∀c,(∀a b M,P M a->ja M b->Ru ac E c b a)->Ru ac E (J::c) F A):Ru ac E (J::C) F A:=h2 C λa b M d hl=>(h1 M a d).rP hl
theorem RO.Mp{d:Option ah}{l:List bD}{f:aJ}{args:List aJ}{p:ah}{x:aJ}{i:ah}{k:Option (ah×Bool)}(h:YF ac M B A λr a=>aY a i o=some v/\RO ac E l C (bo F d r) a)(m:∀r,aT (bo F d r) x=.aD i o:=by(intro r;conv=>lhs;whnf)<;>rfl)(n:∀r,lk (bo F d r) p=v:=by(intro r;conv=>lhs;whnf)<;>rfl)(b:v.bk=true:=by first|rfl|assumption)(hvs:eV v v=true:=by first|rfl|assumption|simp[eV,cD,dW])(q:aT F f=M:=by exact cw)(c:M.bk=true:=by first|rfl|assumption)(s:args.map (aT F)=B:=by rfl)(e:B.all AV.bk=true:=by repeat first|rfl|assumption|(refine ad ?_ ?_)):RO ac E (⟨d,.call f args,none,[],[⟨p,.aW x,k⟩]⟩::l) C F A:=RO.EY (h.mono λr a h=>⟨λaf j=>by
 have:=ev (re:=[]) j (m r) (n r) b hvs h.1 rfl;simp only[dQ,d8,bg,Bool.and_true]at this;simp only[dQ,Bool.and_true];split;·exact this
 rfl,h.2⟩) q c s e
theorem Sl.bI(h:Sl A o B D M):eV M M=true:=by
 rcases h with⟨rfl,_⟩|⟨i,c,cap,ex,b,m,e,a,aK,fz,rfl,_⟩;·rfl
 simp[eV,cD,ah.ft]
def fS(j:G.fJ)(k:Nat):Nat:=if j.op=65/\k=0\/j.op=67/\k=1\/j.op=66/\j.bu.getD k 0=2 then 1 else 0
section
variable{j:G.fJ}
theorem Mq(T:Tb ac)(hj:nZ A j B)(h:∀l,aR A l->I (aN (fS j o)) l):YN ac WW [.agg B,aN o] A I:=by
 have m:=hj.one;obtain⟨n,p,r,rfl,i,e,k⟩:=hj;have⟨s,_,_,t⟩:=e.all;have⟨u,_,_,_⟩:=i.all;have⟨v,_,_,_⟩:=k.all;have⟨op,args,i7,bu,w⟩:=j;refine YF.code T.Zp aC (ab ?_);refine RO.bZ (ak.bM A) λf q U=>?_;have h:=h f U.gr;have one:(op=65/\o=0\/op=67/\o=1\/op=66/\bu.getD o 0=2)->I (aN 1) f:=λh1=>by rw[fS,aF h1]at h;exact h
 have zero:¬(op=65/\o=0\/op=67/\o=1\/op=66/\bu.getD o 0=2)->I (aN 0) f:=λh1=>by rw[fS,an h1]at h;exact h
 clear h;have U:ak A f [tB mg q [aU op,n,.str i7,p,r]]:=U;refine ab ?_;refine RO.bP (λb=>?_) (λb=>?_)
 .subst b;refine ab ?_;refine Ru.cond (λh0=>?_) (λh0=>?_);·subst h0;refine ab ?_;exact Ru.aL (one aC)
  refine ab ?_;exact Ru.aL (zero (by simp[h0]))
 refine ab ?_;refine RO.bP (λc=>?_) (λc=>?_)
 .subst c;refine ab ?_;refine Ru.cond (λh0=>?_) (λh0=>?_);·subst h0;refine ab ?_;exact Ru.aL (one aC)
  refine ab ?_;exact Ru.aL (zero (by simp[h0]))
 refine ab ?_;refine RO.bP (λd=>?_) (λd=>?_)
 .subst d;refine ab ?_;refine RO.bP (λa=>?_) (λa=>?_)
  .refine ab ?_;refine RO.ic U.gr e (λz o1 x y=>ab ?_) (j:=o);refine Ru.cond (λh0=>?_) (λh0=>?_);·refine ab ?_;exact Ru.aL (one (by rw[aZ a];exact .inr (.inr ⟨rfl,h0⟩)))
   refine ab ?_;exact Ru.aL (zero (by rw[aZ a];simp[h0]))
  refine ab ?_;exact Ru.aL (zero (by rw[ahi,ah1 (Nat.le_of_not_lt a)];simp))
 refine ab ?_;exact Ru.aL (zero (by simp[b,c,d]))
inductive AE(j:G.fJ):Nat->Nat->Prop
 |go(h:j.op=61):AE j 0 1
 |tF(h:j.op=62):AE j 1 2
 |is(h:j.op=63):AE j 1 2
 |eg(h:j.op=65):AE j 1 2
 |ou(h:j.op=66)(hk:∀i(h:i<j.bu.length),1<=j.bu[i]/\j.bu[i]<=3/\(j.bu[i]=3->i+1=j.bu.length))(h1:1<=j.bu.length)(h4:j.bu.length<=4):AE j (kV j.bu) j.bu.length
 |tG(h:j.op=67):AE j 0 3
 |pN(h:j.op=68):AE j (max 1 j.args.length) 0
 |ret(h:j.op=69):AE j 1 0
 |kr(h:j.op=21):AE j 1 0
 |stuck(h:j.op=70):AE j 0 0
theorem AE.aA(h:AE j o D):j.op=61\/j.op=62\/j.op=63\/j.op=65\/j.op=66\/j.op=67\/j.op=68\/j.op=69\/j.op=21\/j.op=70:=by cases h<;>omega
theorem AE.Mr(h:AE j o D)(c:j.op=66):(∀i(h:i<j.bu.length),1<=j.bu[i]/\j.bu[i]<=3/\(j.bu[i]=3->i+1=j.bu.length))/\1<=j.bu.length/\j.bu.length<=4:=by cases h with|ou _ a h1 b=>exact⟨a,h1,b⟩|_=>omega
theorem AE.Mt(h:AE j o D)(a:AE j H L):o=H/\D=L:=by cases h<;>cases a<;>first|exact⟨rfl,rfl⟩|omega
end
end
end Go.al.R
end
