/- A part. No conditions. -/
import Derived.Test.YtcipmlnpjkngpaaGreatDoorA16
set_option linter.all false
set_option maxHeartbeats 16000000
open Int renaming ofNat->afq
noncomputable section
namespace Go.ak.R
section
variable{ac:Nat->aX}
section
theorem Ru.ZR{c:Cx}{s:List SI}{x:SI}{L:Kn}{H:ai}(P:Kn->ai->Prop)(h1:∀M a,P M a->Ru ac c s M a)(h2:(∀a b M,P M a->iR M b->Ru ac c s b a)->Ru ac c (x::s) L H):Ru ac c (x::s) L H:=h2 λa b M d hl=>(h1 M a d).ph hl
def pE:List Nat:=[21,60,61,62,63,65,66,67,68,69,70]
theorem ZS(T:Tb ac){H:ai}{op:Nat}{K:KT}(h1:∀a,aZ H a->op∉pE->(li op).w≠ []->K (.bool true) a)(h2:∀a,aZ H a->¬(op∉pE/\(li op).w≠ [])->K (.bool false) a):YN ac UZ [aU op] H K:=by
 refine YF.code T.WO aC ?_;repeat'(first|refine lX ?_|(refine Ru.eh (λf=>?_) (λf=>?_)<;>rw[f]))
 rotate_right
 .have d:op∉pE:=by simp only[decide_eq_false_iff_not]at*;simp[pE, *]
  refine RO.cl (EV T λh hg=>?_);refine ah ?_;by_cases b:(li op).w=[]
  .have e:ie (li op).w []=true:=by rw[jp];simpa using b
   rw[e];exact Ru.aP (h2 _ hg λc=>c.2 b)
  have e:ie (li op).w []=false:=by rw[jp];simpa using b
  rw[e];exact Ru.aP (h1 _ hg d b)
 all_goals exact Ru.aP (h2 _ (aZ.refl H) λc=>c.1 (by simp only[decide_eq_true_eq]at*;simp[pE, *]))
def mY(m:Int)(l:Nat):Prop:=m= -1\/m= -2/\1<=l/\l<=7\/m= -3/\l<=6\/m=l
def lj(nm:Int)(t:List Nat):Prop:=if nm=0 then t=[]else if nm=1 then qE t else if nm=3 then eM t≠0 else jo t
def yR(f:mW)(t:List Nat):Int:=if f.nm=3 then eM t else f.mX
structure sd(x:G.dI)(v:Int)(f:mW):Prop where
 to:f.to=decide (0<=x.to)
 t0: -1<=x.to
 t1:x.to<v
 iy:∀a∈x.args,0<=a/\a<=v - 1
 num:f.n=true->f.lo<=x.n/\x.n<=f.hi
 Lb:f.n=false->x.n=0
 lw:x.m=0\/x.op=13/\x.m=1
 i7:lj f.nm x.i7
 mn:x.op=15\/x.op=18->x.args.length<=6
 mo:x.op≠15->x.op≠18->mY (yR f x.i7) x.args.length
section
variable{g:G.aY}{H:ai}{cs:List AV}
theorem ZT(T:Tb ac){x:G.dI}(J:nX H x cs)(hb:∀c∈x.i7,c<256)(ag:x.i7.length<=1000)(av:x.args.length<=1000){v:Int}(I:0<=v)(aw:v<=6000){K:KT}(h1:∀s,aZ H s->x.op∉pE->(li x.op).w≠ []->sd x v (lL x.op x.m)->K (.bool true) s)(h2:∀s,aZ H s->¬(x.op∉pE/\(li x.op).w≠ []/\sd x v (lL x.op x.m))->K (.bool false) s):YN ac UD [.agg cs,aI v] H K:=by
 have R:=J.one;obtain⟨C,rfl,B⟩:=J;have⟨ax,ay,a1,a2⟩:=B.all;refine YF.code T.Wo aC ?_;refine ah ?_;refine RO.cG (al.bY H) λH1 q U=>?_;refine ah ?_;refine RO.cl (ZS T (λL hg l j=>?_) (λL hg t=>?_));rotate_left;·refine ah ?_;exact Ru.aP (h2 _ (U.gr.trans hg) λi=>t ⟨i.1,i.2.1⟩)
 have U:=U.bZ hg;have U:al H L [tB pp q [aU x.op,aI x.to,C,aI x.n,aI x.m,.str x.i7]]:=U;refine ah ?_;refine RO.cl (ZQ T λH3 hg=>?_);have U:=U.bZ hg;generalize lL x.op x.m=f at*;obtain⟨a8,to,mX,a6,lo,hi,nm,go⟩:=f;refine RO.eR U λH4 D U=>?_;refine RO.nil ?_;refine Ru.seq ?_;refine Ru.ES (P:=λs=>al H s [tB D8 D [.str a8,.bool to,aI mX,.bool a6,aI lo,aI hi,aI nm,aI go],tB pp q [aU x.op,aI x.to,C,aI x.n,aI x.m,.str x.i7]]/\to=decide (0<=x.to)/\ -1<=x.to/\x.to<v/\∀a∈x.args,0<=a/\a<=v - 1) [p1,p2,p5] (λH5⟨U,S,V,W,X⟩=>?_) (λe=>?_);rotate_left
 .refine ah ?_;refine RO.eq (t:=to==decide (0<=x.to)) ?_ (ht:=rfl);refine ah ?_;refine RO.nV (λht=>?_) (λht=>?_);·refine ah ?_;exact Ru.aP (h2 _ U.gr λi=>by have:=i.2.2.to;simp_all)
  repeat'(first|refine lX ?_|refine RO.bT (λ_=>?_) (λ_=>?_))
  all_goals first|exact Ru.aP (h2 _ U.gr λi=>by have p:=i.2.2.t0;have F:=i.2.2.t1;simp only[Int.negSucc_eq]at*;omega)|skip
  refine RO.cl (ET T (U.gr.sl B) ab I ab (λr=>?_) λt=>?_);·refine fP ?_;refine e _ _ ⟨U,by simpa using ht,by simp only[Int.negSucc_eq]at*;omega,ab,r⟩ ?_;exact eg
  refine ah ?_;exact Ru.aP (h2 _ U.gr λi=>t i.2.2.iy)
 refine Ru.seq ?_;refine Ru.ES (P:=λs=>al H s [tB D8 D [.str a8,.bool to,aI mX,.bool a6,aI lo,aI hi,aI nm,aI go],tB pp q [aU x.op,aI x.to,C,aI x.n,aI x.m,.str x.i7]]/\(a6=true->lo<=x.n/\x.n<=hi)/\(a6=false->x.n=0)/\(x.m=0\/x.op=13/\x.m=1)) [p1,p2,p5] (λH6⟨U,Y,Z,f7⟩=>?_) (λe=>?_);rotate_left
 .refine Ru.seq ?_;refine Ru.region ?_;refine fP ?_;cases a6 with
  |true=>
   refine fP ?_;refine RO.cl (oC T (λN O=>?_) (λt=>?_));rotate_left;·refine ah ?_;exact Ru.aP (h2 _ U.gr λi=>t (i.2.2.num rfl))
   refine fP ?_;refine RO.bT (λk=>?_) (λk=>?_);rotate_left;·refine fP ?_;refine e _ _ ⟨U,λ_=>⟨N,O⟩,λh=>(by cases h),.inl (by simpa using k)⟩ ?_;exact eg
   refine fP ?_;refine RO.bT (λr=>?_) (λr=>?_);rotate_left;·refine ah ?_;exact Ru.aP (h2 _ U.gr λi=>by have:=i.2.2.lw;simp_all)
   refine fP ?_;refine Ru.eh (λy=>?_) (λy=>?_);·refine ah ?_;exact Ru.aP (h2 _ U.gr λi=>by have:=i.2.2.lw;simp_all)
   refine fP ?_;refine e _ _ ⟨U,λ_=>⟨N,O⟩,λh=>(by cases h),.inr ⟨r,by simpa using y⟩⟩ ?_;exact eg
  |false=>
   refine fP ?_;refine RO.bT (λk=>?_) (λk=>?_);·refine ah ?_;exact Ru.aP (h2 _ U.gr λi=>by have:=i.2.2.Lb rfl;simp_all)
   have k:x.n=0:=by simpa using k
   refine fP ?_;refine RO.bT (λP=>?_) (λP=>?_);rotate_left;·refine fP ?_;refine e _ _ ⟨U,λh=>(by cases h),λ_=>k,.inl (by simpa using P)⟩ ?_;exact eg
   refine fP ?_;refine RO.bT (λr=>?_) (λr=>?_);rotate_left;·refine ah ?_;exact Ru.aP (h2 _ U.gr λi=>by have:=i.2.2.lw;simp_all)
   refine fP ?_;refine Ru.eh (λy=>?_) (λy=>?_);·refine ah ?_;exact Ru.aP (h2 _ U.gr λi=>by have:=i.2.2.lw;simp_all)
   refine fP ?_;refine e _ _ ⟨U,λh=>(by cases h),λ_=>k,.inr ⟨r,by simpa using y⟩⟩ ?_;exact eg
 refine Ru.seq ?_;refine Ru.region ?_;refine fP ?_;refine Ru.seq ?_;refine Ru.ZR (P:=λM s=>∃mn:Int,M=[(p6,aI mn),(p2,.aD q 0),(p5,.aD D 0)]/\al H s [tB D8 D [.str a8,.bool to,aI mX,.bool a6,aI lo,aI hi,aI nm,aI go],tB pp q [aU x.op,aI x.to,C,aI x.n,aI x.m,.str x.i7]]/\lj nm x.i7/\mn=if nm=3 then(eM x.i7:Int)else mX) (λM H7⟨mn,hM,U,f8,Q⟩=>?_) (λe=>?_);rotate_left
 .refine Ru.seq ?_;refine Ru.region ?_;refine fP ?_;refine Ru.block ?_;refine Ru.seq ?_;refine Ru.region ?_;refine fP ?_;refine Ru.cond (λl=>?_) (λl=>?_)
  .refine Ru.seq ?_;refine Ru.region ?_;refine fP ?_;refine Ru.eh (λj=>?_) (λj=>?_);·refine ah ?_;exact Ru.aP (h2 _ U.gr λi=>by have p:lj nm x.i7:=i.2.2.i7;rw[lj,aH (show nm=0 from l)]at p;simp[p,jp]at j)
   have j:x.i7=[]:=by simpa[jp]using j
   have l:nm=0:=l;refine fP ?_;refine e _ _ _ ⟨mX,rfl,U,by rw[lj,aH l];exact j,by rw[ap ab]⟩ ?_;exact eg
  have l:¬nm=0:=l;refine Ru.seq ?_;refine Ru.region ?_;refine fP ?_;refine Ru.cond (λj=>?_) (λj=>?_)
  .have j:nm=1:=j;refine Ru.seq ?_;refine Ru.region ?_;refine fP ?_;refine RO.cl (ZM T hb ab (λk=>?_) λt=>?_);rotate_left;·refine ah ?_;exact Ru.aP (h2 _ U.gr λi=>t (by have p:lj nm x.i7:=i.2.2.i7;rwa[lj,ap l,aH j]at p))
   refine fP ?_;refine e _ _ _ ⟨mX,rfl,U,by rw[lj,ap l,aH j];exact k,by rw[ap ab]⟩ ?_;exact eg
  have j:¬nm=1:=j;refine Ru.seq ?_;refine Ru.region ?_;refine fP ?_;refine Ru.cond (λk=>?_) (λk=>?_)
  .have k:nm=3:=k;refine Ru.seq ?_;refine Ru.region ?_;refine fP ?_;refine RO.cl (ZO T ?_);refine fP ?_;refine Ru.seq ?_;refine Ru.region ?_;refine fP ?_;refine Ru.cond (λr=>?_) (λr=>?_);·refine ah ?_;exact Ru.aP (h2 _ U.gr λi=>by have p:lj nm x.i7:=i.2.2.i7;rw[lj,ap l,ap j,aH k]at p;exact p r)
   refine fP ?_;refine e _ _ _ ⟨eM x.i7,rfl,U,by rw[lj,ap l,ap j,aH k];exact r,by rw[aH k]⟩ ?_;exact eg
  have k:¬nm=3:=k;refine Ru.seq ?_;refine Ru.region ?_;refine fP ?_;refine RO.cl (Bk T hb ab (λr=>?_) λt=>?_);rotate_left;·refine ah ?_;exact Ru.aP (h2 _ U.gr λi=>t (by have p:lj nm x.i7:=i.2.2.i7;rwa[lj,ap l,ap j,ap k]at p))
  refine fP ?_;refine e _ _ _ ⟨mX,rfl,U,by rw[lj,ap l,ap j,ap k];exact r,by rw[ap k]⟩ ?_;exact eg
 subst hM;have u:(x.op=15\/x.op=18->x.args.length<=6)->(x.op≠15->x.op≠18->mY mn x.args.length)->sd x v ⟨a8,to,mX,a6,lo,hi,nm,go⟩:=λa b=>⟨S,V,W,X,Y,Z,f7,f8,a,λc d=>by have F:=b c d;rw[Q]at F;exact F⟩;have z:x.op≠15->x.op≠18->sd x v ⟨a8,to,mX,a6,lo,hi,nm,go⟩->mY mn x.args.length:=λa b h=>by rw[Q];exact h.mo a b
 refine ah ?_;refine RO.bT (λA=>?_) (λA=>?_)
 .refine ah ?_;by_cases o:x.args.length<=6;·rw[decide_eq_true o];exact Ru.aP (h1 _ U.gr l j (u (λ_=>o) λh=>absurd A h))
  rw[decide_eq_false o];exact Ru.aP (h2 _ U.gr λi=>o (i.2.2.mn (.inl A)))
 refine ah ?_;refine Ru.cond (λa3=>?_) (λa3=>?_)
 .refine ah ?_;by_cases o:x.args.length<=6;·rw[decide_eq_true o];exact Ru.aP (h1 _ U.gr l j (u (λ_=>o) λ_ h=>absurd a3 h))
  rw[decide_eq_false o];exact Ru.aP (h2 _ U.gr λi=>o (i.2.2.mn (.inr a3)))
 have u:=u λh=>h.elim (absurd · A) (absurd · a3);have z:=z A a3;refine ah ?_;refine Ru.cond (λa4=>?_) (λa4=>?_);·refine ah ?_;exact Ru.aP (h1 _ U.gr l j (u λ_ _=>.inl a4))
 refine ah ?_;refine Ru.cond (λa5=>?_) (λa5=>?_)
 .refine ah ?_;refine RO.cl (oC T (λE a7=>?_) (λt=>?_));·refine ah ?_;exact Ru.aP (h1 _ U.gr l j (u λ_ _=>.inr (.inl ⟨a5,by simp only[aev]at E;omega,by simp only[aev]at a7;omega⟩)))
  refine ah ?_;exact Ru.aP (h2 _ U.gr λi=>by have p:=z i.2.2;unfold mY at p;simp only[aev]at t;omega)
 refine ah ?_;refine Ru.cond (λE=>?_) (λE=>?_)
 .refine ah ?_;by_cases o:x.args.length<=6;·rw[decide_eq_true o];exact Ru.aP (h1 _ U.gr l j (u λ_ _=>.inr (.inr (.inl ⟨E,o⟩))))
  rw[decide_eq_false o];exact Ru.aP (h2 _ U.gr λi=>by have p:=z i.2.2;unfold mY at p;omega)
 refine ah ?_;by_cases o:afq x.args.length=mn;·rw[decide_eq_true o];exact Ru.aP (h1 _ U.gr l j (u λ_ _=>.inr (.inr (.inr o.symm))))
 rw[decide_eq_false o];exact Ru.aP (h2 _ U.gr λi=>by have p:=z i.2.2;unfold mY at p;simp only[aev]at o;omega)
end
end
section
theorem Ru.se{c:Cx}{s:List SI}{x:SI}{L:Kn}{H:ai}(P:Kn->ai->Prop)(h1:∀M a,P M a->Ru ac c s M a)(h2:∀d,(∀a b M,P M a->iR M b->Ru ac c d b a)->Ru ac c (x::d) L H):Ru ac c (x::s) L H:=h2 s λa b M e hl=>(h1 M a e).ph hl
theorem RO.Lc{H:ai}{c:Cx}{s:List SI}{L:Kn}{d:Option af}{l:List bu}{f:aK}{args:List aK}{fv:AV}{a:List AV}{p:af}{x:aK}{i:af}{o:Nat}{v:AV}{n:Option (af×Bool)}(h:YF ac fv a H λr b=>bx b i o=some v/\RO ac c l s (bj L d r) b)(q:∀r,aT (bj L d r) x=.aD i o:=by(intro r;conv=>lhs;whnf)<;>rfl)(t:∀r,lk (bj L d r) p=v:=by(intro r;conv=>lhs;whnf)<;>rfl)(e:v.bq=true:=by first|rfl|assumption)(hvs:fC v v=true:=by first|rfl|assumption|simp[fC,de,eU])(u:aT L f=fv:=by exact cw)(j:fv.bq=true:=by first|rfl|assumption)(w:args.map (aT L)=a:=by rfl)(k:a.all AV.bq=true:=by repeat first|rfl|assumption|(refine ad ?_ ?_)):RO ac c (⟨d,.call f args,none,[],[⟨p,.bk x,n⟩]⟩::l) s L H:=RO.D1 (h.mono λr b h=>⟨λaa m=>by
 have:=gh (re:=[]) m (q r) (t r) e hvs h.1 rfl;simp only[dl,dc,bc,Bool.and_true]at this;simp only[dl,Bool.and_true];split;·exact this
 rfl,h.2⟩) u j w k
theorem Sl.bL{H:ai}{size n:Nat}{a:List AV}{v:AV}(h:Sl H size a n v):fC v v=true:=by
 rcases h with⟨rfl,_⟩|⟨i,o,cap,ex,c,m,e,b,aM,fz,rfl,_⟩;·rfl
 simp[fC,de,af.fo]
def fg(j:G.eV)(k:Nat):Nat:=if j.op=65/\k=0\/j.op=67/\k=1\/j.op=66/\j.bp.getD k 0=2 then 1 else 0
section
variable{g:G.aY}{j:G.eV}{H:ai}{cs:List AV}
theorem Ld(T:Tb ac)(hj:mM H j cs){k:Nat}{K:KT}(h:∀m,aZ H m->K (aN (fg j k)) m):YN ac U4 [.agg cs,aN k] H K:=by
 have n:=hj.one;obtain⟨o,p,r,rfl,i,e,l⟩:=hj;have⟨s,_,_,t⟩:=e.all;have⟨u,_,_,_⟩:=i.all;have⟨v,_,_,_⟩:=l.all;obtain⟨op,args,i7,bp,w⟩:=j;refine YF.code T.WT aC ?_;refine ah ?_;refine RO.cG (al.bY H) λf q U=>?_;have h:=h f U.gr;have one:(op=65/\k=0\/op=67/\k=1\/op=66/\bp.getD k 0=2)->K (aN 1) f:=λh1=>by rw[fg,aH h1]at h;exact h
 have zero:¬(op=65/\k=0\/op=67/\k=1\/op=66/\bp.getD k 0=2)->K (aN 0) f:=λh1=>by rw[fg,ap h1]at h;exact h
 clear h;have U:al H f [tB mf q [aU op,o,.str i7,p,r]]:=U;refine ah ?_;refine RO.bT (λb=>?_) (λb=>?_)
 .subst b;refine ah ?_;refine Ru.cond (λh0=>?_) (λh0=>?_);·subst h0;refine ah ?_;exact Ru.aP (one aC)
  refine ah ?_;exact Ru.aP (zero (by simp[h0]))
 refine ah ?_;refine RO.bT (λc=>?_) (λc=>?_)
 .subst c;refine ah ?_;refine Ru.cond (λh0=>?_) (λh0=>?_);·subst h0;refine ah ?_;exact Ru.aP (one aC)
  refine ah ?_;exact Ru.aP (zero (by simp[h0]))
 refine ah ?_;refine RO.bT (λd=>?_) (λd=>?_)
 .subst d;refine ah ?_;refine RO.bT (λa=>?_) (λa=>?_)
  .refine ah ?_;refine RO.iE U.gr e (λz o1 x y=>?_) (j:=k);refine ah ?_;refine Ru.cond (λh0=>?_) (λh0=>?_);·refine ah ?_;exact Ru.aP (one (by rw[bm a];exact .inr (.inr ⟨rfl,h0⟩)))
   refine ah ?_;exact Ru.aP (zero (by rw[bm a];simp[h0]))
  refine ah ?_;exact Ru.aP (zero (by rw[aeD,afH (Nat.le_of_not_lt a)];simp))
 refine ah ?_;exact Ru.aP (zero (by simp[b,c,d]))
inductive AE(j:G.eV):Nat->Nat->Prop
 |go(h:j.op=61):AE j 0 1
 |rV(h:j.op=62):AE j 1 2
 |is(h:j.op=63):AE j 1 2
 |eZ(h:j.op=65):AE j 1 2
 |mR(h:j.op=66)(hk:∀i(h:i<j.bp.length),1<=j.bp[i]/\j.bp[i]<=3/\(j.bp[i]=3->i+1=j.bp.length))(h1:1<=j.bp.length)(h4:j.bp.length<=4):AE j (ka j.bp) j.bp.length
 |rW(h:j.op=67):AE j 0 3
 |oh(h:j.op=68):AE j (max 1 j.args.length) 0
 |ret(h:j.op=69):AE j 1 0
 |qI(h:j.op=21):AE j 1 0
 |stuck(h:j.op=70):AE j 0 0
theorem AE.aq{a e:Nat}(h:AE j a e):j.op=61\/j.op=62\/j.op=63\/j.op=65\/j.op=66\/j.op=67\/j.op=68\/j.op=69\/j.op=21\/j.op=70:=by cases h<;>omega
theorem AE.Lf{a e:Nat}(h:AE j a e)(d:j.op=66):(∀i(h:i<j.bp.length),1<=j.bp[i]/\j.bp[i]<=3/\(j.bp[i]=3->i+1=j.bp.length))/\1<=j.bp.length/\j.bp.length<=4:=by cases h with|mR _ b h1 c=>exact⟨b,h1,c⟩|_=>omega
theorem AE.Lg{a e b c:Nat}(h:AE j a e)(d:AE j b c):a=b/\e=c:=by cases h<;>cases d<;>first|exact⟨rfl,rfl⟩|omega
end
end
end
end Go.ak.R
end
