/- A part. No conditions. -/
import Derived.Test.YtpplokbfajnjhaaGreatDoorA14
set_option linter.all false
set_option maxHeartbeats 16000000
open Int renaming ofNat->aiC
noncomputable section
namespace Go.al.R
section
variable{ab:Nat->aV}
section
theorem Ru.acb{c:Cx}{s:List SI}{x:SI}{L:Kn}{H:ai}(P:Kn->ai->Prop)(h1:∀M H',P M H'->Ru ab c s M H')(h2:(∀H' a M,P M H'->iZ M a->Ru ab c s a H')->Ru ab c (x::s) L H):Ru ab c (x::s) L H:=h2 λH' a M b hl=>(h1 M H' b).ph hl
def qC:List Nat:=[21,60,61,62,63,65,66,67,68,69,70]
theorem acd(T:Tb ab){H:ai}{op:Nat}{K:KT}(h1:∀H',aS H H'->op∉qC->(lW op).w≠ []->K (.bool true) H')(h2:∀H',aS H H'->¬(op∉qC/\(lW op).w≠ [])->K (.bool false) H'):YN ab Xp [aU op] H K:=by
 refine YF.code T.ZB aC ?_;repeat'(first|refine nO ?_|(refine Ru.eC (λd=>?_) (λd=>?_)<;>rw[d]))
 rotate_right
 .have c:op∉qC:=by simp only[decide_eq_false_iff_not]at*;simp[qC, *]
  refine RO.cl (FI T λf hg=>af ?_);by_cases a:(lW op).w=[]
  .have e:iG (lW op).w []=true:=by rw[jS];simpa using a
   rw[e];exact Ru.aL (h2 _ hg λb=>b.2 a)
  have e:iG (lW op).w []=false:=by rw[jS];simpa using a
  rw[e];exact Ru.aL (h1 _ hg c a)
 all_goals exact Ru.aL (h2 _ (aS.refl H) λb=>b.1 (by simp only[decide_eq_true_eq]at*;simp[qC, *]))
def oz(m:Int)(l:Nat):Prop:=m= -1\/m= -2/\1<=l/\l<=7\/m= -3/\l<=6\/m=l
def lX(nm:Int)(t:List Nat):Prop:=if nm=0 then t=[]else if nm=1 then rU t else if nm=3 then ft t≠0 else jR t
def zS(f:oq)(t:List Nat):Int:=if f.nm=3 then ft t else f.ou
structure u6(x:G.ee)(v:Int)(f:oq):Prop where
 to:f.to=decide (0<=x.to)
 t0: -1<=x.to
 t1:x.to<v
 iS:∀a∈x.args,0<=a/\a<=v - 1
 num:f.n=true->f.lo<=x.n/\x.n<=f.hi
 LS:f.n=false->x.n=0
 l8:x.m=0\/x.op=13/\x.m=1
 name:lX f.nm x.name
 mn:x.op=15\/x.op=18->x.args.length<=6
 mo:x.op≠15->x.op≠18->oz (zS f x.name) x.args.length
section
variable{g:G.aP}{H:ai}{cs:List AV}
theorem ace(T:Tb ab){x:G.ee}(F:nW H x cs)(hb:∀c∈x.name,c<256)(Z:x.name.length<=1000)(ag:x.args.length<=1000){v:Int}(E:0<=v)(av:v<=6000){K:KT}(h1:∀H',aS H H'->x.op∉qC->(lW x.op).w≠ []->u6 x v (nq x.op x.m)->K (.bool true) H')(h2:∀H',aS H H'->¬(x.op∉qC/\(lW x.op).w≠ []/\u6 x v (nq x.op x.m))->K (.bool false) H'):YN ab W7 [.agg cs,aI v] H K:=by
 have N:=F.one;obtain⟨A,rfl,z⟩:=F;have⟨aw,ax,ay,a1⟩:=z.all;refine YF.code T.Zl aC (af ?_);refine RO.ct (ak.bN H) λH1 q U=>?_;refine af ?_;refine RO.cl (acd T (λI hg k i=>?_) (λI hg r=>?_));rotate_left;·refine af ?_;exact Ru.aL (h2 _ (U.gr.trans hg) λg=>r ⟨g.1,g.2.1⟩)
 have U:=U.bR hg;have U:ak H I [tB mj q [aU x.op,aI x.to,A,aI x.n,aI x.m,.str x.name]]:=U;refine af ?_;refine RO.cl (aca T λH3 hg=>?_);have U:=U.bR hg;generalize nq x.op x.m=f at*;have⟨w,to,ou,n,lo,hi,nm,go⟩:=f;refine RO.dS U λH4 B U=>RO.nil (Ru.seq (Ru.FE (P:=λH'=>ak H H' [tB E7 B [.str w,.bool to,aI ou,.bool n,aI lo,aI hi,aI nm,aI go],tB mj q [aU x.op,aI x.to,A,aI x.n,aI x.m,.str x.name]]/\to=decide (0<=x.to)/\ -1<=x.to/\x.to<v/\∀a∈x.args,0<=a/\a<=v - 1) [p1,p2,p5] (λH5⟨U,O,P,Q,R⟩=>?_) (λe=>?_)));rotate_left
 .refine af ?_;refine RO.eq (t:=to==decide (0<=x.to)) (af ?_) (ht:=rfl);refine RO.pj (λht=>?_) (λht=>?_);·refine af ?_;exact Ru.aL (h2 _ U.gr λg=>by have:=g.2.2.to;simp_all)
  repeat'(first|refine nO ?_|refine RO.bW (λ_=>?_) (λ_=>?_))
  all_goals first|exact Ru.aL (h2 _ U.gr λg=>by have o:=g.2.2.t0;have D:=g.2.2.t1;simp only[Int.negSucc_eq]at*;omega)|skip
  refine RO.cl (FF T (U.gr.sl z) aa E aa (λp=>?_) λr=>?_);·refine gK ?_;refine e _ _ ⟨U,by simpa using ht,by simp only[Int.negSucc_eq]at*;omega,aa,p⟩ ?_;exact dC
  refine af ?_;exact Ru.aL (h2 _ U.gr λg=>r g.2.2.iS)
 refine Ru.seq (Ru.FE (P:=λH'=>ak H H' [tB E7 B [.str w,.bool to,aI ou,.bool n,aI lo,aI hi,aI nm,aI go],tB mj q [aU x.op,aI x.to,A,aI x.n,aI x.m,.str x.name]]/\(n=true->lo<=x.n/\x.n<=hi)/\(n=false->x.n=0)/\(x.m=0\/x.op=13/\x.m=1)) [p1,p2,p5] (λH6⟨U,S,V,W⟩=>?_) (λe=>?_));rotate_left
 .refine Ru.seq (Ru.region (gK ?_));cases n with
  |true=>
   refine gK ?_;refine RO.cl (py T (λe1 e2=>?_) (λr=>?_));rotate_left;·refine af ?_;exact Ru.aL (h2 _ U.gr λg=>r (g.2.2.num rfl))
   refine gK ?_;refine RO.bW (λj=>?_) (λj=>?_);rotate_left;·refine gK ?_;exact e _ _ ⟨U,λ_=>⟨e1,e2⟩,λh=>(by cases h),.inl (by simpa using j)⟩ dC
   refine gK ?_;refine RO.bW (λp=>?_) (λp=>?_);rotate_left;·refine af ?_;exact Ru.aL (h2 _ U.gr λg=>by have:=g.2.2.l8;simp_all)
   refine gK ?_;refine Ru.eC (λt=>?_) (λt=>?_);·refine af ?_;exact Ru.aL (h2 _ U.gr λg=>by have:=g.2.2.l8;simp_all)
   refine gK ?_;exact e _ _ ⟨U,λ_=>⟨e1,e2⟩,λh=>(by cases h),.inr ⟨p,by simpa using t⟩⟩ dC
  |false=>
   refine gK ?_;refine RO.bW (λj=>?_) (λj=>?_);·refine af ?_;exact Ru.aL (h2 _ U.gr λg=>by have:=g.2.2.LS rfl;simp_all)
   have j:x.n=0:=by simpa using j
   refine gK ?_;refine RO.bW (λJ=>?_) (λJ=>?_);rotate_left;·refine gK ?_;exact e _ _ ⟨U,λh=>(by cases h),λ_=>j,.inl (by simpa using J)⟩ dC
   refine gK ?_;refine RO.bW (λp=>?_) (λp=>?_);rotate_left;·refine af ?_;exact Ru.aL (h2 _ U.gr λg=>by have:=g.2.2.l8;simp_all)
   refine gK ?_;refine Ru.eC (λt=>?_) (λt=>?_);·refine af ?_;exact Ru.aL (h2 _ U.gr λg=>by have:=g.2.2.l8;simp_all)
   refine gK ?_;exact e _ _ ⟨U,λh=>(by cases h),λ_=>j,.inr ⟨p,by simpa using t⟩⟩ dC
 refine Ru.seq (Ru.region (gK ?_));refine Ru.seq (Ru.acb (P:=λM H'=>∃mn:Int,M=[(p6,aI mn),(p2,.aD q 0),(p5,.aD B 0)]/\ak H H' [tB E7 B [.str w,.bool to,aI ou,.bool n,aI lo,aI hi,aI nm,aI go],tB mj q [aU x.op,aI x.to,A,aI x.n,aI x.m,.str x.name]]/\lX nm x.name/\mn=if nm=3 then(ft x.name:Int)else ou) (λM H7⟨mn,X,U,Y,L⟩=>?_) (λe=>?_));rotate_left
 .refine Ru.seq (Ru.region (gK ?_));refine Ru.block (Ru.seq (Ru.region (gK ?_)));refine Ru.cond (λk=>?_) (λk=>?_)
  .refine Ru.seq (Ru.region (gK ?_));refine Ru.eC (λi=>?_) (λi=>?_);·refine af ?_;exact Ru.aL (h2 _ U.gr λg=>by have o:lX nm x.name:=g.2.2.name;rw[lX,aG (show nm=0 from k)]at o;simp[o,jS]at i)
   have i:x.name=[]:=by simpa[jS]using i
   have k:nm=0:=k;refine gK ?_;refine e _ _ _ ⟨ou,rfl,U,by rw[lX,aG k];exact i,by rw[an aa]⟩ ?_;exact dC
  have k:¬nm=0:=k;refine Ru.seq (Ru.region (gK ?_));refine Ru.cond (λi=>?_) (λi=>?_)
  .have i:nm=1:=i;refine Ru.seq (Ru.region (gK ?_));refine RO.cl (ab5 T hb aa (λj=>?_) λr=>?_);rotate_left;·refine af ?_;exact Ru.aL (h2 _ U.gr λg=>r (by have o:lX nm x.name:=g.2.2.name;rwa[lX,an k,aG i]at o))
   refine gK ?_;refine e _ _ _ ⟨ou,rfl,U,by rw[lX,an k,aG i];exact j,by rw[an aa]⟩ ?_;exact dC
  have i:¬nm=1:=i;refine Ru.seq (Ru.region (gK ?_));refine Ru.cond (λj=>?_) (λj=>?_)
  .have j:nm=3:=j;refine Ru.seq (Ru.region (gK ?_));refine RO.cl (ab8 T (gK ?_));refine Ru.seq (Ru.region (gK ?_));refine Ru.cond (λp=>?_) (λp=>?_);·refine af ?_;exact Ru.aL (h2 _ U.gr λg=>by have o:lX nm x.name:=g.2.2.name;rw[lX,an k,an i,aG j]at o;exact o p)
   refine gK ?_;refine e _ _ _ ⟨ft x.name,rfl,U,by rw[lX,an k,an i,aG j];exact p,by rw[aG j]⟩ ?_;exact dC
  have j:¬nm=3:=j;refine Ru.seq (Ru.region (gK ?_));refine RO.cl (B' T hb aa (λp=>?_) λr=>?_);rotate_left;·refine af ?_;exact Ru.aL (h2 _ U.gr λg=>r (by have o:lX nm x.name:=g.2.2.name;rwa[lX,an k,an i,an j]at o))
  refine gK ?_;refine e _ _ _ ⟨ou,rfl,U,by rw[lX,an k,an i,an j];exact p,by rw[an j]⟩ ?_;exact dC
 subst X;have s:(x.op=15\/x.op=18->x.args.length<=6)->(x.op≠15->x.op≠18->oz mn x.args.length)->u6 x v ⟨w,to,ou,n,lo,hi,nm,go⟩:=λa b=>⟨O,P,Q,R,S,V,W,Y,a,λc d=>by have D:=b c d;rw[L]at D;exact D⟩;have u:x.op≠15->x.op≠18->u6 x v ⟨w,to,ou,n,lo,hi,nm,go⟩->oz mn x.args.length:=λa b h=>by rw[L];exact h.mo a b
 refine af ?_;refine RO.bW (λy=>?_) (λy=>?_)
 .refine af ?_;by_cases l:x.args.length<=6;·rw[decide_eq_true l];exact Ru.aL (h1 _ U.gr k i (s (λ_=>l) λh=>absurd y h))
  rw[decide_eq_false l];exact Ru.aL (h2 _ U.gr λg=>l (g.2.2.mn (.inl y)))
 refine af ?_;refine Ru.cond (λa3=>?_) (λa3=>?_)
 .refine af ?_;by_cases l:x.args.length<=6;·rw[decide_eq_true l];exact Ru.aL (h1 _ U.gr k i (s (λ_=>l) λ_ h=>absurd a3 h))
  rw[decide_eq_false l];exact Ru.aL (h2 _ U.gr λg=>l (g.2.2.mn (.inr a3)))
 have s:=s λh=>h.elim (absurd · y) (absurd · a3);have u:=u y a3;refine af ?_;refine Ru.cond (λa4=>?_) (λa4=>?_);·refine af ?_;exact Ru.aL (h1 _ U.gr k i (s λ_ _=>.inl a4))
 refine af ?_;refine Ru.cond (λa5=>?_) (λa5=>?_)
 .refine af ?_;refine RO.cl (py T (λC a7=>?_) (λr=>?_));·refine af ?_;exact Ru.aL (h1 _ U.gr k i (s λ_ _=>.inr (.inl ⟨a5,by simp only[ahU]at C;omega,by simp only[ahU]at a7;omega⟩)))
  refine af ?_;exact Ru.aL (h2 _ U.gr λg=>by have o:=u g.2.2;unfold oz at o;simp only[ahU]at r;omega)
 refine af ?_;refine Ru.cond (λC=>?_) (λC=>?_)
 .refine af ?_;by_cases l:x.args.length<=6;·rw[decide_eq_true l];exact Ru.aL (h1 _ U.gr k i (s λ_ _=>.inr (.inr (.inl ⟨C,l⟩))))
  rw[decide_eq_false l];exact Ru.aL (h2 _ U.gr λg=>by have o:=u g.2.2;unfold oz at o;omega)
 refine af ?_;by_cases l:aiC x.args.length=mn;·rw[decide_eq_true l];exact Ru.aL (h1 _ U.gr k i (s λ_ _=>.inr (.inr (.inr l.symm))))
 rw[decide_eq_false l];exact Ru.aL (h2 _ U.gr λg=>by have o:=u g.2.2;unfold oz at o;simp only[ahU]at l;omega)
end
end
section
theorem Ru.pA{c:Cx}{s:List SI}{x:SI}{L:Kn}{H:ai}(P:Kn->ai->Prop)(h1:∀M H',P M H'->Ru ab c s M H')(h2:∀b,(∀H' a M,P M H'->iZ M a->Ru ab c b a H')->Ru ab c (x::b) L H):Ru ab c (x::s) L H:=h2 s λH' a M d hl=>(h1 M H' d).ph hl
theorem RO.LU{H:ai}{c:Cx}{s:List SI}{L:Kn}{d:Option ah}{l:List bD}{f:aJ}{args:List aJ}{fv:AV}{a:List AV}{p:ah}{x:aJ}{i:ah}{o:Nat}{v:AV}{k:Option (ah×Bool)}(h:YF ab fv a H λr H'=>aY H' i o=some v/\RO ab c l s (bq L d r) H')(m:∀r,aT (bq L d r) x=.aD i o:=by(intro r;conv=>lhs;whnf)<;>rfl)(n:∀r,lk (bq L d r) p=v:=by(intro r;conv=>lhs;whnf)<;>rfl)(b:v.br=true:=by first|rfl|assumption)(hvs:eV v v=true:=by first|rfl|assumption|simp[eV,cC,dV])(q:aT L f=fv:=by exact cw)(e:fv.br=true:=by first|rfl|assumption)(t:args.map (aT L)=a:=by rfl)(g:a.all AV.br=true:=by repeat first|rfl|assumption|(refine ad ?_ ?_)):RO ab c (⟨d,.call f args,none,[],[⟨p,.be x,k⟩]⟩::l) s L H:=RO.EW (h.mono λr H' h=>⟨λac j=>by
 have:=eo (re:=[]) j (m r) (n r) b hvs h.1 rfl;simp only[dX,dZ,bi,Bool.and_true]at this;simp only[dX,Bool.and_true];split;·exact this
 rfl,h.2⟩) q e t g
theorem Sl.bK{H:ai}{size n:Nat}{a:List AV}{v:AV}(h:Sl H size a n v):eV v v=true:=by
 rcases h with⟨rfl,_⟩|⟨i,o,cap,ex,c,m,e,b,aK,fz,rfl,_⟩;·rfl
 simp[eV,cC,ah.fg]
def fI(j:G.fB)(k:Nat):Nat:=if j.op=65/\k=0\/j.op=67/\k=1\/j.op=66/\j.bw.getD k 0=2 then 1 else 0
section
variable{g:G.aP}{j:G.fB}{H:ai}{cs:List AV}
theorem LW(T:Tb ab)(hj:nX H j cs){k:Nat}{K:KT}(h:∀H',aS H H'->K (aN (fI j k)) H'):YN ab Xu [.agg cs,aN k] H K:=by
 have i:=hj.one;obtain⟨l,m,n,rfl,f,e,g⟩:=hj;have⟨o,_,_,p⟩:=e.all;have⟨r,_,_,_⟩:=f.all;have⟨s,_,_,_⟩:=g.all;have⟨op,args,name,bw,t⟩:=j;refine YF.code T.ZG aC (af ?_);refine RO.ct (ak.bN H) λH1 q U=>?_;have h:=h H1 U.gr;have one:(op=65/\k=0\/op=67/\k=1\/op=66/\bw.getD k 0=2)->K (aN 1) H1:=λh1=>by rw[fI,aG h1]at h;exact h
 have zero:¬(op=65/\k=0\/op=67/\k=1\/op=66/\bw.getD k 0=2)->K (aN 0) H1:=λh1=>by rw[fI,an h1]at h;exact h
 clear h;have U:ak H H1 [tB mi q [aU op,l,.str name,m,n]]:=U;refine af ?_;refine RO.bW (λb=>?_) (λb=>?_)
 .subst b;refine af ?_;refine Ru.cond (λh0=>?_) (λh0=>?_);·subst h0;refine af ?_;exact Ru.aL (one aC)
  refine af ?_;exact Ru.aL (zero (by simp[h0]))
 refine af ?_;refine RO.bW (λc=>?_) (λc=>?_)
 .subst c;refine af ?_;refine Ru.cond (λh0=>?_) (λh0=>?_);·subst h0;refine af ?_;exact Ru.aL (one aC)
  refine af ?_;exact Ru.aL (zero (by simp[h0]))
 refine af ?_;refine RO.bW (λd=>?_) (λd=>?_)
 .subst d;refine af ?_;refine RO.bW (λa=>?_) (λa=>?_)
  .refine af ?_;refine RO.iQ U.gr e (λw o1 u v=>af ?_) (j:=k);refine Ru.cond (λh0=>?_) (λh0=>?_);·refine af ?_;exact Ru.aL (one (by rw[bf a];exact .inr (.inr ⟨rfl,h0⟩)))
   refine af ?_;exact Ru.aL (zero (by rw[bf a];simp[h0]))
  refine af ?_;exact Ru.aL (zero (by rw[ah3,aiJ (Nat.le_of_not_lt a)];simp))
 refine af ?_;exact Ru.aL (zero (by simp[b,c,d]))
inductive AE(j:G.fB):Nat->Nat->Prop
 |go(h:j.op=61):AE j 0 1
 |tu(h:j.op=62):AE j 1 2
 |is(h:j.op=63):AE j 1 2
 |ef(h:j.op=65):AE j 1 2
 |og(h:j.op=66)(hk:∀i(h:i<j.bw.length),1<=j.bw[i]/\j.bw[i]<=3/\(j.bw[i]=3->i+1=j.bw.length))(h1:1<=j.bw.length)(h4:j.bw.length<=4):AE j (kW j.bw) j.bw.length
 |tw(h:j.op=67):AE j 0 3
 |pu(h:j.op=68):AE j (max 1 j.args.length) 0
 |ret(h:j.op=69):AE j 1 0
 |kl(h:j.op=21):AE j 1 0
 |stuck(h:j.op=70):AE j 0 0
theorem AE.aB{a e:Nat}(h:AE j a e):j.op=61\/j.op=62\/j.op=63\/j.op=65\/j.op=66\/j.op=67\/j.op=68\/j.op=69\/j.op=21\/j.op=70:=by cases h<;>omega
theorem AE.LX{a e:Nat}(h:AE j a e)(d:j.op=66):(∀i(h:i<j.bw.length),1<=j.bw[i]/\j.bw[i]<=3/\(j.bw[i]=3->i+1=j.bw.length))/\1<=j.bw.length/\j.bw.length<=4:=by cases h with|og _ b h1 c=>exact⟨b,h1,c⟩|_=>omega
theorem AE.LY{a e b c:Nat}(h:AE j a e)(d:AE j b c):a=b/\e=c:=by cases h<;>cases d<;>first|exact⟨rfl,rfl⟩|omega
end
end
end
end Go.al.R
end
