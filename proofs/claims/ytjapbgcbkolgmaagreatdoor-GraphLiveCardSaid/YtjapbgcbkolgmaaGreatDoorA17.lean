/- A part. No conditions. -/
import Derived.Test.YtjapbgcbkolgmaaGreatDoorA16
set_option linter.all false
set_option maxHeartbeats 16000000
open Int renaming ofNat->age
noncomputable section
namespace Go.al.R
section
variable{ac:Nat->aX}
section
theorem Ru.abH{c:Cx}{s:List SI}{x:SI}{L:Kn}{H:ah}(P:Kn->ah->Prop)(h1:∀M a,P M a->Ru ac c s M a)(h2:(∀a b M,P M a->iW M b->Ru ac c s b a)->Ru ac c (x::s) L H):Ru ac c (x::s) L H:=h2 λa b M d hl=>(h1 M a d).pv hl
def pF:List Nat:=[21,60,61,62,63,65,66,67,68,69,70]
theorem abI(T:Tb ac){H:ah}{op:Nat}{K:KT}(h1:∀a,aZ H a->op∉pF->(lA op).w≠ []->K (.bool true) a)(h2:∀a,aZ H a->¬(op∉pF/\(lA op).w≠ [])->K (.bool false) a):YN ac WN [aU op] H K:=by
 refine YF.code T.ZD aF ?_;repeat'(first|refine mf ?_|(refine Ru.eE (λf=>?_) (λf=>?_)<;>rw[f]))
 rotate_right
 .have d:op∉pF:=by simp only[decide_eq_false_iff_not]at*;simp[pF, *]
  refine RO.cl (Hy T λh hg=>?_);refine ai ?_;by_cases b:(lA op).w=[]
  .have e:ir (lA op).w []=true:=by rw[kf];simpa using b
   rw[e];exact Ru.aP (h2 _ hg λc=>c.2 b)
  have e:ir (lA op).w []=false:=by rw[kf];simpa using b
  rw[e];exact Ru.aP (h1 _ hg d b)
 all_goals exact Ru.aP (h2 _ (aZ.refl H) λc=>c.1 (by simp only[decide_eq_true_eq]at*;simp[pF, *]))
def nq(m:Int)(l:Nat):Prop:=m= -1\/m= -2/\1<=l/\l<=7\/m= -3/\l<=6\/m=l
def lB(nm:Int)(t:List Nat):Prop:=if nm=0 then t=[]else if nm=1 then qM t else if nm=3 then eQ t≠0 else jB t
def AJ(f:nj)(t:List Nat):Int:=if f.nm=3 then eQ t else f.nk
structure su(x:G.d9)(v:Int)(f:nj):Prop where
 to:f.to=decide (0<=x.to)
 t0: -1<=x.to
 t1:x.to<v
 iE:∀a∈x.args,0<=a/\a<=v - 1
 num:f.n=true->f.lo<=x.n/\x.n<=f.hi
 M7:f.n=false->x.n=0
 lM:x.m=0\/x.op=13/\x.m=1
 i7:lB f.nm x.i7
 mn:x.op=15\/x.op=18->x.args.length<=6
 mo:x.op≠15->x.op≠18->nq (AJ f x.i7) x.args.length
section
variable{g:G.be}{H:ah}{cs:List AV}
theorem abJ(T:Tb ac){x:G.d9}(J:oB H x cs)(hb:∀c∈x.i7,c<256)(ag:x.i7.length<=1000)(av:x.args.length<=1000){v:Int}(I:0<=v)(aw:v<=6000){K:KT}(h1:∀s,aZ H s->x.op∉pF->(lA x.op).w≠ []->su x v (lZ x.op x.m)->K (.bool true) s)(h2:∀s,aZ H s->¬(x.op∉pF/\(lA x.op).w≠ []/\su x v (lZ x.op x.m))->K (.bool false) s):YN ac Wx [.agg cs,aI v] H K:=by
 have R:=J.one;obtain⟨C,rfl,B⟩:=J;have⟨ax,ay,a1,a2⟩:=B.all;refine YF.code T.Zl aF ?_;refine ai ?_;refine RO.dp (aq.ct H) λH1 q U=>?_;refine ai ?_;refine RO.cl (abI T (λL hg l j=>?_) (λL hg t=>?_));rotate_left;·refine ai ?_;exact Ru.aP (h2 _ (U.gr.trans hg) λi=>t ⟨i.1,i.2.1⟩)
 have U:=U.cq hg;have U:aq H L [tB rT q [aU x.op,aI x.to,C,aI x.n,aI x.m,.str x.i7]]:=U;refine ai ?_;refine RO.cl (abG T λH3 hg=>?_);have U:=U.cq hg;generalize lZ x.op x.m=f at*;obtain⟨a8,to,nk,a6,lo,hi,nm,go⟩:=f;refine RO.ff U λH4 D U=>?_;refine RO.nil ?_;refine Ru.seq ?_;refine Ru.Hu (P:=λs=>aq H s [tB G5 D [.str a8,.bool to,aI nk,.bool a6,aI lo,aI hi,aI nm,aI go],tB rT q [aU x.op,aI x.to,C,aI x.n,aI x.m,.str x.i7]]/\to=decide (0<=x.to)/\ -1<=x.to/\x.to<v/\∀a∈x.args,0<=a/\a<=v - 1) [p1,p2,p5] (λH5⟨U,S,V,W,X⟩=>?_) (λe=>?_);rotate_left
 .refine ai ?_;refine RO.eq (t:=to==decide (0<=x.to)) ?_ (ht:=rfl);refine ai ?_;refine RO.oq (λht=>?_) (λht=>?_);·refine ai ?_;exact Ru.aP (h2 _ U.gr λi=>by have:=i.2.2.to;simp_all)
  repeat'(first|refine mf ?_|refine RO.bR (λ_=>?_) (λ_=>?_))
  all_goals first|exact Ru.aP (h2 _ U.gr λi=>by have p:=i.2.2.t0;have F:=i.2.2.t1;simp only[Int.negSucc_eq]at*;omega)|skip
  refine RO.cl (Hv T (U.gr.sl B) ab I ab (λr=>?_) λt=>?_);·refine eF ?_;refine e _ _ ⟨U,by simpa using ht,by simp only[Int.negSucc_eq]at*;omega,ab,r⟩ ?_;exact ey
  refine ai ?_;exact Ru.aP (h2 _ U.gr λi=>t i.2.2.iE)
 refine Ru.seq ?_;refine Ru.Hu (P:=λs=>aq H s [tB G5 D [.str a8,.bool to,aI nk,.bool a6,aI lo,aI hi,aI nm,aI go],tB rT q [aU x.op,aI x.to,C,aI x.n,aI x.m,.str x.i7]]/\(a6=true->lo<=x.n/\x.n<=hi)/\(a6=false->x.n=0)/\(x.m=0\/x.op=13/\x.m=1)) [p1,p2,p5] (λH6⟨U,Y,Z,f7⟩=>?_) (λe=>?_);rotate_left
 .refine Ru.seq ?_;refine Ru.region ?_;refine eF ?_;cases a6 with
  |true=>
   refine eF ?_;refine RO.cl (oH T (λN O=>?_) (λt=>?_));rotate_left;·refine ai ?_;exact Ru.aP (h2 _ U.gr λi=>t (i.2.2.num rfl))
   refine eF ?_;refine RO.bR (λk=>?_) (λk=>?_);rotate_left;·refine eF ?_;refine e _ _ ⟨U,λ_=>⟨N,O⟩,λh=>(by cases h),.inl (by simpa using k)⟩ ?_;exact ey
   refine eF ?_;refine RO.bR (λr=>?_) (λr=>?_);rotate_left;·refine ai ?_;exact Ru.aP (h2 _ U.gr λi=>by have:=i.2.2.lM;simp_all)
   refine eF ?_;refine Ru.eE (λy=>?_) (λy=>?_);·refine ai ?_;exact Ru.aP (h2 _ U.gr λi=>by have:=i.2.2.lM;simp_all)
   refine eF ?_;refine e _ _ ⟨U,λ_=>⟨N,O⟩,λh=>(by cases h),.inr ⟨r,by simpa using y⟩⟩ ?_;exact ey
  |false=>
   refine eF ?_;refine RO.bR (λk=>?_) (λk=>?_);·refine ai ?_;exact Ru.aP (h2 _ U.gr λi=>by have:=i.2.2.M7 rfl;simp_all)
   have k:x.n=0:=by simpa using k
   refine eF ?_;refine RO.bR (λP=>?_) (λP=>?_);rotate_left;·refine eF ?_;refine e _ _ ⟨U,λh=>(by cases h),λ_=>k,.inl (by simpa using P)⟩ ?_;exact ey
   refine eF ?_;refine RO.bR (λr=>?_) (λr=>?_);rotate_left;·refine ai ?_;exact Ru.aP (h2 _ U.gr λi=>by have:=i.2.2.lM;simp_all)
   refine eF ?_;refine Ru.eE (λy=>?_) (λy=>?_);·refine ai ?_;exact Ru.aP (h2 _ U.gr λi=>by have:=i.2.2.lM;simp_all)
   refine eF ?_;refine e _ _ ⟨U,λh=>(by cases h),λ_=>k,.inr ⟨r,by simpa using y⟩⟩ ?_;exact ey
 refine Ru.seq ?_;refine Ru.region ?_;refine eF ?_;refine Ru.seq ?_;refine Ru.abH (P:=λM s=>∃mn:Int,M=[(p6,aI mn),(p2,.aE q 0),(p5,.aE D 0)]/\aq H s [tB G5 D [.str a8,.bool to,aI nk,.bool a6,aI lo,aI hi,aI nm,aI go],tB rT q [aU x.op,aI x.to,C,aI x.n,aI x.m,.str x.i7]]/\lB nm x.i7/\mn=if nm=3 then(eQ x.i7:Int)else nk) (λM H7⟨mn,hM,U,f8,Q⟩=>?_) (λe=>?_);rotate_left
 .refine Ru.seq ?_;refine Ru.region ?_;refine eF ?_;refine Ru.block ?_;refine Ru.seq ?_;refine Ru.region ?_;refine eF ?_;refine Ru.cond (λl=>?_) (λl=>?_)
  .refine Ru.seq ?_;refine Ru.region ?_;refine eF ?_;refine Ru.eE (λj=>?_) (λj=>?_);·refine ai ?_;exact Ru.aP (h2 _ U.gr λi=>by have p:lB nm x.i7:=i.2.2.i7;rw[lB,aJ (show nm=0 from l)]at p;simp[p,kf]at j)
   have j:x.i7=[]:=by simpa[kf]using j
   have l:nm=0:=l;refine eF ?_;refine e _ _ _ ⟨nk,rfl,U,by rw[lB,aJ l];exact j,by rw[ap ab]⟩ ?_;exact ey
  have l:¬nm=0:=l;refine Ru.seq ?_;refine Ru.region ?_;refine eF ?_;refine Ru.cond (λj=>?_) (λj=>?_)
  .have j:nm=1:=j;refine Ru.seq ?_;refine Ru.region ?_;refine eF ?_;refine RO.cl (abB T hb ab (λk=>?_) λt=>?_);rotate_left;·refine ai ?_;exact Ru.aP (h2 _ U.gr λi=>t (by have p:lB nm x.i7:=i.2.2.i7;rwa[lB,ap l,aJ j]at p))
   refine eF ?_;refine e _ _ _ ⟨nk,rfl,U,by rw[lB,ap l,aJ j];exact k,by rw[ap ab]⟩ ?_;exact ey
  have j:¬nm=1:=j;refine Ru.seq ?_;refine Ru.region ?_;refine eF ?_;refine Ru.cond (λk=>?_) (λk=>?_)
  .have k:nm=3:=k;refine Ru.seq ?_;refine Ru.region ?_;refine eF ?_;refine RO.cl (abE T ?_);refine eF ?_;refine Ru.seq ?_;refine Ru.region ?_;refine eF ?_;refine Ru.cond (λr=>?_) (λr=>?_);·refine ai ?_;exact Ru.aP (h2 _ U.gr λi=>by have p:lB nm x.i7:=i.2.2.i7;rw[lB,ap l,ap j,aJ k]at p;exact p r)
   refine eF ?_;refine e _ _ _ ⟨eQ x.i7,rfl,U,by rw[lB,ap l,ap j,aJ k];exact r,by rw[aJ k]⟩ ?_;exact ey
  have k:¬nm=3:=k;refine Ru.seq ?_;refine Ru.region ?_;refine eF ?_;refine RO.cl (DY T hb ab (λr=>?_) λt=>?_);rotate_left;·refine ai ?_;exact Ru.aP (h2 _ U.gr λi=>t (by have p:lB nm x.i7:=i.2.2.i7;rwa[lB,ap l,ap j,ap k]at p))
  refine eF ?_;refine e _ _ _ ⟨nk,rfl,U,by rw[lB,ap l,ap j,ap k];exact r,by rw[ap k]⟩ ?_;exact ey
 subst hM;have u:(x.op=15\/x.op=18->x.args.length<=6)->(x.op≠15->x.op≠18->nq mn x.args.length)->su x v ⟨a8,to,nk,a6,lo,hi,nm,go⟩:=λa b=>⟨S,V,W,X,Y,Z,f7,f8,a,λc d=>by have F:=b c d;rw[Q]at F;exact F⟩;have z:x.op≠15->x.op≠18->su x v ⟨a8,to,nk,a6,lo,hi,nm,go⟩->nq mn x.args.length:=λa b h=>by rw[Q];exact h.mo a b
 refine ai ?_;refine RO.bR (λA=>?_) (λA=>?_)
 .refine ai ?_;by_cases o:x.args.length<=6;·rw[decide_eq_true o];exact Ru.aP (h1 _ U.gr l j (u (λ_=>o) λh=>absurd A h))
  rw[decide_eq_false o];exact Ru.aP (h2 _ U.gr λi=>o (i.2.2.mn (.inl A)))
 refine ai ?_;refine Ru.cond (λa3=>?_) (λa3=>?_)
 .refine ai ?_;by_cases o:x.args.length<=6;·rw[decide_eq_true o];exact Ru.aP (h1 _ U.gr l j (u (λ_=>o) λ_ h=>absurd a3 h))
  rw[decide_eq_false o];exact Ru.aP (h2 _ U.gr λi=>o (i.2.2.mn (.inr a3)))
 have u:=u λh=>h.elim (absurd · A) (absurd · a3);have z:=z A a3;refine ai ?_;refine Ru.cond (λa4=>?_) (λa4=>?_);·refine ai ?_;exact Ru.aP (h1 _ U.gr l j (u λ_ _=>.inl a4))
 refine ai ?_;refine Ru.cond (λa5=>?_) (λa5=>?_)
 .refine ai ?_;refine RO.cl (oH T (λE a7=>?_) (λt=>?_));·refine ai ?_;exact Ru.aP (h1 _ U.gr l j (u λ_ _=>.inr (.inl ⟨a5,by simp only[afm]at E;omega,by simp only[afm]at a7;omega⟩)))
  refine ai ?_;exact Ru.aP (h2 _ U.gr λi=>by have p:=z i.2.2;unfold nq at p;simp only[afm]at t;omega)
 refine ai ?_;refine Ru.cond (λE=>?_) (λE=>?_)
 .refine ai ?_;by_cases o:x.args.length<=6;·rw[decide_eq_true o];exact Ru.aP (h1 _ U.gr l j (u λ_ _=>.inr (.inr (.inl ⟨E,o⟩))))
  rw[decide_eq_false o];exact Ru.aP (h2 _ U.gr λi=>by have p:=z i.2.2;unfold nq at p;omega)
 refine ai ?_;by_cases o:age x.args.length=mn;·rw[decide_eq_true o];exact Ru.aP (h1 _ U.gr l j (u λ_ _=>.inr (.inr (.inr o.symm))))
 rw[decide_eq_false o];exact Ru.aP (h2 _ U.gr λi=>by have p:=z i.2.2;unfold nq at p;simp only[afm]at o;omega)
end
end
section
theorem Ru.sw{c:Cx}{s:List SI}{x:SI}{L:Kn}{H:ah}(P:Kn->ah->Prop)(h1:∀M a,P M a->Ru ac c s M a)(h2:∀d,(∀a b M,P M a->iW M b->Ru ac c d b a)->Ru ac c (x::d) L H):Ru ac c (x::s) L H:=h2 s λa b M e hl=>(h1 M a e).pv hl
theorem RO.M8{H:ah}{c:Cx}{s:List SI}{L:Kn}{d:Option af}{l:List bA}{f:aL}{args:List aL}{fv:AV}{a:List AV}{p:af}{x:aL}{i:af}{o:Nat}{v:AV}{n:Option (af×Bool)}(h:YF ac fv a H λr b=>bx b i o=some v/\RO ac c l s (bq L d r) b)(q:∀r,aW (bq L d r) x=.aE i o:=by(intro r;conv=>lhs;whnf)<;>rfl)(t:∀r,lk (bq L d r) p=v:=by(intro r;conv=>lhs;whnf)<;>rfl)(e:v.bC=true:=by first|rfl|assumption)(hvs:gT v v=true:=by first|rfl|assumption|simp[gT,fy,eT])(u:aW L f=fv:=by exact cw)(j:fv.bC=true:=by first|rfl|assumption)(w:args.map (aW L)=a:=by rfl)(k:a.all AV.bC=true:=by repeat first|rfl|assumption|(refine ad ?_ ?_)):RO ac c (⟨d,.call f args,none,[],[⟨p,.bi x,n⟩]⟩::l) s L H:=RO.GV (h.mono λr b h=>⟨λaa m=>by
 have:=iX (re:=[]) m (q r) (t r) e hvs h.1 rfl;simp only[du,dc,bf,Bool.and_true]at this;simp only[du,Bool.and_true];split;·exact this
 rfl,h.2⟩) u j w k
theorem Sl.bN{H:ah}{size n:Nat}{a:List AV}{v:AV}(h:Sl H size a n v):gT v v=true:=by
 rcases h with⟨rfl,_⟩|⟨i,o,cap,ex,c,m,e,b,aM,fz,rfl,_⟩;·rfl
 simp[gT,fy,af.eS]
def ft(j:G.fg)(k:Nat):Nat:=if j.op=65/\k=0\/j.op=67/\k=1\/j.op=66/\j.bu.getD k 0=2 then 1 else 0
section
variable{g:G.be}{j:G.fg}{H:ah}{cs:List AV}
theorem M9(T:Tb ac)(hj:py H j cs){k:Nat}{K:KT}(h:∀m,aZ H m->K (aN (ft j k)) m):YN ac WS [.agg cs,aN k] H K:=by
 have n:=hj.one;obtain⟨o,p,r,rfl,i,e,l⟩:=hj;have⟨s,_,_,t⟩:=e.all;have⟨u,_,_,_⟩:=i.all;have⟨v,_,_,_⟩:=l.all;obtain⟨op,args,i7,bu,w⟩:=j;refine YF.code T.ZI aF ?_;refine ai ?_;refine RO.dp (aq.ct H) λf q U=>?_;have h:=h f U.gr;have one:(op=65/\k=0\/op=67/\k=1\/op=66/\bu.getD k 0=2)->K (aN 1) f:=λh1=>by rw[ft,aJ h1]at h;exact h
 have zero:¬(op=65/\k=0\/op=67/\k=1\/op=66/\bu.getD k 0=2)->K (aN 0) f:=λh1=>by rw[ft,ap h1]at h;exact h
 clear h;have U:aq H f [tB mE q [aU op,o,.str i7,p,r]]:=U;refine ai ?_;refine RO.bR (λb=>?_) (λb=>?_)
 .subst b;refine ai ?_;refine Ru.cond (λh0=>?_) (λh0=>?_);·subst h0;refine ai ?_;exact Ru.aP (one aF)
  refine ai ?_;exact Ru.aP (zero (by simp[h0]))
 refine ai ?_;refine RO.bR (λc=>?_) (λc=>?_)
 .subst c;refine ai ?_;refine Ru.cond (λh0=>?_) (λh0=>?_);·subst h0;refine ai ?_;exact Ru.aP (one aF)
  refine ai ?_;exact Ru.aP (zero (by simp[h0]))
 refine ai ?_;refine RO.bR (λd=>?_) (λd=>?_)
 .subst d;refine ai ?_;refine RO.bR (λa=>?_) (λa=>?_)
  .refine ai ?_;refine RO.fO U.gr e (λz o1 x y=>?_) (j:=k);refine ai ?_;refine Ru.cond (λh0=>?_) (λh0=>?_);·refine ai ?_;exact Ru.aP (one (by rw[bB a];exact .inr (.inr ⟨rfl,h0⟩)))
   refine ai ?_;exact Ru.aP (zero (by rw[bB a];simp[h0]))
  refine ai ?_;exact Ru.aP (zero (by rw[afz,agV (Nat.le_of_not_lt a)];simp))
 refine ai ?_;exact Ru.aP (zero (by simp[b,c,d]))
inductive AE(j:G.fg):Nat->Nat->Prop
 |go(h:j.op=61):AE j 0 1
 |si(h:j.op=62):AE j 1 2
 |is(h:j.op=63):AE j 1 2
 |dV(h:j.op=65):AE j 1 2
 |nf(h:j.op=66)(hk:∀i(h:i<j.bu.length),1<=j.bu[i]/\j.bu[i]<=3/\(j.bu[i]=3->i+1=j.bu.length))(h1:1<=j.bu.length)(h4:j.bu.length<=4):AE j (ku j.bu) j.bu.length
 |sj(h:j.op=67):AE j 0 3
 |oG(h:j.op=68):AE j (max 1 j.args.length) 0
 |ret(h:j.op=69):AE j 1 0
 |sx(h:j.op=21):AE j 1 0
 |stuck(h:j.op=70):AE j 0 0
theorem AE.az{a e:Nat}(h:AE j a e):j.op=61\/j.op=62\/j.op=63\/j.op=65\/j.op=66\/j.op=67\/j.op=68\/j.op=69\/j.op=21\/j.op=70:=by cases h<;>omega
theorem AE.M'{a e:Nat}(h:AE j a e)(d:j.op=66):(∀i(h:i<j.bu.length),1<=j.bu[i]/\j.bu[i]<=3/\(j.bu[i]=3->i+1=j.bu.length))/\1<=j.bu.length/\j.bu.length<=4:=by cases h with|nf _ b h1 c=>exact⟨b,h1,c⟩|_=>omega
theorem AE.Na{a e b c:Nat}(h:AE j a e)(d:AE j b c):a=b/\e=c:=by cases h<;>cases d<;>first|exact⟨rfl,rfl⟩|omega
end
end
end
end Go.al.R
end
