/- A part of the proof. No conditions. -/
import Derived.Test.YtjhkgigolpfcfaaGreatDoorA11
set_option linter.all false
set_option maxHeartbeats 16000000
open Nat renaming le_of_ble_eq_true->akc
open Int renaming ofNat->ak1
noncomputable section
namespace Go.am.R
section
variable{ac:Nat->aG}
section
theorem Ru.aen{c:Cx}{s:List SI}{x:SI}{L:Kn}{H:ai}(P:Kn->ai->Prop)(h1:∀M H',P M H'->Ru ac c s M H')(h2:(∀H' a M,P M H'->ky M a->Ru ac c s a H')->Ru ac c (x::s) L H):Ru ac c (x::s) L H:=h2 λH' a M b hl=>(h1 M H' b).rZ hl
def CM:List Nat:=[21,60,61,62,63,65,66,67,68,69,70]
theorem aeo(T:Tb ac){H:ai}{op:Nat}{K:KT}(h1:∀H',bm H H'->op∉CM->(sA op).w≠ []->K (.bool true) H')(h2:∀H',bm H H'->K (.bool false) H'):YN ac W0 [aU op] H K:=by
 refine YF.code T.abR aB ?_;repeat'(first|refine rR ?_|(refine Ru.kN (λc=>?_) (λc=>?_)<;>rw[c]))
 rotate_right
 .have b:op∉CM:=by simp only[decide_eq_false_iff_not]at*;simp[CM, *]
  refine RO.cl (Jh T λd hg=>?_);refine ah ?_;by_cases a:(sA op).w=[]
  .have e:j8 (sA op).w []=true:=by rw[qv];simpa using a
   rw[e];exact Ru.aV (h2 _ hg)
  have e:j8 (sA op).w []=false:=by rw[qv];simpa using a
  rw[e];exact Ru.aV (h1 _ hg b a)
 all_goals exact Ru.aV (h2 _ (bm.refl H))
def sB(m:Int)(l:Nat):Prop:=m= -1\/m= -2/\1<=l/\l<=7\/m= -3/\l<=6\/m=l
def yN(nm:Int)(t:List Nat):Prop:=if nm=0 then t=[]else if nm=1 then EO t else if nm=3 then iu t≠0 else su t
def OY(f:rm)(t:List Nat):Int:=if f.nm=3 then iu t else f.sy
structure EZ(x:G.ic)(v:Int)(f:rm):Prop where
 to:f.to=decide (0<=x.to)
 t0: -1<=x.to
 t1:x.to<v
 pF:∀a∈x.args,0<=a/\a<=v - 1
 num:f.n=true->f.lo<=x.n/\x.n<=f.hi
 nun:f.n=false->x.n=0
 xx:x.m=0\/x.op=13/\x.m=1
 name:yN f.nm x.name
 mn:x.op=15\/x.op=18->x.args.length<=6
 mo:x.op≠15->x.op≠18->sB (OY f x.name) x.args.length
section
variable{g:G.bu}{H:ai}{cs:List AV}
theorem aeq(T:Tb ac){x:G.ic}(B:qT H x cs)(hb:∀c∈x.name,c<256)(Y:x.name.length<=1000)(Z:x.args.length<=1000){v:Int}(A:0<=v)(ag:v<=6000){K:KT}(h1:∀H',bm H H'->x.op∉CM->(sA x.op).w≠ []->EZ x v (ue x.op x.m)->K (.bool true) H')(h2:∀H',bm H H'->K (.bool false) H'):YN ac WL [.agg cs,aI v] H K:=by
 have J:=B.one;obtain⟨s,rfl,r⟩:=B;have⟨ar,av,aw,ax⟩:=r.all;refine YF.code T.abz aB ?_;refine ah ?_;refine RO.dL (aj.dc H) λH1 q U=>?_;refine ah ?_;refine RO.cl (aeo T (λC hg j g=>?_) (λC hg=>?_));rotate_left;·refine ah ?_;exact Ru.aV (h2 _ (U.gr.trans hg))
 have U:=U.cI hg;have U:aj H C [tB qU q [aU x.op,aI x.to,s,aI x.n,aI x.m,.str x.name]]:=U;refine ah ?_;refine RO.cl (aem T λH3 hg=>?_);have U:=U.cI hg;generalize ue x.op x.m=f at*;obtain⟨w,to,sy,n,lo,hi,nm,go⟩:=f;refine RO.fx U λH4 t U=>?_;refine RO.nil ?_;refine Ru.seq ?_;refine Ru.Je (P:=λH'=>aj H H' [tB Im t [.str w,.bool to,aI sy,.bool n,aI lo,aI hi,aI nm,aI go],tB qU q [aU x.op,aI x.to,s,aI x.n,aI x.m,.str x.name]]/\to=decide (0<=x.to)/\ -1<=x.to/\x.to<v/\∀a∈x.args,0<=a/\a<=v - 1) [p1,p2,p5] (λH5⟨U,L,N,O,P⟩=>?_) (λe=>?_);rotate_left
 .refine ah ?_;refine RO.eq (t:=to==decide (0<=x.to)) ?_ (ht:=rfl);refine ah ?_;refine RO.tq (λht=>?_) (λht=>?_);·refine ah ?_;exact Ru.aV (h2 _ U.gr)
  repeat'(first|refine rR ?_|refine RO.de (λ_=>?_) (λ_=>?_))
  all_goals first|exact Ru.aV (h2 _ U.gr)|skip
  refine RO.cl (Jf T (U.gr.sl r) af A af (λl=>?_) ?_);·refine iS ?_;refine e _ _ ⟨U,by simpa using ht,by first|(simp only[Int.negSucc_eq]at*;omega)|(simp only[Int.ofNat_eq_natCast]at*;omega)|omega|(simp at*;omega),af,l⟩ ?_;exact fB
  refine ah ?_;exact Ru.aV (h2 _ U.gr)
 refine Ru.seq ?_;refine Ru.Je (P:=λH'=>aj H H' [tB Im t [.str w,.bool to,aI sy,.bool n,aI lo,aI hi,aI nm,aI go],tB qU q [aU x.op,aI x.to,s,aI x.n,aI x.m,.str x.name]]/\(n=true->lo<=x.n/\x.n<=hi)/\(n=false->x.n=0)/\(x.m=0\/x.op=13/\x.m=1)) [p1,p2,p5] (λH6⟨U,Q,R,S⟩=>?_) (λe=>?_);rotate_left
 .refine Ru.seq ?_;refine Ru.region ?_;refine iS ?_;cases n with
  |true=>
   refine iS ?_;refine RO.cl (sx T (λj g=>?_) (λ_=>?_));rotate_left;·refine ah ?_;exact Ru.aV (h2 _ U.gr)
   refine iS ?_;refine RO.de (λi=>?_) (λi=>?_);rotate_left;·refine iS ?_;refine e _ _ ⟨U,λ_=>⟨j,g⟩,λh=>(by cases h),.inl (by simpa using i)⟩ ?_;exact fB
   refine iS ?_;refine RO.de (λl=>?_) (λl=>?_);rotate_left;·refine ah ?_;exact Ru.aV (h2 _ U.gr)
   refine iS ?_;refine Ru.kN (λp=>?_) (λp=>?_);·refine ah ?_;exact Ru.aV (h2 _ U.gr)
   refine iS ?_;refine e _ _ ⟨U,λ_=>⟨j,g⟩,λh=>(by cases h),.inr ⟨l,by simpa using p⟩⟩ ?_;exact fB
  |false=>
   refine iS ?_;refine RO.de (λi=>?_) (λi=>?_);·refine ah ?_;exact Ru.aV (h2 _ U.gr)
   have i:x.n=0:=by simpa using i
   refine iS ?_;refine RO.de (λD=>?_) (λD=>?_);rotate_left;·refine iS ?_;refine e _ _ ⟨U,λh=>(by cases h),λ_=>i,.inl (by simpa using D)⟩ ?_;exact fB
   refine iS ?_;refine RO.de (λl=>?_) (λl=>?_);rotate_left;·refine ah ?_;exact Ru.aV (h2 _ U.gr)
   refine iS ?_;refine Ru.kN (λp=>?_) (λp=>?_);·refine ah ?_;exact Ru.aV (h2 _ U.gr)
   refine iS ?_;refine e _ _ ⟨U,λh=>(by cases h),λ_=>i,.inr ⟨l,by simpa using p⟩⟩ ?_;exact fB
 refine Ru.seq ?_;refine Ru.region ?_;refine iS ?_;refine Ru.seq ?_;refine Ru.aen (P:=λM H'=>∃mn:Int,M=[(p6,aI mn),(p2,.az q 0),(p5,.az t 0)]/\aj H H' [tB Im t [.str w,.bool to,aI sy,.bool n,aI lo,aI hi,aI nm,aI go],tB qU q [aU x.op,aI x.to,s,aI x.n,aI x.m,.str x.name]]/\yN nm x.name/\mn=if nm=3 then(iu x.name:Int)else sy) (λM H7⟨mn,V,U,W,X⟩=>?_) (λe=>?_);rotate_left
 .refine Ru.seq ?_;refine Ru.region ?_;refine iS ?_;refine Ru.block ?_;refine Ru.seq ?_;refine Ru.region ?_;refine iS ?_;refine Ru.cond (λj=>?_) (λj=>?_)
  .refine Ru.seq ?_;refine Ru.region ?_;refine iS ?_;refine Ru.kN (λg=>?_) (λg=>?_);·refine ah ?_;exact Ru.aV (h2 _ U.gr)
   have g:x.name=[]:=by simpa[qv]using g
   have j:nm=0:=j;refine iS ?_;refine e _ _ _ ⟨sy,rfl,U,by rw[yN,aK j];exact g,by rw[aq af]⟩ ?_;exact fB
  have j:¬nm=0:=j;refine Ru.seq ?_;refine Ru.region ?_;refine iS ?_;refine Ru.cond (λg=>?_) (λg=>?_)
  .have g:nm=1:=g;refine Ru.seq ?_;refine Ru.region ?_;refine iS ?_;refine RO.cl (aeh T hb af (λi=>?_) ?_);rotate_left;·refine ah ?_;exact Ru.aV (h2 _ U.gr)
   refine iS ?_;refine e _ _ _ ⟨sy,rfl,U,by rw[yN,aq j,aK g];exact i,by rw[aq af]⟩ ?_;exact fB
  have g:¬nm=1:=g;refine Ru.seq ?_;refine Ru.region ?_;refine iS ?_;refine Ru.cond (λi=>?_) (λi=>?_)
  .have i:nm=3:=i;refine Ru.seq ?_;refine Ru.region ?_;refine iS ?_;refine RO.cl (aek T ?_);refine iS ?_;refine Ru.seq ?_;refine Ru.region ?_;refine iS ?_;refine Ru.cond (λl=>?_) (λl=>?_);·refine ah ?_;exact Ru.aV (h2 _ U.gr)
   refine iS ?_;refine e _ _ _ ⟨iu x.name,rfl,U,by rw[yN,aq j,aq g,aK i];exact l,by rw[aK i]⟩ ?_;exact fB
  have i:¬nm=3:=i;refine Ru.seq ?_;refine Ru.region ?_;refine iS ?_;refine RO.cl (EX T hb af (λl=>?_) ?_);rotate_left;·refine ah ?_;exact Ru.aV (h2 _ U.gr)
  refine iS ?_;refine e _ _ _ ⟨sy,rfl,U,by rw[yN,aq j,aq g,aq i];exact l,by rw[aq i]⟩ ?_;exact fB
 subst V;have o:(x.op=15\/x.op=18->x.args.length<=6)->(x.op≠15->x.op≠18->sB mn x.args.length)->EZ x v ⟨w,to,sy,n,lo,hi,nm,go⟩:=λa b=>⟨L,N,O,P,Q,R,S,W,a,λc d=>by have E:=b c d;rw[X]at E;exact E⟩;refine ah ?_;refine RO.de (λy=>?_) (λy=>?_)
 .refine ah ?_;by_cases k:x.args.length<=6;·rw[decide_eq_true k];exact Ru.aV (h1 _ U.gr j g (o (λ_=>k) λh=>absurd y h))
  rw[decide_eq_false k];exact Ru.aV (h2 _ U.gr)
 refine ah ?_;refine Ru.cond (λz=>?_) (λz=>?_)
 .refine ah ?_;by_cases k:x.args.length<=6;·rw[decide_eq_true k];exact Ru.aV (h1 _ U.gr j g (o (λ_=>k) λ_ h=>absurd z h))
  rw[decide_eq_false k];exact Ru.aV (h2 _ U.gr)
 have o:=o λh=>h.elim (absurd · y) (absurd · z);refine ah ?_;refine Ru.cond (λF=>?_) (λF=>?_);·refine ah ?_;exact Ru.aV (h1 _ U.gr j g (o λ_ _=>.inl F))
 refine ah ?_;refine Ru.cond (λI=>?_) (λI=>?_)
 .refine ah ?_;refine RO.cl (sx T (λu a7=>?_) (λ_=>?_));·refine ah ?_;exact Ru.aV (h1 _ U.gr j g (o λ_ _=>.inr (.inl ⟨I,by simp only[aj5]at u;omega,by simp only[aj5]at a7;omega⟩)))
  refine ah ?_;exact Ru.aV (h2 _ U.gr)
 refine ah ?_;refine Ru.cond (λu=>?_) (λu=>?_)
 .refine ah ?_;by_cases k:x.args.length<=6;·rw[decide_eq_true k];exact Ru.aV (h1 _ U.gr j g (o λ_ _=>.inr (.inr (.inl ⟨u,k⟩))))
  rw[decide_eq_false k];exact Ru.aV (h2 _ U.gr)
 refine ah ?_;by_cases k:ak1 x.args.length=mn;·rw[decide_eq_true k];exact Ru.aV (h1 _ U.gr j g (o λ_ _=>.inr (.inr (.inr k.symm))))
 rw[decide_eq_false k];exact Ru.aV (h2 _ U.gr)
end
end
section
theorem Ru.wP{c:Cx}{s:List SI}{x:SI}{L:Kn}{H:ai}(P:Kn->ai->Prop)(h1:∀M H',P M H'->Ru ac c s M H')(h2:∀b,(∀H' a M,P M H'->ky M a->Ru ac c b a H')->Ru ac c (x::b) L H):Ru ac c (x::s) L H:=h2 s λH' a M d hl=>(h1 M H' d).rZ hl
theorem RO.OZ{H:ai}{c:Cx}{s:List SI}{L:Kn}{d:Option ab}{l:List be}{f:aJ}{args:List aJ}{fv:AV}{a:List AV}{p:ab}{x:aJ}{i:ab}{o:Nat}{v:AV}{k:Option (ab×Bool)}(h:YF ac fv a H λr H'=>bh H' i o=some v/\RO ac c l s (bC L d r) H')(m:∀r,bf (bC L d r) x=.az i o:=by(intro r;conv=>lhs;whnf)<;>rfl)(n:∀r,lk (bC L d r) p=v:=by(intro r;conv=>lhs;whnf)<;>rfl)(b:v.bB=true:=by first|rfl|assumption)(hvs:iy v v=true:=by first|rfl|assumption|simp[iy,gz,fQ])(q:bf L f=fv:=by exact cw)(e:fv.bB=true:=by first|rfl|assumption)(t:args.map (bf L)=a:=by rfl)(g:a.all AV.bB=true:=by repeat first|rfl|assumption|(refine ad ?_ ?_)):RO ac c (⟨d,.call f args,none,[],[⟨p,.aW x,k⟩]⟩::l) s L H:=RO.HT (h.mono λr H' h=>⟨λaa j=>by have:=il (re:=[]) j (m r) (n r) b hvs h.1 rfl;simp_all[fG,fF,bq,Bool.and_true],h.2⟩) q e t g
theorem Sl.bX{H:ai}{size n:Nat}{a:List AV}{v:AV}(h:Sl H size a n v):iy v v=true:=by rcases h with⟨rfl,_⟩|⟨i,o,cap,ex,c,m,e,b,aM,fz,rfl,_⟩;all_goals simp[iy,gz,ab.ip]
def ko(j:G.lD)(k:Nat):Nat:=if j.op=65/\k=0\/j.op=67/\k=1\/j.op=66/\j.b9.getD k 0=2 then 1 else 0
section
variable{g:G.bu}{j:G.lD}{H:ai}{cs:List AV}
theorem O8(T:Tb ac)(hj:tw H j cs){k:Nat}{K:KT}(h:∀H',bm H H'->K (aN (ko j k)) H'):YN ac W5 [.agg cs,aN k] H K:=by
 have i:=hj.one;obtain⟨l,m,n,rfl,f,e,g⟩:=hj;have⟨o,_,_,p⟩:=e.all;have⟨r,_,_,_⟩:=f.all;have⟨s,_,_,_⟩:=g.all;obtain⟨op,args,name,b9,t⟩:=j;refine YF.code T.abW aB ?_;refine ah ?_;refine RO.dL (aj.dc H) λH1 q U=>?_;have h:=h H1 U.gr;have one:(op=65/\k=0\/op=67/\k=1\/op=66/\b9.getD k 0=2)->K (aN 1) H1:=λh1=>by rw[ko,aK h1]at h;exact h
 have zero:¬(op=65/\k=0\/op=67/\k=1\/op=66/\b9.getD k 0=2)->K (aN 0) H1:=λh1=>by rw[ko,aq h1]at h;exact h
 clear h;have U:aj H H1 [tB tx q [aU op,l,.str name,m,n]]:=U;refine ah ?_;refine RO.de (λb=>?_) (λb=>?_)
 .subst b;refine ah ?_;refine Ru.cond (λh0=>?_) (λh0=>?_);·subst h0;refine ah ?_;exact Ru.aV (one aB)
  refine ah ?_;exact Ru.aV (zero (by simp[h0]))
 refine ah ?_;refine RO.de (λc=>?_) (λc=>?_)
 .subst c;refine ah ?_;refine Ru.cond (λh0=>?_) (λh0=>?_);·subst h0;refine ah ?_;exact Ru.aV (one aB)
  refine ah ?_;exact Ru.aV (zero (by simp[h0]))
 refine ah ?_;refine RO.de (λd=>?_) (λd=>?_)
 .subst d;refine ah ?_;refine RO.de (λa=>?_) (λa=>?_)
  .refine ah ?_;refine RO.lg U.gr e (λw o1 u v=>?_) (j:=k);refine ah ?_;refine Ru.cond (λh0=>?_) (λh0=>?_);·refine ah ?_;exact Ru.aV (one (by rw[bF a];exact .inr (.inr ⟨rfl,h0⟩)))
   refine ah ?_;exact Ru.aV (zero (by rw[bF a];simp[h0]))
  refine ah ?_;exact Ru.aV (zero (by rw[akm,List.getElem?_eq_none (Nat.le_of_not_lt a)];simp))
 refine ah ?_;exact Ru.aV (zero (by simp[b,c,d]))
inductive AE(j:G.lD):Nat->Nat->Prop
 |go(h:j.op=61):AE j 0 1
 |Cz(h:j.op=62):AE j 1 2
 |is(h:j.op=63):AE j 1 2
 |gE(h:j.op=65):AE j 1 2
 |AR(h:j.op=66)(hk:∀i(h:i<j.b9.length),1<=j.b9[i]/\j.b9[i]<=3/\(j.b9[i]=3->i+1=j.b9.length))(h1:1<=j.b9.length)(h4:j.b9.length<=4):AE j (mH j.b9) j.b9.length
 |CB(h:j.op=67):AE j 0 3
 |CC(h:j.op=68):AE j (max 1 j.args.length) 0
 |ret(h:j.op=69):AE j 1 0
 |sC(h:j.op=21):AE j 1 0
 |stuck(h:j.op=70):AE j 0 0
end
end
end
end Go.am.R
end
