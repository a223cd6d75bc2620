/- A part of the proof. No conditions. -/
import Derived.Test.YtjhkgigolpfcfaaGreatDoorA14
set_option linter.all false
set_option maxHeartbeats 16000000
open Nat renaming le_of_ble_eq_true->akc
open Int renaming ofNat->ak1
noncomputable section
namespace Go.am.R
section
variable{ac:Nat->aG}
section
theorem Ru.aen{c:Cx}{s:List SI}{x:SI}{L:Kn}{H:ai}(P:Kn->ai->Prop)(h1:∀M a,P M a->Ru ac c s M a)(h2:(∀a b M,P M a->ky M b->Ru ac c s b a)->Ru ac c (x::s) L H):Ru ac c (x::s) L H:=h2 λa b M d hl=>(h1 M a d).rZ hl
def CM:List Nat:=[21,60,61,62,63,65,66,67,68,69,70]
theorem aeo(T:Tb ac){H:ai}{op:Nat}{K:KT}(h1:∀a,bm H a->op∉CM->(sA op).w≠ []->K (.bool true) a)(h2:∀a,bm H a->¬(op∉CM/\(sA op).w≠ [])->K (.bool false) a):YN ac W0 [aU op] H K:=by
 refine YF.code T.abR aB ?_;repeat'(first|refine rR ?_|(refine Ru.kN (λf=>?_) (λf=>?_)<;>rw[f]))
 rotate_right
 .have d:op∉CM:=by simp only[decide_eq_false_iff_not]at*;simp[CM, *]
  refine RO.cl (Jh T λg hg=>?_);refine ah ?_;by_cases b:(sA op).w=[]
  .have e:j8 (sA op).w []=true:=by rw[qv];simpa using b
   rw[e];exact Ru.aV (h2 _ hg λc=>c.2 b)
  have e:j8 (sA op).w []=false:=by rw[qv];simpa using b
  rw[e];exact Ru.aV (h1 _ hg d b)
 all_goals exact Ru.aV (h2 _ (bm.refl H) λc=>c.1 (by simp only[decide_eq_true_eq]at*;simp[CM, *]))
def sB(m:Int)(l:Nat):Prop:=m= -1\/m= -2/\1<=l/\l<=7\/m= -3/\l<=6\/m=l
def yN(nm:Int)(t:List Nat):Prop:=if nm=0 then t=[]else if nm=1 then EO t else if nm=3 then iu t≠0 else su t
def OY(f:rm)(t:List Nat):Int:=if f.nm=3 then iu t else f.sy
structure EZ(x:G.ic)(v:Int)(f:rm):Prop where
 to:f.to=decide (0<=x.to)
 t0: -1<=x.to
 t1:x.to<v
 pF:∀a∈x.args,0<=a/\a<=v - 1
 num:f.n=true->f.lo<=x.n/\x.n<=f.hi
 nun:f.n=false->x.n=0
 xx:x.m=0\/x.op=13/\x.m=1
 name:yN f.nm x.name
 mn:x.op=15\/x.op=18->x.args.length<=6
 mo:x.op≠15->x.op≠18->sB (OY f x.name) x.args.length
section
variable{g:G.bu}{H:ai}{cs:List AV}
theorem aeq(T:Tb ac){x:G.ic}(J:qT H x cs)(hb:∀c∈x.name,c<256)(ag:x.name.length<=1000)(av:x.args.length<=1000){v:Int}(I:0<=v)(aw:v<=6000){K:KT}(h1:∀r,bm H r->x.op∉CM->(sA x.op).w≠ []->EZ x v (ue x.op x.m)->K (.bool true) r)(h2:∀r,bm H r->¬(x.op∉CM/\(sA x.op).w≠ []/\EZ x v (ue x.op x.m))->K (.bool false) r):YN ac WL [.agg cs,aI v] H K:=by
 have R:=J.one;obtain⟨C,rfl,B⟩:=J;have⟨ax,ay,a0,a1⟩:=B.all;refine YF.code T.abz aB ?_;refine ah ?_;refine RO.dL (aj.dc H) λH1 q U=>?_;refine ah ?_;refine RO.cl (aeo T (λL hg k i=>?_) (λL hg s=>?_));rotate_left;·refine ah ?_;exact Ru.aV (h2 _ (U.gr.trans hg) λg=>s ⟨g.1,g.2.1⟩)
 have U:=U.cI hg;have U:aj H L [tB qU q [aU x.op,aI x.to,C,aI x.n,aI x.m,.str x.name]]:=U;refine ah ?_;refine RO.cl (aem T λH3 hg=>?_);have U:=U.cI hg;generalize ue x.op x.m=f at*;obtain⟨w,to,sy,n,lo,hi,nm,go⟩:=f;refine RO.fx U λH4 D U=>?_;refine RO.nil ?_;refine Ru.seq ?_;refine Ru.Je (P:=λr=>aj H r [tB Im D [.str w,.bool to,aI sy,.bool n,aI lo,aI hi,aI nm,aI go],tB qU q [aU x.op,aI x.to,C,aI x.n,aI x.m,.str x.name]]/\to=decide (0<=x.to)/\ -1<=x.to/\x.to<v/\∀a∈x.args,0<=a/\a<=v - 1) [p1,p2,p5] (λH5⟨U,S,V,W,X⟩=>?_) (λe=>?_);rotate_left
 .refine ah ?_;refine RO.eq (t:=to==decide (0<=x.to)) ?_ (ht:=rfl);refine ah ?_;refine RO.tq (λht=>?_) (λht=>?_);·refine ah ?_;exact Ru.aV (h2 _ U.gr λg=>by have:=g.2.2.to;simp_all)
  repeat'(first|refine rR ?_|refine RO.de (λ_=>?_) (λ_=>?_))
  all_goals first|exact Ru.aV (h2 _ U.gr λg=>by have o:=g.2.2.t0;have F:=g.2.2.t1;simp only[Int.negSucc_eq]at*;omega)|skip
  refine RO.cl (Jf T (U.gr.sl B) af I af (λp=>?_) λs=>?_);·refine iS ?_;refine e _ _ ⟨U,by simpa using ht,by simp only[Int.negSucc_eq]at*;omega,af,p⟩ ?_;exact fB
  refine ah ?_;exact Ru.aV (h2 _ U.gr λg=>s g.2.2.pF)
 refine Ru.seq ?_;refine Ru.Je (P:=λr=>aj H r [tB Im D [.str w,.bool to,aI sy,.bool n,aI lo,aI hi,aI nm,aI go],tB qU q [aU x.op,aI x.to,C,aI x.n,aI x.m,.str x.name]]/\(n=true->lo<=x.n/\x.n<=hi)/\(n=false->x.n=0)/\(x.m=0\/x.op=13/\x.m=1)) [p1,p2,p5] (λH6⟨U,Y,Z,f7⟩=>?_) (λe=>?_);rotate_left
 .refine Ru.seq ?_;refine Ru.region ?_;refine iS ?_;cases n with
  |true=>
   refine iS ?_;refine RO.cl (sx T (λe1 e2=>?_) (λs=>?_));rotate_left;·refine ah ?_;exact Ru.aV (h2 _ U.gr λg=>s (g.2.2.num rfl))
   refine iS ?_;refine RO.de (λj=>?_) (λj=>?_);rotate_left;·refine iS ?_;refine e _ _ ⟨U,λ_=>⟨e1,e2⟩,λh=>(by cases h),.inl (by simpa using j)⟩ ?_;exact fB
   refine iS ?_;refine RO.de (λp=>?_) (λp=>?_);rotate_left;·refine ah ?_;exact Ru.aV (h2 _ U.gr λg=>by have:=g.2.2.xx;simp_all)
   refine iS ?_;refine Ru.kN (λu=>?_) (λu=>?_);·refine ah ?_;exact Ru.aV (h2 _ U.gr λg=>by have:=g.2.2.xx;simp_all)
   refine iS ?_;refine e _ _ ⟨U,λ_=>⟨e1,e2⟩,λh=>(by cases h),.inr ⟨p,by simpa using u⟩⟩ ?_;exact fB
  |false=>
   refine iS ?_;refine RO.de (λj=>?_) (λj=>?_);·refine ah ?_;exact Ru.aV (h2 _ U.gr λg=>by have:=g.2.2.nun rfl;simp_all)
   have j:x.n=0:=by simpa using j
   refine iS ?_;refine RO.de (λN=>?_) (λN=>?_);rotate_left;·refine iS ?_;refine e _ _ ⟨U,λh=>(by cases h),λ_=>j,.inl (by simpa using N)⟩ ?_;exact fB
   refine iS ?_;refine RO.de (λp=>?_) (λp=>?_);rotate_left;·refine ah ?_;exact Ru.aV (h2 _ U.gr λg=>by have:=g.2.2.xx;simp_all)
   refine iS ?_;refine Ru.kN (λu=>?_) (λu=>?_);·refine ah ?_;exact Ru.aV (h2 _ U.gr λg=>by have:=g.2.2.xx;simp_all)
   refine iS ?_;refine e _ _ ⟨U,λh=>(by cases h),λ_=>j,.inr ⟨p,by simpa using u⟩⟩ ?_;exact fB
 refine Ru.seq ?_;refine Ru.region ?_;refine iS ?_;refine Ru.seq ?_;refine Ru.aen (P:=λM r=>∃mn:Int,M=[(p6,aI mn),(p2,.az q 0),(p5,.az D 0)]/\aj H r [tB Im D [.str w,.bool to,aI sy,.bool n,aI lo,aI hi,aI nm,aI go],tB qU q [aU x.op,aI x.to,C,aI x.n,aI x.m,.str x.name]]/\yN nm x.name/\mn=if nm=3 then(iu x.name:Int)else sy) (λM H7⟨mn,hM,U,f8,O⟩=>?_) (λe=>?_);rotate_left
 .refine Ru.seq ?_;refine Ru.region ?_;refine iS ?_;refine Ru.block ?_;refine Ru.seq ?_;refine Ru.region ?_;refine iS ?_;refine Ru.cond (λk=>?_) (λk=>?_)
  .refine Ru.seq ?_;refine Ru.region ?_;refine iS ?_;refine Ru.kN (λi=>?_) (λi=>?_);·refine ah ?_;exact Ru.aV (h2 _ U.gr λg=>by have o:yN nm x.name:=g.2.2.name;rw[yN,aK (show nm=0 from k)]at o;simp[o,qv]at i)
   have i:x.name=[]:=by simpa[qv]using i
   have k:nm=0:=k;refine iS ?_;refine e _ _ _ ⟨sy,rfl,U,by rw[yN,aK k];exact i,by rw[aq af]⟩ ?_;exact fB
  have k:¬nm=0:=k;refine Ru.seq ?_;refine Ru.region ?_;refine iS ?_;refine Ru.cond (λi=>?_) (λi=>?_)
  .have i:nm=1:=i;refine Ru.seq ?_;refine Ru.region ?_;refine iS ?_;refine RO.cl (aeh T hb af (λj=>?_) λs=>?_);rotate_left;·refine ah ?_;exact Ru.aV (h2 _ U.gr λg=>s (by have o:yN nm x.name:=g.2.2.name;rwa[yN,aq k,aK i]at o))
   refine iS ?_;refine e _ _ _ ⟨sy,rfl,U,by rw[yN,aq k,aK i];exact j,by rw[aq af]⟩ ?_;exact fB
  have i:¬nm=1:=i;refine Ru.seq ?_;refine Ru.region ?_;refine iS ?_;refine Ru.cond (λj=>?_) (λj=>?_)
  .have j:nm=3:=j;refine Ru.seq ?_;refine Ru.region ?_;refine iS ?_;refine RO.cl (aek T ?_);refine iS ?_;refine Ru.seq ?_;refine Ru.region ?_;refine iS ?_;refine Ru.cond (λp=>?_) (λp=>?_);·refine ah ?_;exact Ru.aV (h2 _ U.gr λg=>by have o:yN nm x.name:=g.2.2.name;rw[yN,aq k,aq i,aK j]at o;exact o p)
   refine iS ?_;refine e _ _ _ ⟨iu x.name,rfl,U,by rw[yN,aq k,aq i,aK j];exact p,by rw[aK j]⟩ ?_;exact fB
  have j:¬nm=3:=j;refine Ru.seq ?_;refine Ru.region ?_;refine iS ?_;refine RO.cl (EX T hb af (λp=>?_) λs=>?_);rotate_left;·refine ah ?_;exact Ru.aV (h2 _ U.gr λg=>s (by have o:yN nm x.name:=g.2.2.name;rwa[yN,aq k,aq i,aq j]at o))
  refine iS ?_;refine e _ _ _ ⟨sy,rfl,U,by rw[yN,aq k,aq i,aq j];exact p,by rw[aq j]⟩ ?_;exact fB
 subst hM;have t:(x.op=15\/x.op=18->x.args.length<=6)->(x.op≠15->x.op≠18->sB mn x.args.length)->EZ x v ⟨w,to,sy,n,lo,hi,nm,go⟩:=λa b=>⟨S,V,W,X,Y,Z,f7,f8,a,λc d=>by have F:=b c d;rw[O]at F;exact F⟩;have y:x.op≠15->x.op≠18->EZ x v ⟨w,to,sy,n,lo,hi,nm,go⟩->sB mn x.args.length:=λa b h=>by rw[O];exact h.mo a b
 refine ah ?_;refine RO.de (λz=>?_) (λz=>?_)
 .refine ah ?_;by_cases l:x.args.length<=6;·rw[decide_eq_true l];exact Ru.aV (h1 _ U.gr k i (t (λ_=>l) λh=>absurd z h))
  rw[decide_eq_false l];exact Ru.aV (h2 _ U.gr λg=>l (g.2.2.mn (.inl z)))
 refine ah ?_;refine Ru.cond (λA=>?_) (λA=>?_)
 .refine ah ?_;by_cases l:x.args.length<=6;·rw[decide_eq_true l];exact Ru.aV (h1 _ U.gr k i (t (λ_=>l) λ_ h=>absurd A h))
  rw[decide_eq_false l];exact Ru.aV (h2 _ U.gr λg=>l (g.2.2.mn (.inr A)))
 have t:=t λh=>h.elim (absurd · z) (absurd · A);have y:=y z A;refine ah ?_;refine Ru.cond (λP=>?_) (λP=>?_);·refine ah ?_;exact Ru.aV (h1 _ U.gr k i (t λ_ _=>.inl P))
 refine ah ?_;refine Ru.cond (λQ=>?_) (λQ=>?_)
 .refine ah ?_;refine RO.cl (sx T (λE a7=>?_) (λs=>?_));·refine ah ?_;exact Ru.aV (h1 _ U.gr k i (t λ_ _=>.inr (.inl ⟨Q,by simp only[aj5]at E;omega,by simp only[aj5]at a7;omega⟩)))
  refine ah ?_;exact Ru.aV (h2 _ U.gr λg=>by have o:=y g.2.2;unfold sB at o;simp only[aj5]at s;omega)
 refine ah ?_;refine Ru.cond (λE=>?_) (λE=>?_)
 .refine ah ?_;by_cases l:x.args.length<=6;·rw[decide_eq_true l];exact Ru.aV (h1 _ U.gr k i (t λ_ _=>.inr (.inr (.inl ⟨E,l⟩))))
  rw[decide_eq_false l];exact Ru.aV (h2 _ U.gr λg=>by have o:=y g.2.2;unfold sB at o;omega)
 refine ah ?_;by_cases l:ak1 x.args.length=mn;·rw[decide_eq_true l];exact Ru.aV (h1 _ U.gr k i (t λ_ _=>.inr (.inr (.inr l.symm))))
 rw[decide_eq_false l];exact Ru.aV (h2 _ U.gr λg=>by have o:=y g.2.2;unfold sB at o;simp only[aj5]at l;omega)
end
end
section
theorem Ru.wP{c:Cx}{s:List SI}{x:SI}{L:Kn}{H:ai}(P:Kn->ai->Prop)(h1:∀M a,P M a->Ru ac c s M a)(h2:∀d,(∀a b M,P M a->ky M b->Ru ac c d b a)->Ru ac c (x::d) L H):Ru ac c (x::s) L H:=h2 s λa b M e hl=>(h1 M a e).rZ hl
theorem RO.OZ{H:ai}{c:Cx}{s:List SI}{L:Kn}{d:Option ab}{l:List be}{f:aJ}{args:List aJ}{fv:AV}{a:List AV}{p:ab}{x:aJ}{i:ab}{o:Nat}{v:AV}{m:Option (ab×Bool)}(h:YF ac fv a H λr b=>bh b i o=some v/\RO ac c l s (bC L d r) b)(n:∀r,bf (bC L d r) x=.az i o:=by(intro r;conv=>lhs;whnf)<;>rfl)(q:∀r,lk (bC L d r) p=v:=by(intro r;conv=>lhs;whnf)<;>rfl)(e:v.bB=true:=by first|rfl|assumption)(hvs:iy v v=true:=by first|rfl|assumption|simp[iy,gz,fQ])(t:bf L f=fv:=by exact cw)(g:fv.bB=true:=by first|rfl|assumption)(u:args.map (bf L)=a:=by rfl)(j:a.all AV.bB=true:=by repeat first|rfl|assumption|(refine ad ?_ ?_)):RO ac c (⟨d,.call f args,none,[],[⟨p,.aW x,m⟩]⟩::l) s L H:=RO.HT (h.mono λr b h=>⟨λaa k=>by
 have:=il (re:=[]) k (n r) (q r) e hvs h.1 rfl;simp only[fG,fF,bq,Bool.and_true]at this;simp only[fG,Bool.and_true];split;·exact this
 rfl,h.2⟩) t g u j
theorem Sl.bX{H:ai}{size n:Nat}{a:List AV}{v:AV}(h:Sl H size a n v):iy v v=true:=by
 rcases h with⟨rfl,_⟩|⟨i,o,cap,ex,c,m,e,b,aM,fz,rfl,_⟩;·rfl
 simp[iy,gz,ab.ip]
def ko(j:G.lD)(k:Nat):Nat:=if j.op=65/\k=0\/j.op=67/\k=1\/j.op=66/\j.b9.getD k 0=2 then 1 else 0
section
variable{g:G.bu}{j:G.lD}{H:ai}{cs:List AV}
theorem O8(T:Tb ac)(hj:tw H j cs){k:Nat}{K:KT}(h:∀i,bm H i->K (aN (ko j k)) i):YN ac W5 [.agg cs,aN k] H K:=by
 have l:=hj.one;obtain⟨m,n,o,rfl,f,e,g⟩:=hj;have⟨p,_,_,r⟩:=e.all;have⟨s,_,_,_⟩:=f.all;have⟨t,_,_,_⟩:=g.all;obtain⟨op,args,name,b9,u⟩:=j;refine YF.code T.abW aB ?_;refine ah ?_;refine RO.dL (aj.dc H) λH1 q U=>?_;have h:=h H1 U.gr;have one:(op=65/\k=0\/op=67/\k=1\/op=66/\b9.getD k 0=2)->K (aN 1) H1:=λh1=>by rw[ko,aK h1]at h;exact h
 have zero:¬(op=65/\k=0\/op=67/\k=1\/op=66/\b9.getD k 0=2)->K (aN 0) H1:=λh1=>by rw[ko,aq h1]at h;exact h
 clear h;have U:aj H H1 [tB tx q [aU op,m,.str name,n,o]]:=U;refine ah ?_;refine RO.de (λb=>?_) (λb=>?_)
 .subst b;refine ah ?_;refine Ru.cond (λh0=>?_) (λh0=>?_);·subst h0;refine ah ?_;exact Ru.aV (one aB)
  refine ah ?_;exact Ru.aV (zero (by simp[h0]))
 refine ah ?_;refine RO.de (λc=>?_) (λc=>?_)
 .subst c;refine ah ?_;refine Ru.cond (λh0=>?_) (λh0=>?_);·subst h0;refine ah ?_;exact Ru.aV (one aB)
  refine ah ?_;exact Ru.aV (zero (by simp[h0]))
 refine ah ?_;refine RO.de (λd=>?_) (λd=>?_)
 .subst d;refine ah ?_;refine RO.de (λa=>?_) (λa=>?_)
  .refine ah ?_;refine RO.lg U.gr e (λx o1 v w=>?_) (j:=k);refine ah ?_;refine Ru.cond (λh0=>?_) (λh0=>?_);·refine ah ?_;exact Ru.aV (one (by rw[bF a];exact .inr (.inr ⟨rfl,h0⟩)))
   refine ah ?_;exact Ru.aV (zero (by rw[bF a];simp[h0]))
  refine ah ?_;exact Ru.aV (zero (by rw[akm,List.getElem?_eq_none (Nat.le_of_not_lt a)];simp))
 refine ah ?_;exact Ru.aV (zero (by simp[b,c,d]))
inductive AE(j:G.lD):Nat->Nat->Prop
 |go(h:j.op=61):AE j 0 1
 |Cz(h:j.op=62):AE j 1 2
 |is(h:j.op=63):AE j 1 2
 |gE(h:j.op=65):AE j 1 2
 |AR(h:j.op=66)(hk:∀i(h:i<j.b9.length),1<=j.b9[i]/\j.b9[i]<=3/\(j.b9[i]=3->i+1=j.b9.length))(h1:1<=j.b9.length)(h4:j.b9.length<=4):AE j (mH j.b9) j.b9.length
 |CB(h:j.op=67):AE j 0 3
 |CC(h:j.op=68):AE j (max 1 j.args.length) 0
 |ret(h:j.op=69):AE j 1 0
 |sC(h:j.op=21):AE j 1 0
 |stuck(h:j.op=70):AE j 0 0
theorem AE.aC{a e:Nat}(h:AE j a e):j.op=61\/j.op=62\/j.op=63\/j.op=65\/j.op=66\/j.op=67\/j.op=68\/j.op=69\/j.op=21\/j.op=70:=by cases h<;>omega
theorem AE.L4{a e:Nat}(h:AE j a e)(d:j.op=66):(∀i(h:i<j.b9.length),1<=j.b9[i]/\j.b9[i]<=3/\(j.b9[i]=3->i+1=j.b9.length))/\1<=j.b9.length/\j.b9.length<=4:=by cases h with|AR _ b h1 c=>exact⟨b,h1,c⟩|_=>omega
theorem AE.L5{a e b c:Nat}(h:AE j a e)(d:AE j b c):a=b/\e=c:=by cases h<;>cases d<;>first|exact⟨rfl,rfl⟩|omega
end
end
end
end Go.am.R
end
