/- A part of the proof. No conditions. -/
import Derived.Test.YtjhkgigolpfcfaaGreatDoorA08
set_option linter.all false
set_option maxHeartbeats 16000000
open List renaming mem_singleton→ac3,mem_cons_self→adc,mem_cons→adC,mem_cons_of_mem→adD,getElem_mem→af0,replicate→af3,mem_append→agI,append_assoc→agJ,length_append→agP,drop_eq_getElem_cons→agR,mem_append_left→agU,take_append_getElem→agX,getD_eq_getElem?_getD→agY,length_map→agZ,perm_middle→ag1,length_cons→ahh,length_singleton→ahj,length_take→ahl,eq_nil_of_length_eq_zero→ahp,getElem_map→aht,getElem?_eq_some_iff→ahv,cons_append→ahC,perm_append_comm→ahD,getElem?_replicate→ahL,length_replicate→ahM,take_length→ah2,take_succ_cons→ah7,map_replicate→aie
open Nat renaming le_refl→adW,le_of_ble_eq_true→agT,lt_of_lt_of_le→ag6,lt_or_ge→ahz
open Int renaming toNat_natCast→agK,ofNat_eq_natCast→agL,ofNat→ahI
open Classical renaming byContradiction→ahe
open List.Perm renaming cons→ahq,swap→ahw
noncomputable section
namespace Go.ak.R
section
variable{ab:Nat→aE}
section
theorem Ru.ac1{c:Cx}{s:List SI}{x:SI}{L:Kn}{H:af}(P:Kn→af→Prop)(h1:∀M H',P M H'→Ru ab c s M H')(h2:(∀H' a M,P M H'→kg M a→Ru ab c s a H')→Ru ab c (x::s) L H):Ru ab c (x::s) L H:=h2 λH' a M b hl=>(h1 M H' b).rh hl
def Ca:List Nat:=[21,60,61,62,63,65,66,67,68,69,70]
theorem ac2(T:Tb ab){H:af}{op:Nat}{K:AV→af→Prop}(h1:∀H',bf H H'→op∉Ca→(rL op).w≠ []→K (.bool true) H')(h2:∀H',bf H H'→K (.bool false) H'):YF ab (.func V1 [] []) [aU op] H K:=by
 refine YF.code T.aaC (by simp) ?_;repeat'(first|refine qT ?_|(refine Ru.kh (λc=>?_) (λc=>?_)<;>rw[c]))
 rotate_right
 ·have b:op∉Ca:=by simp only[decide_eq_false_iff_not]at*;simp[Ca, *]
  refine RO.cl (IH T λd hg=>?_);refine ah ?_;by_cases a:(rL op).w=[]
  ·have e:jO (rL op).w []=true:=by rw[pA];simpa using a
   rw[e];exact Ru.aT (h2 _ hg)
  have e:jO (rL op).w []=false:=by rw[pA];simpa using a
  rw[e];exact Ru.aT (h1 _ hg b a)
 all_goals exact Ru.aT (h2 _ (bf.refl H))
def rM(m:Int)(l:Nat):Prop:=m= -1∨m= -2∧1≤l∧l≤7∨m= -3∧l≤6∨m=l
def xN(nm:Int)(t:List Nat):Prop:=if nm=0 then t=[]else if nm=1 then Ee t else if nm=3 then gV t≠0 else rF t
def Of(f:qA)(t:List Nat):Int:=if f.nm=3 then gV t else f.rJ
structure Ep(x:G.gW)(v:Int)(f:qA):Prop where
 to:f.to=decide (0≤x.to)
 t0: -1≤x.to
 t1:x.to<v
 oT:∀a∈x.args,0≤a∧a≤v - 1
 N0:f.n=true→f.lo≤x.n∧x.n≤f.hi
 nun:f.n=false→x.n=0
 wD:x.m=0∨x.op=13∧x.m=1
 name:xN f.nm x.name
 mn:x.op=15∨x.op=18→x.args.length≤6
 mo:x.op≠15→x.op≠18→rM (Of f x.name) x.args.length
section
variable{g:G.bu}{H:af}{cs:List AV}
theorem ac4(T:Tb ab){x:G.gW}(A:pU H x cs)(hb:∀c∈x.name,c<256)(V:x.name.length≤1000)(W:x.args.length≤1000){v:Int}(z:0≤v)(X:v≤6000){K:AV→af→Prop}(h1:∀H',bf H H'→x.op∉Ca→(rL x.op).w≠ []→Ep x v (tb x.op x.m)→K (.bool true) H')(h2:∀H',bf H H'→K (.bool false) H'):YF ab (.func VM [] []) [.agg cs,aI v] H K:=by
 have E:=A.one;obtain⟨s,rfl,r⟩:=A;have⟨Y,Z,ag,ar⟩:=r.all;refine YF.code T.aam (by simp) ?_;refine ah ?_;refine RO.dS (ai.cW H) λH1 q U=>?_;refine ah ?_;refine RO.cl (ac2 T (λB hg j g=>?_) (λB hg=>?_));rotate_left;·refine ah ?_;exact Ru.aT (h2 _ (U.gr.trans hg))
 have U:=U.cV hg;have U:ai H B [tB pV q [aU x.op,aI x.to,s,aI x.n,aI x.m,.aC x.name]]:=U;refine ah ?_;refine RO.cl (ac0 T λH3 hg=>?_);have U:=U.cV hg;generalize tb x.op x.m=f at*;obtain⟨w,to,rJ,n,lo,hi,nm,go⟩:=f;refine RO.fG U λH4 t U=>?_;refine RO.nil ?_;refine Ru.seq ?_;refine Ru.IE (P:=λH'=>ai H H' [tB Hk t [.aC w,.bool to,aI rJ,.bool n,aI lo,aI hi,aI nm,aI go],tB pV q [aU x.op,aI x.to,s,aI x.n,aI x.m,.aC x.name]]∧to=decide (0≤x.to)∧ -1≤x.to∧x.to<v∧∀a∈x.args,0≤a∧a≤v - 1) [p1,p2,p5] (λH5⟨U,F,I,J,L⟩=>?_) (λe=>?_);rotate_left
 ·refine ah ?_;refine RO.eq (t:=to==decide (0≤x.to)) ?_ (ht:=rfl);refine ah ?_;refine RO.pR (λht=>?_) (λht=>?_);·refine ah ?_;exact Ru.aT (h2 _ U.gr)
  repeat'(first|refine qT ?_|refine RO.cX (λ_=>?_) (λ_=>?_))
  all_goals first|exact Ru.aT (h2 _ U.gr)|skip
  refine RO.cl (IF T (U.gr.sl r) (by omega) z (by omega) (λl=>?_) ?_);·refine iK ?_;refine e _ _ ⟨U,by simpa using ht,by simp only[Int.negSucc_eq]at*;omega,by omega,l⟩ ?_;repeat'(first|exact trivial|refine⟨rfl,?_⟩)
  refine ah ?_;exact Ru.aT (h2 _ U.gr)
 refine Ru.seq ?_;refine Ru.IE (P:=λH'=>ai H H' [tB Hk t [.aC w,.bool to,aI rJ,.bool n,aI lo,aI hi,aI nm,aI go],tB pV q [aU x.op,aI x.to,s,aI x.n,aI x.m,.aC x.name]]∧(n=true→lo≤x.n∧x.n≤hi)∧(n=false→x.n=0)∧(x.m=0∨x.op=13∧x.m=1)) [p1,p2,p5] (λH6⟨U,N,O,P⟩=>?_) (λe=>?_);rotate_left
 ·refine Ru.seq ?_;refine Ru.region ?_;refine iK ?_;cases n with
  |true=>
   refine iK ?_;refine RO.cl (rI T (λj g=>?_) (λ_=>?_));rotate_left;·refine ah ?_;exact Ru.aT (h2 _ U.gr)
   refine iK ?_;refine RO.cX (λi=>?_) (λi=>?_);rotate_left;·refine iK ?_;refine e _ _ ⟨U,λ_=>⟨j,g⟩,λh=>(by cases h),.inl (by simpa using i)⟩ ?_;repeat'(first|exact trivial|refine⟨rfl,?_⟩)
   refine iK ?_;refine RO.cX (λl=>?_) (λl=>?_);rotate_left;·refine ah ?_;exact Ru.aT (h2 _ U.gr)
   refine iK ?_;refine Ru.kh (λp=>?_) (λp=>?_);·refine ah ?_;exact Ru.aT (h2 _ U.gr)
   refine iK ?_;refine e _ _ ⟨U,λ_=>⟨j,g⟩,λh=>(by cases h),.inr ⟨l,by simpa using p⟩⟩ ?_;repeat'(first|exact trivial|refine⟨rfl,?_⟩)
  |false=>
   refine iK ?_;refine RO.cX (λi=>?_) (λi=>?_);·refine ah ?_;exact Ru.aT (h2 _ U.gr)
   have i:x.n=0:=by simpa using i
   refine iK ?_;refine RO.cX (λC=>?_) (λC=>?_);rotate_left;·refine iK ?_;refine e _ _ ⟨U,λh=>(by cases h),λ_=>i,.inl (by simpa using C)⟩ ?_;repeat'(first|exact trivial|refine⟨rfl,?_⟩)
   refine iK ?_;refine RO.cX (λl=>?_) (λl=>?_);rotate_left;·refine ah ?_;exact Ru.aT (h2 _ U.gr)
   refine iK ?_;refine Ru.kh (λp=>?_) (λp=>?_);·refine ah ?_;exact Ru.aT (h2 _ U.gr)
   refine iK ?_;refine e _ _ ⟨U,λh=>(by cases h),λ_=>i,.inr ⟨l,by simpa using p⟩⟩ ?_;repeat'(first|exact trivial|refine⟨rfl,?_⟩)
 refine Ru.seq ?_;refine Ru.region ?_;refine iK ?_;refine Ru.seq ?_;refine Ru.ac1 (P:=λM H'=>∃mn:Int,M=[(p6,aI mn),(p2,.aw q 0),(p5,.aw t 0)]∧ai H H' [tB Hk t [.aC w,.bool to,aI rJ,.bool n,aI lo,aI hi,aI nm,aI go],tB pV q [aU x.op,aI x.to,s,aI x.n,aI x.m,.aC x.name]]∧xN nm x.name∧mn=if nm=3 then(gV x.name:Int)else rJ) (λM H7⟨mn,Q,U,R,S⟩=>?_) (λe=>?_);rotate_left
 ·refine Ru.seq ?_;refine Ru.region ?_;refine iK ?_;refine Ru.block ?_;refine Ru.seq ?_;refine Ru.region ?_;refine iK ?_;refine Ru.cond (λj=>?_) (λj=>?_)
  ·refine Ru.seq ?_;refine Ru.region ?_;refine iK ?_;refine Ru.kh (λg=>?_) (λg=>?_);·refine ah ?_;exact Ru.aT (h2 _ U.gr)
   have g:x.name=[]:=by simpa[pA]using g
   have j:nm=0:=j;refine iK ?_;refine e _ _ _ ⟨rJ,rfl,U,by rw[xN,aH j];exact g,by rw[an (by omega)]⟩ ?_;repeat'(first|exact trivial|refine⟨rfl,?_⟩)
  have j:¬nm=0:=j;refine Ru.seq ?_;refine Ru.region ?_;refine iK ?_;refine Ru.cond (λg=>?_) (λg=>?_)
  ·have g:nm=1:=g;refine Ru.seq ?_;refine Ru.region ?_;refine iK ?_;refine RO.cl (acV T hb (by omega) (λi=>?_) ?_);rotate_left;·refine ah ?_;exact Ru.aT (h2 _ U.gr)
   refine iK ?_;refine e _ _ _ ⟨rJ,rfl,U,by rw[xN,an j,aH g];exact i,by rw[an (by omega)]⟩ ?_;repeat'(first|exact trivial|refine⟨rfl,?_⟩)
  have g:¬nm=1:=g;refine Ru.seq ?_;refine Ru.region ?_;refine iK ?_;refine Ru.cond (λi=>?_) (λi=>?_)
  ·have i:nm=3:=i;refine Ru.seq ?_;refine Ru.region ?_;refine iK ?_;refine RO.cl (acY T ?_);refine iK ?_;refine Ru.seq ?_;refine Ru.region ?_;refine iK ?_;refine Ru.cond (λl=>?_) (λl=>?_);·refine ah ?_;exact Ru.aT (h2 _ U.gr)
   refine iK ?_;refine e _ _ _ ⟨gV x.name,rfl,U,by rw[xN,an j,an g,aH i];exact l,by rw[aH i]⟩ ?_;repeat'(first|exact trivial|refine⟨rfl,?_⟩)
  have i:¬nm=3:=i;refine Ru.seq ?_;refine Ru.region ?_;refine iK ?_;refine RO.cl (En T hb (by omega) (λl=>?_) ?_);rotate_left;·refine ah ?_;exact Ru.aT (h2 _ U.gr)
  refine iK ?_;refine e _ _ _ ⟨rJ,rfl,U,by rw[xN,an j,an g,an i];exact l,by rw[an i]⟩ ?_;repeat'(first|exact trivial|refine⟨rfl,?_⟩)
 subst Q;have o:(x.op=15∨x.op=18→x.args.length≤6)→(x.op≠15→x.op≠18→rM mn x.args.length)→Ep x v ⟨w,to,rJ,n,lo,hi,nm,go⟩:=λa b=>⟨F,I,J,L,N,O,P,R,a,λc d=>by have D:=b c d;rw[S]at D;exact D⟩;refine ah ?_;refine RO.cX (λy=>?_) (λy=>?_)
 ·refine ah ?_;by_cases k:x.args.length≤6;·rw[decide_eq_true k];exact Ru.aT (h1 _ U.gr j g (o (λ_=>k) λh=>absurd y h))
  rw[decide_eq_false k];exact Ru.aT (h2 _ U.gr)
 refine ah ?_;refine Ru.cond (λa3=>?_) (λa3=>?_)
 ·refine ah ?_;by_cases k:x.args.length≤6;·rw[decide_eq_true k];exact Ru.aT (h1 _ U.gr j g (o (λ_=>k) λ_ h=>absurd a3 h))
  rw[decide_eq_false k];exact Ru.aT (h2 _ U.gr)
 have o:=o λh=>h.elim (absurd · y) (absurd · a3);refine ah ?_;refine Ru.cond (λa4=>?_) (λa4=>?_);·refine ah ?_;exact Ru.aT (h1 _ U.gr j g (o λ_ _=>.inl a4))
 refine ah ?_;refine Ru.cond (λa5=>?_) (λa5=>?_)
 ·refine ah ?_;refine RO.cl (rI T (λu a7=>?_) (λ_=>?_));·refine ah ?_;exact Ru.aT (h1 _ U.gr j g (o λ_ _=>.inr (.inl ⟨a5,by simp only[agL]at u;omega,by simp only[agL]at a7;omega⟩)))
  refine ah ?_;exact Ru.aT (h2 _ U.gr)
 refine ah ?_;refine Ru.cond (λu=>?_) (λu=>?_)
 ·refine ah ?_;by_cases k:x.args.length≤6;·rw[decide_eq_true k];exact Ru.aT (h1 _ U.gr j g (o λ_ _=>.inr (.inr (.inl ⟨u,k⟩))))
  rw[decide_eq_false k];exact Ru.aT (h2 _ U.gr)
 refine ah ?_;by_cases k:ahI x.args.length=mn;·rw[decide_eq_true k];exact Ru.aT (h1 _ U.gr j g (o λ_ _=>.inr (.inr (.inr k.symm))))
 rw[decide_eq_false k];exact Ru.aT (h2 _ U.gr)
end
end
section
theorem Ru.xP{c:Cx}{s:List SI}{x:SI}{L:Kn}{H:af}(P:Kn→af→Prop)(h1:∀M H',P M H'→Ru ab c s M H')(h2:∀b,(∀H' a M,P M H'→kg M a→Ru ab c b a H')→Ru ab c (x::b) L H):Ru ab c (x::s) L H:=h2 s λH' a M d hl=>(h1 M H' d).rh hl
theorem RO.Og{H:af}{c:Cx}{s:List SI}{L:Kn}{d:Option ac}{l:List aS}{f:aG}{args:List aG}{fv:AV}{a:List AV}{p:ac}{x:aG}{i:ac}{o:Nat}{v:AV}{k:Option (ac×Bool)}(h:YF ab fv a H λr H'=>bh H' i o=some v∧RO ab c l s (bA L d r) H')(m:∀r,aV (bA L d r) x=.aw i o:=by(intro r;conv=>lhs;whnf)<;>rfl)(n:∀r,lk (bA L d r) p=v:=by(intro r;conv=>lhs;whnf)<;>rfl)(b:v.bB=true:=by first|rfl|assumption)(hvs:hZ v v=true:=by first|rfl|assumption|simp[hZ,fM,fA])(q:aV L f=fv:=by(conv=>lhs;whnf)<;>rfl)(e:fv.bB=true:=by first|rfl|assumption)(t:args.map (aV L)=a:=by rfl)(g:a.all AV.bB=true:=by repeat first|rfl|assumption|(refine ad ?_ ?_)):RO ab c (⟨d,.call f args,none,[],[⟨p,.aW x,k⟩]⟩::l) s L H:=RO.G5 (h.mono λr H' h=>⟨λaa j=>by
 have:=gQ (re:=[]) j (m r) (n r) b hvs h.1 rfl;simp only[fh,ft,bm,Bool.and_true]at this;simp only[fh,Bool.and_true];split;·exact this
 rfl,h.2⟩) q e t g
theorem Sl.bS{H:af}{size n:Nat}{a:List AV}{v:AV}(h:Sl H size a n v):hZ v v=true:=by
 rcases h with⟨rfl,_⟩|⟨i,o,cap,ex,c,m,e,b,aK,fz,rfl,_⟩;·rfl
 simp[hZ,fM,ac.gT]
def j6(j:G.k6)(k:Nat):Nat:=if j.op=65∧k=0∨j.op=67∧k=1∨j.op=66∧j.bY.getD k 0=2 then 1 else 0
section
variable{g:G.bu}{j:G.k6}{H:af}{cs:List AV}
theorem Oh(T:Tb ab)(hj:sG H j cs){k:Nat}{K:AV→af→Prop}(h:∀H',bf H H'→K (aN (j6 j k)) H'):YF ab (.func V6 [] []) [.agg cs,aN k] H K:=by
 have i:=hj.one;obtain⟨l,m,n,rfl,f,e,g⟩:=hj;have⟨o,_,_,p⟩:=e.all;have⟨r,_,_,_⟩:=f.all;have⟨s,_,_,_⟩:=g.all;obtain⟨op,args,name,bY,t⟩:=j;refine YF.code T.aaH (by simp) ?_;refine ah ?_;refine RO.dS (ai.cW H) λH1 q U=>?_;have h:=h H1 U.gr;have one:(op=65∧k=0∨op=67∧k=1∨op=66∧bY.getD k 0=2)→K (aN 1) H1:=λh1=>by rw[j6,aH h1]at h;exact h
 have zero:¬(op=65∧k=0∨op=67∧k=1∨op=66∧bY.getD k 0=2)→K (aN 0) H1:=λh1=>by rw[j6,an h1]at h;exact h
 clear h;have U:ai H H1 [tB sH q [aU op,l,.aC name,m,n]]:=U;refine ah ?_;refine RO.cX (λb=>?_) (λb=>?_)
 ·subst b;refine ah ?_;refine Ru.cond (λh0=>?_) (λh0=>?_);·subst h0;refine ah ?_;exact Ru.aT (one (by simp))
  refine ah ?_;exact Ru.aT (zero (by simp[h0]))
 refine ah ?_;refine RO.cX (λc=>?_) (λc=>?_)
 ·subst c;refine ah ?_;refine Ru.cond (λh0=>?_) (λh0=>?_);·subst h0;refine ah ?_;exact Ru.aT (one (by simp))
  refine ah ?_;exact Ru.aT (zero (by simp[h0]))
 refine ah ?_;refine RO.cX (λd=>?_) (λd=>?_)
 ·subst d;refine ah ?_;refine RO.cX (λa=>?_) (λa=>?_)
  ·refine ah ?_;refine RO.jX U.gr e (λw o1 u v=>?_) (j:=k);refine ah ?_;refine Ru.cond (λh0=>?_) (λh0=>?_);·refine ah ?_;exact Ru.aT (one (by rw[bE a];exact .inr (.inr ⟨rfl,h0⟩)))
   refine ah ?_;exact Ru.aT (zero (by rw[bE a];simp[h0]))
  refine ah ?_;exact Ru.aT (zero (by rw[agY,List.getElem?_eq_none (Nat.le_of_not_lt a)];simp))
 refine ah ?_;exact Ru.aT (zero (by simp[b,c,d]))
inductive AE(j:G.k6):Nat→Nat→Prop
 |go(h:j.op=61):AE j 0 1
 |BZ(h:j.op=62):AE j 1 2
 |is(h:j.op=63):AE j 1 2
 |fS(h:j.op=65):AE j 1 2
 |zU(h:j.op=66)(hk:∀i(h:i<j.bY.length),1≤j.bY[i]∧j.bY[i]≤3∧(j.bY[i]=3→i+1=j.bY.length))(h1:1≤j.bY.length)(h4:j.bY.length≤4):AE j (mc j.bY) j.bY.length
 |B0(h:j.op=67):AE j 0 3
 |B3(h:j.op=68):AE j (max 1 j.args.length) 0
 |ret(h:j.op=69):AE j 1 0
 |rN(h:j.op=21):AE j 1 0
 |stuck(h:j.op=70):AE j 0 0
end
end
section
structure vX(g:G.bu)(j:G.k6)(k:Nat)(e:G.Edge):Prop where
 lo:1≤e.block
 hi:e.block≤(g.aj.length:Int) - 1
 oT:∀a∈e.args,0≤a∧a≤g.bi - 1
 tr:j.op=67→e.args=[]∧(k=2→(g.aj.getD e.block.toNat default).params.length≠0)
 aK:¬(j.op=67∧k=2)→(g.aj.getD e.block.toNat default).params.length=e.args.length+j6 j k
structure xQ(g:G.bu)(j:G.k6):Prop where
 ae:AE j j.args.length j.go.length
 oT:∀a∈j.args,0≤a∧a≤g.bi - 1
 bY:j.op≠66→j.bY=[]
 name:j.op=63↔j.name≠ []
 nm:j.name≠ []→rF j.name
 Er:∀k(h:k<j.go.length),vX g j k j.go[k]
theorem Oi:∀{l:List Nat},mc l≤3*l.length|[]=>by simp[mc]|k::l=>by have:=Oi (l:=l);simp only[mc,ahh];omega
section
variable{g:G.bu}{j:G.k6}{H:af}{cs cj:List AV}
abbrev Cb(a b:ac)(g:G.bu)(j:G.k6)(c d e f:AV):List Th:=[tB sH b [aU j.op,d,.aC j.name,e,f],tB fC a [.aC g.name,aI g.params,aI g.bi,c]]
theorem ac5(T:Tb ab)(hg:iD H g cs)(hj:sG H j cj)(hB:G.Sm g)(Y:0≤g.bi)(bv:g.bi≤6000)(Z:∀c∈j.name,c<256)(ax:∀c∈j.bY,c<256)(b0:j.args.length≤12∧j.bY.length≤12∧j.go.length≤12∧j.name.length≤60)(ay:∀e∈j.go,e.args.length≤12){K:AV→af→Prop}(h1:∀H',bf H H'→xQ g j→K (.bool true) H')(h2:∀H',bf H H'→K (.bool false) H'):YF ab (.func VN [] []) [.agg cs,.agg cj] H K:=by
 have ba:=hg.one;have bb:=hj.one;obtain⟨X,rfl,co⟩:=hg;obtain⟨I,J,L,rfl,A,B,C⟩:=hj;have⟨b3,_,_,b4⟩:=co.all;have⟨b5,_,_,b6⟩:=B.all;have⟨b',_,_,ca⟩:=A.all;have⟨cd,_,_,cf⟩:=C.all;have cn:=hB.nb;refine YF.code T.aan (by simp) ?_;refine Ru.seq ?_;refine Ru.region ?_;refine RO.dS (ai.cW H) λH1 N U=>?_;refine RO.dS U λH2 O U=>?_;have U:ai H H2 (Cb N O g j X I J L):=U;refine RO.bg ?_;refine RO.nil ?_;refine Ru.seq ?_;refine Ru.region ?_;refine RO.bg ?_;refine RO.bg ?_;refine RO.nil ?_;refine Ru.seq ?_;refine Ru.xP (P:=λM H'=>∃a e:Nat,M=[(p5,aN a),(p6,aN e),(p2,.aw N 0),(p3,.aw O 0)]∧AE j a e∧ai H H' (Cb N O g j X I J L)) (λM H3⟨a,e,w,ag,U⟩=>?_) (λs' d=>?_);rotate_left
 ·repeat'(first|refine qT ?_|(refine Ru.kh (λp=>?_) (λp=>?_)<;>rw[p]))
  all_goals first|exact Ru.aT (h2 _ U.gr)|exact d _ _ _ ⟨_,_,rfl,.go (of_decide_eq_true p),U⟩ (by repeat'(first|exact trivial|refine⟨rfl,?_⟩))|exact d _ _ _ ⟨_,_,rfl,.BZ (of_decide_eq_true p),U⟩ (by repeat'(first|exact trivial|refine⟨rfl,?_⟩))|exact d _ _ _ ⟨_,_,rfl,.is (of_decide_eq_true p),U⟩ (by repeat'(first|exact trivial|refine⟨rfl,?_⟩))|exact d _ _ _ ⟨_,_,rfl,.fS (of_decide_eq_true p),U⟩ (by repeat'(first|exact trivial|refine⟨rfl,?_⟩))|exact d _ _ _ ⟨_,_,rfl,.B0 (of_decide_eq_true p),U⟩ (by repeat'(first|exact trivial|refine⟨rfl,?_⟩))|exact d _ _ _ ⟨_,_,rfl,.ret (of_decide_eq_true p),U⟩ (by repeat'(first|exact trivial|refine⟨rfl,?_⟩))|exact d _ _ _ ⟨_,_,rfl,.rN (of_decide_eq_true p),U⟩ (by repeat'(first|exact trivial|refine⟨rfl,?_⟩))|exact d _ _ _ ⟨_,_,rfl,.stuck (of_decide_eq_true p),U⟩ (by repeat'(first|exact trivial|refine⟨rfl,?_⟩))|skip
  ·have a1:j.op=66:=of_decide_eq_true p;refine Ru.nm λS0 M hS w=>?_;refine Ru.cA w (up (P:=λi=>∀u,u+mc (j.bY.drop i)=mc j.bY→(∀x(h:x<j.bY.length),x<i→1≤j.bY[x]∧j.bY[x]≤3∧(j.bY[x]=3→x+1=j.bY.length))→Ru ab _ S0 ([(p7,aN i),(p5,aN u)]++pk M [p2,p3,p6]) H2) j.bY.length (λi hi y u n f=>?_) 0 (by omega) 0 (by simp) (λx _ P=>by omega));subst hS;subst w;have cp:=Oi (l:=j.bY);refine Ru.loop ?_;refine ah ?_;refine Ru.cond (λo=>?_) (λo=>?_)
   ·have cv:=ax _ (af0 o);have y:=y (i+1) (by omega) (by omega);rw[agR o]at n;simp only[mc]at n;have f:1≤j.bY[i]∧j.bY[i]≤3∧(j.bY[i]=3→i+1=j.bY.length)→∀x(h:x<j.bY.length),x<i+1→1≤j.bY[x]∧j.bY[x]≤3∧(j.bY[x]=3→x+1=j.bY.length):=λhb x P h=>by
     by_cases e:x=i;·subst e;exact hb
     exact f x P (by omega)
    refine ah ?_;refine RO.jX U.gr B (λq9 o9 a2 cx=>?_) (j:=i);generalize j.bY[i]=kd at*;refine ah ?_;refine RO.lu ?_;rw[pP (n:=.ofNat kd) (by rw[agL];omega) (by rw[agL];omega)];refine RO.cl (rI T (λs t=>?_) (λ_=>?_));rotate_left;·refine ah ?_;exact Ru.aT (h2 _ U.gr)
    have s:(1:Int)≤kd:=s;have t:(kd:Int)≤3:=t;have D:ir .sub 4 (.ofNat 3) (.ofNat kd)=some (aU (3 - kd)):=by
     have:kd=1∨kd=2∨kd=3:=by omega
     rcases this with rfl|rfl|rfl<;>rfl
    have ar:iq 3 (.ofNat (3 - kd))=.ofNat (3 - kd):=pP (by rw[agL];omega) (by rw[agL];omega);have av:(kd=3→i+1=j.bY.length)→_:=λhl=>y (u+(3 - kd)) (by omega) (f ⟨by omega,by omega,hl⟩);refine ah ?_;refine RO.cX (λz=>?_) (λz=>?_)
    ·refine ah ?_;refine RO.sub ?_ (a:=.ofNat j.bY.length) (b:=1) (h1:=by rw[agL];omega) (h2:=by rw[agL];omega);refine ah ?_;refine Ru.kh (λq=>?_) (λq=>?_);·refine ah ?_;exact Ru.aT (h2 _ U.gr)
     have hl:i+1=j.bY.length:=by have:¬ahI i<ahI j.bY.length - 1:=of_decide_eq_false q;simp only[agL]at this;omega
     refine ah ?_;refine RO.arith ?_ (hv:=D);refine RO.lu ?_;rw[ar];refine ah ?_;exact Ru.wk (av λ_=>hl)
    refine ah ?_;refine RO.arith ?_ (hv:=D);refine RO.lu ?_;rw[ar];refine ah ?_;exact Ru.wk (av λh=>absurd h z)
   refine Ru.exitTo ?_;refine ah ?_;refine RO.cl (rI T (λs t=>?_) (λ_=>?_))
   ·refine ah ?_;have s:(1:Int)≤j.bY.length:=s;have t:(j.bY.length:Int)≤4:=t;have e:u=mc j.bY:=by rw[List.drop_of_length_le (by omega)]at n;simpa[mc]using n
    subst e;exact d _ _ _ ⟨_,_,rfl,.zU a1 (λx P=>f x P (by omega)) (by omega) (by omega),U⟩ (by repeat'(first|exact trivial|refine⟨rfl,?_⟩))
   refine ah ?_;exact Ru.aT (h2 _ U.gr)
  refine RO.pF ?_ (r:=aN (max 1 j.args.length)) (hr:=?_);·refine ah ?_;exact d _ _ _ ⟨_,_,rfl,.B3 (of_decide_eq_true p),U⟩ (by repeat'(first|exact trivial|refine⟨rfl,?_⟩))
  show some (AV.int 3 (if ly (.ofNat 1) (.ofNat j.args.length)then .ofNat j.args.length else .ofNat 1))=_;rw[mO];by_cases e:1<j.args.length;·rw[decide_eq_true (by simp only[agL];omega),Nat.max_eq_right (by omega)];rfl
  rw[decide_eq_false (by simp only[agL];omega),Nat.max_eq_left (by omega)];rfl
 subst w;refine Ru.seq ?_;refine Ru.xP (P:=λM H'=>M=[(p2,.aw N 0),(p3,.aw O 0)]∧(a=j.args.length∧e=j.go.length)∧(∀a∈j.args,0≤a∧a≤g.bi - 1)∧(j.op≠66→j.bY=[])∧(j.op=63↔j.name≠ [])∧(j.name≠ []→rF j.name)∧ai H H' (Cb N O g j X I J L)) (λM H4⟨w,⟨f1,f2⟩,f3,f4,f5,f6,U⟩=>?_) (λs' d=>?_);rotate_left
 ·refine ah ?_;refine RO.cX (λs=>?_) (λs=>?_);·refine ah ?_;exact Ru.aT (h2 _ U.gr)
  refine ah ?_;refine RO.cX (λt=>?_) (λt=>?_);·refine ah ?_;exact Ru.aT (h2 _ U.gr)
  refine ah ?_;refine RO.cl (IF T (U.gr.sl A) (by omega) Y (by omega) (λz=>?_) ?_);rotate_left;·refine ah ?_;exact Ru.aT (h2 _ U.gr)
  refine ah ?_;refine RO.cX (λq=>?_) (λq=>?_)
  ·refine ah ?_;refine RO.cX (λW=>?_) (λW=>?_);·refine ah ?_;exact Ru.aT (h2 _ U.gr)
   have v:j.op≠66→j.bY=[]:=λ_=>ahp (by omega);refine ah ?_;refine RO.eq (t:=(decide (j.op=63))==(!jO j.name [])) ?_ (ht:=rfl);refine ah ?_;refine RO.pR (λl=>?_) (λl=>?_);·refine ah ?_;exact Ru.aT (h2 _ U.gr)
   have l:j.op=63↔j.name≠ []:=by rw[pA]at l;by_cases e1:j.op=63<;>by_cases e2:j.name=[]<;>simp[e1,e2]at l⊢
   refine ah ?_;refine RO.pR (λm=>?_) (λm=>?_)
   ·refine ah ?_;refine RO.cl (En T Z (by omega) (λr=>?_) ?_);·refine ah ?_;exact d _ _ _ ⟨rfl,⟨(by omega),(by omega)⟩,z,v,l,λ_=>r,U⟩ (by repeat'(first|exact trivial|refine⟨rfl,?_⟩))
    refine ah ?_;exact Ru.aT (h2 _ U.gr)
   refine ah ?_;have m:j.name=[]:=by rw[pA]at m;simpa using m
   exact d _ _ _ ⟨rfl,⟨(by omega),(by omega)⟩,z,v,l,λh=>absurd m h,U⟩ (by repeat'(first|exact trivial|refine⟨rfl,?_⟩))
  have v:j.op≠66→j.bY=[]:=λh=>absurd h q;refine ah ?_;refine RO.eq (t:=(decide (j.op=63))==(!jO j.name [])) ?_ (ht:=rfl);refine ah ?_;refine RO.pR (λl=>?_) (λl=>?_);·refine ah ?_;exact Ru.aT (h2 _ U.gr)
  have l:j.op=63↔j.name≠ []:=by rw[pA]at l;by_cases e1:j.op=63<;>by_cases e2:j.name=[]<;>simp[e1,e2]at l⊢
  refine ah ?_;refine RO.pR (λm=>?_) (λm=>?_)
  ·refine ah ?_;refine RO.cl (En T Z (by omega) (λr=>?_) ?_);·refine ah ?_;exact d _ _ _ ⟨rfl,⟨(by omega),(by omega)⟩,z,v,l,λ_=>r,U⟩ (by repeat'(first|exact trivial|refine⟨rfl,?_⟩))
   refine ah ?_;exact Ru.aT (h2 _ U.gr)
  refine ah ?_;have m:j.name=[]:=by rw[pA]at m;simpa using m
  exact d _ _ _ ⟨rfl,⟨(by omega),(by omega)⟩,z,v,l,λh=>absurd m h,U⟩ (by repeat'(first|exact trivial|refine⟨rfl,?_⟩))
 subst w;rw[f1,f2]at ag;refine ah ?_;refine Ru.nm λS0 M hS w=>?_;refine Ru.cA w (up (P:=λk=>∀HX,(∀x(h:x<j.go.length),x<k→vX g j x j.go[x])→ai H HX (Cb N O g j X I J L)→Ru ab _ S0 ([(p9,aN k)]++pk M [p2,p3]) HX) j.go.length (λk hk y HX f U=>?_) 0 (by omega) _ (λx _ P=>by omega) U);subst hS;subst w;refine Ru.loop ?_;refine ah ?_;refine Ru.cond (λo=>?_) (λo=>?_)
 ·have cy:=ay _ (af0 o);have y:=y (k+1) (by omega) (by omega);have f:vX g j k j.go[k]→∀x(h:x<j.go.length),x<k+1→vX g j x j.go[x]:=λhb x P h=>by
   by_cases e:x=k;·subst e;exact hb
   exact f x P (by omega)
  refine ah ?_;refine RO.cP U.gr C (λq9 o9 d1 a2 a6 cE hat hrd=>?_) (j:=k);generalize j.go[k]=e at*;obtain⟨ve,rfl,R⟩:=a6;have⟨c8,c9,c',dm⟩:=R.all;have hvs:=Sl.bS R;refine ah ?_;refine RO.fG U λH5 S U=>?_;have U:ai H H5 (tB xk S [aI e.block,ve]::Cb N O g j X I J L):=U;refine ah ?_;refine RO.sub ?_ (a:=.ofNat g.aj.length) (b:=1) (h1:=by rw[agL];omega) (h2:=by rw[agL];omega);refine RO.cl (rI T (λs t=>?_) (λ_=>?_));rotate_left;·refine ah ?_;exact Ru.aT (h2 _ U.gr)
  refine ah ?_;refine RO.cl (IF T (U.gr.sl R) (by omega) Y (by omega) (λz=>?_) ?_);rotate_left;·refine ah ?_;exact Ru.aT (h2 _ U.gr)
  have s:1≤e.block:=s;have t:e.block≤(g.aj.length:Int) - 1:=t;obtain⟨b,hb⟩:∃b:Nat,e.block=b:=⟨e.block.toNat,by omega⟩;rw[hb]at U;have E:b<g.aj.length:=by omega
  have F:g.aj.getD e.block.toNat default=g.aj[b]:=by rw[hb,agK,bE E]
  have V:(j.op=67→e.args=[]∧(k=2→g.aj[b].params.length≠0))→(¬(j.op=67∧k=2)→g.aj[b].params.length=e.args.length+j6 j k)→vX g j k e:=λbc bd=>⟨s,t,z,by rw[F];exact bc,by rw[F];exact bd⟩;refine ah ?_;refine RO.cP U.gr co (λq1 o1 c1 dr a8 ds hat hrd=>?_) (j:=b);have dv:=(hB.bl _ (af0 E)).1;obtain⟨vp,dx,jc,rfl,a',_⟩:=a8;have⟨dy,_,_,dz⟩:=a'.all;have d0:j6 j k≤1:=by unfold j6;split<;>omega
  refine ah ?_;refine RO.cX (λq=>?_) (λq=>?_)
  ·refine ah ?_;refine RO.cX (λW=>?_) (λW=>?_);·refine ah ?_;exact Ru.aT (h2 _ U.gr)
   have W:e.args=[]:=ahp (by omega);refine ah ?_;refine RO.cX (λl=>?_) (λl=>?_)
   ·refine ah ?_;refine RO.cX (λm=>?_) (λm=>?_);·refine ah ?_;exact Ru.aT (h2 _ U.gr)
    refine ah ?_;refine RO.cX (λr=>?_) (λr=>absurd q r);refine ah ?_;refine RO.pR (λQ=>by simp[l]at Q) (λ_=>?_);refine ah ?_;exact Ru.wk (y _ (f (V (λ_=>⟨W,λ_=>m⟩) λh=>absurd ⟨q,l⟩ h)) U.tail)
   refine ah ?_;refine RO.cX (λr=>?_) (λr=>absurd q r);refine ah ?_;refine RO.pR (λ_=>?_) (λQ=>by simp[l]at Q);refine ah ?_;refine RO.eG U 1 ?_;refine ah ?_;refine RO.Og (Oh T ⟨I,J,L,rfl,U.gr.sl A,U.gr.sl B,dH.Hd.jD U.gr C⟩ λH7 hg=>⟨?_,?_⟩) (hvs:=hvs) (v:=ve) (i:=S) (o:=1);·obtain⟨_,hp⟩:=(U.cV hg).get 0 rfl;exact tB.cell hp rfl
   have U:=U.cV hg;refine ah ?_;refine Ru.cond (λQ=>?_) (λQ=>?_);·refine ah ?_;exact Ru.aT (h2 _ U.gr)
   refine ah ?_;exact Ru.wk (y _ (f (V (λ_=>⟨W,λh=>absurd h l⟩) λ_=>by omega)) U.tail)
  refine ah ?_;refine RO.cX (λr=>absurd r q) (λr=>?_);refine ah ?_;refine RO.eG U 1 ?_;refine ah ?_;refine RO.Og (Oh T ⟨I,J,L,rfl,U.gr.sl A,U.gr.sl B,dH.Hd.jD U.gr C⟩ λH7 hg=>⟨?_,?_⟩) (hvs:=hvs) (v:=ve) (i:=S) (o:=1);·obtain⟨_,hp⟩:=(U.cV hg).get 0 rfl;exact tB.cell hp rfl
  have U:=U.cV hg;refine ah ?_;refine Ru.cond (λQ=>?_) (λQ=>?_);·refine ah ?_;exact Ru.aT (h2 _ U.gr)
  refine ah ?_;exact Ru.wk (y _ (f (V (λh=>absurd h q) λ_=>by omega)) U.tail)
 refine Ru.exitTo ?_;refine ah ?_;exact Ru.aT (h1 _ U.gr ⟨ag,f3,f4,f5,f6,λk h=>f k h (by omega)⟩)
end
end
section
abbrev bU:=Int×Nat
def iZ:List bU→List AV
 |[]=>[]
 |o::l=>aI o.1::aU o.2::iZ l
theorem Oj:∀{l:List bU}{k:Nat}(h:k<l.length),((iZ l).drop (k*2)).take 2=[aI l[k].1,aU l[k].2]|o::l,0,_=>rfl|o::l,k+1,h=>by have:=Oj (l:=l) (k:=k) (by simpa using h);grind[iZ]
theorem Ol:∀(a b:List bU),iZ (a++b)=iZ a++iZ b|[],b=>rfl|o::a,b=>by simp only[ahC,iZ,Ol a b]
theorem Om:∀(l:List bU)(b:Nat),(iZ l).take (b*2)=iZ (l.take b)|[],b=>by simp[iZ]|o::l,0=>by rfl|o::l,b+1=>by rw[show(b+1)*2=b*2+2 by omega];simp only[iZ,ah7,Om l b]
def OpA:af→bU→List AV→Prop:=λ_ o cs=>cs=[aI o.1,aU o.2]
abbrev lM(H:af)(l:List bU)(v:AV):Prop:=Sl H 2 (iZ l) l.length v
theorem lM.r{H:af}{l:List bU}{v:AV}(h:lM H l v):dL 2 OpA H l v:=⟨_,h,λk a=>Oj a⟩
structure Cc(g:G.bu)(l:List bU):Prop where
 ok:∀o∈l,0≤o.1∧o.1<g.aj.length∧(g.aj.getD o.1.toNat default).aq.go.length=3
def mD(g:G.bu)(o:bU):Int:=((g.aj.getD o.1.toNat default).aq.go.getD 2 default).block
structure xR(H:af)(xq:ac)(vb:AV)(os:List (List bU))(svs:List AV):Prop where
 lt:xq.al<H.next.al
 aF:bh H xq 3=some vb
 jG:∃ov,bh H xq 5=some ov∧Sl H 1 svs os.length ov
 len:svs.length=os.length
 bC:∀b(h:b<os.length),lM H os[b] (svs.getD b .bX)
theorem xR.cV{H H':af}{f:ac}{m:AV}{os:List (List bU)}{p:List AV}(h:xR H f m os p)(g:bf H H'):xR H' f m os p:=⟨ag6 h.lt g.nx,by rw[g.bh h.lt];exact h.aF,by obtain⟨a,h1,h2⟩:=h.jG;exact⟨a,by rw[g.bh h.lt];exact h1,g.sl h2⟩,h.len,λb hb=>g.sl (h.bC b hb)⟩
theorem RO.uF{c:Cx}{s:List SI}{L:Kn}{B H:af}{d:Option ac}{l:List aS}{a:List AV}{n j kd:Nat}{b:AV}{x y:aG}(hg:bf B H)(hs:Sl B 1 a n b)(h:∀q o,bh H q o=some (a.getD j .bX)→q.al<H.next.al→RO ab c l s (bA L d (.aw q o)) H)(e:aV L x=b:=by(conv=>lhs;whnf)<;>rfl)(g:aV L y=.int kd (.ofNat j):=by(conv=>lhs;whnf)<;>rfl)(hj:j<n:=by first|assumption|omega):RO ab c (⟨d,.dk 1 x y,none,[],[]⟩::l) s L H:=by have hs:=hg.sl hs;have hl:=hs.length;obtain⟨i,o,cap,ex,rfl,_,hi,hat,_⟩:=hs.at (by omega);refine RO.dk (h i (o+j*1) ?_ hi) e g hj;grind
section
variable{g:G.bu}{m:AV}{f:ac}{A H:af}{us:List Th}{os:List (List bU)}{p:List AV}
theorem On(T:Tb ab)(N:G.Sm g)(hb:dL 7 jW A g.aj m)(v:bf A H)(d:xR H f m os p){b:Nat}(i:b<os.length)(y:Cc g os[b])(C:os[b].length≤1000){K:AV→af→Prop}(c:K (match os[b].getLast? with|some o=>.tuple [aI (mD g o),.bool true]|none=>.tuple [.int 3 (.negSucc 0),.bool false]) H):YF ab (.func Wv [] []) [.aw f 0,aN b] H K:=by
 obtain⟨O,D,j⟩:=d.jG;have hs:=d.bC b i;have⟨E,_,_,F⟩:=hs.all;have I:=d.aF;refine YF.code T.abf (by simp) ?_;refine ah ?_;refine RO.uF (bf.refl H) j λq o hc _=>?_;refine ah ?_;refine Ru.cond (λ(h:os[b].length=0)=>?_) (λ(h:¬os[b].length=0)=>?_);·have e:os[b]=[]:=ahp h;rw[e]at c;refine ah ?_;exact Ru.sB c
 obtain⟨o,w⟩:∃o,os[b].getLast?=some o:=by cases h2:os[b].getLast? with|none=>rw[List.getLast?_eq_none_iff]at h2;rw[h2]at h;simp at h|some o=>exact⟨o,rfl⟩
 rw[w]at c;have a:os[b][os[b].length - 1]?=some o:=by rw[←List.getLast?_eq_getElem?];exact w
 obtain⟨P,a⟩:=ahv.1 a;obtain⟨h1,h2,h3⟩:=y.ok o (by rw[←a];exact af0 _);obtain⟨t,x⟩:∃t:Nat,o.1=(t:Int):=⟨o.1.toNat,by omega⟩;simp only[mD,x,agK]at h3 c;have k:t<g.aj.length:=by omega
 rw[bE k]at h3 c;refine ah ?_;refine RO.arith (v:=aN (os[b].length - 1)) ?_ (hv:=nU (by omega) (by omega));refine ah ?_;refine RO.cP (bf.refl H) (lM.r hs) (λQ o1 c1 J l _ hat _=>?_);subst l;rw[a,x]at hat;refine ah ?_;refine RO.cP v hb (λz o2 c2 L n _ hat _=>?_);obtain⟨R,S,V,rfl,_,_,W,X,B,rfl,_,_,s⟩:=n;refine ah ?_;refine RO.aW (i:=z) (o:=o2+2+4) (v:=B) ?_ (hc:=hat 6 _ rfl);refine RO.cP v s (λY o3 c3 M u _ hat _=>?_) (hj:=by omega);obtain⟨v3,rfl,_⟩:=u;refine ah ?_;refine Ru.sB ?_;rw[bE (by omega)]at c;exact c
def cI(g:G.bu)(b:Nat)(a:List bU):List (Int×List bU):=
 let j:=(g.aj.getD b default).aq
 if j.op=67 then[((j.go.getD 0 default).block,a++[((b:Int),0)]),((j.go.getD 1 default).block,a++[((b:Int),1)])]
 else if j.op=68 then(match a.getLast? with|some o=>[(mD g o,a.take (a.length - 1))]|none=>[])
 else j.go.map λe=>(e.block,a)
def II(W:List (Int×List bU))(a:List bU)(nv:AV)(k:Nat)(args:List AV)(b:List Th):Prop:=
 ∃(h:k<W.length)(v:AV),args=[aI W[k].1,v]∧v.bB=true∧v.dQ=true∧v.cells=[v]∧((b=[]∧∀H,lM H a nv→lM H W[k].2 v)∨b=[tS Hg 2 (iZ W[k].2) W[k].2.length true v])
structure IJ(g:G.bu)(b:Nat):Prop where
 lt:b<g.aj.length
 tri:(g.aj.getD b default).aq.op=67→(g.aj.getD b default).aq.go.length=3
theorem Oo(T:Tb ab){b:Nat}{K:AV→af→Prop}(d:∀H' a c,ai H H' [tB 3 c [aN b],tB l7 a [.aw f 0]]→K (.func D1 [] [.aw a 0,.aw c 0]) H'):YF ab (.func Wj [] []) [.aw f 0,aN b] H K:=by refine YF.code T.aaW (by simp) ?_;refine au ?_;refine RO.dS (ai.cW H) λH1 a U=>?_;refine RO.dS U λe c U=>?_;refine au ?_;exact Ru.aT (d _ a c U)
end
end
section
def vY(v:AV)(n:Nat):AV:=match v with|.slice i o _ _ _=>.slice i o n n true|v=>v
theorem ac7(T:Tb ab){B H:af}{size n:Nat}{e:List AV}{v:AV}(hs:Sl B size e n v):YF ab (.func Wx [] []) [v] H λf H'=>f=vY v n∧H'=H:=by
 have⟨hd,_,_,h⟩:=hs.all;refine YF.code T.abi (by simp) ?_;refine au ?_;rcases hs with⟨rfl,rfl,rfl⟩|⟨i,o,cap,ex,j,m,k,g,aK,fz,rfl,hg,l,hl,p,hi,b⟩;·refine RO.Bo (m:=0) (b:=0) (a:=0) rfl rfl rfl rfl ?_;refine au ?_;exact Ru.aT ⟨rfl,rfl⟩
 refine RO.G7 (m:=n) (b:=n) (a:=0) (v:=.slice i o n n true) rfl (by show nJ (aN n) cap=_;exact sF b) (by show nJ (aN n) n=_;exact sF (adW n)) rfl (by simp) (by simp) ?_;refine au ?_;exact Ru.aT ⟨rfl,rfl⟩
theorem IK{H:af}{size n:Nat}{b:List AV}{v:AV}(hs:Sl H size b n v):(vY v n=.aP∧b=[]∧n=0)∨∃i o,vY v n=.slice i o n n true∧Sl H size b n (vY v n):=by
 rcases hs with⟨rfl,rfl,rfl⟩|⟨i,o,cap,ex,g,m,h,e,aK,fz,rfl,hg,j,hl,k,hi,f⟩;·exact .inl ⟨rfl,rfl,rfl⟩
 exact .inr ⟨i,o,rfl,.inr ⟨i,o,n,true,g,m,h,e,aK,fz,rfl,hg,j,hl,k,hi,adW n⟩⟩
section
variable{g:G.bu}{d:AV}{a:ac}{A H:af}{us:List Th}{os:List (List bU)}{c:List AV}
theorem Oq(T:Tb ab)(hB:G.Sm g)(hb:dL 7 jW A g.aj d){b:Nat}{now:List bU}{nv:AV}{P I:ac}(hE:IJ g b)(hO:Cc g now)(a6:now.length≤1000):zW ab A (.func D1 [] [.aw P 0,.aw I 0]) (cI g b now).length (II (cI g b now) now nv) [tB 3 I [aN b],tB l7 P [.aw a 0]] (λH=>∃os c,xR H a d os c∧∃h:b<os.length,os[b]=now∧c.getD b .bX=nv) (λH=>lM H now nv):=by
 intro y J D m us H K c9 c' dm V j s U hR f;obtain⟨os,c,Q,W,ax,X⟩:=hR;subst ax;have hA:=U.gr;obtain⟨ov,a8,L⟩:=Q.jG;have hs:=Q.bC b W;rw[X]at hs;have⟨a',_,_,dr⟩:=L.all;have⟨Y,ba,bb,ds⟩:=hs.all;have⟨dv,dx,_,dy⟩:=hb.all;have dz:=Q.aF;have bc:bh H P 0=some (.aw a 0):=by obtain⟨_,p⟩:=U.get 1 rfl;exact tB.cell p rfl
 have bd:bh H I 0=some (aN b):=by obtain⟨_,p⟩:=U.get 0 rfl;exact tB.cell p rfl
 have bv:P.al<H.next.al:=by obtain⟨_,p⟩:=U.get 1 rfl;obtain⟨_,_,_,_,_,h⟩:=p;exact h
 have b0:I.al<H.next.al:=by obtain⟨_,p⟩:=U.get 0 rfl;obtain⟨_,_,_,_,_,h⟩:=p;exact h
 obtain⟨x,E⟩:=hE;rw[bE x]at E;refine YF.code T.abh (by simp) ?_;refine ah ?_;refine RO.cP hA hb (λq3 o3 c3 d0 Z _ hat hrd=>?_);have c8:=Z.one;obtain⟨vp,vs,jc,rfl,_,_,hj⟩:=Z;have d1:=hj.one;obtain⟨va,vk,vg,rfl,d2,d3,t⟩:=hj;have⟨ag,_,_,d4⟩:=t.all;refine ah ?_;refine RO.fZ ?_ (hc:=Iz (k:=2) (m:=5) hrd (by decide));refine ah ?_;refine RO.uF (bf.refl H) L λq4 o4 ar b3=>?_;rw[X]at ar;refine ah ?_;refine RO.gk (ai.cW H) λH1 q5 hl=>?_;refine RO.IA hl 0 (λH2 hl=>⟨λaa i=>?_,?_⟩);·have hg:=hl.gr;refine gQ i rfl rfl Y hs.bS (by rw[hg.bh b3];exact ar) (gQ (v:=aN b) i rfl rfl rfl (by simp[hZ,fM,fA]) (by rw[hg.bh b0];exact bd) (gQ i rfl rfl a' L.bS (by rw[hg.bh Q.lt];exact a8) (gQ (v:=.aw a 0) i rfl rfl rfl (by simp[hZ,fM,ac.gT]) (by rw[hg.bh bv];exact bc) rfl)))
 have b4:=hl.gr;have U:=U.fF hl;refine ah ?_;have B:(g.aj.getD b default).aq=(g.aj[b]).aq:=by rw[bE x]
 refine Ru.cond (λ(q:(g.aj[b]).aq.op=67)=>?_) (λ(q:¬(g.aj[b]).aq.op=67)=>?_)
 ·have h3:=E q;have b5:∀k(h:k<2),∃h':k<(cI g b os[b]).length,(cI g b os[b])[k]=(((g.aj[b]).aq.go[k]'(by omega)).block,os[b]++[((b:Int),k)]):=λk h=>by
   have n:cI g b os[b]=[(((g.aj[b]).aq.go[0]'(by omega)).block,os[b]++[((b:Int),0)]),(((g.aj[b]).aq.go[1]'(by omega)).block,os[b]++[((b:Int),1)])]:=by simp only[cI,B,aH q];rw[bE (by omega),bE (by omega)]
   refine⟨by rw[n];simpa using h,?_⟩;simp only[n];match k,h with|0,_=>rfl|1,_=>rfl
  have b6:(cI g b os[b]).length=2:=by simp only[cI,B,aH q];rfl
  refine ah ?_;refine RO.kZ U 1 (λH3 q6 U=>?_);refine ah ?_;refine Ru.nm λS M hS R=>?_;refine Ru.cA R (up (P:=λk=>∀C m,J k m→ai A C (tS 5 1 [aU 0,aU 1] 2 true (.slice q6 0 2 2 true)::tB sH q5 _::([tB 3 I [aN b],tB l7 P [.aw a 0]]++m++us))→Ru ab _ S ([(dD,aN k)]++pk M [p0,p2,p4,p5,dh,cK]) C) 2 (λk hk ih C m s U=>?_) 0 (by omega) _ m s U);subst hS;subst R;refine Ru.loop ?_;refine au ?_;refine Ru.cond (λ(r:k<2)=>?_) (λ(r:¬k<2)=>?_)
  ·obtain⟨u,av⟩:=b5 k r;have d5:=V k m _ C s (ai.gC (xs:=[_,_,_,_]) U);refine ah ?_;refine RO.eH U 0 ?_ (v:=aU k) (hv:=by match k,r with|0,_=>rfl|1,_=>rfl);refine ah ?_;refine RO.ID U.gr t (λq8 o8 ea d6 he _ z=>?_) (hj:=by omega);obtain⟨v8,rfl,_⟩:=he;refine ah ?_;refine RO.aW ?_ (hc:=z 0 _ rfl U.gr);refine ah ?_;refine RO.kZ U 2 (ws:=[aN b,aU k]) (λH4 q9 U=>?_);refine RO.IB (v:=vY nv os[b].length) (λH0 _ _=>ac7 T hs) (λHU O b'=>?_);have U:=U.bS b' O;have ca:=V k m _ HU s (ai.gC (xs:=[_,_,_,_,_]) U);have ay:bh HU I 0=some (aN b):=by obtain⟨_,p⟩:=U.get 3 rfl;exact tB.cell p rfl
   have a1:bh HU q5 4=some vg:=by obtain⟨_,p⟩:=U.get 2 rfl;exact tB.cell p rfl
   refine⟨λaa i=>gQ (v:=aN b) i rfl rfl rfl (by simp[hZ,fM,fA]) ay (gQ (v:=aI ((g.aj[b]).aq.go[k]'(by omega)).block) i rfl rfl rfl (by simp[hZ,fM,fA]) (z 0 _ rfl U.gr) (gQ i rfl rfl ag (t.bS) a1 rfl)),?_⟩;refine RO.IC U (IK ca) (U.sl 0) (λH5 v5 _ U=>?_);have a2:bh H5 q5 4=some vg:=by obtain⟨_,p⟩:=U.get 3 rfl;exact tB.cell p rfl
   refine⟨λaa i=>gQ (v:=aI ((g.aj[b]).aq.go[k]'(by omega)).block) i rfl rfl rfl (by simp[hZ,fM,fA]) (z 0 _ rfl U.gr) (gQ i rfl rfl ag (t.bS) a2 rfl),?_⟩;have cd:Sl H5 2 (iZ os[b]++[aN b,aU k]) (os[b].length+1) v5:=U.sl 0;have⟨cf,cn,cp,_⟩:=cd.all;have e5:iZ (os[b]++[((b:Int),k)])=iZ os[b]++[aN b,aU k]:=Ol _ _;have e6:(os[b]++[((b:Int),k)]).length=os[b].length+1:=by simp
   rw[←e5,←e6]at U;refine ah ?_;refine RO.cl ((j k [aI ((g.aj[b]).aq.go[k]'(by omega)).block,v5] [_] m _ _ u ⟨u,v5,by rw[av],cf,cn,cp,.inr (by rw[av])⟩ s (U.cO (ahq _ (uE (xs:=[_,_,_,_,_]))))).mono ?_);rintro v H3⟨w,U,hc⟩;rcases hc with⟨rfl,h⟩|⟨rfl,h⟩;·refine ah ?_;exact Ru.wk (ih (k+1) (by omega) (by omega) _ _ h (ai.lE (xs:=[_,_,_,_,_]) U).tail)
   refine ah ?_;exact Ru.nS (vs:=[]) trivial (f _ w _ (by rw[←agJ]at U;exact U.skip) (.inr h))
  refine Ru.exitTo ?_;refine ah ?_;refine Ru.aq (vs:=[]) trivial (f _ m _ U.tail.tail.tail.tail (.inl ?_));rw[b6,show 2=k by omega];exact s
 refine ah ?_;refine Ru.cond (λ(N:(g.aj[b]).aq.op=68)=>?_) (λ(N:¬(g.aj[b]).aq.op=68)=>?_)
 ·have n:cI g b os[b]=match os[b].getLast? with|some o=>[(mD g o,os[b].take (os[b].length - 1))]|none=>[]:=by simp only[cI,B,an q,aH N]<;>rfl
  refine ah ?_;refine RO.cl (On T hB hb U.gr (Q.cV b4) W hO a6 ?_);cases l:os[b].getLast? with
  |none=>rw[l]at n;simp only at n;rw[n]at f;refine ah ?_;exact Ru.aq (vs:=[]) trivial (f _ _ _ U.tail.tail.tail (.inl s))
  |some o=>
   rw[l]at n;simp only at n;obtain⟨hx,_⟩:0<os[b].length∧True:=⟨by cases hh:os[b]with|nil=>rw[hh]at l;simp at l|cons _ _=>simp,trivial⟩;refine ah ?_;refine RO.arith (v:=aN (os[b].length - 1)) ?_ (hv:=nU (by omega) (by omega));refine RO.n8 hs (b:=os[b].length - 1) ?_;have F:∀H',lM H' os[b] nv→lM H' (os[b].take (os[b].length - 1)) (n8 nv (os[b].length - 1)):=λH' h=>by
    have e:(os[b].take (os[b].length - 1)).length=os[b].length - 1:=by rw[ahl];omega
    show Sl H' 2 (iZ _) _ _;rw[e,←Om];exact B6 h (by omega)
   have⟨cv,cx,cy,_⟩:=(F _ hs).all;rw[n]at j f;refine RO.cl ((j 0 [aI (mD g o),n8 nv (os[b].length - 1)] [] m _ _ (by simp) ⟨by simp,_,rfl,cv,cx,cy,.inl ⟨rfl,F⟩⟩ s (ai.gC (xs:=[_,_,_]) U)).mono ?_);rintro v H3⟨w,U,hc⟩;refine ah ?_;refine Ru.aq (vs:=[]) trivial (f _ w _ (by rw[←agJ]at U;exact U.skip) ?_);rcases hc with⟨_,h⟩|⟨_,h⟩;·exact .inl h
   exact .inr h
 have n:cI g b os[b]=(g.aj[b]).aq.go.map λe=>(e.block,os[b]):=by simp only[cI,B,an q,an N]
 have d7:=hB.bl _ (af0 x);refine ah ?_;refine Ru.nm λS M hS R=>?_;refine Ru.cA R (up (P:=λk=>∀C m,J k m→ai A C (tB sH q5 _::([tB 3 I [aN b],tB l7 P [.aw a 0]]++m++us))→Ru ab _ S ([(cD,aN k)]++pk M [p0,p5,cQ,cR]) C) (g.aj[b]).aq.go.length (λk hk ih C m s U=>?_) 0 (by omega) _ m s U);subst hS;subst R;refine Ru.loop ?_;refine au ?_;refine Ru.cond (λr=>?_) (λr=>?_)
 ·refine au ?_;refine RO.cP U.gr t λq6 o6 c6 d' he _ hat hrd=>?_;have cE:=he.one;obtain⟨v6,rfl,_⟩:=he;refine ah ?_;refine RO.fG U λH5 q7 U=>?_;refine ah ?_;have u:k<(cI g b os[b]).length:=by rw[n,agZ];exact r
  refine RO.cl ((j k [aI ((g.aj[b]).aq.go[k]).block,nv] [] m _ _ u ⟨u,nv,by simp only[n,aht],Y,ba,bb,.inl ⟨rfl,λH' h=>by simp only[n,aht];exact h⟩⟩ s (ai.gC (xs:=[_,_,_,_]) U)).mono ?_);rintro v H3⟨w,U,hc⟩;rcases hc with⟨rfl,h⟩|⟨rfl,h⟩;·refine ah ?_;exact Ru.wk (ih (k+1) (by omega) (by omega) _ _ h (ai.lE (xs:=[_,_,_,_]) U).tail)
  refine ah ?_;exact Ru.nS (vs:=[]) trivial (f _ w _ (by rw[←agJ]at U;exact U.skip) (.inr h))
 refine Ru.exitTo ?_;refine ah ?_;refine Ru.aq (vs:=[]) trivial (f _ m _ U.tail.tail.tail (.inl ?_));rw[n,agZ,show(g.aj[b]).aq.go.length=k by omega];exact s
end
end
theorem ac8(x:Int)(s:Nat):dZ 64 (.eW [(0,1,false,.int),(1,1,false,.int)]) (.agg [aI x,aU s]) (.agg [aI x,aU s])=some true:=by simp[dZ,dZ.go,tu,fA]
theorem ac9(T:Tb ab){H:af}{l:List bU}{v w:AV}(d:lM H l v)(e:lM H l w)(hl:l.length≤1000){K:AV→af→Prop}(g:K (.bool true) H):YF ab (.func Nq [] []) [v,w] H K:=by
 have⟨hd,_,_,o⟩:=d.all;have⟨m,_,_,n⟩:=e.all;refine YF.code T.abc (by simp) ?_;refine au ?_;refine Ru.cond (λh=>absurd rfl h) (λ_=>?_);refine au ?_;refine Ru.nm λS M i f=>?_;refine Ru.cA f (up (P:=λk=>Ru ab _ S ([(aX,aN k)]++pk M [p0,p1,aQ,aZ]) H) l.length (λk p j=>?_) 0 (by omega));subst i;subst f;refine Ru.loop ?_;refine au ?_;refine Ru.cond (λa=>?_) (λa=>?_);·refine au ?_;refine RO.cP (bf.refl H) (lM.r d) λq o1 c1 _ b _ hat hrd=>?_;subst b;refine ah ?_;refine RO.cP (bf.refl H) (lM.r e) λs o2 c2 _ c _ hat hrd=>?_;subst c;refine ah ?_;refine RO.eq (t:=true) ?_ (ht:=ac8 _ _);refine ah ?_;exact Ru.wk (j (k+1) (by omega) (by omega))
 refine Ru.exitTo ?_;refine au ?_;exact Ru.aT g
inductive kP(g:G.bu):Nat→List bU→Prop
 |zero:kP g 0 []
 |step{b:Nat}{o:List bU}{w:Int×List bU}(h:kP g b o)(hw:w∈cI g b o):kP g w.1.toNat w.2
structure iO(g:G.bu):Prop where
 Es:∀{b o o'},kP g b o→kP g b o'→o=o'
 Cd:∀{b o},kP g b o→∀w∈cI g b o,0≤w.1∧w.1<g.aj.length
 aF:∀{b o},kP g b o→IJ g b
 jG:∀{b o},kP g b o→Cc g o∧o.length≤900
def kQ(a:List Bool):Nat:=(a.filter λb=>!b).length
theorem vZ{come:List Bool}{k:Nat}(b:k<come.length)(h:come.getD k false=false):kQ (come.set k true)+1=kQ come:=by unfold kQ;induction come generalizing k with|nil=>simp at b|cons a l c=>cases k with|zero=>simp only[List.getD_cons_zero]at h;subst h;simp|succ k=>have:=c (k:=k) (by simpa using b) (by simpa using h);cases a<;>simp<;>omega
structure lm(g:G.bu)(n:Nat)(F:List Th)(come:List Bool)(os:List (List bU))(svs:List AV)(todo:List Nat)(now:Option Nat):Prop where
 cl:come.length=n
 ol:os.length=n
 sl:svs.length=n
 c0:come.getD 0 false=true
 dP:∀b,come.getD b false=true→kP g b (os.getD b [])
 td:∀b∈todo,come.getD b false=true
 fz:∀b,come.getD b false=true→tR 2 (iZ (os.getD b [])) (os.getD b []).length (svs.getD b .bX)∈F
 nz:∀b,b<n→come.getD b false=false→os.getD b []=[]∧svs.getD b .bX=.aP
 dn:∀b,come.getD b false=true→b∈todo∨now=some b∨∀w∈cI g b (os.getD b []),come.getD w.1.toNat false=true
theorem Et{b:Type}{l:List b}{k:Nat}{d v:b}(h:l.getD k d=v)(a:d≠v):k<l.length:=by
 rcases ahz k l.length with h1|h1;·exact h1
 rw[agY,List.getElem?_eq_none h1]at h;exact absurd h a
theorem e9{a:Type}{l:List a}{k j:Nat}{d v:a}(b:k<l.length):(l.set k v).getD j d=if j=k then v else l.getD j d:=by
 simp only[agY,List.getElem?_set];by_cases h:k=j;·subst h;simp[b]
 rw[an h,an λe=>h e.symm]
theorem lm.new{g:G.bu}{n:Nat}{F:List Th}{a:List Bool}{os:List (List bU)}{c:List AV}{d:List Nat}{f:Option Nat}(h:lm g n F a os c d f){k:Nat}(C:k<n)(p:a.getD k false=false){o:List bU}(hl:kP g k o){v:AV}{l:List Th}(q:∀t∈F,t∈l)(r:tR 2 (iZ o) o.length v∈l):lm g n l (a.set k true) (os.set k o) (c.set k v) (d++[k]) f:=by
 obtain⟨h1,h2,h3,s,u,x,y,z,A⟩:=h;have e1:∀j,(a.set k true).getD j false=if j=k then true else a.getD j false:=λj=>e9 (by omega);have e2:∀j,(os.set k o).getD j []=if j=k then o else os.getD j []:=λj=>e9 (by omega);have m:∀j,(c.set k v).getD j .bX=if j=k then v else c.getD j .bX:=λj=>e9 (by omega);have D:∀j,a.getD j false=true→j≠k:=λj hj e=>by rw[e,p]at hj;cases hj
 refine⟨by simpa using h1,by simpa using h2,by simpa using h3,?_,λb hb=>?_,λb hb=>?_,λb hb=>?_,λb hb i=>?_,λb hb=>?_⟩
 ·rw[e1];split;·rfl
  exact s
 ·rw[e1]at hb;rw[e2];split;·rename_i e;rw[e];exact hl
  rename_i e;rw[an e]at hb;exact u b hb
 ·rw[e1];rcases agI.1 hb with hb|hb
  ·split;·rfl
   exact x b hb
  rw[ac3]at hb;rw[aH hb]
 ·rw[e1]at hb;rw[e2,m];split;·exact r
  rename_i e;rw[an e]at hb;exact q _ (y b hb)
 ·rw[e1]at i;split at i;·cases i
  rename_i e;rw[e2,m,an e,an e];exact z b hb i
 rw[e1]at hb;split at hb;·rename_i e;left;rw[e];simp
 rename_i e;rw[e2,an e];rcases A b hb with h|h|h;·exact .inl (agU _ h)
 ·exact .inr (.inl h)
 refine .inr (.inr λw B=>?_);rw[e1];split;·rfl
 exact h w B
section
theorem ada{b w:List bU}{nv v:AV}(j:∀H,lM H b nv→lM H w v){H:af}{f:List ac}(I:(tR 2 (iZ b) b.length nv).P H f):(tR 2 (iZ w) w.length v).P H f:=by
 obtain⟨h1,h2,h3⟩:=I;refine⟨j H h1,λi o m c e E=>?_,h3⟩;apply ahe;intro hi;have G:lM (H.set i .none) b nv:=by
  rcases h1 with I|⟨n,u,cap,ex,x,A,C,k,aK,fz,g,l,D⟩;·exact .inl I
  have t:n≠i:=λe=>hi (e▸h2 _ _ _ _ _ g);exact .inr ⟨n,u,cap,ex,x,A,C,k,aK,fz,g,by rw[af.aD,an t];exact l,D⟩
 have g:=j _ G;subst E;rcases g with⟨I,_⟩|⟨n,u,cap,ex,x,A,C,k,aK,fz,g,l,D⟩;·cases I
 injection g with g;subst g;rw[af.aD,aH rfl]at l;cases l
section
variable{g:G.bu}{p s:AV}{h y z r q:ac}{n:Nat}{A H:af}{us F:List Th}{come:List Bool}{os:List (List bU)}{a:List AV}{d:List Nat}{B:Option Nat}
def IL(g:G.bu)(p:AV)(h r q:ac)(n:Nat)(come:List Bool)(a:List AV)(F:List Th):List Th:=[tB Vf h [.aC g.name,aI g.params,aI g.bi,p,.slice r 0 n n true,.slice q 0 n n true,.bool false],tS Hh 1 a n true (.slice q 0 n n true),tS 4 1 (come.map .bool) n true (.slice r 0 n n true),tZ F]
def uG(g:G.bu)(p:AV)(z y h r q:ac)(n:Nat)(come:List Bool)(a:List AV)(d:List Nat)(s:AV)(F:List Th):List Th:=tB gp z [s]::tU 3 (d.map aN) s::tB l7 y [.aw h 0]::IL g p h r q n come a F
theorem adb(U:ai A H (uG g p z y h r q n come a d s F++us))(c:lm g n F come os a d B):xR H h p os a:=by
 have j:bh H h 3=some p:=by obtain⟨_,i⟩:=U.get 3 rfl;exact tB.cell i rfl
 have k:bh H h 5=some (.slice q 0 n n true):=by obtain⟨_,i⟩:=U.get 3 rfl;exact tB.cell i rfl
 have l:h.al<H.next.al:=by obtain⟨_,i⟩:=U.get 3 rfl;obtain⟨_,_,_,_,_,t⟩:=i;exact t
 refine⟨l,j,⟨_,k,by rw[c.ol];exact U.sl 4⟩,by rw[c.sl,c.ol],λb hb=>?_⟩;have m:b<n:=by rw[←c.ol];exact hb
 have e:os.getD b []=os[b]:=bE hb _;cases o:come.getD b false with|true=>obtain⟨f,t,_⟩:=U.mC 6 rfl (c.fz b o);rw[e]at t;exact t|false=>obtain⟨h1,h2⟩:=c.nz b m o;rw[e]at h1;rw[h1,h2];exact .inl ⟨rfl,rfl,rfl⟩
def IM(g:G.bu)(p:AV)(z y h r q:ac)(n:Nat)(b:Nat)(c:List bU)(nv:AV)(m k:Nat)(e:List Th):Prop:=
 ∃come os a d s F,e=uG g p z y h r q n come a d s F∧lm g n F come os a d (some b)∧come.getD b false=true∧os.getD b []=c∧a.getD b .bX=nv∧d.length+kQ come=m∧∀w∈(cI g b c).take k,come.getD w.1.toNat false=true
theorem lm.pop{b:Nat}(m:lm g n F come os a (b::d) none):lm g n F come os a d (some b):=by
 obtain⟨h1,h2,h3,e,f,i,j,k,l⟩:=m;refine⟨h1,h2,h3,e,f,λx c=>i x (adD _ c),j,k,λx c=>?_⟩;rcases l x c with m|m|m
 ·rcases adC.1 m with rfl|m;·exact .inr (.inl rfl)
  exact .inl m
 ·cases m
 exact .inr (.inr m)
theorem lm.done{b:Nat}(o:lm g n F come os a d (some b))(c:∀w∈cI g b (os.getD b []),come.getD w.1.toNat false=true):lm g n F come os a d none:=by
 obtain⟨h1,h2,h3,e,f,i,j,k,l⟩:=o;refine⟨h1,h2,h3,e,f,i,j,k,λx m=>?_⟩;rcases l x m with o|o|o;·exact .inl o
 ·injection o with o;subst o;exact .inr (.inr c)
 exact .inr (.inr o)
theorem lm.IN{F':List Th}(m:lm g n F come os a d B)(c:∀t∈F,t∈F'):lm g n F' come os a d B:=by obtain⟨h1,h2,h3,e,f,i,j,k,l⟩:=m;exact⟨h1,h2,h3,e,f,i,λb hb=>c _ (j b hb),k,l⟩
theorem ade{b k:Nat}{c:List bU}{nv:AV}{args:List AV}{i:List Th}(l:lm g n F come os a d (some b))(hb:come.getD b false=true)(m:os.getD b []=c)(o:a.getD b .bX=nv)(t:II (cI g b c) c nv k args i)(U:ai A H (i++uG g p z y h r q n come a d s F++us)):∃(I:k<(cI g b c).length)(v:AV),args=[aI (cI g b c)[k].1,v]∧v.bB=true∧v.dQ=true∧v.cells=[v]∧ai A H (uG g p z y h r q n come a d s (tR 2 (iZ (cI g b c)[k].2) (cI g b c)[k].2.length v::F)++us):=by
 obtain⟨u,v,w,h1,h2,h3,x⟩:=t;refine⟨u,v,w,h1,h2,h3,?_⟩;rcases x with⟨rfl,e⟩|rfl;·have j:=l.fz b hb;rw[m,o]at j;have hl:=(U.fO 6 rfl).N6 j (t':=tR 2 (iZ (cI g b c)[k].2) (cI g b c)[k].2.length v) λf I=>ada e I;exact hl.cO (ag1 (l₁:=[_,_,_,_,_,_])).symm
 have C:=U.as 0 rfl λG D=>tS.lL D;have E:ai A H (_::tZ F::([tB gp z [s],tU 3 (d.map aN) s,tB l7 y [.aw h 0],_,_,_]++us)):=C.cO (ahq _ (ag1 (l₁:=[_,_,_,_,_,_])));exact E.lJ.cO (ag1 (l₁:=[_,_,_,_,_,_])).symm
def Ot:bp:=(.seq (.region [O p6 (.bg (T bZ))]) (.region [O p7 (.bg (T dc))]))
def Ou:bp:=(.block 3 (.block 4 (.seq (.region [O di (.aW (T p3)),O du (.nilCheck (T di)),O dg (.jM 4 (T du)),O cS (.aW (T dg)),O de (.bg (T p6)),O dw (.dk 1 (T cS) (T de)),O dC (.aW (T dw)),O dh (.unary .not (T dC)),O db (.bg (T dh))]) (.cond (T db) (.seq (.region [O cK (.aW (T p3)),O dD (.nilCheck (T cK)),O dN (.jM 4 (T dD)),O dT (.aW (T dN)),O ey (.bg (T p6)),O dp (.aW (T p3)),O cU (.nilCheck (T dp)),O dX (.jM 5 (T cU)),O eC (.aW (T dX)),O dU (.bg (T p6)),O eP (.bg (T p7)),O dY (.dk 1 (T dT) (T ey)),N (.store 1 (T dY) (C (.bool true))),O ef (.dk 1 (T eC) (T dU)),N (.store 1 (T ef) (T eP))]) (.region [O eQ (.aW (T p4)),O eg (.bg (T p6)),O eD (.buildSlice 3 1 [(i 3 0)] [(0,1,(T eg))]),O ff (.append 3 8 1 [(i 3 0)] false (T eQ) (T eD)),N (.store 1 (T p4) (T ff))])) (.seq (.region [O eR (.aW (T p3)),O eI (.nilCheck (T eR)),O gu (.jM 5 (T eI)),O eh (.aW (T gu)),O fH (.bg (T p6)),O fI (.dk 1 (T eh) (T fH)),O fW (.aW (T fI)),O fP (.bg (T p7)),O eZ (.call (C (.func Nq [] [])) [(T fW),(T fP)]),O fX (.unary .not (T eZ)),O fw (.bg (T fX))]) (.cond (T fw) (.region [O fg (.aW (T p3)),O gN (.nilCheck (T fg)),O fY (.jM 6 (T gN)),N (.store 1 (T fY) (C (.bool true)))]) .skip))))))
theorem adf(T:Tb ab)(hB:G.Sm g)(P:iO g){b k:Nat}{c:List bU}{nv:AV}{m:Nat}(ay:n=g.aj.length)(hm:m≤n){args:List AV}{ws ts:List Th}{l:ac}{o1 o2:b9}{fv:AV}{Dn:cG→List Th→Prop}(hk:k<(cI g b c).length)(S:II (cI g b c) c nv k args ws)(hJ:IM g p z y h r q n b c nv m k ts)(U:ai A H (ws++ts++tX l o1::us)):Ru ab (El ab l o1 o2 Ou (xJ A l o2 us (IM g p z y h r q n b c nv m (k+1)) Dn)) [.code Ot] (zX [bZ,dc] args [(cB,fv),(p3,.aw y 0),(p4,.aw z 0)]) H:=by
 obtain⟨come,os,a,d,s,F,rfl,o,J,hn,hv,V,W⟩:=hJ;have a1:=hB.nb;obtain⟨_,v,rfl,a2,a6,a8,U⟩:=ade o J hn hv S U;have x:=o.dP b J;rw[hn]at x;have L:(cI g b c)[k]∈cI g b c:=af0 hk;obtain⟨a',ba⟩:=P.Cd x _ L;have D:=kP.step x L;obtain⟨t,K⟩:∃t:Nat,(cI g b c)[k].1=(t:Int):=⟨(cI g b c)[k].1.toNat,by omega⟩;have X:t<n:=by omega
 have Y:(cI g b c).take (k+1)=(cI g b c).take k++[(cI g b c)[k]]:=by rw[agX]
 rw[K,agK]at D;generalize bb:(cI g b c)[k].2=C at*;have o:=o.IN (F':=tR 2 (iZ C) C.length v::F) λt K=>adD _ K;have M:tR 2 (iZ C) C.length v∈tR 2 (iZ C) C.length v::F:=adc .. ;generalize tR 2 (iZ C) C.length v::F=Q at*;have Z:=o.cl;have ag:=o.sl;have N:∀f:List Bool,(∀j,come.getD j false=true→f.getD j false=true)→f.getD t false=true→∀w∈(cI g b c).take (k+1),f.getD w.1.toNat false=true:=λf h1 h2 w E=>by
  rw[Y]at E;rcases agI.1 E with E|E;·exact h1 _ (W w E)
  rw[ac3]at E;subst E;rw[K,agK];exact h2
 rw[K];unfold Ot;refine au ?_;refine Ru.dO U λH2 U=>?_;unfold Ou;refine ah ?_;cases i:come.getD t false with
 |false=>
  refine RO.eH U 5 (v:=.bool false) (hv:=by rw[pS false (by omega),i]) ?_;have bc:=vZ (k:=t) (by omega) i;have I:b≠t:=λe=>by rw[e,i]at J;cases J
  refine ah ?_;refine RO.ml U 5 true Z (λH3 U=>?_) (k:=t);refine ah ?_;refine RO.xK U 4 ag (λH4 U=>?_) (k:=t);refine ah ?_;refine RO.acT U 1 (aN t) (λu H5 O U bd bv b0=>?_) (hb:=by simp only[agZ];omega) (hn:=by simp only[agZ];omega);refine RO.fU U 0 (λH6 U=>?_);refine ah ?_;refine Ru.bD (ts:=uG g p z y h r q n (come.set t true) (a.set t v) (d++[t]) O Q) (by simpa[uG,IL]using U) ⟨come.set t true,os.set t C,a.set t v,d++[t],O,Q,rfl,o.new X i D (λ_ b4=>b4) M,?_,?_,?_,?_,?_⟩;·rw[e9 (by omega),an I];exact J
  ·rw[e9 (by rw[o.ol];omega),an I];exact hn
  ·rw[e9 (by omega),an I];exact hv
  ·rw[agP,ahj];omega
  refine N _ (λj hj=>?_) ?_
  ·rw[e9 (by omega)];split;·rfl
   exact hj
  rw[e9 (by omega),aH rfl]
 |true=>
  refine RO.eH U 5 (v:=.bool true) (hv:=by rw[pS false (by omega),i]) ?_;have ar:=o.dP t i;have av:=P.Es ar D;have ax:a[0+t*1]?=some (a.getD t .bX):=by rw[show 0+t*1=t by omega,bE (by omega)];simp
  refine ah ?_;have⟨f8,R,_⟩:=U.mC 6 rfl (o.fz t i);have⟨f9,h9,_⟩:=U.mC 6 rfl M;rw[av]at R;have⟨b3,_,_,_⟩:=R.all;refine RO.eH U 4 (hv:=ax) ?_;refine ah ?_;refine RO.cl (ac9 T R h9 (by have:=(P.jG D).2;omega) ?_);refine ah ?_;exact Ru.bD U ⟨come,os,a,d,s,Q,rfl,o,J,hn,hv,V,N _ (λ_ b4=>b4) i⟩
end
end
section
theorem dn{P:Nat→Prop}(b:∀k,(∀j,j<k→P j)→P k)(k:Nat):P k:=Nat.strongRecOn k b
theorem Ce:∀n,kQ (af3 n false)=n|0=>rfl|n+1=>by have:=Ce n;simp only[kQ,List.replicate_succ]at*;simp[this]
theorem lm.zero{g:G.bu}{n:Nat}(l:0<n)(F:List Th)(k:tR 2 (iZ []) 0 .aP∈F):lm g n F ((af3 n false).set 0 true) (af3 n []) (af3 n .aP) [0] none:=by
 have f:∀b,(af3 n ([]:List bU)).getD b []=[]:=λb=>by simp[agY,ahL];split<;>rfl
 have j:∀b,((af3 n false).set 0 true).getD b false=true→b=0:=λb hb=>by
  rw[e9 (by simpa using l)]at hb;split at hb;·assumption
  simp[agY,ahL]at hb;split at hb<;>cases hb
 refine⟨by simp,by simp,by simp,by rw[e9 (by simpa using l),aH rfl],λb hb=>?_,λb hb=>?_,λb hb=>?_,λb hb _=>⟨f b,?_⟩,λb hb=>?_⟩;·rw[j b hb,f];exact .zero
 ·rw[ac3]at hb;subst hb;rw[e9 (by simpa using l),aH rfl]
 ·rw[j b hb,f,bE (by simpa using l)];simpa using k
 ·rw[bE (by simpa using hb)];simp
 rw[j b hb];exact .inl (ac3.2 rfl)
section
variable{g:G.bu}{a h:AV}{c i o d e:ac}{A H:af}{us F:List Th}
theorem adg(T:Tb ab)(N:G.Sm g)(J:iO g)(w:0<g.aj.length){cs:List AV}(hg:iD H g cs){K:AV→af→Prop}(hK:∀H' c d e come os p a F us,dL 7 jW H g.aj a→lm g g.aj.length F come os p [] none→ai H H' (IL g a c d e g.aj.length come p F++us)→K (.aw c 0) H'):YF ab (.func Nl [] []) [.agg cs] H K:=by
 have ar:=hg.one;obtain⟨a,rfl,co⟩:=hg;have⟨hd,_,_,L⟩:=co.all;have ax:=N.nb;refine YF.code T.aaU (by simp) ?_;refine au ?_;refine RO.dS (ai.cW H) λH1 q U=>?_;have U:=(U.oG Hg 2).as 0 rfl λfp hp=>tS.lL hp;have U:=U.rH.cO (ahw ..);have U:=U.lJ;refine ah ?_;refine RO.eG U 1 ?_;refine ah ?_;refine RO.nV U (n:=g.aj.length) (λH2 d U=>?_) (hz:=by rw[iM];simp);refine au ?_;refine RO.acQ U 2 0 (λH3 U=>?_);refine ah ?_;refine RO.nV U (n:=g.aj.length) (λH4 e U=>?_) (hz:=by rw[iM];simp);have er:fx [AV.bool false] g.aj.length=(af3 g.aj.length false).map .bool:=by rw[iM,aie]
 rw[er,iM]at U;refine au ?_;refine RO.dS U (λH5 c U=>?_) (v:=.agg [.aC g.name,aI g.params,aI g.bi,a,.slice d 0 g.aj.length g.aj.length true,.slice e 0 g.aj.length g.aj.length true,.bool false]);refine ah ?_;refine RO.fG U λH6 i U=>?_;refine ah ?_;refine RO.ml U 3 true (ahM ..) (λH7 U=>?_) (k:=0) (ho:=by rw[ahM];exact w);refine ah ?_;refine RO.kZ U 1 (λH8 qt U=>?_) (n:=1) (ws:=[aN 0]);refine RO.fG U λH9 o U=>?_;have U:=U.toU 1 rfl;refine ah ?_;refine Ru.nm λS M hS hM=>?_;refine Ru.cA hM (dn (P:=λm=>∀O B come os p n h F,n.length+kQ come=m→m≤g.aj.length→lm g g.aj.length F come os p n none→ai H O (uG g a o i c d e g.aj.length come p n h F++(iN B++[tB fC q [.aC g.name,aI g.params,aI g.bi,a]]))→Ru ab ⟨pi [.tmp p2] K,B,none⟩ S ([]++pk M [p3,p4]) O) (λm ih O B come os p n h F Q P t U=>?_) _ H9 [] _ _ _ [0] _ _ rfl ?_ (lm.zero w _ (adc ..)) U);rotate_left;·have:=vZ (come:=af3 g.aj.length false) (k:=0) (by simpa using w) (by rw[bE (by simpa using w)];simp);rw[Ce]at this;simp only[ahj];omega
 subst hS;subst hM;refine Ru.loop ?_;have⟨ay,_,_,a1⟩:=(U.N9 (e:=3) (vs:=n.map aN) (sv:=h) 1).all;refine ah ?_;refine Ru.cond (λx=>?_) (λx=>?_)
 ·obtain⟨b,s,rfl⟩:∃b s,n=b::s:=by cases n with|nil=>simp at x|cons b r=>exact⟨b,r,rfl⟩
  simp only[ahh]at Q;have y:come.getD b false=true:=t.td b (adc ..);have u:=t.dP b y;have R:=Et y (by simp);have t:=t.pop;refine ah ?_;refine RO.uF (bf.refl _) (U.N9 1) (λq5 o5 V _=>?_) (j:=0) (hj:=by simp);refine RO.aW ?_ (hc:=V);refine ah ?_;refine RO.acS U 1 (v:=aN b) (vs:=s.map aN) (λD U h1 h2 h3=>?_);refine RO.fU U 0 (λa2 U=>?_);refine ah ?_;refine RO.cl (Oo T λW q1 q2 hl=>?_);have U:ai H W ([tB 3 q2 [aN b],tB l7 q1 [.aw c 0]]++uG g a o i c d e g.aj.length come p s D F++(iN B++[tB fC q [.aC g.name,aI g.params,aI g.bi,a]])):=U.fF hl;refine ah ?_;refine Ru.wk (L:=[(cB,.func D1 [] [.aw q1 0,.aw q2 0]),(p3,.aw i 0),(p4,.aw o 0)]) ?_;refine Ru.qz (J:=IM g a o i c d e g.aj.length b (os.getD b []) (p.getD b .bX) (s.length+kQ come)) (Dn:=λ_ _=>False) U (Oq T N co (b:=b) (now:=os.getD b []) (nv:=p.getD b .bX) (J.aF u) (J.jG u).1 (by have:=(J.jG u).2;omega)) (λH2 hg=>⟨os,p,(adb U.tail.tail t).cV hg,by rw[t.ol,←t.cl];exact R,(bE _ _).symm,rfl⟩) ⟨come,os,p,s,D,F,rfl,t,y,rfl,rfl,rfl,by simp⟩ (λk args ws a6=>by obtain⟨_,v,rfl,_⟩:=a6;rfl) (λk ts us H C U=>?_) (λk args ws ts us l o1 o2 H hk X C U=>adf T N J rfl (by omega) hk X C U) (λH' Y dm C U=>?_) (λj H' Y dm _ a6=>a6.elim);·obtain⟨come,os,p,n,h,F,rfl,t,hc,L,hv,_⟩:=C;have P:=t.fz b hc;rw[L,hv]at P;obtain⟨f,a6,_⟩:=U.mC 6 rfl P;exact a6
  obtain⟨z,Z,I,A,ag,F',rfl,t,hc,L,hv,av,E⟩:=C;rw[ah2]at E;have t:=t.done (by rw[L];exact E);refine ah ?_;exact Ru.wk (ih _ (by omega) H' (dm::B) z Z I A ag F' rfl (by omega) t U)
 have ht:n=[]:=by cases n with|nil=>rfl|cons b r=>simp at x
 subst ht;refine Ru.exitTo ?_;refine ah ?_;refine Ru.nu (M:=B) (ts:=uG g a o i c d e g.aj.length come p [] h F++[tB fC q [.aC g.name,aI g.params,aI g.bi,a]]) (U.cO ?_) λH' U=>⟨[.aw c 0],?_,hK H' c d e come os p a F [tB fC q [.aC g.name,aI g.params,aI g.bi,a]] co t U.tail.tail.tail⟩;·rw[←agJ,←agJ];exact ahD.append_right _
 exact⟨rfl,rfl,trivial⟩
end
end
end
end Go.ak.R
end
