/- A part. No conditions. -/
import Derived.Test.YtjapbgcbkolgmaaGreatDoorA17
set_option linter.all false
set_option maxHeartbeats 16000000
open Int renaming ofNat->age
noncomputable section
namespace Go.al.R
section
variable{ac:Nat->aX}
structure kT(g:G.be)(j:G.fg)(k:Nat)(e:G.Edge):Prop where
 lo:1<=e.block
 hi:e.block<=(g.aj.length:Int) - 1
 iE:∀a∈e.args,0<=a/\a<=g.bc - 1
 tr:j.op=67->e.args=[]/\(k=2->(g.aj.getD e.block.toNat default).i4.length≠0)
 aM:¬(j.op=67/\k=2)->(g.aj.getD e.block.toNat default).i4.length=e.args.length+ft j k
structure l6(g:G.be)(j:G.fg):Prop where
 ae:AE j j.args.length j.go.length
 iE:∀a∈j.args,0<=a/\a<=g.bc - 1
 bu:j.op≠66->j.bu=[]
 i7:j.op=63↔j.i7≠ []
 nm:j.i7≠ []->jB j.i7
 AL:∀k(h:k<j.go.length),kT g j k j.go[k]
section
variable{g:G.be}{j:G.fg}{H:ah}{cs cj:List AV}
abbrev AM(a b:af)(g:G.be)(j:G.fg)(c d e f:AV):List Th:=[tB mE b [aU j.op,d,.str j.i7,e,f],tB eg a [.str g.i7,aI g.i4,aI g.bc,c]]
theorem abK(T:Tb ac)(hg:gu H g cs)(hj:py H j cj)(hB:G.Sm g)(ay:0<=g.bc)(b':g.bc<=6000)(a1:∀c∈j.i7,c<256)(a':∀c∈j.bu,c<256)(ca:j.args.length<=12/\j.bu.length<=12/\j.go.length<=12/\j.i7.length<=60)(ba:∀e∈j.go,e.args.length<=12){K:KT}(h1:∀D,aZ H D->l6 g j->K (.bool true) D)(h2:∀D,aZ H D->¬l6 g j->K (.bool false) D):YN ac Wy [.agg cs,.agg cj] H K:=by
 have b3:=hg.one;have b4:=hj.one;obtain⟨vb,rfl,bW⟩:=hg;obtain⟨R,S,V,rfl,I,J,L⟩:=hj;have⟨cd,_,_,cf⟩:=bW.all;have⟨cn,_,_,cp⟩:=J.all;have⟨cv,_,_,cx⟩:=I.all;have⟨cy,_,_,cE⟩:=L.all;have cR:=hB.nb;refine YF.code T.Zm aF ?_;refine Ru.seq ?_;refine Ru.region ?_;refine RO.dp (aq.ct H) λH1 W U=>?_;refine RO.dp U λH2 X U=>?_;have U:aq H H2 (AM W X g j vb R S V):=U;refine RO.aR ?_;refine RO.nil ?_;refine Ru.seq ?_;refine Ru.region ?_;refine RO.aR ?_;refine RO.aR ?_;refine RO.nil ?_;refine Ru.seq ?_;refine Ru.sw (P:=λM D=>∃a e:Nat,M=[(p5,aN a),(p6,aN e),(p2,.aE W 0),(p3,.aE X 0)]/\AE j a e/\aq H D (AM W X g j vb R S V)) (λM H3⟨a,e,E,N,U⟩=>?_) (λs' d=>?_);rotate_left
 .repeat'(first|refine mf ?_|(refine Ru.eE (λv=>?_) (λv=>?_)<;>rw[v]))
  all_goals first|exact Ru.aP (h2 _ U.gr λf=>by have t:=f.ae.az;simp only[decide_eq_false_iff_not]at*;omega)|exact d _ _ _ ⟨_,_,rfl,.go (of_decide_eq_true v),U⟩ ey|exact d _ _ _ ⟨_,_,rfl,.si (of_decide_eq_true v),U⟩ ey|exact d _ _ _ ⟨_,_,rfl,.is (of_decide_eq_true v),U⟩ ey|exact d _ _ _ ⟨_,_,rfl,.dV (of_decide_eq_true v),U⟩ ey|exact d _ _ _ ⟨_,_,rfl,.sj (of_decide_eq_true v),U⟩ ey|exact d _ _ _ ⟨_,_,rfl,.ret (of_decide_eq_true v),U⟩ ey|exact d _ _ _ ⟨_,_,rfl,.sx (of_decide_eq_true v),U⟩ ey|exact d _ _ _ ⟨_,_,rfl,.stuck (of_decide_eq_true v),U⟩ ey|skip
  .have ag:j.op=66:=of_decide_eq_true v;refine Ru.nm λS0 M hS E=>?_;refine Ru.bT E (up (P:=λi=>∀A,A+ku (j.bu.drop i)=ku j.bu->(∀x(h:x<j.bu.length),x<i->1<=j.bu[x]/\j.bu[x]<=3/\(j.bu[x]=3->x+1=j.bu.length))->Ru ac _ S0 ([(p7,aN i),(p5,aN A)]++pk M [p2,p3,p6]) H2) j.bu.length (λi hi F A s m=>?_) 0 ab 0 aF (λx _ Y=>by omega));subst hS;subst E;have c9:=Hn (l:=j.bu);refine Ru.loop ?_;refine ai ?_;refine Ru.cond (λp=>?_) (λp=>?_)
   .have c':=a' _ (adq p);have F:=F (i+1) ab ab;have a2:l6 g j->1<=j.bu[i]/\j.bu[i]<=3/\(j.bu[i]=3->i+1=j.bu.length):=λf=>(f.ae.M' ag).1 i p;rw[afv p]at s;simp only[ku]at s;have m:1<=j.bu[i]/\j.bu[i]<=3/\(j.bu[i]=3->i+1=j.bu.length)->∀x(h:x<j.bu.length),x<i+1->1<=j.bu[x]/\j.bu[x]<=3/\(j.bu[x]=3->x+1=j.bu.length):=λhb x Y h=>by
     by_cases e:x=i;·subst e;exact hb
     exact m x Y ab
    refine ai ?_;refine RO.fO U.gr J (λq9 o9 bb dm=>?_) (j:=i);generalize j.bu[i]=kd at*;refine ai ?_;refine RO.jT ?_;rw[mA (n:=.ofNat kd) (by rw[afm];omega) (by rw[afm];omega)];refine RO.cl (oH T (λy z=>?_) (λu=>?_));rotate_left;·refine ai ?_;exact Ru.aP (h2 _ U.gr λf=>u (by have t:=a2 f;exact⟨by show(1:Int)<=kd;omega,by show(kd:Int)<=3;omega⟩))
    have y:(1:Int)<=kd:=y;have z:(kd:Int)<=3:=z;have P:eR .sub 4 (.ofNat 3) (.ofNat kd)=some (aU (3 - kd)):=by have:kd=1\/kd=2\/kd=3:=ab;rcases this with rfl|rfl|rfl<;>rfl
    have a6:fG 3 (.ofNat (3 - kd))=.ofNat (3 - kd):=mA (by rw[afm];omega) (by rw[afm];omega);have a8:(kd=3->i+1=j.bu.length)->_:=λhl=>F (A+(3 - kd)) ab (m ⟨ab,ab,hl⟩);refine ai ?_;refine RO.bR (λC=>?_) (λC=>?_)
    .refine ai ?_;refine RO.sub ?_ (a:=.ofNat j.bu.length) (b:=1) (h1:=by rw[afm];omega) (h2:=by rw[afm];omega);refine ai ?_;refine Ru.eE (λo=>?_) (λo=>?_);·refine ai ?_;exact Ru.aP (h2 _ U.gr λf=>by have t:=(a2 f).2.2 C;have h7:age i<age j.bu.length - 1:=of_decide_eq_true o;simp only[afm]at h7;omega)
     have hl:i+1=j.bu.length:=by have:¬age i<age j.bu.length - 1:=of_decide_eq_false o;simp only[afm]at this;omega
     refine ai ?_;refine RO.arith ?_ (hv:=P);refine RO.jT ?_;rw[a6];refine ai ?_;exact Ru.wk (a8 λ_=>hl)
    refine ai ?_;refine RO.arith ?_ (hv:=P);refine RO.jT ?_;rw[a6];refine ai ?_;exact Ru.wk (a8 λh=>absurd h C)
   refine Ru.exitTo ?_;refine ai ?_;refine RO.cl (oH T (λy z=>?_) (λu=>?_))
   .refine ai ?_;have y:(1:Int)<=j.bu.length:=y;have z:(j.bu.length:Int)<=4:=z;have e:A=ku j.bu:=by rw[agR ab]at s;simpa[ku]using s
    subst e;exact d _ _ _ ⟨_,_,rfl,.nf ag (λx Y=>m x Y ab) ab ab,U⟩ ey
   refine ai ?_;exact Ru.aP (h2 _ U.gr λf=>u (by have t:=(f.ae.M' ag).2;exact⟨by show(1:Int)<=j.bu.length;omega,by show(j.bu.length:Int)<=4;omega⟩))
  refine RO.nK ?_ (r:=aN (max 1 j.args.length)) (hr:=?_);·refine ai ?_;exact d _ _ _ ⟨_,_,rfl,.oG (of_decide_eq_true v),U⟩ ey
  show some (AV.int 3 (if jH (.ofNat 1) (.ofNat j.args.length)then .ofNat j.args.length else .ofNat 1))=_;rw[lP];by_cases e:1<j.args.length;·rw[decide_eq_true (by simp only[afm];omega),Nat.max_eq_right ab];rfl
  rw[decide_eq_false (by simp only[afm];omega),Nat.max_eq_left ab];rfl
 subst E;refine Ru.seq ?_;refine Ru.sw (P:=λM D=>M=[(p2,.aE W 0),(p3,.aE X 0)]/\(a=j.args.length/\e=j.go.length)/\(∀a∈j.args,0<=a/\a<=g.bc - 1)/\(j.op≠66->j.bu=[])/\(j.op=63↔j.i7≠ [])/\(j.i7≠ []->jB j.i7)/\aq H D (AM W X g j vb R S V)) (λM H4⟨E,⟨f1,f2⟩,f3,f4,f5,f6,U⟩=>?_) (λs' d=>?_);rotate_left
 .refine ai ?_;refine RO.bR (λy=>?_) (λy=>?_);·refine ai ?_;exact Ru.aP (h2 _ U.gr λf=>by have t:=f.ae.Na N;omega)
  refine ai ?_;refine RO.bR (λz=>?_) (λz=>?_);·refine ai ?_;exact Ru.aP (h2 _ U.gr λf=>by have t:=f.ae.Na N;omega)
  refine ai ?_;refine RO.cl (Hv T (U.gr.sl I) ab ay ab (λC=>?_) λu=>?_);rotate_left;·refine ai ?_;exact Ru.aP (h2 _ U.gr λf=>u f.iE)
  refine ai ?_;refine RO.bR (λo=>?_) (λo=>?_)
  .refine ai ?_;refine RO.bR (λO=>?_) (λO=>?_);·refine ai ?_;exact Ru.aP (h2 _ U.gr λf=>by simp[f.bu o]at O)
   have B:j.op≠66->j.bu=[]:=λ_=>afQ ab;refine ai ?_;refine RO.eq (t:=(decide (j.op=63))==(!ir j.i7 [])) ?_ (ht:=rfl);refine ai ?_;refine RO.oq (λl=>?_) (λl=>?_);·refine ai ?_;exact Ru.aP (h2 _ U.gr λf=>by have t:=f.i7;rw[kf]at l;by_cases Z:j.op=63<;>by_cases e2:j.i7=[]<;>simp[Z,e2]at l t)
   have l:j.op=63↔j.i7≠ []:=by rw[kf]at l;by_cases Z:j.op=63<;>by_cases e2:j.i7=[]<;>simp[Z,e2]at l⊢
   refine ai ?_;refine RO.oq (λn=>?_) (λn=>?_)
   .refine ai ?_;refine RO.cl (DY T a1 ab (λw=>?_) λu=>?_);·refine ai ?_;exact d _ _ _ ⟨rfl,⟨ab,ab⟩,C,B,l,λ_=>w,U⟩ ey
    refine ai ?_;exact Ru.aP (h2 _ U.gr λf=>u (f.nm (by rw[kf]at n;simpa using n)))
   refine ai ?_;have n:j.i7=[]:=by rw[kf]at n;simpa using n
   exact d _ _ _ ⟨rfl,⟨ab,ab⟩,C,B,l,λh=>absurd n h,U⟩ ey
  have B:j.op≠66->j.bu=[]:=λh=>absurd h o;refine ai ?_;refine RO.eq (t:=(decide (j.op=63))==(!ir j.i7 [])) ?_ (ht:=rfl);refine ai ?_;refine RO.oq (λl=>?_) (λl=>?_);·refine ai ?_;exact Ru.aP (h2 _ U.gr λf=>by have t:=f.i7;rw[kf]at l;by_cases Z:j.op=63<;>by_cases e2:j.i7=[]<;>simp[Z,e2]at l t)
  have l:j.op=63↔j.i7≠ []:=by rw[kf]at l;by_cases Z:j.op=63<;>by_cases e2:j.i7=[]<;>simp[Z,e2]at l⊢
  refine ai ?_;refine RO.oq (λn=>?_) (λn=>?_)
  .refine ai ?_;refine RO.cl (DY T a1 ab (λw=>?_) λu=>?_);·refine ai ?_;exact d _ _ _ ⟨rfl,⟨ab,ab⟩,C,B,l,λ_=>w,U⟩ ey
   refine ai ?_;exact Ru.aP (h2 _ U.gr λf=>u (f.nm (by rw[kf]at n;simpa using n)))
  refine ai ?_;have n:j.i7=[]:=by rw[kf]at n;simpa using n
  exact d _ _ _ ⟨rfl,⟨ab,ab⟩,C,B,l,λh=>absurd n h,U⟩ ey
 subst E;rw[f1,f2]at N;refine ai ?_;refine Ru.nm λS0 M hS E=>?_;refine Ru.bT E (up (P:=λk=>∀HX,(∀x(h:x<j.go.length),x<k->kT g j x j.go[x])->aq H HX (AM W X g j vb R S V)->Ru ac _ S0 ([(p9,aN k)]++pk M [p2,p3]) HX) j.go.length (λk hk F HX m U=>?_) 0 ab _ (λx _ Y=>by omega) U);subst hS;subst E;refine Ru.loop ?_;refine ai ?_;refine Ru.cond (λp=>?_) (λp=>?_)
 .have dr:=ba _ (adq p);have F:=F (k+1) ab ab;have r:l6 g j->kT g j k j.go[k]:=λf=>f.AL k p;have m:kT g j k j.go[k]->∀x(h:x<j.go.length),x<k+1->kT g j x j.go[x]:=λhb x Y h=>by
   by_cases e:x=k;·subst e;exact hb
   exact m x Y ab
  refine ai ?_;refine RO.bY U.gr L (λq9 o9 d7 bb bd ds hat hrd=>?_) (j:=k);generalize j.go[k]=e at*;obtain⟨ve,rfl,av⟩:=bd;have⟨dv,dx,dy,dz⟩:=av.all;have hvs:=Sl.bN av;refine ai ?_;refine RO.ff U λH5 aw U=>?_;have U:aq H H5 (tB wm aw [aI e.block,ve]::AM W X g j vb R S V):=U;refine ai ?_;refine RO.sub ?_ (a:=.ofNat g.aj.length) (b:=1) (h1:=by rw[afm];omega) (h2:=by rw[afm];omega);refine RO.cl (oH T (λy z=>?_) (λu=>?_));rotate_left;·refine ai ?_;exact Ru.aP (h2 _ U.gr λf=>u ⟨(r f).lo,(r f).hi⟩)
  refine ai ?_;refine RO.cl (Hv T (U.gr.sl av) ab ay ab (λC=>?_) λu=>?_);rotate_left;·refine ai ?_;exact Ru.aP (h2 _ U.gr λf=>u (r f).iE)
  have y:1<=e.block:=y;have z:e.block<=(g.aj.length:Int) - 1:=z;obtain⟨b,hb⟩:∃b:Nat,e.block=b:=⟨e.block.toNat,ab⟩;rw[hb]at U;have Q:b<g.aj.length:=ab;have q:g.aj.getD e.block.toNat default=g.aj[b]:=by rw[hb,afs,bB Q]
  have ax:(j.op=67->e.args=[]/\(k=2->g.aj[b].i4.length≠0))->(¬(j.op=67/\k=2)->g.aj[b].i4.length=e.args.length+ft j k)->kT g j k e:=λb6 b7=>⟨y,z,C,by rw[q];exact b6,by rw[q];exact b7⟩;refine ai ?_;refine RO.bY U.gr bW (λq1 o1 c1 d0 bv d1 hat hrd=>?_) (j:=b);have d2:=(hB.bl _ (adq Q)).1;obtain⟨vp,d3,jc,rfl,b0,_⟩:=bv;have⟨d4,_,_,d5⟩:=b0.all;have d6:ft j k<=1:=by unfold ft;split<;>omega
  refine ai ?_;refine RO.bR (λo=>?_) (λo=>?_)
  .refine ai ?_;refine RO.bR (λO=>?_) (λO=>?_);·refine ai ?_;exact Ru.aP (h2 _ U.gr λf=>by simp[((r f).tr o).1]at O)
   have O:e.args=[]:=afQ ab;refine ai ?_;refine RO.bR (λl=>?_) (λl=>?_)
   .refine ai ?_;refine RO.bR (λn=>?_) (λn=>?_);·refine ai ?_;exact Ru.aP (h2 _ U.gr λf=>((r f).tr o).2 l (by rw[q];exact n))
    refine ai ?_;refine RO.bR (λw=>?_) (λw=>absurd o w);refine ai ?_;refine RO.oq (λg9=>by simp[l]at g9) (λ_=>?_);refine ai ?_;exact Ru.wk (F _ (m (ax (λ_=>⟨O,λ_=>n⟩) λh=>absurd ⟨o,l⟩ h)) U.tail)
   refine ai ?_;refine RO.bR (λw=>?_) (λw=>absurd o w);refine ai ?_;refine RO.oq (λ_=>?_) (λg9=>by simp[l]at g9);refine ai ?_;refine RO.dj U 1 ?_;refine ai ?_;refine RO.M8 (M9 T ⟨R,S,V,rfl,U.gr.sl I,U.gr.sl J,cY.G1.lx U.gr L⟩ λH7 hg=>⟨?_,?_⟩) (hvs:=hvs) (v:=ve) (i:=aw) (o:=1);·obtain⟨_,hp⟩:=(U.cq hg).get 0 rfl;exact tB.cell hp rfl
   have U:=U.cq hg;refine ai ?_;refine Ru.cond (λg9=>?_) (λg9=>?_);·refine ai ?_;exact Ru.aP (h2 _ U.gr λf=>by have t:=(r f).aM λh=>l h.2;rw[q]at t;omega)
   refine ai ?_;exact Ru.wk (F _ (m (ax (λ_=>⟨O,λh=>absurd h l⟩) λ_=>by omega)) U.tail)
  refine ai ?_;refine RO.bR (λw=>absurd w o) (λw=>?_);refine ai ?_;refine RO.dj U 1 ?_;refine ai ?_;refine RO.M8 (M9 T ⟨R,S,V,rfl,U.gr.sl I,U.gr.sl J,cY.G1.lx U.gr L⟩ λH7 hg=>⟨?_,?_⟩) (hvs:=hvs) (v:=ve) (i:=aw) (o:=1);·obtain⟨_,hp⟩:=(U.cq hg).get 0 rfl;exact tB.cell hp rfl
  have U:=U.cq hg;refine ai ?_;refine Ru.cond (λg9=>?_) (λg9=>?_);·refine ai ?_;exact Ru.aP (h2 _ U.gr λf=>by have t:=(r f).aM λh=>o h.1;rw[q]at t;omega)
  refine ai ?_;exact Ru.wk (F _ (m (ax (λh=>absurd h o) λ_=>by omega)) U.tail)
 refine Ru.exitTo ?_;refine ai ?_;exact Ru.aP (h1 _ U.gr ⟨N,f3,f4,f5,f6,λk h=>m k h ab⟩)
end
end
end Go.al.R
end
