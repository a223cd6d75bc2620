/- A part. No conditions. -/
import Derived.Test.YtcipmlnpjkngpaaGreatDoorA17
set_option linter.all false
set_option maxHeartbeats 16000000
open Int renaming ofNat->afq
noncomputable section
namespace Go.ak.R
section
variable{ac:Nat->aX}
structure kI(g:G.aY)(j:G.eV)(k:Nat)(e:G.Edge):Prop where
 lo:1<=e.block
 hi:e.block<=(g.aj.length:Int) - 1
 iy:∀a∈e.args,0<=a/\a<=g.aW - 1
 tr:j.op=67->e.args=[]/\(k=2->(g.aj.getD e.block.toNat default).i4.length≠0)
 aM:¬(j.op=67/\k=2)->(g.aj.getD e.block.toNat default).i4.length=e.args.length+fg j k
structure lM(g:G.aY)(j:G.eV):Prop where
 ae:AE j j.args.length j.go.length
 iy:∀a∈j.args,0<=a/\a<=g.aW - 1
 bp:j.op≠66->j.bp=[]
 i7:j.op=63↔j.i7≠ []
 nm:j.i7≠ []->jo j.i7
 yS:∀k(h:k<j.go.length),kI g j k j.go[k]
section
variable{g:G.aY}{j:G.eV}{H:ai}{cs cj:List AV}
abbrev yT(a b:af)(g:G.aY)(j:G.eV)(c d e f:AV):List Th:=[tB mf b [aU j.op,d,.str j.i7,e,f],tB cX a [.str g.i7,aI g.i4,aI g.aW,c]]
theorem ZU(T:Tb ac)(hg:dS H g cs)(hj:mM H j cj)(hB:G.Sm g)(ay:0<=g.aW)(b':g.aW<=6000)(a1:∀c∈j.i7,c<256)(a':∀c∈j.bp,c<256)(ca:j.args.length<=12/\j.bp.length<=12/\j.go.length<=12/\j.i7.length<=60)(ba:∀e∈j.go,e.args.length<=12){K:KT}(h1:∀D,aZ H D->lM g j->K (.bool true) D)(h2:∀D,aZ H D->¬lM g j->K (.bool false) D):YN ac UE [.agg cs,.agg cj] H K:=by
 have b3:=hg.one;have b4:=hj.one;obtain⟨vb,rfl,bH⟩:=hg;obtain⟨R,S,V,rfl,I,J,L⟩:=hj;have⟨cd,_,_,cf⟩:=bH.all;have⟨cn,_,_,cp⟩:=J.all;have⟨cv,_,_,cx⟩:=I.all;have⟨cy,_,_,cR⟩:=L.all;have c9:=hB.nb;refine YF.code T.Wp aC ?_;refine Ru.seq ?_;refine Ru.region ?_;refine RO.cG (al.bY H) λH1 W U=>?_;refine RO.cG U λH2 X U=>?_;have U:al H H2 (yT W X g j vb R S V):=U;refine RO.bw ?_;refine RO.nil ?_;refine Ru.seq ?_;refine Ru.region ?_;refine RO.bw ?_;refine RO.bw ?_;refine RO.nil ?_;refine Ru.seq ?_;refine Ru.se (P:=λM D=>∃a e:Nat,M=[(p5,aN a),(p6,aN e),(p2,.aD W 0),(p3,.aD X 0)]/\AE j a e/\al H D (yT W X g j vb R S V)) (λM H3⟨a,e,E,N,U⟩=>?_) (λs' d=>?_);rotate_left
 .repeat'(first|refine lX ?_|(refine Ru.eh (λv=>?_) (λv=>?_)<;>rw[v]))
  all_goals first|exact Ru.aP (h2 _ U.gr λf=>by have t:=f.ae.aq;simp only[decide_eq_false_iff_not]at*;omega)|exact d _ _ _ ⟨_,_,rfl,.go (of_decide_eq_true v),U⟩ eg|exact d _ _ _ ⟨_,_,rfl,.rV (of_decide_eq_true v),U⟩ eg|exact d _ _ _ ⟨_,_,rfl,.is (of_decide_eq_true v),U⟩ eg|exact d _ _ _ ⟨_,_,rfl,.eZ (of_decide_eq_true v),U⟩ eg|exact d _ _ _ ⟨_,_,rfl,.rW (of_decide_eq_true v),U⟩ eg|exact d _ _ _ ⟨_,_,rfl,.ret (of_decide_eq_true v),U⟩ eg|exact d _ _ _ ⟨_,_,rfl,.qI (of_decide_eq_true v),U⟩ eg|exact d _ _ _ ⟨_,_,rfl,.stuck (of_decide_eq_true v),U⟩ eg|skip
  .have ag:j.op=66:=of_decide_eq_true v;refine Ru.nm λS0 M hS E=>?_;refine Ru.bM E (up (P:=λi=>∀A,A+ka (j.bp.drop i)=ka j.bp->(∀x(h:x<j.bp.length),x<i->1<=j.bp[x]/\j.bp[x]<=3/\(j.bp[x]=3->x+1=j.bp.length))->Ru ac _ S0 ([(p7,aN i),(p5,aN A)]++pk M [p2,p3,p6]) H2) j.bp.length (λi hi F A s m=>?_) 0 ab 0 aC (λx _ Y=>by omega));subst hS;subst E;have c':=En (l:=j.bp);refine Ru.loop ?_;refine ah ?_;refine Ru.cond (λp=>?_) (λp=>?_)
   .have dm:=a' _ (acI p);have F:=F (i+1) ab ab;have a2:lM g j->1<=j.bp[i]/\j.bp[i]<=3/\(j.bp[i]=3->i+1=j.bp.length):=λf=>(f.ae.Lf ag).1 i p;rw[aeE p]at s;simp only[ka]at s;have m:1<=j.bp[i]/\j.bp[i]<=3/\(j.bp[i]=3->i+1=j.bp.length)->∀x(h:x<j.bp.length),x<i+1->1<=j.bp[x]/\j.bp[x]<=3/\(j.bp[x]=3->x+1=j.bp.length):=λhb x Y h=>by
     by_cases e:x=i;·subst e;exact hb
     exact m x Y ab
    refine ah ?_;refine RO.iE U.gr J (λq9 o9 bb dr=>?_) (j:=i);generalize j.bp[i]=kd at*;refine ah ?_;refine RO.jM ?_;rw[ma (n:=.ofNat kd) (by rw[aev];omega) (by rw[aev];omega)];refine RO.cl (oC T (λy z=>?_) (λu=>?_));rotate_left;·refine ah ?_;exact Ru.aP (h2 _ U.gr λf=>u (by have t:=a2 f;exact⟨by show(1:Int)<=kd;omega,by show(kd:Int)<=3;omega⟩))
    have y:(1:Int)<=kd:=y;have z:(kd:Int)<=3:=z;have P:eT .sub 4 (.ofNat 3) (.ofNat kd)=some (aU (3 - kd)):=by have:kd=1\/kd=2\/kd=3:=ab;rcases this with rfl|rfl|rfl<;>rfl
    have a6:fA 3 (.ofNat (3 - kd))=.ofNat (3 - kd):=ma (by rw[aev];omega) (by rw[aev];omega);have a8:(kd=3->i+1=j.bp.length)->_:=λhl=>F (A+(3 - kd)) ab (m ⟨ab,ab,hl⟩);refine ah ?_;refine RO.bT (λC=>?_) (λC=>?_)
    .refine ah ?_;refine RO.sub ?_ (a:=.ofNat j.bp.length) (b:=1) (h1:=by rw[aev];omega) (h2:=by rw[aev];omega);refine ah ?_;refine Ru.eh (λo=>?_) (λo=>?_);·refine ah ?_;exact Ru.aP (h2 _ U.gr λf=>by have t:=(a2 f).2.2 C;have h7:afq i<afq j.bp.length - 1:=of_decide_eq_true o;simp only[aev]at h7;omega)
     have hl:i+1=j.bp.length:=by have:¬afq i<afq j.bp.length - 1:=of_decide_eq_false o;simp only[aev]at this;omega
     refine ah ?_;refine RO.arith ?_ (hv:=P);refine RO.jM ?_;rw[a6];refine ah ?_;exact Ru.wk (a8 λ_=>hl)
    refine ah ?_;refine RO.arith ?_ (hv:=P);refine RO.jM ?_;rw[a6];refine ah ?_;exact Ru.wk (a8 λh=>absurd h C)
   refine Ru.exitTo ?_;refine ah ?_;refine RO.cl (oC T (λy z=>?_) (λu=>?_))
   .refine ah ?_;have y:(1:Int)<=j.bp.length:=y;have z:(j.bp.length:Int)<=4:=z;have e:A=ka j.bp:=by rw[af3 ab]at s;simpa[ka]using s
    subst e;exact d _ _ _ ⟨_,_,rfl,.mR ag (λx Y=>m x Y ab) ab ab,U⟩ eg
   refine ah ?_;exact Ru.aP (h2 _ U.gr λf=>u (by have t:=(f.ae.Lf ag).2;exact⟨by show(1:Int)<=j.bp.length;omega,by show(j.bp.length:Int)<=4;omega⟩))
  refine RO.nk ?_ (r:=aN (max 1 j.args.length)) (hr:=?_);·refine ah ?_;exact d _ _ _ ⟨_,_,rfl,.oh (of_decide_eq_true v),U⟩ eg
  show some (AV.int 3 (if jz (.ofNat 1) (.ofNat j.args.length)then .ofNat j.args.length else .ofNat 1))=_;rw[lz];by_cases e:1<j.args.length;·rw[decide_eq_true (by simp only[aev];omega),Nat.max_eq_right ab];rfl
  rw[decide_eq_false (by simp only[aev];omega),Nat.max_eq_left ab];rfl
 subst E;refine Ru.seq ?_;refine Ru.se (P:=λM D=>M=[(p2,.aD W 0),(p3,.aD X 0)]/\(a=j.args.length/\e=j.go.length)/\(∀a∈j.args,0<=a/\a<=g.aW - 1)/\(j.op≠66->j.bp=[])/\(j.op=63↔j.i7≠ [])/\(j.i7≠ []->jo j.i7)/\al H D (yT W X g j vb R S V)) (λM H4⟨E,⟨f1,f2⟩,f3,f4,f5,f6,U⟩=>?_) (λs' d=>?_);rotate_left
 .refine ah ?_;refine RO.bT (λy=>?_) (λy=>?_);·refine ah ?_;exact Ru.aP (h2 _ U.gr λf=>by have t:=f.ae.Lg N;omega)
  refine ah ?_;refine RO.bT (λz=>?_) (λz=>?_);·refine ah ?_;exact Ru.aP (h2 _ U.gr λf=>by have t:=f.ae.Lg N;omega)
  refine ah ?_;refine RO.cl (ET T (U.gr.sl I) ab ay ab (λC=>?_) λu=>?_);rotate_left;·refine ah ?_;exact Ru.aP (h2 _ U.gr λf=>u f.iy)
  refine ah ?_;refine RO.bT (λo=>?_) (λo=>?_)
  .refine ah ?_;refine RO.bT (λO=>?_) (λO=>?_);·refine ah ?_;exact Ru.aP (h2 _ U.gr λf=>by simp[f.bp o]at O)
   have B:j.op≠66->j.bp=[]:=λ_=>aeQ ab;refine ah ?_;refine RO.eq (t:=(decide (j.op=63))==(!ie j.i7 [])) ?_ (ht:=rfl);refine ah ?_;refine RO.nV (λl=>?_) (λl=>?_);·refine ah ?_;exact Ru.aP (h2 _ U.gr λf=>by have t:=f.i7;rw[jp]at l;by_cases Z:j.op=63<;>by_cases e2:j.i7=[]<;>simp[Z,e2]at l t)
   have l:j.op=63↔j.i7≠ []:=by rw[jp]at l;by_cases Z:j.op=63<;>by_cases e2:j.i7=[]<;>simp[Z,e2]at l⊢
   refine ah ?_;refine RO.nV (λn=>?_) (λn=>?_)
   .refine ah ?_;refine RO.cl (Bk T a1 ab (λw=>?_) λu=>?_);·refine ah ?_;exact d _ _ _ ⟨rfl,⟨ab,ab⟩,C,B,l,λ_=>w,U⟩ eg
    refine ah ?_;exact Ru.aP (h2 _ U.gr λf=>u (f.nm (by rw[jp]at n;simpa using n)))
   refine ah ?_;have n:j.i7=[]:=by rw[jp]at n;simpa using n
   exact d _ _ _ ⟨rfl,⟨ab,ab⟩,C,B,l,λh=>absurd n h,U⟩ eg
  have B:j.op≠66->j.bp=[]:=λh=>absurd h o;refine ah ?_;refine RO.eq (t:=(decide (j.op=63))==(!ie j.i7 [])) ?_ (ht:=rfl);refine ah ?_;refine RO.nV (λl=>?_) (λl=>?_);·refine ah ?_;exact Ru.aP (h2 _ U.gr λf=>by have t:=f.i7;rw[jp]at l;by_cases Z:j.op=63<;>by_cases e2:j.i7=[]<;>simp[Z,e2]at l t)
  have l:j.op=63↔j.i7≠ []:=by rw[jp]at l;by_cases Z:j.op=63<;>by_cases e2:j.i7=[]<;>simp[Z,e2]at l⊢
  refine ah ?_;refine RO.nV (λn=>?_) (λn=>?_)
  .refine ah ?_;refine RO.cl (Bk T a1 ab (λw=>?_) λu=>?_);·refine ah ?_;exact d _ _ _ ⟨rfl,⟨ab,ab⟩,C,B,l,λ_=>w,U⟩ eg
   refine ah ?_;exact Ru.aP (h2 _ U.gr λf=>u (f.nm (by rw[jp]at n;simpa using n)))
  refine ah ?_;have n:j.i7=[]:=by rw[jp]at n;simpa using n
  exact d _ _ _ ⟨rfl,⟨ab,ab⟩,C,B,l,λh=>absurd n h,U⟩ eg
 subst E;rw[f1,f2]at N;refine ah ?_;refine Ru.nm λS0 M hS E=>?_;refine Ru.bM E (up (P:=λk=>∀HX,(∀x(h:x<j.go.length),x<k->kI g j x j.go[x])->al H HX (yT W X g j vb R S V)->Ru ac _ S0 ([(p9,aN k)]++pk M [p2,p3]) HX) j.go.length (λk hk F HX m U=>?_) 0 ab _ (λx _ Y=>by omega) U);subst hS;subst E;refine Ru.loop ?_;refine ah ?_;refine Ru.cond (λp=>?_) (λp=>?_)
 .have ds:=ba _ (acI p);have F:=F (k+1) ab ab;have r:lM g j->kI g j k j.go[k]:=λf=>f.yS k p;have m:kI g j k j.go[k]->∀x(h:x<j.go.length),x<k+1->kI g j x j.go[x]:=λhb x Y h=>by
   by_cases e:x=k;·subst e;exact hb
   exact m x Y ab
  refine ah ?_;refine RO.bW U.gr L (λq9 o9 d' bb bd dv hat hrd=>?_) (j:=k);generalize j.go[k]=e at*;obtain⟨ve,rfl,av⟩:=bd;have⟨dx,dy,dz,d0⟩:=av.all;have hvs:=Sl.bL av;refine ah ?_;refine RO.eR U λH5 aw U=>?_;have U:al H H5 (tB vS aw [aI e.block,ve]::yT W X g j vb R S V):=U;refine ah ?_;refine RO.sub ?_ (a:=.ofNat g.aj.length) (b:=1) (h1:=by rw[aev];omega) (h2:=by rw[aev];omega);refine RO.cl (oC T (λy z=>?_) (λu=>?_));rotate_left;·refine ah ?_;exact Ru.aP (h2 _ U.gr λf=>u ⟨(r f).lo,(r f).hi⟩)
  refine ah ?_;refine RO.cl (ET T (U.gr.sl av) ab ay ab (λC=>?_) λu=>?_);rotate_left;·refine ah ?_;exact Ru.aP (h2 _ U.gr λf=>u (r f).iy)
  have y:1<=e.block:=y;have z:e.block<=(g.aj.length:Int) - 1:=z;obtain⟨b,hb⟩:∃b:Nat,e.block=b:=⟨e.block.toNat,ab⟩;rw[hb]at U;have Q:b<g.aj.length:=ab;have q:g.aj.getD e.block.toNat default=g.aj[b]:=by rw[hb,aeA,bm Q]
  have ax:(j.op=67->e.args=[]/\(k=2->g.aj[b].i4.length≠0))->(¬(j.op=67/\k=2)->g.aj[b].i4.length=e.args.length+fg j k)->kI g j k e:=λb6 b7=>⟨y,z,C,by rw[q];exact b6,by rw[q];exact b7⟩;refine ah ?_;refine RO.bW U.gr bH (λq1 o1 c1 d1 bv d2 hat hrd=>?_) (j:=b);have d3:=(hB.bl _ (acI Q)).1;obtain⟨vp,d4,jc,rfl,b0,_⟩:=bv;have⟨d5,_,_,d6⟩:=b0.all;have d7:fg j k<=1:=by unfold fg;split<;>omega
  refine ah ?_;refine RO.bT (λo=>?_) (λo=>?_)
  .refine ah ?_;refine RO.bT (λO=>?_) (λO=>?_);·refine ah ?_;exact Ru.aP (h2 _ U.gr λf=>by simp[((r f).tr o).1]at O)
   have O:e.args=[]:=aeQ ab;refine ah ?_;refine RO.bT (λl=>?_) (λl=>?_)
   .refine ah ?_;refine RO.bT (λn=>?_) (λn=>?_);·refine ah ?_;exact Ru.aP (h2 _ U.gr λf=>((r f).tr o).2 l (by rw[q];exact n))
    refine ah ?_;refine RO.bT (λw=>?_) (λw=>absurd o w);refine ah ?_;refine RO.nV (λg9=>by simp[l]at g9) (λ_=>?_);refine ah ?_;exact Ru.wk (F _ (m (ax (λ_=>⟨O,λ_=>n⟩) λh=>absurd ⟨o,l⟩ h)) U.tail)
   refine ah ?_;refine RO.bT (λw=>?_) (λw=>absurd o w);refine ah ?_;refine RO.nV (λ_=>?_) (λg9=>by simp[l]at g9);refine ah ?_;refine RO.cr U 1 ?_;refine ah ?_;refine RO.Lc (Ld T ⟨R,S,V,rfl,U.gr.sl I,U.gr.sl J,b8.D5.ib U.gr L⟩ λH7 hg=>⟨?_,?_⟩) (hvs:=hvs) (v:=ve) (i:=aw) (o:=1);·obtain⟨_,hp⟩:=(U.bZ hg).get 0 rfl;exact tB.cell hp rfl
   have U:=U.bZ hg;refine ah ?_;refine Ru.cond (λg9=>?_) (λg9=>?_);·refine ah ?_;exact Ru.aP (h2 _ U.gr λf=>by have t:=(r f).aM λh=>l h.2;rw[q]at t;omega)
   refine ah ?_;exact Ru.wk (F _ (m (ax (λ_=>⟨O,λh=>absurd h l⟩) λ_=>by omega)) U.tail)
  refine ah ?_;refine RO.bT (λw=>absurd w o) (λw=>?_);refine ah ?_;refine RO.cr U 1 ?_;refine ah ?_;refine RO.Lc (Ld T ⟨R,S,V,rfl,U.gr.sl I,U.gr.sl J,b8.D5.ib U.gr L⟩ λH7 hg=>⟨?_,?_⟩) (hvs:=hvs) (v:=ve) (i:=aw) (o:=1);·obtain⟨_,hp⟩:=(U.bZ hg).get 0 rfl;exact tB.cell hp rfl
  have U:=U.bZ hg;refine ah ?_;refine Ru.cond (λg9=>?_) (λg9=>?_);·refine ah ?_;exact Ru.aP (h2 _ U.gr λf=>by have t:=(r f).aM λh=>o h.1;rw[q]at t;omega)
  refine ah ?_;exact Ru.wk (F _ (m (ax (λh=>absurd h o) λ_=>by omega)) U.tail)
 refine Ru.exitTo ?_;refine ah ?_;exact Ru.aP (h1 _ U.gr ⟨N,f3,f4,f5,f6,λk h=>m k h ab⟩)
end
end
end Go.ak.R
end
