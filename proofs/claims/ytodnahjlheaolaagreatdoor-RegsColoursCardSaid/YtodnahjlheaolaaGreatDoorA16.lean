/- A part. No conditions. -/
import Derived.Test.YtodnahjlheaolaaGreatDoorA15
set_option linter.all false
set_option maxHeartbeats 16000000
open Int renaming ofNat->ah0
noncomputable section
namespace Go.al.R
variable{B:G.aM}
section
variable{ac:Nat->aX}
structure ly(g:G.aM)(j:G.fJ)(k:Nat)(e:G.Edge):Prop where
 lo:1<=e.block
 hi:e.block<=(g.aj.length:Int) - 1
 iU:∀a∈e.args,0<=a/\a<=g.aO - 1
 tr:j.op=67->e.args=[]/\(k=2->(g.aj.getD e.block.toNat default).i4.length≠0)
 aK:¬(j.op=67/\k=2)->(g.aj.getD e.block.toNat default).i4.length=e.args.length+fS j k
structure mw(g:G.aM)(j:G.fJ):Prop where
 ae:AE j j.args.length j.go.length
 iU:∀a∈j.args,0<=a/\a<=g.aO - 1
 bu:j.op≠66->j.bu=[]
 i7:j.op=63↔j.i7≠ []
 nm:j.i7≠ []->jS j.i7
 Ap:∀k(h:k<j.go.length),ly g j k j.go[k]
section
variable{j:G.fJ}{H:ai}{cs cj:List AV}
abbrev Aq(a b:ah)(B:G.aM)(j:G.fJ)(c d e f:AV):List Th:=[tB mg b [aU j.op,d,.str j.i7,e,f],tB cA a [.str B.i7,aI B.i4,aI B.aO,c]]
theorem acy(T:Tb ac)(hg:dc H B cs)(hj:nZ H j cj)(hB:G.Sm B)(ay:0<=B.aO)(b':B.aO<=6000)(a1:∀c∈j.i7,c<256)(a':∀c∈j.bu,c<256)(ca:j.args.length<=12/\j.bu.length<=12/\j.go.length<=12/\j.i7.length<=60)(ba:∀e∈j.go,e.args.length<=12){K:KT}(h1:∀E,aR H E->mw B j->K (.bool true) E)(h2:∀E,aR H E->¬mw B j->K (.bool false) E):YN ac WA [.agg cs,.agg cj] H K:=by
 have b3:=hg.one;have b4:=hj.one;obtain⟨vb,rfl,bz⟩:=hg;obtain⟨S,V,W,rfl,J,L,N⟩:=hj;have⟨cd,_,_,cf⟩:=bz.all;have⟨cn,_,_,cp⟩:=L.all;have⟨cv,_,_,cx⟩:=J.all;have⟨cy,_,_,cE⟩:=N.all;have cR:=hB.nb;refine YF.code T.YY aC (Ru.seq (Ru.region (RO.bZ (ak.bM H) λH1 X U=>RO.bZ U λH2 Y U=>?_)));have U:ak H H2 (Aq X Y B j vb S V W):=U;refine RO.bf (RO.nil (Ru.seq (Ru.region (RO.bf (RO.bf (RO.nil (Ru.seq (Ru.oJ (P:=λM E=>∃a e:Nat,M=[(p5,aN a),(p6,aN e),(p2,.aD X 0),(p3,.aD Y 0)]/\AE j a e/\ak H E (Aq X Y B j vb S V W)) (λM H3⟨a,e,F,O,U⟩=>?_) (λs' d=>?_)))))))));rotate_left
 .repeat'(first|refine nO ?_|(refine Ru.d9 (λv=>?_) (λv=>?_)<;>rw[v]))
  all_goals first|exact Ru.aL (h2 _ U.gr λf=>by have t:=f.ae.aA;simp only[decide_eq_false_iff_not]at*;omega)|exact d _ _ _ ⟨_,_,rfl,.go (of_decide_eq_true v),U⟩ dw|exact d _ _ _ ⟨_,_,rfl,.tF (of_decide_eq_true v),U⟩ dw|exact d _ _ _ ⟨_,_,rfl,.is (of_decide_eq_true v),U⟩ dw|exact d _ _ _ ⟨_,_,rfl,.eg (of_decide_eq_true v),U⟩ dw|exact d _ _ _ ⟨_,_,rfl,.tG (of_decide_eq_true v),U⟩ dw|exact d _ _ _ ⟨_,_,rfl,.ret (of_decide_eq_true v),U⟩ dw|exact d _ _ _ ⟨_,_,rfl,.kr (of_decide_eq_true v),U⟩ dw|exact d _ _ _ ⟨_,_,rfl,.stuck (of_decide_eq_true v),U⟩ dw|skip
  .have ag:j.op=66:=of_decide_eq_true v;refine Ru.nm λS0 M hS F=>Ru.bH F (up (P:=λi=>∀A,A+kV (j.bu.drop i)=kV j.bu->(∀x(h:x<j.bu.length),x<i->1<=j.bu[x]/\j.bu[x]<=3/\(j.bu[x]=3->x+1=j.bu.length))->Ru ac _ S0 ([(p7,aN i),(p5,aN A)]++pk M [p2,p3,p6]) H2) j.bu.length (λi hi I A s m=>?_) 0 aa 0 aC (λx _ Z=>by omega));subst hS;subst F;have c8:=Fz (l:=j.bu);refine Ru.loop (ab ?_);refine Ru.cond (λp=>?_) (λp=>?_)
   .have c9:=a' _ (abO p);have I:=I (i+1) aa aa;have a2:mw B j->1<=j.bu[i]/\j.bu[i]<=3/\(j.bu[i]=3->i+1=j.bu.length):=λf=>(f.ae.Mr ag).1 i p;rw[ahp p]at s;simp only[kV]at s;have m:1<=j.bu[i]/\j.bu[i]<=3/\(j.bu[i]=3->i+1=j.bu.length)->∀x(h:x<j.bu.length),x<i+1->1<=j.bu[x]/\j.bu[x]<=3/\(j.bu[x]=3->x+1=j.bu.length):=λhb x Z h=>by
     by_cases e:x=i;·subst e;exact hb
     exact m x Z aa
    refine ab ?_;refine RO.ic U.gr L (λq9 o9 bb c'=>?_) (j:=i);generalize j.bu[i]=kd at*;refine ab ?_;refine RO.kx ?_;rw[mY (n:=.ofNat kd) (by rw[ag0];omega) (by rw[ag0];omega)];refine RO.cl (oF T (λy z=>?_) (λu=>?_));rotate_left;·refine ab ?_;exact Ru.aL (h2 _ U.gr λf=>u (by have t:=a2 f;exact⟨by show(1:Int)<=kd;omega,by show(kd:Int)<=3;omega⟩))
    have y:(1:Int)<=kd:=y;have z:(kd:Int)<=3:=z;have Q:fO .sub 4 (.ofNat 3) (.ofNat kd)=some (aU (3 - kd)):=by have:kd=1\/kd=2\/kd=3:=aa;rcases this with rfl|rfl|rfl<;>rfl
    have a6:gf 3 (.ofNat (3 - kd))=.ofNat (3 - kd):=mY (by rw[ag0];omega) (by rw[ag0];omega);have a8:(kd=3->i+1=j.bu.length)->_:=λhl=>I (A+(3 - kd)) aa (m ⟨aa,aa,hl⟩);refine ab ?_;refine RO.bP (λD=>?_) (λD=>?_)
    .refine ab ?_;refine RO.sub ?_ (a:=.ofNat j.bu.length) (b:=1) (h1:=by rw[ag0];omega) (h2:=by rw[ag0];omega);refine ab ?_;refine Ru.d9 (λo=>?_) (λo=>?_);·refine ab ?_;exact Ru.aL (h2 _ U.gr λf=>by have t:=(a2 f).2.2 D;have h7:ah0 i<ah0 j.bu.length - 1:=of_decide_eq_true o;simp only[ag0]at h7;omega)
     have hl:i+1=j.bu.length:=by have:¬ah0 i<ah0 j.bu.length - 1:=of_decide_eq_false o;simp only[ag0]at this;omega
     refine ab ?_;refine RO.arith (RO.kx ?_) (hv:=Q);rw[a6];refine ab ?_;exact Ru.wk (a8 λ_=>hl)
    refine ab ?_;refine RO.arith (RO.kx ?_) (hv:=Q);rw[a6];refine ab ?_;exact Ru.wk (a8 λh=>absurd h D)
   refine Ru.exitTo ?_;refine ab ?_;refine RO.cl (oF T (λy z=>?_) (λu=>?_))
   .refine ab ?_;have y:(1:Int)<=j.bu.length:=y;have z:(j.bu.length:Int)<=4:=z;have e:A=kV j.bu:=by rw[List.drop_of_length_le aa]at s;simpa[kV]using s
    subst e;exact d _ _ _ ⟨_,_,rfl,.ou ag (λx Z=>m x Z aa) aa aa,U⟩ dw
   refine ab ?_;exact Ru.aL (h2 _ U.gr λf=>u (by have t:=(f.ae.Mr ag).2;exact⟨by show(1:Int)<=j.bu.length;omega,by show(j.bu.length:Int)<=4;omega⟩))
  refine RO.oY ?_ (r:=aN (max 1 j.args.length)) (hr:=?_);·refine ab ?_;exact d _ _ _ ⟨_,_,rfl,.pN (of_decide_eq_true v),U⟩ dw
  show some (AV.int 3 (if j7 (.ofNat 1) (.ofNat j.args.length)then .ofNat j.args.length else .ofNat 1))=_;rw[li];by_cases e:1<j.args.length;·rw[decide_eq_true (by simp only[ag0];omega),Nat.max_eq_right aa];rfl
  rw[decide_eq_false (by simp only[ag0];omega),Nat.max_eq_left aa];rfl
 subst F;refine Ru.seq (Ru.oJ (P:=λM E=>M=[(p2,.aD X 0),(p3,.aD Y 0)]/\(a=j.args.length/\e=j.go.length)/\(∀a∈j.args,0<=a/\a<=B.aO - 1)/\(j.op≠66->j.bu=[])/\(j.op=63↔j.i7≠ [])/\(j.i7≠ []->jS j.i7)/\ak H E (Aq X Y B j vb S V W)) (λM H4⟨F,⟨f1,f2⟩,f3,f4,f5,f6,U⟩=>?_) (λs' d=>?_));rotate_left
 .refine ab ?_;refine RO.bP (λy=>?_) (λy=>?_);·refine ab ?_;exact Ru.aL (h2 _ U.gr λf=>by have t:=f.ae.Mt O;omega)
  refine ab ?_;refine RO.bP (λz=>?_) (λz=>?_);·refine ab ?_;exact Ru.aL (h2 _ U.gr λf=>by have t:=f.ae.Mt O;omega)
  refine ab ?_;refine RO.cl (Ge T (U.gr.sl J) aa ay aa (λD=>?_) λu=>?_);rotate_left;·refine ab ?_;exact Ru.aL (h2 _ U.gr λf=>u f.iU)
  refine ab ?_;refine RO.bP (λo=>?_) (λo=>?_)
  .refine ab ?_;refine RO.bP (λP=>?_) (λP=>?_);·refine ab ?_;exact Ru.aL (h2 _ U.gr λf=>by simp[f.bu o]at P)
   have C:j.op≠66->j.bu=[]:=λ_=>ahz aa;refine ab ?_;refine RO.eq (t:=(decide (j.op=63))==(!iG j.i7 [])) (ab ?_) (ht:=rfl);refine RO.pD (λl=>?_) (λl=>?_);·refine ab ?_;exact Ru.aL (h2 _ U.gr λf=>by have t:=f.i7;rw[jT]at l;by_cases e1:j.op=63<;>by_cases e2:j.i7=[]<;>simp[e1,e2]at l t)
   have l:j.op=63↔j.i7≠ []:=by rw[jT]at l;by_cases e1:j.op=63<;>by_cases e2:j.i7=[]<;>simp[e1,e2]at l⊢
   refine ab ?_;refine RO.pD (λn=>?_) (λn=>?_)
   .refine ab ?_;refine RO.cl (Cm T a1 aa (λw=>?_) λu=>?_);·refine ab ?_;exact d _ _ _ ⟨rfl,⟨aa,aa⟩,D,C,l,λ_=>w,U⟩ dw
    refine ab ?_;exact Ru.aL (h2 _ U.gr λf=>u (f.nm (by rw[jT]at n;simpa using n)))
   refine ab ?_;have n:j.i7=[]:=by rw[jT]at n;simpa using n
   exact d _ _ _ ⟨rfl,⟨aa,aa⟩,D,C,l,λh=>absurd n h,U⟩ dw
  have C:j.op≠66->j.bu=[]:=λh=>absurd h o;refine ab ?_;refine RO.eq (t:=(decide (j.op=63))==(!iG j.i7 [])) (ab ?_) (ht:=rfl);refine RO.pD (λl=>?_) (λl=>?_);·refine ab ?_;exact Ru.aL (h2 _ U.gr λf=>by have t:=f.i7;rw[jT]at l;by_cases e1:j.op=63<;>by_cases e2:j.i7=[]<;>simp[e1,e2]at l t)
  have l:j.op=63↔j.i7≠ []:=by rw[jT]at l;by_cases e1:j.op=63<;>by_cases e2:j.i7=[]<;>simp[e1,e2]at l⊢
  refine ab ?_;refine RO.pD (λn=>?_) (λn=>?_)
  .refine ab ?_;refine RO.cl (Cm T a1 aa (λw=>?_) λu=>?_);·refine ab ?_;exact d _ _ _ ⟨rfl,⟨aa,aa⟩,D,C,l,λ_=>w,U⟩ dw
   refine ab ?_;exact Ru.aL (h2 _ U.gr λf=>u (f.nm (by rw[jT]at n;simpa using n)))
  refine ab ?_;have n:j.i7=[]:=by rw[jT]at n;simpa using n
  exact d _ _ _ ⟨rfl,⟨aa,aa⟩,D,C,l,λh=>absurd n h,U⟩ dw
 subst F;rw[f1,f2]at O;refine ab ?_;refine Ru.nm λS0 M hS F=>Ru.bH F (up (P:=λk=>∀HX,(∀x(h:x<j.go.length),x<k->ly B j x j.go[x])->ak H HX (Aq X Y B j vb S V W)->Ru ac _ S0 ([(p9,aN k)]++pk M [p2,p3]) HX) j.go.length (λk hk I HX m U=>?_) 0 aa _ (λx _ Z=>by omega) U);subst hS;subst F;refine Ru.loop (ab ?_);refine Ru.cond (λp=>?_) (λp=>?_)
 .have dm:=ba _ (abO p);have I:=I (k+1) aa aa;have r:mw B j->ly B j k j.go[k]:=λf=>f.Ap k p;have m:ly B j k j.go[k]->∀x(h:x<j.go.length),x<k+1->ly B j x j.go[x]:=λhb x Z h=>by
   by_cases e:x=k;·subst e;exact hb
   exact m x Z aa
  refine ab ?_;refine RO.bL U.gr N (λq9 o9 d6 bb bc dr hat hrd=>?_) (j:=k);generalize j.go[k]=e at*;obtain⟨ve,rfl,av⟩:=bc;have⟨ds,dv,dx,dy⟩:=av.all;have hvs:=Sl.bI av;refine ab ?_;refine RO.dD U λH5 aw U=>?_;have U:ak H H5 (tB xD aw [aI e.block,ve]::Aq X Y B j vb S V W):=U;refine ab ?_;refine RO.sub ?_ (a:=.ofNat B.aj.length) (b:=1) (h1:=by rw[ag0];omega) (h2:=by rw[ag0];omega);refine RO.cl (oF T (λy z=>?_) (λu=>?_));rotate_left;·refine ab ?_;exact Ru.aL (h2 _ U.gr λf=>u ⟨(r f).lo,(r f).hi⟩)
  refine ab ?_;refine RO.cl (Ge T (U.gr.sl av) aa ay aa (λD=>?_) λu=>?_);rotate_left;·refine ab ?_;exact Ru.aL (h2 _ U.gr λf=>u (r f).iU)
  have y:1<=e.block:=y;have z:e.block<=(B.aj.length:Int) - 1:=z;obtain⟨b,hb⟩:∃b:Nat,e.block=b:=⟨e.block.toNat,aa⟩;rw[hb]at U;have R:b<B.aj.length:=aa;have q:B.aj.getD e.block.toNat default=B.aj[b]:=by rw[hb,aeY,aZ R]
  have ax:(j.op=67->e.args=[]/\(k=2->B.aj[b].i4.length≠0))->(¬(j.op=67/\k=2)->B.aj[b].i4.length=e.args.length+fS j k)->ly B j k e:=λb6 b7=>⟨y,z,D,by rw[q];exact b6,by rw[q];exact b7⟩;refine ab ?_;refine RO.bL U.gr bz (λq1 o1 c1 dz bv d0 hat hrd=>?_) (j:=b);have d1:=(hB.bl _ (abO R)).1;obtain⟨vp,d2,jc,rfl,b0,_⟩:=bv;have⟨d3,_,_,d4⟩:=b0.all;have d5:fS j k<=1:=by unfold fS;split<;>omega
  refine ab ?_;refine RO.bP (λo=>?_) (λo=>?_)
  .refine ab ?_;refine RO.bP (λP=>?_) (λP=>?_);·refine ab ?_;exact Ru.aL (h2 _ U.gr λf=>by simp[((r f).tr o).1]at P)
   have P:e.args=[]:=ahz aa;refine ab ?_;refine RO.bP (λl=>?_) (λl=>?_)
   .refine ab ?_;refine RO.bP (λn=>?_) (λn=>?_);·refine ab ?_;exact Ru.aL (h2 _ U.gr λf=>((r f).tr o).2 l (by rw[q];exact n))
    refine ab ?_;refine RO.bP (λw=>ab ?_) (λw=>absurd o w);refine RO.pD (λg9=>by simp[l]at g9) (λ_=>ab ?_);exact Ru.wk (I _ (m (ax (λ_=>⟨P,λ_=>n⟩) λh=>absurd ⟨o,l⟩ h)) U.tail)
   refine ab ?_;refine RO.bP (λw=>ab ?_) (λw=>absurd o w);refine RO.pD (λ_=>ab ?_) (λg9=>by simp[l]at g9);refine RO.bT U 1 (ab ?_);refine RO.Mp (Mq T ⟨S,V,W,rfl,U.gr.sl J,U.gr.sl L,bV.E5.gK U.gr N⟩ λH7 hg=>⟨?_,?_⟩) (hvs:=hvs) (v:=ve) (i:=aw) (o:=1);·obtain⟨_,hp⟩:=(U.bN hg).get 0 rfl;exact tB.cell hp rfl
   have U:=U.bN hg;refine ab ?_;refine Ru.cond (λg9=>?_) (λg9=>?_);·refine ab ?_;exact Ru.aL (h2 _ U.gr λf=>by have t:=(r f).aK λh=>l h.2;rw[q]at t;omega)
   refine ab ?_;exact Ru.wk (I _ (m (ax (λ_=>⟨P,λh=>absurd h l⟩) λ_=>by omega)) U.tail)
  refine ab ?_;refine RO.bP (λw=>absurd w o) (λw=>ab ?_);refine RO.bT U 1 (ab ?_);refine RO.Mp (Mq T ⟨S,V,W,rfl,U.gr.sl J,U.gr.sl L,bV.E5.gK U.gr N⟩ λH7 hg=>⟨?_,?_⟩) (hvs:=hvs) (v:=ve) (i:=aw) (o:=1);·obtain⟨_,hp⟩:=(U.bN hg).get 0 rfl;exact tB.cell hp rfl
  have U:=U.bN hg;refine ab ?_;refine Ru.cond (λg9=>?_) (λg9=>?_);·refine ab ?_;exact Ru.aL (h2 _ U.gr λf=>by have t:=(r f).aK λh=>o h.1;rw[q]at t;omega)
  refine ab ?_;exact Ru.wk (I _ (m (ax (λh=>absurd h o) λ_=>by omega)) U.tail)
 refine Ru.exitTo ?_;refine ab ?_;exact Ru.aL (h1 _ U.gr ⟨O,f3,f4,f5,f6,λk h=>m k h aa⟩)
end
end
end Go.al.R
end
