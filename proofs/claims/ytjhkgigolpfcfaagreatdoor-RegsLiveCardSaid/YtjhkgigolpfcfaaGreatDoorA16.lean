/- A part of the proof. No conditions. -/
import Derived.Test.YtjhkgigolpfcfaaGreatDoorA15
set_option linter.all false
set_option maxHeartbeats 16000000
open Nat renaming le_of_ble_eq_true->akc
open Int renaming ofNat->ak1
noncomputable section
namespace Go.am.R
section
variable{ac:Nat->aG}
structure wQ(g:G.bu)(j:G.lD)(k:Nat)(e:G.Edge):Prop where
 lo:1<=e.block
 hi:e.block<=(g.al.length:Int) - 1
 pF:∀a∈e.args,0<=a/\a<=g.bp - 1
 tr:j.op=67->e.args=[]/\(k=2->(g.al.getD e.block.toNat default).params.length≠0)
 aM:¬(j.op=67/\k=2)->(g.al.getD e.block.toNat default).params.length=e.args.length+ko j k
structure yO(g:G.bu)(j:G.lD):Prop where
 ae:AE j j.args.length j.go.length
 pF:∀a∈j.args,0<=a/\a<=g.bp - 1
 b9:j.op≠66->j.b9=[]
 name:j.op=63↔j.name≠ []
 nm:j.name≠ []->su j.name
 E0:∀k(h:k<j.go.length),wQ g j k j.go[k]
section
variable{g:G.bu}{j:G.lD}{H:ai}{cs cj:List AV}
abbrev CN(a b:ab)(g:G.bu)(j:G.lD)(c d e f:AV):List Th:=[tB tx b [aU j.op,d,.str j.name,e,f],tB fI a [.str g.name,aI g.params,aI g.bp,c]]
theorem aer(T:Tb ac)(hg:iG H g cs)(hj:tw H j cj)(hB:G.Sm g)(ay:0<=g.bp)(bv:g.bp<=6000)(a0:∀c∈j.name,c<256)(a4:∀c∈j.b9,c<256)(b0:j.args.length<=12/\j.b9.length<=12/\j.go.length<=12/\j.name.length<=60)(a5:∀e∈j.go,e.args.length<=12){K:KT}(h1:∀D,bm H D->yO g j->K (.bool true) D)(h2:∀D,bm H D->¬yO g j->K (.bool false) D):YN ac WM [.agg cs,.agg cj] H K:=by
 have ba:=hg.one;have bb:=hj.one;obtain⟨vb,rfl,cA⟩:=hg;obtain⟨R,S,V,rfl,I,J,L⟩:=hj;have⟨b3,_,_,b4⟩:=cA.all;have⟨b5,_,_,b6⟩:=J.all;have⟨b',_,_,ca⟩:=I.all;have⟨cd,_,_,cf⟩:=L.all;have cn:=hB.nb;refine YF.code T.abA aB ?_;refine Ru.seq ?_;refine Ru.region ?_;refine RO.dL (aj.dc H) λH1 W U=>?_;refine RO.dL U λH2 X U=>?_;have U:aj H H2 (CN W X g j vb R S V):=U;refine RO.bg ?_;refine RO.nil ?_;refine Ru.seq ?_;refine Ru.region ?_;refine RO.bg ?_;refine RO.bg ?_;refine RO.nil ?_;refine Ru.seq ?_;refine Ru.wP (P:=λM D=>∃a e:Nat,M=[(p5,aN a),(p6,aN e),(p2,.az W 0),(p3,.az X 0)]/\AE j a e/\aj H D (CN W X g j vb R S V)) (λM H3⟨a,e,E,N,U⟩=>?_) (λs' d=>?_);rotate_left
 .repeat'(first|refine rR ?_|(refine Ru.kN (λv=>?_) (λv=>?_)<;>rw[v]))
  all_goals first|exact Ru.aV (h2 _ U.gr λf=>by have t:=f.ae.aC;simp only[decide_eq_false_iff_not]at*;omega)|exact d _ _ _ ⟨_,_,rfl,.go (of_decide_eq_true v),U⟩ fB|exact d _ _ _ ⟨_,_,rfl,.Cz (of_decide_eq_true v),U⟩ fB|exact d _ _ _ ⟨_,_,rfl,.is (of_decide_eq_true v),U⟩ fB|exact d _ _ _ ⟨_,_,rfl,.gE (of_decide_eq_true v),U⟩ fB|exact d _ _ _ ⟨_,_,rfl,.CB (of_decide_eq_true v),U⟩ fB|exact d _ _ _ ⟨_,_,rfl,.ret (of_decide_eq_true v),U⟩ fB|exact d _ _ _ ⟨_,_,rfl,.sC (of_decide_eq_true v),U⟩ fB|exact d _ _ _ ⟨_,_,rfl,.stuck (of_decide_eq_true v),U⟩ fB|skip
  .have ag:j.op=66:=of_decide_eq_true v;refine Ru.nm λS0 M hS E=>?_;refine Ru.cC E (up (P:=λi=>∀A,A+mH (j.b9.drop i)=mH j.b9->(∀x(h:x<j.b9.length),x<i->1<=j.b9[x]/\j.b9[x]<=3/\(j.b9[x]=3->x+1=j.b9.length))->Ru ac _ S0 ([(p7,aN i),(p5,aN A)]++pk M [p2,p3,p6]) H2) j.b9.length (λi hi F A s m=>?_) 0 af 0 aB (λx _ Y=>by omega));subst hS;subst E;have cp:=O9 (l:=j.b9);refine Ru.loop ?_;refine ah ?_;refine Ru.cond (λp=>?_) (λp=>?_)
   .have cv:=a4 _ (agB p);have F:=F (i+1) af af;have a1:yO g j->1<=j.b9[i]/\j.b9[i]<=3/\(j.b9[i]=3->i+1=j.b9.length):=λf=>(f.ae.L4 ag).1 i p;rw[aj9 p]at s;simp only[mH]at s;have m:1<=j.b9[i]/\j.b9[i]<=3/\(j.b9[i]=3->i+1=j.b9.length)->∀x(h:x<j.b9.length),x<i+1->1<=j.b9[x]/\j.b9[x]<=3/\(j.b9[x]=3->x+1=j.b9.length):=λhb x Y h=>by
     by_cases e:x=i;·subst e;exact hb
     exact m x Y af
    refine ah ?_;refine RO.lg U.gr J (λq9 o9 a6 cx=>?_) (j:=i);generalize j.b9[i]=kd at*;refine ah ?_;refine RO.kX ?_;rw[pY (n:=.ofNat kd) (by rw[aj5];omega) (by rw[aj5];omega)];refine RO.cl (sx T (λy z=>?_) (λu=>?_));rotate_left;·refine ah ?_;exact Ru.aV (h2 _ U.gr λf=>u (by have t:=a1 f;exact⟨by show(1:Int)<=kd;omega,by show(kd:Int)<=3;omega⟩))
    have y:(1:Int)<=kd:=y;have z:(kd:Int)<=3:=z;have P:iK .sub 4 (.ofNat 3) (.ofNat kd)=some (aU (3 - kd)):=by have:kd=1\/kd=2\/kd=3:=af;rcases this with rfl|rfl|rfl<;>rfl
    have a2:iJ 3 (.ofNat (3 - kd))=.ofNat (3 - kd):=pY (by rw[aj5];omega) (by rw[aj5];omega);have a3:(kd=3->i+1=j.b9.length)->_:=λhl=>F (A+(3 - kd)) af (m ⟨af,af,hl⟩);refine ah ?_;refine RO.de (λC=>?_) (λC=>?_)
    .refine ah ?_;refine RO.sub ?_ (a:=.ofNat j.b9.length) (b:=1) (h1:=by rw[aj5];omega) (h2:=by rw[aj5];omega);refine ah ?_;refine Ru.kN (λo=>?_) (λo=>?_);·refine ah ?_;exact Ru.aV (h2 _ U.gr λf=>by have t:=(a1 f).2.2 C;have h7:ak1 i<ak1 j.b9.length - 1:=of_decide_eq_true o;simp only[aj5]at h7;omega)
     have hl:i+1=j.b9.length:=by have:¬ak1 i<ak1 j.b9.length - 1:=of_decide_eq_false o;simp only[aj5]at this;omega
     refine ah ?_;refine RO.arith ?_ (hv:=P);refine RO.kX ?_;rw[a2];refine ah ?_;exact Ru.wk (a3 λ_=>hl)
    refine ah ?_;refine RO.arith ?_ (hv:=P);refine RO.kX ?_;rw[a2];refine ah ?_;exact Ru.wk (a3 λh=>absurd h C)
   refine Ru.exitTo ?_;refine ah ?_;refine RO.cl (sx T (λy z=>?_) (λu=>?_))
   .refine ah ?_;have y:(1:Int)<=j.b9.length:=y;have z:(j.b9.length:Int)<=4:=z;have e:A=mH j.b9:=by rw[List.drop_of_length_le af]at s;simpa[mH]using s
    subst e;exact d _ _ _ ⟨_,_,rfl,.AR ag (λx Y=>m x Y af) af af,U⟩ fB
   refine ah ?_;exact Ru.aV (h2 _ U.gr λf=>u (by have t:=(f.ae.L4 ag).2;exact⟨by show(1:Int)<=j.b9.length;omega,by show(j.b9.length:Int)<=4;omega⟩))
  refine RO.qD ?_ (r:=aN (max 1 j.args.length)) (hr:=?_);·refine ah ?_;exact d _ _ _ ⟨_,_,rfl,.CC (of_decide_eq_true v),U⟩ fB
  show some (AV.int 3 (if lV (.ofNat 1) (.ofNat j.args.length)then .ofNat j.args.length else .ofNat 1))=_;rw[nG];by_cases e:1<j.args.length;·rw[decide_eq_true (by simp only[aj5];omega),Nat.max_eq_right af];rfl
  rw[decide_eq_false (by simp only[aj5];omega),Nat.max_eq_left af];rfl
 subst E;refine Ru.seq ?_;refine Ru.wP (P:=λM D=>M=[(p2,.az W 0),(p3,.az X 0)]/\(a=j.args.length/\e=j.go.length)/\(∀a∈j.args,0<=a/\a<=g.bp - 1)/\(j.op≠66->j.b9=[])/\(j.op=63↔j.name≠ [])/\(j.name≠ []->su j.name)/\aj H D (CN W X g j vb R S V)) (λM H4⟨E,⟨f1,f2⟩,f3,f4,f5,f6,U⟩=>?_) (λs' d=>?_);rotate_left
 .refine ah ?_;refine RO.de (λy=>?_) (λy=>?_);·refine ah ?_;exact Ru.aV (h2 _ U.gr λf=>by have t:=f.ae.L5 N;omega)
  refine ah ?_;refine RO.de (λz=>?_) (λz=>?_);·refine ah ?_;exact Ru.aV (h2 _ U.gr λf=>by have t:=f.ae.L5 N;omega)
  refine ah ?_;refine RO.cl (Jf T (U.gr.sl I) af ay af (λC=>?_) λu=>?_);rotate_left;·refine ah ?_;exact Ru.aV (h2 _ U.gr λf=>u f.pF)
  refine ah ?_;refine RO.de (λo=>?_) (λo=>?_)
  .refine ah ?_;refine RO.de (λO=>?_) (λO=>?_);·refine ah ?_;exact Ru.aV (h2 _ U.gr λf=>by simp[f.b9 o]at O)
   have B:j.op≠66->j.b9=[]:=λ_=>akM af;refine ah ?_;refine RO.eq (t:=(decide (j.op=63))==(!j8 j.name [])) ?_ (ht:=rfl);refine ah ?_;refine RO.tq (λl=>?_) (λl=>?_);·refine ah ?_;exact Ru.aV (h2 _ U.gr λf=>by have t:=f.name;rw[qv]at l;by_cases e1:j.op=63<;>by_cases e2:j.name=[]<;>simp[e1,e2]at l t)
   have l:j.op=63↔j.name≠ []:=by rw[qv]at l;by_cases e1:j.op=63<;>by_cases e2:j.name=[]<;>simp[e1,e2]at l⊢
   refine ah ?_;refine RO.tq (λn=>?_) (λn=>?_)
   .refine ah ?_;refine RO.cl (EX T a0 af (λw=>?_) λu=>?_);·refine ah ?_;exact d _ _ _ ⟨rfl,⟨af,af⟩,C,B,l,λ_=>w,U⟩ fB
    refine ah ?_;exact Ru.aV (h2 _ U.gr λf=>u (f.nm (by rw[qv]at n;simpa using n)))
   refine ah ?_;have n:j.name=[]:=by rw[qv]at n;simpa using n
   exact d _ _ _ ⟨rfl,⟨af,af⟩,C,B,l,λh=>absurd n h,U⟩ fB
  have B:j.op≠66->j.b9=[]:=λh=>absurd h o;refine ah ?_;refine RO.eq (t:=(decide (j.op=63))==(!j8 j.name [])) ?_ (ht:=rfl);refine ah ?_;refine RO.tq (λl=>?_) (λl=>?_);·refine ah ?_;exact Ru.aV (h2 _ U.gr λf=>by have t:=f.name;rw[qv]at l;by_cases e1:j.op=63<;>by_cases e2:j.name=[]<;>simp[e1,e2]at l t)
  have l:j.op=63↔j.name≠ []:=by rw[qv]at l;by_cases e1:j.op=63<;>by_cases e2:j.name=[]<;>simp[e1,e2]at l⊢
  refine ah ?_;refine RO.tq (λn=>?_) (λn=>?_)
  .refine ah ?_;refine RO.cl (EX T a0 af (λw=>?_) λu=>?_);·refine ah ?_;exact d _ _ _ ⟨rfl,⟨af,af⟩,C,B,l,λ_=>w,U⟩ fB
   refine ah ?_;exact Ru.aV (h2 _ U.gr λf=>u (f.nm (by rw[qv]at n;simpa using n)))
  refine ah ?_;have n:j.name=[]:=by rw[qv]at n;simpa using n
  exact d _ _ _ ⟨rfl,⟨af,af⟩,C,B,l,λh=>absurd n h,U⟩ fB
 subst E;rw[f1,f2]at N;refine ah ?_;refine Ru.nm λS0 M hS E=>?_;refine Ru.cC E (up (P:=λk=>∀HX,(∀x(h:x<j.go.length),x<k->wQ g j x j.go[x])->aj H HX (CN W X g j vb R S V)->Ru ac _ S0 ([(p9,aN k)]++pk M [p2,p3]) HX) j.go.length (λk hk F HX m U=>?_) 0 af _ (λx _ Y=>by omega) U);subst hS;subst E;refine Ru.loop ?_;refine ah ?_;refine Ru.cond (λp=>?_) (λp=>?_)
 .have cy:=a5 _ (agB p);have F:=F (k+1) af af;have r:yO g j->wQ g j k j.go[k]:=λf=>f.E0 k p;have m:wQ g j k j.go[k]->∀x(h:x<j.go.length),x<k+1->wQ g j x j.go[x]:=λhb x Y h=>by
   by_cases e:x=k;·subst e;exact hb
   exact m x Y af
  refine ah ?_;refine RO.cZ U.gr L (λq9 o9 dz a6 a8 cE hat hrd=>?_) (j:=k);generalize j.go[k]=e at*;obtain⟨ve,rfl,av⟩:=a8;have⟨c3,c5,c8,c9⟩:=av.all;have hvs:=Sl.bX av;refine ah ?_;refine RO.fx U λH5 aw U=>?_;have U:aj H H5 (tB yj aw [aI e.block,ve]::CN W X g j vb R S V):=U;refine ah ?_;refine RO.sub ?_ (a:=.ofNat g.al.length) (b:=1) (h1:=by rw[aj5];omega) (h2:=by rw[aj5];omega);refine RO.cl (sx T (λy z=>?_) (λu=>?_));rotate_left;·refine ah ?_;exact Ru.aV (h2 _ U.gr λf=>u ⟨(r f).lo,(r f).hi⟩)
  refine ah ?_;refine RO.cl (Jf T (U.gr.sl av) af ay af (λC=>?_) λu=>?_);rotate_left;·refine ah ?_;exact Ru.aV (h2 _ U.gr λf=>u (r f).pF)
  have y:1<=e.block:=y;have z:e.block<=(g.al.length:Int) - 1:=z;obtain⟨b,hb⟩:∃b:Nat,e.block=b:=⟨e.block.toNat,af⟩;rw[hb]at U;have Q:b<g.al.length:=af;have q:g.al.getD e.block.toNat default=g.al[b]:=by rw[hb,aj3,bF Q]
  have ax:(j.op=67->e.args=[]/\(k=2->g.al[b].params.length≠0))->(¬(j.op=67/\k=2)->g.al[b].params.length=e.args.length+ko j k)->wQ g j k e:=λbc bd=>⟨y,z,C,by rw[q];exact bc,by rw[q];exact bd⟩;refine ah ?_;refine RO.cZ U.gr cA (λq1 o1 c1 c' a9 dm hat hrd=>?_) (j:=b);have dr:=(hB.bl _ (agB Q)).1;obtain⟨vp,ds,jc,rfl,a',_⟩:=a9;have⟨dv,_,_,dx⟩:=a'.all;have dy:ko j k<=1:=by unfold ko;split<;>omega
  refine ah ?_;refine RO.de (λo=>?_) (λo=>?_)
  .refine ah ?_;refine RO.de (λO=>?_) (λO=>?_);·refine ah ?_;exact Ru.aV (h2 _ U.gr λf=>by simp[((r f).tr o).1]at O)
   have O:e.args=[]:=akM af;refine ah ?_;refine RO.de (λl=>?_) (λl=>?_)
   .refine ah ?_;refine RO.de (λn=>?_) (λn=>?_);·refine ah ?_;exact Ru.aV (h2 _ U.gr λf=>((r f).tr o).2 l (by rw[q];exact n))
    refine ah ?_;refine RO.de (λw=>?_) (λw=>absurd o w);refine ah ?_;refine RO.tq (λZ=>by simp[l]at Z) (λ_=>?_);refine ah ?_;exact Ru.wk (F _ (m (ax (λ_=>⟨O,λ_=>n⟩) λh=>absurd ⟨o,l⟩ h)) U.tail)
   refine ah ?_;refine RO.de (λw=>?_) (λw=>absurd o w);refine ah ?_;refine RO.tq (λ_=>?_) (λZ=>by simp[l]at Z);refine ah ?_;refine RO.eQ U 1 ?_;refine ah ?_;refine RO.OZ (O8 T ⟨R,S,V,rfl,U.gr.sl I,U.gr.sl J,dQ.If.jU U.gr L⟩ λH7 hg=>⟨?_,?_⟩) (hvs:=hvs) (v:=ve) (i:=aw) (o:=1);·obtain⟨_,hp⟩:=(U.cI hg).get 0 rfl;exact tB.cell hp rfl
   have U:=U.cI hg;refine ah ?_;refine Ru.cond (λZ=>?_) (λZ=>?_);·refine ah ?_;exact Ru.aV (h2 _ U.gr λf=>by have t:=(r f).aM λh=>l h.2;rw[q]at t;omega)
   refine ah ?_;exact Ru.wk (F _ (m (ax (λ_=>⟨O,λh=>absurd h l⟩) λ_=>by omega)) U.tail)
  refine ah ?_;refine RO.de (λw=>absurd w o) (λw=>?_);refine ah ?_;refine RO.eQ U 1 ?_;refine ah ?_;refine RO.OZ (O8 T ⟨R,S,V,rfl,U.gr.sl I,U.gr.sl J,dQ.If.jU U.gr L⟩ λH7 hg=>⟨?_,?_⟩) (hvs:=hvs) (v:=ve) (i:=aw) (o:=1);·obtain⟨_,hp⟩:=(U.cI hg).get 0 rfl;exact tB.cell hp rfl
  have U:=U.cI hg;refine ah ?_;refine Ru.cond (λZ=>?_) (λZ=>?_);·refine ah ?_;exact Ru.aV (h2 _ U.gr λf=>by have t:=(r f).aM λh=>o h.1;rw[q]at t;omega)
  refine ah ?_;exact Ru.wk (F _ (m (ax (λh=>absurd h o) λ_=>by omega)) U.tail)
 refine Ru.exitTo ?_;refine ah ?_;exact Ru.aV (h1 _ U.gr ⟨N,f3,f4,f5,f6,λk h=>m k h af⟩)
end
end
end Go.am.R
end
