/- A part of the proof. No conditions. -/
import Derived.Test.YtjhkgigolpfcfaaGreatDoorA12
set_option linter.all false
set_option maxHeartbeats 16000000
open List renaming length_cons->akA
open Nat renaming le_of_ble_eq_true->akc
open Int renaming ofNat->ak1
noncomputable section
namespace Go.am.R
section
variable{ac:Nat->aG}
structure wQ(g:G.bu)(j:G.lD)(k:Nat)(e:G.Edge):Prop where
 lo:1<=e.block
 hi:e.block<=(g.al.length:Int) - 1
 pF:∀a∈e.args,0<=a/\a<=g.bp - 1
 tr:j.op=67->e.args=[]/\(k=2->(g.al.getD e.block.toNat default).params.length≠0)
 aM:¬(j.op=67/\k=2)->(g.al.getD e.block.toNat default).params.length=e.args.length+ko j k
structure yO(g:G.bu)(j:G.lD):Prop where
 ae:AE j j.args.length j.go.length
 pF:∀a∈j.args,0<=a/\a<=g.bp - 1
 b9:j.op≠66->j.b9=[]
 name:j.op=63↔j.name≠ []
 nm:j.name≠ []->su j.name
 E0:∀k(h:k<j.go.length),wQ g j k j.go[k]
theorem O9:∀{l:List Nat},mH l<=3*l.length|[]=>by simp[mH]|k::l=>by have:=O9 (l:=l);simp only[mH,akA];omega
section
variable{g:G.bu}{j:G.lD}{H:ai}{cs cj:List AV}
abbrev CN(a b:ab)(g:G.bu)(j:G.lD)(c d e f:AV):List Th:=[tB tx b [aU j.op,d,.str j.name,e,f],tB fI a [.str g.name,aI g.params,aI g.bp,c]]
theorem aer(T:Tb ac)(hg:iG H g cs)(hj:tw H j cj)(hB:G.Sm g)(Y:0<=g.bp)(a9:g.bp<=6000)(Z:∀c∈j.name,c<256)(aw:∀c∈j.b9,c<256)(a':j.args.length<=12/\j.b9.length<=12/\j.go.length<=12/\j.name.length<=60)(ax:∀e∈j.go,e.args.length<=12){K:KT}(h1:∀H',bm H H'->yO g j->K (.bool true) H')(h2:∀H',bm H H'->K (.bool false) H'):YN ac WM [.agg cs,.agg cj] H K:=by
 have a4:=hg.one;have a5:=hj.one;obtain⟨X,rfl,cA⟩:=hg;obtain⟨I,J,L,rfl,A,B,C⟩:=hj;have⟨ba,_,_,bb⟩:=cA.all;have⟨bc,_,_,bd⟩:=B.all;have⟨bv,_,_,bS⟩:=A.all;have⟨b0,_,_,b3⟩:=C.all;have b4:=hB.nb;refine YF.code T.abA aB ?_;refine Ru.seq ?_;refine Ru.region ?_;refine RO.dL (aj.dc H) λH1 N U=>?_;refine RO.dL U λH2 O U=>?_;have U:aj H H2 (CN N O g j X I J L):=U;refine RO.bg ?_;refine RO.nil ?_;refine Ru.seq ?_;refine Ru.region ?_;refine RO.bg ?_;refine RO.bg ?_;refine RO.nil ?_;refine Ru.seq ?_;refine Ru.wP (P:=λM H'=>∃a e:Nat,M=[(p5,aN a),(p6,aN e),(p2,.az N 0),(p3,.az O 0)]/\AE j a e/\aj H H' (CN N O g j X I J L)) (λM H3⟨a,e,w,ag,U⟩=>?_) (λs' d=>?_);rotate_left
 .repeat'(first|refine rR ?_|(refine Ru.kN (λp=>?_) (λp=>?_)<;>rw[p]))
  all_goals first|exact Ru.aV (h2 _ U.gr)|exact d _ _ _ ⟨_,_,rfl,.go (of_decide_eq_true p),U⟩ fB|exact d _ _ _ ⟨_,_,rfl,.Cz (of_decide_eq_true p),U⟩ fB|exact d _ _ _ ⟨_,_,rfl,.is (of_decide_eq_true p),U⟩ fB|exact d _ _ _ ⟨_,_,rfl,.gE (of_decide_eq_true p),U⟩ fB|exact d _ _ _ ⟨_,_,rfl,.CB (of_decide_eq_true p),U⟩ fB|exact d _ _ _ ⟨_,_,rfl,.ret (of_decide_eq_true p),U⟩ fB|exact d _ _ _ ⟨_,_,rfl,.sC (of_decide_eq_true p),U⟩ fB|exact d _ _ _ ⟨_,_,rfl,.stuck (of_decide_eq_true p),U⟩ fB|skip
  .have ay:j.op=66:=of_decide_eq_true p;refine Ru.nm λS0 M hS w=>?_;refine Ru.cC w (up (P:=λi=>∀u,u+mH (j.b9.drop i)=mH j.b9->(∀x(h:x<j.b9.length),x<i->1<=j.b9[x]/\j.b9[x]<=3/\(j.b9[x]=3->x+1=j.b9.length))->Ru ac _ S0 ([(p7,aN i),(p5,aN u)]++pk M [p2,p3,p6]) H2) j.b9.length (λi hi y u n f=>?_) 0 af 0 aB (λx _ P=>by omega));subst hS;subst w;have b5:=O9 (l:=j.b9);refine Ru.loop ?_;refine ah ?_;refine Ru.cond (λo=>?_) (λo=>?_)
   .have b6:=aw _ (agB o);have y:=y (i+1) af af;rw[aj9 o]at n;simp only[mH]at n;have f:1<=j.b9[i]/\j.b9[i]<=3/\(j.b9[i]=3->i+1=j.b9.length)->∀x(h:x<j.b9.length),x<i+1->1<=j.b9[x]/\j.b9[x]<=3/\(j.b9[x]=3->x+1=j.b9.length):=λhb x P h=>by
     by_cases e:x=i;·subst e;exact hb
     exact f x P af
    refine ah ?_;refine RO.lg U.gr B (λq9 o9 a0 b'=>?_) (j:=i);generalize j.b9[i]=kd at*;refine ah ?_;refine RO.kX ?_;rw[pY (n:=.ofNat kd) (by rw[aj5];omega) (by rw[aj5];omega)];refine RO.cl (sx T (λs t=>?_) (λ_=>?_));rotate_left;·refine ah ?_;exact Ru.aV (h2 _ U.gr)
    have s:(1:Int)<=kd:=s;have t:(kd:Int)<=3:=t;have D:iK .sub 4 (.ofNat 3) (.ofNat kd)=some (aU (3 - kd)):=by have:kd=1\/kd=2\/kd=3:=af;rcases this with rfl|rfl|rfl<;>rfl
    have ar:iJ 3 (.ofNat (3 - kd))=.ofNat (3 - kd):=pY (by rw[aj5];omega) (by rw[aj5];omega);have av:(kd=3->i+1=j.b9.length)->_:=λhl=>y (u+(3 - kd)) af (f ⟨af,af,hl⟩);refine ah ?_;refine RO.de (λz=>?_) (λz=>?_)
    .refine ah ?_;refine RO.sub ?_ (a:=.ofNat j.b9.length) (b:=1) (h1:=by rw[aj5];omega) (h2:=by rw[aj5];omega);refine ah ?_;refine Ru.kN (λq=>?_) (λq=>?_);·refine ah ?_;exact Ru.aV (h2 _ U.gr)
     have hl:i+1=j.b9.length:=by have:¬ak1 i<ak1 j.b9.length - 1:=of_decide_eq_false q;simp only[aj5]at this;omega
     refine ah ?_;refine RO.arith ?_ (hv:=D);refine RO.kX ?_;rw[ar];refine ah ?_;exact Ru.wk (av λ_=>hl)
    refine ah ?_;refine RO.arith ?_ (hv:=D);refine RO.kX ?_;rw[ar];refine ah ?_;exact Ru.wk (av λh=>absurd h z)
   refine Ru.exitTo ?_;refine ah ?_;refine RO.cl (sx T (λs t=>?_) (λ_=>?_))
   .refine ah ?_;have s:(1:Int)<=j.b9.length:=s;have t:(j.b9.length:Int)<=4:=t;have e:u=mH j.b9:=by rw[List.drop_of_length_le af]at n;simpa[mH]using n
    subst e;exact d _ _ _ ⟨_,_,rfl,.AR ay (λx P=>f x P af) af af,U⟩ fB
   refine ah ?_;exact Ru.aV (h2 _ U.gr)
  refine RO.qD ?_ (r:=aN (max 1 j.args.length)) (hr:=?_);·refine ah ?_;exact d _ _ _ ⟨_,_,rfl,.CC (of_decide_eq_true p),U⟩ fB
  show some (AV.int 3 (if lV (.ofNat 1) (.ofNat j.args.length)then .ofNat j.args.length else .ofNat 1))=_;rw[nG];by_cases e:1<j.args.length;·rw[decide_eq_true (by simp only[aj5];omega),Nat.max_eq_right af];rfl
  rw[decide_eq_false (by simp only[aj5];omega),Nat.max_eq_left af];rfl
 subst w;refine Ru.seq ?_;refine Ru.wP (P:=λM H'=>M=[(p2,.az N 0),(p3,.az O 0)]/\(a=j.args.length/\e=j.go.length)/\(∀a∈j.args,0<=a/\a<=g.bp - 1)/\(j.op≠66->j.b9=[])/\(j.op=63↔j.name≠ [])/\(j.name≠ []->su j.name)/\aj H H' (CN N O g j X I J L)) (λM H4⟨w,⟨f1,f2⟩,f3,f4,f5,f6,U⟩=>?_) (λs' d=>?_);rotate_left
 .refine ah ?_;refine RO.de (λs=>?_) (λs=>?_);·refine ah ?_;exact Ru.aV (h2 _ U.gr)
  refine ah ?_;refine RO.de (λt=>?_) (λt=>?_);·refine ah ?_;exact Ru.aV (h2 _ U.gr)
  refine ah ?_;refine RO.cl (Jf T (U.gr.sl A) af Y af (λz=>?_) ?_);rotate_left;·refine ah ?_;exact Ru.aV (h2 _ U.gr)
  refine ah ?_;refine RO.de (λq=>?_) (λq=>?_)
  .refine ah ?_;refine RO.de (λW=>?_) (λW=>?_);·refine ah ?_;exact Ru.aV (h2 _ U.gr)
   have v:j.op≠66->j.b9=[]:=λ_=>akM af;refine ah ?_;refine RO.eq (t:=(decide (j.op=63))==(!j8 j.name [])) ?_ (ht:=rfl);refine ah ?_;refine RO.tq (λl=>?_) (λl=>?_);·refine ah ?_;exact Ru.aV (h2 _ U.gr)
   have l:j.op=63↔j.name≠ []:=by rw[qv]at l;by_cases e1:j.op=63<;>by_cases e2:j.name=[]<;>simp[e1,e2]at l⊢
   refine ah ?_;refine RO.tq (λm=>?_) (λm=>?_)
   .refine ah ?_;refine RO.cl (EX T Z af (λr=>?_) ?_);·refine ah ?_;exact d _ _ _ ⟨rfl,⟨af,af⟩,z,v,l,λ_=>r,U⟩ fB
    refine ah ?_;exact Ru.aV (h2 _ U.gr)
   refine ah ?_;have m:j.name=[]:=by rw[qv]at m;simpa using m
   exact d _ _ _ ⟨rfl,⟨af,af⟩,z,v,l,λh=>absurd m h,U⟩ fB
  have v:j.op≠66->j.b9=[]:=λh=>absurd h q;refine ah ?_;refine RO.eq (t:=(decide (j.op=63))==(!j8 j.name [])) ?_ (ht:=rfl);refine ah ?_;refine RO.tq (λl=>?_) (λl=>?_);·refine ah ?_;exact Ru.aV (h2 _ U.gr)
  have l:j.op=63↔j.name≠ []:=by rw[qv]at l;by_cases e1:j.op=63<;>by_cases e2:j.name=[]<;>simp[e1,e2]at l⊢
  refine ah ?_;refine RO.tq (λm=>?_) (λm=>?_)
  .refine ah ?_;refine RO.cl (EX T Z af (λr=>?_) ?_);·refine ah ?_;exact d _ _ _ ⟨rfl,⟨af,af⟩,z,v,l,λ_=>r,U⟩ fB
   refine ah ?_;exact Ru.aV (h2 _ U.gr)
  refine ah ?_;have m:j.name=[]:=by rw[qv]at m;simpa using m
  exact d _ _ _ ⟨rfl,⟨af,af⟩,z,v,l,λh=>absurd m h,U⟩ fB
 subst w;rw[f1,f2]at ag;refine ah ?_;refine Ru.nm λS0 M hS w=>?_;refine Ru.cC w (up (P:=λk=>∀HX,(∀x(h:x<j.go.length),x<k->wQ g j x j.go[x])->aj H HX (CN N O g j X I J L)->Ru ac _ S0 ([(p9,aN k)]++pk M [p2,p3]) HX) j.go.length (λk hk y HX f U=>?_) 0 af _ (λx _ P=>by omega) U);subst hS;subst w;refine Ru.loop ?_;refine ah ?_;refine Ru.cond (λo=>?_) (λo=>?_)
 .have ca:=ax _ (agB o);have y:=y (k+1) af af;have f:wQ g j k j.go[k]->∀x(h:x<j.go.length),x<k+1->wQ g j x j.go[x]:=λhb x P h=>by
   by_cases e:x=k;·subst e;exact hb
   exact f x P af
  refine ah ?_;refine RO.cZ U.gr C (λq9 o9 c9 a0 a1 cd hat hrd=>?_) (j:=k);generalize j.go[k]=e at*;obtain⟨ve,rfl,R⟩:=a1;have⟨cf,cn,cp,cv⟩:=R.all;have hvs:=Sl.bX R;refine ah ?_;refine RO.fx U λH5 S U=>?_;have U:aj H H5 (tB yj S [aI e.block,ve]::CN N O g j X I J L):=U;refine ah ?_;refine RO.sub ?_ (a:=.ofNat g.al.length) (b:=1) (h1:=by rw[aj5];omega) (h2:=by rw[aj5];omega);refine RO.cl (sx T (λs t=>?_) (λ_=>?_));rotate_left;·refine ah ?_;exact Ru.aV (h2 _ U.gr)
  refine ah ?_;refine RO.cl (Jf T (U.gr.sl R) af Y af (λz=>?_) ?_);rotate_left;·refine ah ?_;exact Ru.aV (h2 _ U.gr)
  have s:1<=e.block:=s;have t:e.block<=(g.al.length:Int) - 1:=t;obtain⟨b,hb⟩:∃b:Nat,e.block=b:=⟨e.block.toNat,af⟩;rw[hb]at U;have E:b<g.al.length:=af;have F:g.al.getD e.block.toNat default=g.al[b]:=by rw[hb,aj3,bF E]
  have V:(j.op=67->e.args=[]/\(k=2->g.al[b].params.length≠0))->(¬(j.op=67/\k=2)->g.al[b].params.length=e.args.length+ko j k)->wQ g j k e:=λa6 a8=>⟨s,t,z,by rw[F];exact a6,by rw[F];exact a8⟩;refine ah ?_;refine RO.cZ U.gr cA (λq1 o1 c1 cx a2 cy hat hrd=>?_) (j:=b);have cE:=(hB.bl _ (agB E)).1;obtain⟨vp,cK,jc,rfl,a3,_⟩:=a2;have⟨c3,_,_,c5⟩:=a3.all;have c8:ko j k<=1:=by unfold ko;split<;>omega
  refine ah ?_;refine RO.de (λq=>?_) (λq=>?_)
  .refine ah ?_;refine RO.de (λW=>?_) (λW=>?_);·refine ah ?_;exact Ru.aV (h2 _ U.gr)
   have W:e.args=[]:=akM af;refine ah ?_;refine RO.de (λl=>?_) (λl=>?_)
   .refine ah ?_;refine RO.de (λm=>?_) (λm=>?_);·refine ah ?_;exact Ru.aV (h2 _ U.gr)
    refine ah ?_;refine RO.de (λr=>?_) (λr=>absurd q r);refine ah ?_;refine RO.tq (λQ=>by simp[l]at Q) (λ_=>?_);refine ah ?_;exact Ru.wk (y _ (f (V (λ_=>⟨W,λ_=>m⟩) λh=>absurd ⟨q,l⟩ h)) U.tail)
   refine ah ?_;refine RO.de (λr=>?_) (λr=>absurd q r);refine ah ?_;refine RO.tq (λ_=>?_) (λQ=>by simp[l]at Q);refine ah ?_;refine RO.eQ U 1 ?_;refine ah ?_;refine RO.OZ (O8 T ⟨I,J,L,rfl,U.gr.sl A,U.gr.sl B,dQ.If.jU U.gr C⟩ λH7 hg=>⟨?_,?_⟩) (hvs:=hvs) (v:=ve) (i:=S) (o:=1);·obtain⟨_,hp⟩:=(U.cI hg).get 0 rfl;exact tB.cell hp rfl
   have U:=U.cI hg;refine ah ?_;refine Ru.cond (λQ=>?_) (λQ=>?_);·refine ah ?_;exact Ru.aV (h2 _ U.gr)
   refine ah ?_;exact Ru.wk (y _ (f (V (λ_=>⟨W,λh=>absurd h l⟩) λ_=>by omega)) U.tail)
  refine ah ?_;refine RO.de (λr=>absurd r q) (λr=>?_);refine ah ?_;refine RO.eQ U 1 ?_;refine ah ?_;refine RO.OZ (O8 T ⟨I,J,L,rfl,U.gr.sl A,U.gr.sl B,dQ.If.jU U.gr C⟩ λH7 hg=>⟨?_,?_⟩) (hvs:=hvs) (v:=ve) (i:=S) (o:=1);·obtain⟨_,hp⟩:=(U.cI hg).get 0 rfl;exact tB.cell hp rfl
  have U:=U.cI hg;refine ah ?_;refine Ru.cond (λQ=>?_) (λQ=>?_);·refine ah ?_;exact Ru.aV (h2 _ U.gr)
  refine ah ?_;exact Ru.wk (y _ (f (V (λh=>absurd h q) λ_=>by omega)) U.tail)
 refine Ru.exitTo ?_;refine ah ?_;exact Ru.aV (h1 _ U.gr ⟨ag,f3,f4,f5,f6,λk h=>f k h af⟩)
end
end
end Go.am.R
end
