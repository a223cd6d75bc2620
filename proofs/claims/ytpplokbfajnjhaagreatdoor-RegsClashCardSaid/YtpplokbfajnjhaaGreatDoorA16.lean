/- A part. No conditions. -/
import Derived.Test.YtpplokbfajnjhaaGreatDoorA15
set_option linter.all false
set_option maxHeartbeats 16000000
open Int renaming ofNat->aiC
noncomputable section
namespace Go.al.R
section
variable{ab:Nat->aV}
structure lz(g:G.aP)(j:G.fB)(k:Nat)(e:G.Edge):Prop where
 lo:1<=e.block
 hi:e.block<=(g.aj.length:Int) - 1
 iS:∀a∈e.args,0<=a/\a<=g.aQ - 1
 tr:j.op=67->e.args=[]/\(k=2->(g.aj.getD e.block.toNat default).params.length≠0)
 aK:¬(j.op=67/\k=2)->(g.aj.getD e.block.toNat default).params.length=e.args.length+fI j k
structure mw(g:G.aP)(j:G.fB):Prop where
 ae:AE j j.args.length j.go.length
 iS:∀a∈j.args,0<=a/\a<=g.aQ - 1
 bw:j.op≠66->j.bw=[]
 name:j.op=63↔j.name≠ []
 nm:j.name≠ []->jR j.name
 zT:∀k(h:k<j.go.length),lz g j k j.go[k]
section
variable{g:G.aP}{j:G.fB}{H:ai}{cs cj:List AV}
abbrev zU(a b:ah)(g:G.aP)(j:G.fB)(c d e f:AV):List Th:=[tB mi b [aU j.op,d,.str j.name,e,f],tB cJ a [.str g.name,aI g.params,aI g.aQ,c]]
theorem acf(T:Tb ab)(hg:dt H g cs)(hj:nX H j cj)(hB:G.Sm g)(ax:0<=g.aQ)(b7:g.aQ<=6000)(ay:∀c∈j.name,c<256)(a8:∀c∈j.bw,c<256)(b':j.args.length<=12/\j.bw.length<=12/\j.go.length<=12/\j.name.length<=60)(a':∀e∈j.go,e.args.length<=12){K:KT}(h1:∀H',aS H H'->mw g j->K (.bool true) H')(h2:∀H',aS H H'->¬mw g j->K (.bool false) H'):YN ab W8 [.agg cs,.agg cj] H K:=by
 have b0:=hg.one;have b3:=hj.one;obtain⟨vb,rfl,bG⟩:=hg;obtain⟨Q,R,S,rfl,F,I,J⟩:=hj;have⟨ca,_,_,cd⟩:=bG.all;have⟨cf,_,_,cn⟩:=I.all;have⟨cp,_,_,cv⟩:=F.all;have⟨cx,_,_,cy⟩:=J.all;have cE:=hB.nb;refine YF.code T.Zm aC (Ru.seq (Ru.region (RO.ct (ak.bN H) λH1 V U=>RO.ct U λH2 W U=>?_)));have U:ak H H2 (zU V W g j vb Q R S):=U;refine RO.bg (RO.nil (Ru.seq (Ru.region (RO.bg (RO.bg (RO.nil (Ru.seq (Ru.pA (P:=λM H'=>∃a e:Nat,M=[(p5,aN a),(p6,aN e),(p2,.aD V 0),(p3,.aD W 0)]/\AE j a e/\ak H H' (zU V W g j vb Q R S)) (λM H3⟨a,e,D,L,U⟩=>?_) (λs' d=>?_)))))))));rotate_left
 .repeat'(first|refine nO ?_|(refine Ru.eC (λv=>?_) (λv=>?_)<;>rw[v]))
  all_goals first|exact Ru.aL (h2 _ U.gr λf=>by have t:=f.ae.aB;simp only[decide_eq_false_iff_not]at*;omega)|exact d _ _ _ ⟨_,_,rfl,.go (of_decide_eq_true v),U⟩ dC|exact d _ _ _ ⟨_,_,rfl,.tu (of_decide_eq_true v),U⟩ dC|exact d _ _ _ ⟨_,_,rfl,.is (of_decide_eq_true v),U⟩ dC|exact d _ _ _ ⟨_,_,rfl,.ef (of_decide_eq_true v),U⟩ dC|exact d _ _ _ ⟨_,_,rfl,.tw (of_decide_eq_true v),U⟩ dC|exact d _ _ _ ⟨_,_,rfl,.ret (of_decide_eq_true v),U⟩ dC|exact d _ _ _ ⟨_,_,rfl,.kl (of_decide_eq_true v),U⟩ dC|exact d _ _ _ ⟨_,_,rfl,.stuck (of_decide_eq_true v),U⟩ dC|skip
  .have Z:j.op=66:=of_decide_eq_true v;refine Ru.nm λS0 M hS D=>Ru.bI D (up (P:=λi=>∀A,A+kW (j.bw.drop i)=kW j.bw->(∀x(h:x<j.bw.length),x<i->1<=j.bw[x]/\j.bw[x]<=3/\(j.bw[x]=3->x+1=j.bw.length))->Ru ab _ S0 ([(p7,aN i),(p5,aN A)]++pk M [p2,p3,p6]) H2) j.bw.length (λi hi E A s m=>?_) 0 aa 0 aC (λx _ X=>by omega));subst hS;subst D;have cR:=Fv (l:=j.bw);refine Ru.loop (af ?_);refine Ru.cond (λp=>?_) (λp=>?_)
   .have c8:=a8 _ (acm p);have E:=E (i+1) aa aa;have a1:mw g j->1<=j.bw[i]/\j.bw[i]<=3/\(j.bw[i]=3->i+1=j.bw.length):=λf=>(f.ae.LX Z).1 i p;rw[ah6 p]at s;simp only[kW]at s;have m:1<=j.bw[i]/\j.bw[i]<=3/\(j.bw[i]=3->i+1=j.bw.length)->∀x(h:x<j.bw.length),x<i+1->1<=j.bw[x]/\j.bw[x]<=3/\(j.bw[x]=3->x+1=j.bw.length):=λhb x X h=>by
     by_cases e:x=i;·subst e;exact hb
     exact m x X aa
    refine af ?_;refine RO.iQ U.gr I (λq9 o9 ba c9=>?_) (j:=i);generalize j.bw[i]=kd at*;refine af ?_;refine RO.ku ?_;rw[m8 (n:=.ofNat kd) (by rw[ahU];omega) (by rw[ahU];omega)];refine RO.cl (py T (λy z=>?_) (λu=>?_));rotate_left;·refine af ?_;exact Ru.aL (h2 _ U.gr λf=>u (by have t:=a1 f;exact⟨by show(1:Int)<=kd;omega,by show(kd:Int)<=3;omega⟩))
    have y:(1:Int)<=kd:=y;have z:(kd:Int)<=3:=z;have O:fG .sub 4 (.ofNat 3) (.ofNat kd)=some (aU (3 - kd)):=by have:kd=1\/kd=2\/kd=3:=aa;rcases this with rfl|rfl|rfl<;>rfl
    have a2:fX 3 (.ofNat (3 - kd))=.ofNat (3 - kd):=m8 (by rw[ahU];omega) (by rw[ahU];omega);have a6:(kd=3->i+1=j.bw.length)->_:=λhl=>E (A+(3 - kd)) aa (m ⟨aa,aa,hl⟩);refine af ?_;refine RO.bW (λC=>?_) (λC=>?_)
    .refine af ?_;refine RO.sub ?_ (a:=.ofNat j.bw.length) (b:=1) (h1:=by rw[ahU];omega) (h2:=by rw[ahU];omega);refine af ?_;refine Ru.eC (λo=>?_) (λo=>?_);·refine af ?_;exact Ru.aL (h2 _ U.gr λf=>by have t:=(a1 f).2.2 C;have h7:aiC i<aiC j.bw.length - 1:=of_decide_eq_true o;simp only[ahU]at h7;omega)
     have hl:i+1=j.bw.length:=by have:¬aiC i<aiC j.bw.length - 1:=of_decide_eq_false o;simp only[ahU]at this;omega
     refine af ?_;refine RO.arith (RO.ku ?_) (hv:=O);rw[a2];refine af ?_;exact Ru.wk (a6 λ_=>hl)
    refine af ?_;refine RO.arith (RO.ku ?_) (hv:=O);rw[a2];refine af ?_;exact Ru.wk (a6 λh=>absurd h C)
   refine Ru.exitTo ?_;refine af ?_;refine RO.cl (py T (λy z=>?_) (λu=>?_))
   .refine af ?_;have y:(1:Int)<=j.bw.length:=y;have z:(j.bw.length:Int)<=4:=z;have e:A=kW j.bw:=by rw[List.drop_of_length_le aa]at s;simpa[kW]using s
    subst e;exact d _ _ _ ⟨_,_,rfl,.og Z (λx X=>m x X aa) aa aa,U⟩ dC
   refine af ?_;exact Ru.aL (h2 _ U.gr λf=>u (by have t:=(f.ae.LX Z).2;exact⟨by show(1:Int)<=j.bw.length;omega,by show(j.bw.length:Int)<=4;omega⟩))
  refine RO.mJ ?_ (r:=aN (max 1 j.args.length)) (hr:=?_);·refine af ?_;exact d _ _ _ ⟨_,_,rfl,.pu (of_decide_eq_true v),U⟩ dC
  show some (AV.int 3 (if jJ (.ofNat 1) (.ofNat j.args.length)then .ofNat j.args.length else .ofNat 1))=_;rw[kR];by_cases e:1<j.args.length;·rw[decide_eq_true (by simp only[ahU];omega),Nat.max_eq_right aa];rfl
  rw[decide_eq_false (by simp only[ahU];omega),Nat.max_eq_left aa];rfl
 subst D;refine Ru.seq (Ru.pA (P:=λM H'=>M=[(p2,.aD V 0),(p3,.aD W 0)]/\(a=j.args.length/\e=j.go.length)/\(∀a∈j.args,0<=a/\a<=g.aQ - 1)/\(j.op≠66->j.bw=[])/\(j.op=63↔j.name≠ [])/\(j.name≠ []->jR j.name)/\ak H H' (zU V W g j vb Q R S)) (λM H4⟨D,⟨f1,f2⟩,f3,f4,f5,f6,U⟩=>?_) (λs' d=>?_));rotate_left
 .refine af ?_;refine RO.bW (λy=>?_) (λy=>?_);·refine af ?_;exact Ru.aL (h2 _ U.gr λf=>by have t:=f.ae.LY L;omega)
  refine af ?_;refine RO.bW (λz=>?_) (λz=>?_);·refine af ?_;exact Ru.aL (h2 _ U.gr λf=>by have t:=f.ae.LY L;omega)
  refine af ?_;refine RO.cl (FF T (U.gr.sl F) aa ax aa (λC=>?_) λu=>?_);rotate_left;·refine af ?_;exact Ru.aL (h2 _ U.gr λf=>u f.iS)
  refine af ?_;refine RO.bW (λo=>?_) (λo=>?_)
  .refine af ?_;refine RO.bW (λN=>?_) (λN=>?_);·refine af ?_;exact Ru.aL (h2 _ U.gr λf=>by simp[f.bw o]at N)
   have B:j.op≠66->j.bw=[]:=λ_=>aih aa;refine af ?_;refine RO.eq (t:=(decide (j.op=63))==(!iG j.name [])) (af ?_) (ht:=rfl);refine RO.pj (λl=>?_) (λl=>?_);·refine af ?_;exact Ru.aL (h2 _ U.gr λf=>by have t:=f.name;rw[jS]at l;by_cases e1:j.op=63<;>by_cases e2:j.name=[]<;>simp[e1,e2]at l t)
   have l:j.op=63↔j.name≠ []:=by rw[jS]at l;by_cases e1:j.op=63<;>by_cases e2:j.name=[]<;>simp[e1,e2]at l⊢
   refine af ?_;refine RO.pj (λn=>?_) (λn=>?_)
   .refine af ?_;refine RO.cl (B' T ay aa (λw=>?_) λu=>?_);·refine af ?_;exact d _ _ _ ⟨rfl,⟨aa,aa⟩,C,B,l,λ_=>w,U⟩ dC
    refine af ?_;exact Ru.aL (h2 _ U.gr λf=>u (f.nm (by rw[jS]at n;simpa using n)))
   refine af ?_;have n:j.name=[]:=by rw[jS]at n;simpa using n
   exact d _ _ _ ⟨rfl,⟨aa,aa⟩,C,B,l,λh=>absurd n h,U⟩ dC
  have B:j.op≠66->j.bw=[]:=λh=>absurd h o;refine af ?_;refine RO.eq (t:=(decide (j.op=63))==(!iG j.name [])) (af ?_) (ht:=rfl);refine RO.pj (λl=>?_) (λl=>?_);·refine af ?_;exact Ru.aL (h2 _ U.gr λf=>by have t:=f.name;rw[jS]at l;by_cases e1:j.op=63<;>by_cases e2:j.name=[]<;>simp[e1,e2]at l t)
  have l:j.op=63↔j.name≠ []:=by rw[jS]at l;by_cases e1:j.op=63<;>by_cases e2:j.name=[]<;>simp[e1,e2]at l⊢
  refine af ?_;refine RO.pj (λn=>?_) (λn=>?_)
  .refine af ?_;refine RO.cl (B' T ay aa (λw=>?_) λu=>?_);·refine af ?_;exact d _ _ _ ⟨rfl,⟨aa,aa⟩,C,B,l,λ_=>w,U⟩ dC
   refine af ?_;exact Ru.aL (h2 _ U.gr λf=>u (f.nm (by rw[jS]at n;simpa using n)))
  refine af ?_;have n:j.name=[]:=by rw[jS]at n;simpa using n
  exact d _ _ _ ⟨rfl,⟨aa,aa⟩,C,B,l,λh=>absurd n h,U⟩ dC
 subst D;rw[f1,f2]at L;refine af ?_;refine Ru.nm λS0 M hS D=>Ru.bI D (up (P:=λk=>∀HX,(∀x(h:x<j.go.length),x<k->lz g j x j.go[x])->ak H HX (zU V W g j vb Q R S)->Ru ab _ S0 ([(p9,aN k)]++pk M [p2,p3]) HX) j.go.length (λk hk E HX m U=>?_) 0 aa _ (λx _ X=>by omega) U);subst hS;subst D;refine Ru.loop (af ?_);refine Ru.cond (λp=>?_) (λp=>?_)
 .have c':=a' _ (acm p);have E:=E (k+1) aa aa;have r:mw g j->lz g j k j.go[k]:=λf=>f.zT k p;have m:lz g j k j.go[k]->∀x(h:x<j.go.length),x<k+1->lz g j x j.go[x]:=λhb x X h=>by
   by_cases e:x=k;·subst e;exact hb
   exact m x X aa
  refine af ?_;refine RO.bO U.gr J (λq9 o9 d5 ba bb dm hat hrd=>?_) (j:=k);generalize j.go[k]=e at*;obtain⟨ve,rfl,ag⟩:=bb;have⟨dr,ds,dv,dx⟩:=ag.all;have hvs:=Sl.bK ag;refine af ?_;refine RO.dS U λH5 av U=>?_;have U:ak H H5 (tB rH av [aI e.block,ve]::zU V W g j vb Q R S):=U;refine af ?_;refine RO.sub ?_ (a:=.ofNat g.aj.length) (b:=1) (h1:=by rw[ahU];omega) (h2:=by rw[ahU];omega);refine RO.cl (py T (λy z=>?_) (λu=>?_));rotate_left;·refine af ?_;exact Ru.aL (h2 _ U.gr λf=>u ⟨(r f).lo,(r f).hi⟩)
  refine af ?_;refine RO.cl (FF T (U.gr.sl ag) aa ax aa (λC=>?_) λu=>?_);rotate_left;·refine af ?_;exact Ru.aL (h2 _ U.gr λf=>u (r f).iS)
  have y:1<=e.block:=y;have z:e.block<=(g.aj.length:Int) - 1:=z;obtain⟨b,hb⟩:∃b:Nat,e.block=b:=⟨e.block.toNat,aa⟩;rw[hb]at U;have P:b<g.aj.length:=aa;have q:g.aj.getD e.block.toNat default=g.aj[b]:=by rw[hb,ahX,bf P]
  have aw:(j.op=67->e.args=[]/\(k=2->g.aj[b].params.length≠0))->(¬(j.op=67/\k=2)->g.aj[b].params.length=e.args.length+fI j k)->lz g j k e:=λb4 b6=>⟨y,z,C,by rw[q];exact b4,by rw[q];exact b6⟩;refine af ?_;refine RO.bO U.gr bG (λq1 o1 c1 dy bc dz hat hrd=>?_) (j:=b);have d0:=(hB.bl _ (acm P)).1;obtain⟨vp,d1,jc,rfl,bv,_⟩:=bc;have⟨d2,_,_,d3⟩:=bv.all;have d4:fI j k<=1:=by unfold fI;split<;>omega
  refine af ?_;refine RO.bW (λo=>?_) (λo=>?_)
  .refine af ?_;refine RO.bW (λN=>?_) (λN=>?_);·refine af ?_;exact Ru.aL (h2 _ U.gr λf=>by simp[((r f).tr o).1]at N)
   have N:e.args=[]:=aih aa;refine af ?_;refine RO.bW (λl=>?_) (λl=>?_)
   .refine af ?_;refine RO.bW (λn=>?_) (λn=>?_);·refine af ?_;exact Ru.aL (h2 _ U.gr λf=>((r f).tr o).2 l (by rw[q];exact n))
    refine af ?_;refine RO.bW (λw=>af ?_) (λw=>absurd o w);refine RO.pj (λY=>by simp[l]at Y) (λ_=>af ?_);exact Ru.wk (E _ (m (aw (λ_=>⟨N,λ_=>n⟩) λh=>absurd ⟨o,l⟩ h)) U.tail)
   refine af ?_;refine RO.bW (λw=>af ?_) (λw=>absurd o w);refine RO.pj (λ_=>af ?_) (λY=>by simp[l]at Y);refine RO.co U 1 (af ?_);refine RO.LU (LW T ⟨Q,R,S,rfl,U.gr.sl F,U.gr.sl I,bX.E3.gp U.gr J⟩ λH7 hg=>⟨?_,?_⟩) (hvs:=hvs) (v:=ve) (i:=av) (o:=1);·obtain⟨_,hp⟩:=(U.bR hg).get 0 rfl;exact tB.cell hp rfl
   have U:=U.bR hg;refine af ?_;refine Ru.cond (λY=>?_) (λY=>?_);·refine af ?_;exact Ru.aL (h2 _ U.gr λf=>by have t:=(r f).aK λh=>l h.2;rw[q]at t;omega)
   refine af ?_;exact Ru.wk (E _ (m (aw (λ_=>⟨N,λh=>absurd h l⟩) λ_=>by omega)) U.tail)
  refine af ?_;refine RO.bW (λw=>absurd w o) (λw=>af ?_);refine RO.co U 1 (af ?_);refine RO.LU (LW T ⟨Q,R,S,rfl,U.gr.sl F,U.gr.sl I,bX.E3.gp U.gr J⟩ λH7 hg=>⟨?_,?_⟩) (hvs:=hvs) (v:=ve) (i:=av) (o:=1);·obtain⟨_,hp⟩:=(U.bR hg).get 0 rfl;exact tB.cell hp rfl
  have U:=U.bR hg;refine af ?_;refine Ru.cond (λY=>?_) (λY=>?_);·refine af ?_;exact Ru.aL (h2 _ U.gr λf=>by have t:=(r f).aK λh=>o h.1;rw[q]at t;omega)
  refine af ?_;exact Ru.wk (E _ (m (aw (λh=>absurd h o) λ_=>by omega)) U.tail)
 refine Ru.exitTo ?_;refine af ?_;exact Ru.aL (h1 _ U.gr ⟨L,f3,f4,f5,f6,λk h=>m k h aa⟩)
end
end
end Go.al.R
end
