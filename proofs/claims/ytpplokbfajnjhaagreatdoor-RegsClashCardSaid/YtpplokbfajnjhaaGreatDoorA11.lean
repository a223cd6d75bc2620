/- A part. No conditions. -/
import Derived.Test.YtpplokbfajnjhaaGreatDoorA10
set_option linter.all false
set_option maxHeartbeats 16000000
open List.Perm renaming cons->aiP
noncomputable section
namespace Go.al.R
section
variable{ab:Nat->aV}
section
structure ly(g:G.aP)(e:G.Edge)(w:Nat):Prop where
 lo:1<=e.block
 hi:e.block<g.aj.length
 aK:(g.aj.getD e.block.toNat default).params.length=e.args.length+w
 iS:∀a∈e.args,0<=a/\a<=g.aQ - 1
section
variable{g:G.aP}{c:AV}{d f:ah}{n:Nat}{A H:ai}{us:List Th}
theorem abL(T:Tb ab)(V:FV g n)(x:G.Sm g)(z:0<g.aj.length)(hb:cQ 7 iP A g.aj c){s:List Bool}(hs:s.length=n){e:G.Edge}{cs:List AV}(he:po A e cs){w:Nat}(J:w<=1)(hl:e.args.length<=1000000)(U:ak A H (fT g c d f n s++us)){K:KT}(l:∀H' m(b:Bool),(b=true↔ly g e w)->ak A H' (fT g c d f n s++m++us)->K (.bool b) H'):YN ab Ys [.aD d 0,.agg cs,aN w] H K:=by
 have v:=he.one;obtain⟨L,rfl,j⟩:=he;have⟨hd,_,_,M⟩:=j.all;have⟨B,_,_,C⟩:=hb.all;have D:=x.nb;obtain⟨i,N⟩:=e;refine YF.code T.aaU aC (au ?_);refine RO.ct U λH1 q U=>au ?_;refine RO.nilCheck ?_;refine aX ?_;refine RO.arith (v:=aN (g.aj.length - 1)) ?_ (hv:=mg aa aa);refine aX ?_;refine RO.cl (rT T (a:=1) (b:=(g.aj.length - 1:Nat)) (n:=i) ?_);by_cases h1:(1:Int)<=i/\i<=((g.aj.length - 1:Nat):Int);rotate_left;·rw[decide_eq_false h1];refine aX ?_;exact Ru.aL (l _ [_] false ⟨λh=>(by cases h),λh=>absurd ⟨h.lo,by have o:i<g.aj.length:=h.hi;omega⟩ h1⟩ (by have:=ak.dR (xs:=[_]) U;simpa[fT]using this))
 rw[decide_eq_true h1];obtain⟨k,rfl⟩:∃k:Nat,i=(k:Int):=⟨i.toNat,aa⟩;have p:k<g.aj.length:=aa;refine aX ?_;refine RO.nilCheck ?_;refine aX ?_;refine RO.bO U.gr hb λO o1 c1 hj r E hat hrd=>?_;obtain⟨P,Q,R,rfl,t,_,_⟩:=r;have⟨F,_,_,I⟩:=t.all;have a:(g.aj.getD ((k:Int)).toNat default)=g.aj[k]:=by rw[ahX,bf p]
 refine aX ?_;refine RO.bW (λh3=>?_) (λh3=>?_);·refine aX ?_;refine RO.cl (B7 T V hs j hl (ak.dR (xs:=[_]) U) λS m y u U=>aX ?_);exact Ru.aL (l _ (m++[_]) y ⟨λh=>⟨h1.1,by show(k:Int)<g.aj.length;omega,by show(g.aj.getD ((k:Int)).toNat default).params.length=_;rw[a];exact h3,u.1 h⟩,λh=>u.2 h.iS⟩ (by simpa using U))
 refine aX ?_;exact Ru.aL (l _ [_] false ⟨λh=>(by cases h),λh=>absurd (by have o:=h.aK;rw[a]at o;exact o) h3⟩ (by have:=ak.dR (xs:=[_]) U;simpa[fT]using this))
structure lS(g:G.aP)(es:List G.Edge)(ws:List Nat):Prop where
 len:es.length=ws.length
 ok:∀k(h:k<es.length),ly g es[k] (ws.getD k 0)
theorem abM(T:Tb ab)(V:FV g n)(I:G.Sm g)(u:0<g.aj.length)(hb:cQ 7 iP A g.aj c){s:List Bool}(hs:s.length=n){es:List G.Edge}{z m:AV}{a:List Nat}(jv:cQ 2 po A es z)(P:es.length<=1000)(J:∀w∈a,w<=1)(v:∀e∈es,e.args.length<=1000)(U:ak A H (fT g c d f n s++tS 3 1 (a.map aN) a.length true m::us)){K:KT}(p:∀H'(b:Bool),(b=true↔lS g es a)->ak A H' (fT g c d f n s++tS 3 1 (a.map aN) a.length true m::us)->K (.bool b) H'):YN ab KX [.aD d 0,z,m] H K:=by
 have⟨Q,_,_,R⟩:=jv.all;have x:Sl H 1 (a.map aN) a.length m:=U.sl 2;have⟨W,_,_,X⟩:=x.all;refine YF.code T.aaG aC (au ?_);refine Ru.cond (λh=>?_) (λh=>?_);·refine au ?_;exact Ru.aL (p _ false ⟨λh=>(by cases h),λr=>absurd r.len (by simpa using h)⟩ U)
 have hl:es.length=a.length:=by simpa using h
 refine au ?_;refine Ru.nm λS M L B=>Ru.bI B (up (P:=λk=>∀t,(∀j(h:j<es.length),j<k->ly g es[j] (a.getD j 0))->ak A t (fT g c d f n s++tS 3 1 (a.map aN) a.length true m::us)->Ru ab _ S ([(kV,aN k)]++pk M [p0,p1,p2,ic,ki]) t) es.length (λk hk N t C U=>?_) 0 aa _ (λj _ hj=>by omega) U);subst L;subst B;refine Ru.loop (au ?_);refine Ru.cond (λi=>?_) (λi=>?_)
 .have Y:=v _ (acm i);refine au ?_;refine RO.bO U.gr jv λq1 o1 c1 hj l Z hat hrd=>?_;have E:=l.one;have o:=l;obtain⟨va,rfl,y⟩:=l;have⟨hd,_,_,hn⟩:=y.all;refine aX ?_;refine RO.dN U λH1 q U=>aX ?_;refine RO.eY U 0 (λH2 U=>aX ?_);refine RO.co U 0 (au ?_);obtain⟨wq,F,ag,rfl⟩:=U.jO 3 rfl aa;refine aX ?_;refine RO.cZ U 3 (au ?_) (hv:=nV 0 (show k<a.length by omega));refine RO.cl (abL T V I u hb hs o (w:=a.getD k 0) (by rw[bf aa];exact J _ (acm _)) aa (ak.dR (xs:=[_]) U) λH3 gs O D U=>?_);cases O with
  |false=>refine au ?_;exact Ru.aL (p _ false ⟨λh=>(by cases h),λr=>by have:=D.2 (r.ok k i);cases this⟩ (ak.jP (xs:=[_]) U.skip).tail)
  |true=>
   refine au ?_;exact Ru.wk (N (k+1) aa aa _ (λj hj h=>by
    by_cases e:j=k;·subst e;exact D.1 rfl
    exact C j hj aa) (ak.jP (xs:=[_]) U.skip).tail)
 refine Ru.exitTo ?_;refine au ?_;exact Ru.aL (p _ true ⟨λ_=>⟨hl,λj h=>C j h aa⟩,λ_=>rfl⟩ U)
end
end
section
theorem RO.BF{c:Cx}{s:List SI}{L:Kn}{H:ai}{d:Option ah}{l:List bD}{x y:aJ}{a b:List Nat}(h:RO ab c l s (bq L d (.bool (decide (a≠b)))) H)(e:aT L x=.str a:=by exact cw)(g:aT L y=.str b:=by exact cw):RO ab c (⟨d,.kr .neq x y,none,[],[]⟩::l) s L H:=RO.kr (v:=.bool (decide (a≠b))) h e rfl g rfl (by simp only[vL,jS,decide_not])
def pt(k:Nat):Nat:=if k=2 then 1 else 0
def kW:List Nat->Nat
 |[]=>0
 |k::l=>(3 - k)+kW l
theorem Fv:∀{l:List Nat},kW l<=3*l.length|[]=>by simp[kW]|k::l=>by have:=Fv (l:=l);simp only[kW,air];omega
structure uV(g:G.aP)(es:List G.Edge):Prop where
 ex:∃e0 e1 e2,es=[e0,e1,e2]/\ly g e0 0/\ly g e1 1/\(e0.args=[]/\e1.args=[]/\e2.args=[])/\(1<=e2.block/\e2.block<g.aj.length)/\0<(g.aj.getD e2.block.toNat default).params.length
structure xE(g:G.aP)(j:G.fB):Prop where
 kd:∀i(h:i<j.bw.length),1<=j.bw[i]/\j.bw[i]<=3/\(j.bw[i]=3->i+1=j.bw.length)
 lo:1<=j.bw.length
 hi:j.bw.length<=4
 ar:j.args.length=kW j.bw
 ed:lS g j.go (j.bw.map pt)
inductive jB(g:G.aP)(j:G.fB):Prop
 |go(h:j.op=61)(ha:j.args.length=0)(he:lS g j.go [0])
 |tu(h:j.op=62)(ha:j.args.length=1)(he:lS g j.go [0,0])
 |is(h:j.op=63)(ha:j.args.length=1)(hn:jR j.name)(he:lS g j.go [0,0])
 |ef(h:j.op=65)(ha:j.args.length=1)(he:lS g j.go [1,0])
 |og(h:j.op=66)(hs:xE g j)
 |tw(h:j.op=67)(ha:j.args.length=0)(ht:uV g j.go)
 |pu(h:j.op=68)(ha:0<j.args.length)(hg:j.go.length=0)
 |ret(h:j.op=69\/j.op=21)(ha:j.args.length=1)(hg:j.go.length=0)
 |stuck(h:j.op=70)(ha:j.args.length=0)(hg:j.go.length=0)
structure zL(g:G.aP)(j:G.fB):Prop where
 iS:∀a∈j.args,0<=a/\a<=g.aQ - 1
 name:j.op=63↔j.name≠ []
 bw:j.op≠66->j.bw=[]
 aq:jB g j
section
variable{g:G.aP}{f:AV}{o r:ah}{n:Nat}{A H:ai}{us:List Th}
theorem xF(T:Tb ab)(V:FV g n)(q:G.Sm g)(a:0<g.aj.length)(hb:cQ 7 iP A g.aj f){s:List Bool}(hs:s.length=n){es:List G.Edge}{k l:AV}{ws:List Nat}(jv:cQ 2 po A es k)(c:es.length<=1000)(t:∀w∈ws,w<=1)(d:∀e∈es,e.args.length<=1000){p:List AV}{m:Nat}(h:p=ws.map aN)(u:m=ws.length)(U:ak A H (tS 3 1 p m true l::(fT g f o r n s++us))){K:KT}(v:∀H'(b:Bool),(b=true↔lS g es ws)->ak A H' (fT g f o r n s++us)->K (.bool b) H'):YN ab KX [.aD o 0,k,l] H K:=by subst h;subst u;exact abM T V q a hb hs jv c t d (ak.dR (xs:=[_]) U) λH' b i j=>v H' b i (ak.jP (xs:=[_]) j).tail
theorem abN(T:Tb ab)(V:FV g n)(J:G.Sm g)(x:0<g.aj.length)(hb:cQ 7 iP A g.aj f){s:List Bool}(hs:s.length=n){es:List G.Edge}{L:AV}(jv:cQ 2 po A es L)(ag:es.length<=1000)(c:∀e∈es,e.args.length<=1000)(U:ak A H (fT g f o r n s++us)){K:KT}(l:∀H' ws(b:Bool),(b=true↔uV g es)->ak A H' (fT g f o r n s++ws++us)->K (.bool b) H'):YN ab Yk [.aD o 0,L] H K:=by
 have⟨av,_,_,aw⟩:=jv.all;have⟨ax,_,_,ay⟩:=hb.all;have a1:=J.nb;refine YF.code T.aaI aC (au ?_);refine Ru.cond (λh=>?_) (λh=>?_);·refine au ?_;exact Ru.aL (l _ [] false ⟨λh=>(by cases h),λ⟨a,e1,e2,he,_⟩=>absurd (by rw[he];rfl) h⟩ (by simpa using U))
 have hl:es.length=3:=by simpa using h
 obtain⟨a,e1,e2,rfl⟩:∃a e1 e2,es=[a,e1,e2]:=by match es,hl with|[a,e1,e2],_=>exact⟨a,e1,e2,rfl⟩
 have no:∀{p:Prop},¬p->(uV g [a,e1,e2]->p)->(false=true↔uV g [a,e1,e2]):=λh1 h2=>⟨λh=>(by cases h),λh=>absurd (h2 h) h1⟩;have fQ:uV g [a,e1,e2]->ly g a 0/\ly g e1 1/\(a.args=[]/\e1.args=[]/\e2.args=[])/\(1<=e2.block/\e2.block<g.aj.length)/\0<(g.aj.getD e2.block.toNat default).params.length:=λ⟨f0,f1,f2,he,h⟩=>by injection he with X he;injection he with M he;injection he with a3 he;subst X;subst M;subst a3;exact h
 refine au ?_;refine RO.bO U.gr jv (λq1 o1 c1 a2 d a6 hat hrd=>?_) (hj:=by simp);have d:po A e2 c1:=d;have Q:=d.one;obtain⟨N,rfl,y⟩:=d;have⟨a8,_,_,a'⟩:=y.all;refine aX ?_;refine RO.dS U (λH2 O U=>aX ?_);refine RO.TW jv (λba j=>?_) (b:=2) (hb:=by simp);have⟨R,_,_,S⟩:=j.all;refine RO.i6 U 1 (λH6 q6 U=>RO.cl (xF T V J x hb hs j aC (ws:=[0,1]) bx (λe he=>c e (ajt he)) rfl rfl (U.bV (aiP _ aii.symm)) λH7 P u U=>?_));have u:P=true↔ly g a 0/\ly g e1 1:=u.trans ⟨λh=>⟨h.ok 0 aC,h.ok 1 aC⟩,λh=>⟨rfl,λk Y=>by match k,Y with|0,_=>exact h.1|1,_=>exact h.2⟩⟩;have U:=ak.sY U;have i:∀w,ak A w (tB rH O [aI e2.block,N]::(fT g f o r n s++us))->ak A w (fT g f o r n s++[tB rH O [aI e2.block,N]]++us):=λw h=>by rw[ahD];exact ak.dR (xs:=[_]) h
 cases P with
 |false=>refine af ?_;exact Ru.aL (l _ [_] false (no (p:=ly g a 0/\ly g e1 1) (λh=>by have:=u.2 h;cases this) λh=>⟨(fQ h).1,(fQ h).2.1⟩) (i _ U))
 |true=>
  have⟨h0,h1⟩:=u.1 rfl;refine au ?_;refine RO.bO U.gr jv (λq3 o3 c3 bb z bc hat hrd=>?_) (hj:=by simp);obtain⟨v0,rfl,B⟩:=z;have⟨bv,_,_,m⟩:=B.all;have m:lenOf v0=some a.args.length:=m;refine aX ?_;refine RO.bO U.gr jv (λq4 o4 c4 b0 C b3 hat hrd=>?_) (hj:=by simp);obtain⟨Z,rfl,D⟩:=C;have⟨b4,_,_,q⟩:=D.all;have q:lenOf Z=some e1.args.length:=q;have b6:=c a aC;have b7:=c e1 aC;have W:=c e2 aC;refine af ?_;refine RO.bW (λh3=>?_) (λh3=>?_);rotate_left;·refine af ?_;refine Ru.aL (l _ [_] false (no h3 λh=>?_) (i _ U));have⟨x0,x1,x2⟩:=(fQ h).2.2.1;rw[x0,x1,x2];rfl
  have h3:a.args=[]/\e1.args=[]/\e2.args=[]:=by
   try simp only[ahU]at h3
   exact⟨aih aa,aih aa,aih aa⟩
  refine af ?_;refine RO.arith (v:=aN (g.aj.length - 1)) (af ?_) (hv:=mg aa aa);refine RO.cl (rT T (a:=1) (b:=(g.aj.length - 1:Nat)) (n:=e2.block) ?_);by_cases hj:(1:Int)<=e2.block/\e2.block<=((g.aj.length - 1:Nat):Int);rotate_left;·rw[decide_eq_false hj];refine af ?_;exact Ru.aL (l _ [_] false (no hj λh=>by have:=(fQ h).2.2.2.1;omega) (i _ U))
  rw[decide_eq_true hj];have⟨b2,M⟩:=e2;have hj:(1:Int)<=b2/\b2<=((g.aj.length - 1:Nat):Int):=hj;obtain⟨k,rfl⟩:∃k:Nat,b2=(k:Int):=⟨b2.toNat,aa⟩;have E:k<g.aj.length:=aa;have t:(g.aj.getD ((k:Int)).toNat default)=g.aj[k]:=by rw[ahX,bf E]
  refine af ?_;refine RO.bO U.gr hb λq5 o5 c5 b' F ca hat hrd=>?_;obtain⟨vp,vs,jc,rfl,I,_,_⟩:=F;have⟨cd,_,_,cf⟩:=I.all;refine af ?_;refine Ru.aL (l _ [_] _ ⟨λhp=>⟨_,_,_,rfl,h0,h1,h3,⟨hj.1,by show(k:Int)<g.aj.length;omega⟩,?_⟩,λh=>?_⟩ (i _ U));·show 0<(g.aj.getD ((k:Int)).toNat default).params.length;rw[t];exact of_decide_eq_true hp
  have v:=(fQ h).2.2.2.2;refine decide_eq_true ?_;have v:0<(g.aj.getD ((k:Int)).toNat default).params.length:=v;rw[t]at v;exact v
theorem abO(T:Tb ab)(V:FV g n)(hB:G.Sm g)(W:0<g.aj.length)(hb:cQ 7 iP A g.aj f){s:List Bool}(hs:s.length=n){j:G.fB}{cs:List AV}(hj:nX A j cs)(z:∀c∈j.bw,c<256)(hl:j.args.length<=1000/\j.go.length<=1000/\j.bw.length<=1000)(X:∀e∈j.go,e.args.length<=1000)(U:ak A H (fT g f o r n s++us)){K:KT}(x:∀H' ws(b:Bool),(b=true↔xE g j)->ak A H' (fT g f o r n s++ws++us)->K (.bool b) H'):YN ab Yj [.aD o 0,.agg cs] H K:=by
 have aw:=hj.one;obtain⟨N,O,P,rfl,Y,I,J⟩:=hj;have⟨ax,_,_,ay⟩:=Y.all;have⟨a1,_,_,a2⟩:=I.all;have⟨a6,_,_,a8⟩:=J.all;have a':=Fv (l:=j.bw);have no:∀{p:Prop},¬p->(xE g j->p)->(false=true↔xE g j):=λh1 h2=>⟨λh=>(by cases h),λh=>absurd (h2 h) h1⟩;refine YF.code T.aaH aC (au ?_);refine RO.ct U λH1 q U=>au ?_;have U:=U.mh 3 1;refine au ?_;refine RO.eD U 1 ?_;refine au ?_;have m:∀y k C,ak A y (tS 3 1 (((j.bw.take k).map pt).map aN) k true C::tB mi q [aU j.op,N,.str j.name,O,P]::(fT g f o r n s++us))->ak A y (fT g f o r n s++[tB mi q [aU j.op,N,.str j.name,O,P]]++us):=λy k C h=>by rw[ahD];exact ak.dR (xs:=[_]) h.tail
 refine Ru.nm λS M hS hM=>Ru.bI hM (up (P:=λk=>∀y C a,a+kW (j.bw.drop k)=kW j.bw->(∀i(h:i<j.bw.length),i<k->1<=j.bw[i]/\j.bw[i]<=3/\(j.bw[i]=3->i+1=j.bw.length))->ak A y (tS 3 1 (((j.bw.take k).map pt).map aN) k true C::tB mi q [aU j.op,N,.str j.name,O,P]::(fT g f o r n s++us))->Ru ab _ S ([(p5,C),(p6,aN a),(jA,aN k)]++pk M [p0,p3,eS,ib]) y) j.bw.length (λk ba Q y C a d hq U=>?_) 0 aa _ _ 0 aC (λi _ hi=>by omega) U);subst hS;subst hM;have B:=(U.sl 0).br;refine Ru.loop ?_;refine au ?_;refine Ru.cond (λt=>?_) (λt=>?_)
 .have z:=z _ (acm t);have D:xE g j->1<=j.bw[k]/\j.bw[k]<=3/\(j.bw[k]=3->k+1=j.bw.length):=λh=>h.kd k t;have av:=d;rw[ah6 t]at d;simp only[kW]at d;have v:(1<=j.bw[k]/\j.bw[k]<=3/\(j.bw[k]=3->k+1=j.bw.length))->∀i(h:i<j.bw.length),i<k+1->1<=j.bw[i]/\j.bw[i]<=3/\(j.bw[i]=3->i+1=j.bw.length):=λhb i hi h=>by
   by_cases e:i=k;·subst e;exact hb
   exact hq i hi aa
  refine au ?_;refine RO.iQ U.gr I λq1 o1 bb Z=>?_;have l:((j.bw.take (k+1)).map pt).map aN=((j.bw.take k).map pt).map aN++[aN (pt j.bw[k])]:=by rw[List.take_add_one,getElem?_pos j.bw k t];simp only[Option.toList_some,ail,ah2,ajh]
  have aq:∀R,R=a+(3 - j.bw[k])->R+kW (j.bw.drop (k+1))=kW j.bw:=λR e=>by omega
  generalize bc:j.bw[k]=E at D v z Z l aq⊢;rcases aiU 3 E with h3|h3
  .refine af ?_;refine RO.bW (λh=>?_) (λh=>?_);·refine af ?_;exact Ru.aL (x _ [_] false (no (λh=>by omega) λh=>(D h).2.1) (m _ _ _ U))
   refine af ?_;refine RO.bW (λh=>af ?_) (λh=>absurd h3 h);exact Ru.aL (x _ [_] false (no (λh=>by omega) λh=>(D h).2.1) (m _ _ _ U))
  have L:E=0\/E=1\/E=2\/E=3:=aa;rcases L with rfl|rfl|rfl|rfl;·refine af ?_;exact Ru.aL (x _ [_] false (no (p:=1<=0) (λh=>by omega) λh=>(D h).1) (m _ _ _ U))
  .refine af ?_;refine RO.push U 0 (λw F u U=>?_);have B:=(U.sl 0).br;refine af ?_;exact Ru.wk (Q (k+1) aa aa F u (a+2) (aq _ rfl) (v ⟨aa,aa,λh=>(by cases h)⟩) (by rw[l];exact U))
  .refine af ?_;refine RO.push U 0 (λw F u U=>?_);have B:=(U.sl 0).br;refine af ?_;exact Ru.wk (Q (k+1) aa aa F u (a+1) (aq _ rfl) (v ⟨aa,aa,λh=>(by cases h)⟩) (by rw[l];exact U))
  refine af ?_;refine RO.arith (v:=aN (j.bw.length - 1)) ?_ (hv:=mg aa aa);refine af ?_;refine Ru.cond (λ(h:k<j.bw.length - 1)=>?_) (λh=>?_);·refine af ?_;exact Ru.aL (x _ [_] false (no (p:=k+1=j.bw.length) aa λh=>(D h).2.2 rfl) (m _ _ _ U))
  have h:¬k<j.bw.length - 1:=h;refine af ?_;refine RO.push U 0 (λw F u U=>?_);have B:=(U.sl 0).br;refine af ?_;exact Ru.wk (Q (k+1) aa aa F u a (aq _ rfl) (v ⟨aa,aa,λ_=>by omega⟩) (by rw[l];exact U))
 have ag:k=j.bw.length:=aa;subst ag;rw[List.drop_length]at d;simp only[kW,ajC]at d;refine Ru.exitTo ?_;refine af ?_;refine RO.cl (rT T (a:=1) (b:=4) (n:=j.bw.length) ?_);by_cases h1:(1:Int)<=j.bw.length/\(j.bw.length:Int)<=4;rotate_left;·rw[decide_eq_false h1];refine af ?_;exact Ru.aL (x _ [_] false (no h1 λh=>by have h8:=h.lo;have h9:=h.hi;omega) (m _ _ _ U))
 rw[decide_eq_true h1];refine af ?_;refine RO.bW (λh2=>?_) (λh2=>?_);rotate_left;·refine af ?_;exact Ru.aL (x _ [_] false (no h2 λh=>by have:=h.ar;omega) (m _ _ _ U))
 rw[ajg]at U;refine af ?_;refine RO.cl (xF T V hB W hb hs J aa (ws:=j.bw.map pt) (λw hw=>?_) X rfl aC (U.bV (aiP _ aii.symm)) λH7 b7 h7 U=>?_);·obtain⟨k,_,rfl⟩:=aia.1 hw;unfold pt;split<;>omega
 refine af ?_;exact Ru.aL (x _ [_] _ ⟨λh=>⟨λi hi=>hq i hi hi,aa,aa,aa,h7.1 h⟩,λh=>h7.2 h.ed⟩ (by simpa using U))
end
end
end
end Go.al.R
end
