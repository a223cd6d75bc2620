/- A part. No conditions. -/
import Derived.Test.YtcipmlnpjkngpaaGreatDoorA12
set_option linter.all false
set_option maxHeartbeats 16000000
open List.Perm renaming cons->afL
noncomputable section
namespace Go.ak.R
section
variable{ac:Nat->aX}
section
structure kE(g:G.aY)(e:G.Edge)(w:Nat):Prop where
 lo:1<=e.block
 hi:e.block<g.aj.length
 aM:(g.aj.getD e.block.toNat default).i4.length=e.args.length+w
 iy:∀a∈e.args,0<=a/\a<=g.aW - 1
section
variable{g:G.aY}{c:AV}{d f:af}{n:Nat}{A H:ai}{us:List Th}
theorem Yw(T:Tb ac)(V:FV g n)(y:G.Sm g)(B:0<g.aj.length)(hb:cK 7 i6 A g.aj c){s:List Bool}(hs:s.length=n){e:G.Edge}{cs:List AV}(he:nW A e cs){w:Nat}(L:w<=1)(hl:e.args.length<=1000000)(U:al A H (fT g c d f n s++us)){K:KT}(l:∀u m(b:Bool),(b=true↔kE g e w)->al A u (fT g c d f n s++m++us)->K (.bool b) u):YN ac Vr [.aD d 0,.agg cs,aN w] H K:=by
 have x:=he.one;obtain⟨M,rfl,j⟩:=he;have⟨hd,_,_,N⟩:=j.all;have⟨C,_,_,D⟩:=hb.all;have E:=y.nb;obtain⟨i,O⟩:=e;refine YF.code T.Xx aC ?_;refine au ?_;refine RO.cG U λP q U=>?_;refine au ?_;refine RO.nilCheck ?_;refine aS ?_;refine RO.arith (v:=aN (g.aj.length - 1)) ?_ (hv:=pj ab ab);refine aS ?_;refine RO.cl (qD T (a:=1) (b:=(g.aj.length - 1:Nat)) (n:=i) ?_);by_cases h1:(1:Int)<=i/\i<=((g.aj.length - 1:Nat):Int);rotate_left;·rw[decide_eq_false h1];refine aS ?_;exact Ru.aP (l _ [_] false ⟨λh=>(by cases h),λh=>absurd ⟨h.lo,by have o:i<g.aj.length:=h.hi;omega⟩ h1⟩ (by have:=al.eC (xs:=[_]) U;simpa[fT]using this))
 rw[decide_eq_true h1];obtain⟨k,rfl⟩:∃k:Nat,i=(k:Int):=⟨i.toNat,ab⟩;have p:k<g.aj.length:=ab;refine aS ?_;refine RO.nilCheck ?_;refine aS ?_;refine RO.bW U.gr hb λQ o1 c1 hj r F hat hrd=>?_;obtain⟨R,S,W,rfl,t,_,_⟩:=r;have⟨I,_,_,J⟩:=t.all;have a:(g.aj.getD ((k:Int)).toNat default)=g.aj[k]:=by rw[aeA,bm p]
 refine aS ?_;refine RO.bT (λh3=>?_) (λh3=>?_);·refine aS ?_;refine RO.cl (A5 T V hs j hl (al.eC (xs:=[_]) U) λX m z v U=>?_);refine aS ?_;exact Ru.aP (l _ (m++[_]) z ⟨λh=>⟨h1.1,by show(k:Int)<g.aj.length;omega,by show(g.aj.getD ((k:Int)).toNat default).i4.length=_;rw[a];exact h3,v.1 h⟩,λh=>v.2 h.iy⟩ (by simpa using U))
 refine aS ?_;exact Ru.aP (l _ [_] false ⟨λh=>(by cases h),λh=>absurd (by have o:=h.aM;rw[a]at o;exact o) h3⟩ (by have:=al.eC (xs:=[_]) U;simpa[fT]using this))
structure lg(g:G.aY)(es:List G.Edge)(ws:List Nat):Prop where
 len:es.length=ws.length
 ok:∀k(h:k<es.length),kE g es[k] (ws.getD k 0)
theorem Yx(T:Tb ac)(V:FV g n)(J:G.Sm g)(u:0<g.aj.length)(hb:cK 7 i6 A g.aj c){s:List Bool}(hs:s.length=n){es:List G.Edge}{z m:AV}{a:List Nat}(gD:cK 2 nW A es z)(Q:es.length<=1000)(L:∀w∈a,w<=1)(v:∀e∈es,e.args.length<=1000)(U:al A H (fT g c d f n s++tS 3 1 (a.map aN) a.length true m::us)){K:KT}(p:∀B(b:Bool),(b=true↔lg g es a)->al A B (fT g c d f n s++tS 3 1 (a.map aN) a.length true m::us)->K (.bool b) B):YN ac JH [.aD d 0,z,m] H K:=by
 have⟨R,_,_,W⟩:=gD.all;have x:Sl H 1 (a.map aN) a.length m:=U.sl 2;have⟨X,_,_,Y⟩:=x.all;refine YF.code T.Xj aC ?_;refine au ?_;refine Ru.cond (λh=>?_) (λh=>?_);·refine au ?_;exact Ru.aP (p _ false ⟨λh=>(by cases h),λr=>absurd r.len (by simpa using h)⟩ U)
 have hl:es.length=a.length:=by simpa using h
 refine au ?_;refine Ru.nm λS M N C=>?_;refine Ru.bM C (up (P:=λk=>∀t,(∀j(h:j<es.length),j<k->kE g es[j] (a.getD j 0))->al A t (fT g c d f n s++tS 3 1 (a.map aN) a.length true m::us)->Ru ac _ S ([(qq,aN k)]++pk M [p0,p1,p2,k7,nZ]) t) es.length (λk hk O t D U=>?_) 0 ab _ (λj _ hj=>by omega) U);subst N;subst C;refine Ru.loop ?_;refine au ?_;refine Ru.cond (λi=>?_) (λi=>?_)
 .have Z:=v _ (acI i);refine au ?_;refine RO.bW U.gr gD λq1 o1 c1 hj l ag hat hrd=>?_;have F:=l.one;have o:=l;obtain⟨va,rfl,y⟩:=l;have⟨hd,_,_,hn⟩:=y.all;refine aS ?_;refine RO.dM U λH1 q U=>?_;refine aS ?_;refine RO.eQ U 0 (λH2 U=>?_);refine aS ?_;refine RO.cr U 0 ?_;refine au ?_;obtain⟨wq,I,av,rfl⟩:=U.md 3 rfl ab;refine aS ?_;refine RO.dh U 3 ?_ (hv:=lE 0 (show k<a.length by omega));refine au ?_;refine RO.cl (Yw T V J u hb hs o (w:=a.getD k 0) (by rw[bm ab];exact L _ (acI _)) ab (al.eC (xs:=[_]) U) λH3 gs P E U=>?_);cases P with
  |false=>refine au ?_;exact Ru.aP (p _ false ⟨λh=>(by cases h),λr=>by have:=E.2 (r.ok k i);cases this⟩ (al.jU (xs:=[_]) U.skip).tail)
  |true=>
   refine au ?_;exact Ru.wk (O (k+1) ab ab _ (λj hj h=>by
    by_cases e:j=k;·subst e;exact E.1 rfl
    exact D j hj ab) (al.jU (xs:=[_]) U.skip).tail)
 refine Ru.exitTo ?_;refine au ?_;exact Ru.aP (p _ true ⟨λ_=>⟨hl,λj h=>D j h ab⟩,λ_=>rfl⟩ U)
end
end
section
theorem RO.I0{j:Cx}{s:List SI}{L:Kn}{H:ai}{k:Option af}{l:List bu}{x y:aK}{a b:List Nat}(h:RO ac j l s (bj L k (.bool (decide (a≠b)))) H)(f:aT L x=.str a:=by exact cw)(i:aT L y=.str b:=by exact cw):RO ac j (⟨k,.km .neq x y,none,[],[]⟩::l) s L H:=RO.km (v:=.bool (decide (a≠b))) h f rfl i rfl (by simp only[uw,jp,decide_not])
def og(k:Nat):Nat:=if k=2 then 1 else 0
def ka:List Nat->Nat
 |[]=>0
 |k::l=>(3 - k)+ka l
theorem En:∀{l:List Nat},ka l<=3*l.length|[]=>by simp[ka]|k::l=>by have:=En (l:=l);simp only[ka,aeJ];omega
structure tT(g:G.aY)(es:List G.Edge):Prop where
 ex:∃e0 e1 e2,es=[e0,e1,e2]/\kE g e0 0/\kE g e1 1/\(e0.args=[]/\e1.args=[]/\e2.args=[])/\(1<=e2.block/\e2.block<g.aj.length)/\0<(g.aj.getD e2.block.toNat default).i4.length
structure wy(g:G.aY)(j:G.eV):Prop where
 kd:∀i(h:i<j.bp.length),1<=j.bp[i]/\j.bp[i]<=3/\(j.bp[i]=3->i+1=j.bp.length)
 lo:1<=j.bp.length
 hi:j.bp.length<=4
 ar:j.args.length=ka j.bp
 ed:lg g j.go (j.bp.map og)
inductive i9(g:G.aY)(j:G.eV):Prop
 |go(h:j.op=61)(ha:j.args.length=0)(he:lg g j.go [0])
 |rV(h:j.op=62)(ha:j.args.length=1)(he:lg g j.go [0,0])
 |is(h:j.op=63)(ha:j.args.length=1)(hn:jo j.i7)(he:lg g j.go [0,0])
 |eZ(h:j.op=65)(ha:j.args.length=1)(he:lg g j.go [1,0])
 |mR(h:j.op=66)(hs:wy g j)
 |rW(h:j.op=67)(ha:j.args.length=0)(ht:tT g j.go)
 |oh(h:j.op=68)(ha:0<j.args.length)(hg:j.go.length=0)
 |ret(h:j.op=69\/j.op=21)(ha:j.args.length=1)(hg:j.go.length=0)
 |stuck(h:j.op=70)(ha:j.args.length=0)(hg:j.go.length=0)
structure yF(g:G.aY)(j:G.eV):Prop where
 iy:∀a∈j.args,0<=a/\a<=g.aW - 1
 i7:j.op=63↔j.i7≠ []
 bp:j.op≠66->j.bp=[]
 aA:i9 g j
section
variable{g:G.aY}{c:AV}{d e:af}{n:Nat}{A H:ai}{us:List Th}
theorem wz(T:Tb ac)(V:FV g n)(r:G.Sm g)(f:0<g.aj.length)(hb:cK 7 i6 A g.aj c){s:List Bool}(hs:s.length=n){es:List G.Edge}{o p:AV}{ws:List Nat}(gD:cK 2 nW A es o)(h:es.length<=1000)(t:∀w∈ws,w<=1)(i:∀x∈es,x.args.length<=1000){q:List AV}{m:Nat}(j:q=ws.map aN)(u:m=ws.length)(U:al A H (tS 3 1 q m true p::(fT g c d e n s++us))){K:KT}(v:∀a(b:Bool),(b=true↔lg g es ws)->al A a (fT g c d e n s++us)->K (.bool b) a):YN ac JH [.aD d 0,o,p] H K:=by subst j;subst u;exact Yx T V r f hb hs gD h t i (al.eC (xs:=[_]) U) λa b k l=>v a b k (al.jU (xs:=[_]) l).tail
theorem Yy(T:Tb ac)(V:FV g n)(J:G.Sm g)(x:0<g.aj.length)(hb:cK 7 i6 A g.aj c){s:List Bool}(hs:s.length=n){es:List G.Edge}{L:AV}(gD:cK 2 nW A es L)(ag:es.length<=1000)(j:∀cn∈es,cn.args.length<=1000)(U:al A H (fT g c d e n s++us)){K:KT}(o:∀M ws(b:Bool),(b=true↔tT g es)->al A M (fT g c d e n s++ws++us)->K (.bool b) M):YN ac Vk [.aD d 0,L] H K:=by
 have⟨av,_,_,aw⟩:=gD.all;have⟨ax,_,_,ay⟩:=hb.all;have a1:=J.nb;refine YF.code T.Xl aC ?_;refine au ?_;refine Ru.cond (λh=>?_) (λh=>?_);·refine au ?_;exact Ru.aP (o _ [] false ⟨λh=>(by cases h),λ⟨f,i,a,he,_⟩=>absurd (by rw[he];rfl) h⟩ (by simpa using U))
 have hl:es.length=3:=by simpa using h
 obtain⟨f,i,a,rfl⟩:∃f i a,es=[f,i,a]:=by match es,hl with|[f,i,a],_=>exact⟨f,i,a,rfl⟩
 have no:∀{p:Prop},¬p->(tT g [f,i,a]->p)->(false=true↔tT g [f,i,a]):=λh1 h2=>⟨λh=>(by cases h),λh=>absurd (h2 h) h1⟩;have jf:tT g [f,i,a]->kE g f 0/\kE g i 1/\(f.args=[]/\i.args=[]/\a.args=[])/\(1<=a.block/\a.block<g.aj.length)/\0<(g.aj.getD a.block.toNat default).i4.length:=λ⟨f0,f1,f2,he,h⟩=>by injection he with Y he;injection he with N he;injection he with a3 he;subst Y;subst N;subst a3;exact h
 refine au ?_;refine RO.bW U.gr gD (λq1 o1 c1 a2 l a6 hat hrd=>?_) (hj:=by simp);have l:nW A a c1:=l;have R:=l.one;obtain⟨O,rfl,y⟩:=l;have⟨a8,_,_,a'⟩:=y.all;refine aS ?_;refine RO.eR U (λH2 P U=>?_);refine aS ?_;refine RO.RV gD (λba m=>?_) (b:=2) (hb:=by simp);have⟨S,_,_,W⟩:=m.all;refine RO.j9 U 1 (λH6 q6 U=>?_);refine RO.cl (wz T V J x hb hs m aC (ws:=[0,1]) bK (λcn he=>j cn (af1 he)) rfl rfl (U.cH (afL _ afd.symm)) λH7 Q u U=>?_);have u:Q=true↔kE g f 0/\kE g i 1:=u.trans ⟨λh=>⟨h.ok 0 aC,h.ok 1 aC⟩,λh=>⟨rfl,λk Z=>by match k,Z with|0,_=>exact h.1|1,_=>exact h.2⟩⟩;have U:=al.rH U;have bQ:∀w,al A w (tB vS P [aI a.block,O]::(fT g c d e n s++us))->al A w (fT g c d e n s++[tB vS P [aI a.block,O]]++us):=λw h=>by rw[aeC];exact al.eC (xs:=[_]) h
 cases Q with
 |false=>refine ah ?_;exact Ru.aP (o _ [_] false (no (p:=kE g f 0/\kE g i 1) (λh=>by have:=u.2 h;cases this) λh=>⟨(jf h).1,(jf h).2.1⟩) (bQ _ U))
 |true=>
  obtain⟨h0,h1⟩:=u.1 rfl;refine au ?_;refine RO.bW U.gr gD (λq3 o3 c3 bb z bd hat hrd=>?_) (hj:=by simp);obtain⟨v0,rfl,B⟩:=z;have⟨bv,_,_,q⟩:=B.all;have q:lenOf v0=some f.args.length:=q;refine aS ?_;refine RO.bW U.gr gD (λq4 o4 c4 b0 C b3 hat hrd=>?_) (hj:=by simp);obtain⟨v1,rfl,D⟩:=C;have⟨b4,_,_,r⟩:=D.all;have r:lenOf v1=some i.args.length:=r;have b6:=j f aC;have b7:=j i aC;have X:=j a aC;refine ah ?_;refine RO.bT (λh3=>?_) (λh3=>?_);rotate_left;·refine ah ?_;refine Ru.aP (o _ [_] false (no h3 λh=>?_) (bQ _ U));obtain⟨x0,x1,x2⟩:=(jf h).2.2.1;rw[x0,x1,x2];rfl
  have h3:f.args=[]/\i.args=[]/\a.args=[]:=by
   try simp only[aev]at h3
   exact⟨aeQ ab,aeQ ab,aeQ ab⟩
  refine ah ?_;refine RO.arith (v:=aN (g.aj.length - 1)) ?_ (hv:=pj ab ab);refine ah ?_;refine RO.cl (qD T (a:=1) (b:=(g.aj.length - 1:Nat)) (n:=a.block) ?_);by_cases hj:(1:Int)<=a.block/\a.block<=((g.aj.length - 1:Nat):Int);rotate_left;·rw[decide_eq_false hj];refine ah ?_;exact Ru.aP (o _ [_] false (no hj λh=>by have:=(jf h).2.2.2.1;omega) (bQ _ U))
  rw[decide_eq_true hj];obtain⟨b2,N⟩:=a;have hj:(1:Int)<=b2/\b2<=((g.aj.length - 1:Nat):Int):=hj;obtain⟨k,rfl⟩:∃k:Nat,b2=(k:Int):=⟨b2.toNat,ab⟩;have E:k<g.aj.length:=ab;have t:(g.aj.getD ((k:Int)).toNat default)=g.aj[k]:=by rw[aeA,bm E]
  refine ah ?_;refine RO.bW U.gr hb λq5 o5 c5 b' F ca hat hrd=>?_;obtain⟨vp,vs,jc,rfl,I,_,_⟩:=F;have⟨cd,_,_,cf⟩:=I.all;refine ah ?_;refine Ru.aP (o _ [_] _ ⟨λhp=>⟨_,_,_,rfl,h0,h1,h3,⟨hj.1,by show(k:Int)<g.aj.length;omega⟩,?_⟩,λh=>?_⟩ (bQ _ U));·show 0<(g.aj.getD ((k:Int)).toNat default).i4.length;rw[t];exact of_decide_eq_true hp
  have v:=(jf h).2.2.2.2;refine decide_eq_true ?_;have v:0<(g.aj.getD ((k:Int)).toNat default).i4.length:=v;rw[t]at v;exact v
theorem Yz(T:Tb ac)(V:FV g n)(hB:G.Sm g)(P:0<g.aj.length)(hb:cK 7 i6 A g.aj c){s:List Bool}(hs:s.length=n){j:G.eV}{cs:List AV}(hj:mM A j cs)(v:∀bd∈j.bp,bd<256)(hl:j.args.length<=1000/\j.go.length<=1000/\j.bp.length<=1000)(Q:∀bb∈j.go,bb.args.length<=1000)(U:al A H (fT g c d e n s++us)){K:KT}(t:∀Z ws(b:Bool),(b=true↔wy g j)->al A Z (fT g c d e n s++ws++us)->K (.bool b) Z):YN ac Vj [.aD d 0,.agg cs] H K:=by
 have ag:=hj.one;obtain⟨I,J,L,rfl,R,D,E⟩:=hj;have⟨av,_,_,aw⟩:=R.all;have⟨ax,_,_,ay⟩:=D.all;have⟨a1,_,_,a2⟩:=E.all;have a6:=En (l:=j.bp);have no:∀{p:Prop},¬p->(wy g j->p)->(false=true↔wy g j):=λh1 h2=>⟨λh=>(by cases h),λh=>absurd (h2 h) h1⟩;refine YF.code T.Xk aC ?_;refine au ?_;refine RO.cG U λH1 q U=>?_;refine au ?_;have U:=U.qp 3 1;refine au ?_;refine RO.gR U 1 ?_;refine au ?_;have bQ:∀u k y,al A u (tS 3 1 (((j.bp.take k).map og).map aN) k true y::tB mf q [aU j.op,I,.str j.i7,J,L]::(fT g c d e n s++us))->al A u (fT g c d e n s++[tB mf q [aU j.op,I,.str j.i7,J,L]]++us):=λu k y h=>by rw[aeC];exact al.eC (xs:=[_]) h.tail
 refine Ru.nm λS M hS hM=>?_;refine Ru.bM hM (up (P:=λk=>∀u y a,a+ka (j.bp.drop k)=ka j.bp->(∀i(h:i<j.bp.length),i<k->1<=j.bp[i]/\j.bp[i]<=3/\(j.bp[i]=3->i+1=j.bp.length))->al A u (tS 3 1 (((j.bp.take k).map og).map aN) k true y::tB mf q [aU j.op,I,.str j.i7,J,L]::(fT g c d e n s++us))->Ru ac _ S ([(p5,y),(p6,aN a),(k6,aN k)]++pk M [p0,p3,fJ,iS]) u) j.bp.length (λk a8 N u y a f hq U=>?_) 0 ab _ _ 0 aC (λi _ hi=>by omega) U);subst hS;subst hM;have x:=(U.sl 0).bq;refine Ru.loop ?_;refine au ?_;refine Ru.cond (λm=>?_) (λm=>?_)
 .have v:=v _ (acI m);have z:wy g j->1<=j.bp[k]/\j.bp[k]<=3/\(j.bp[k]=3->k+1=j.bp.length):=λh=>h.kd k m;have Y:=f;rw[aeE m]at f;simp only[ka]at f;have r:(1<=j.bp[k]/\j.bp[k]<=3/\(j.bp[k]=3->k+1=j.bp.length))->∀i(h:i<j.bp.length),i<k+1->1<=j.bp[i]/\j.bp[i]<=3/\(j.bp[i]=3->i+1=j.bp.length):=λhb i hi h=>by
   by_cases bb:i=k;·subst bb;exact hb
   exact hq i hi ab
  refine au ?_;refine RO.iE U.gr D λq1 o1 a' W=>?_;have l:((j.bp.take (k+1)).map og).map aN=((j.bp.take k).map og).map aN++[aN (og j.bp[k])]:=by rw[List.take_add_one,getElem?_pos j.bp k m];simp only[Option.toList_some,aeZ,aez,afC]
  have aA:∀O,O=a+(3 - j.bp[k])->O+ka (j.bp.drop (k+1))=ka j.bp:=λO bb=>by omega
  generalize ba:j.bp[k]=B at z r v W l aA⊢;rcases afg 3 B with h3|h3
  .refine ah ?_;refine RO.bT (λh=>?_) (λh=>?_);·refine ah ?_;exact Ru.aP (t _ [_] false (no (λh=>by omega) λh=>(z h).2.1) (bQ _ _ _ U))
   refine ah ?_;refine RO.bT (λh=>?_) (λh=>absurd h3 h);refine ah ?_;exact Ru.aP (t _ [_] false (no (λh=>by omega) λh=>(z h).2.1) (bQ _ _ _ U))
  have F:B=0\/B=1\/B=2\/B=3:=ab;rcases F with rfl|rfl|rfl|rfl;·refine ah ?_;exact Ru.aP (t _ [_] false (no (p:=1<=0) (λh=>by omega) λh=>(z h).1) (bQ _ _ _ U))
  .refine ah ?_;refine RO.push U 0 (λw C o U=>?_);have x:=(U.sl 0).bq;refine ah ?_;exact Ru.wk (N (k+1) ab ab C o (a+2) (aA _ rfl) (r ⟨ab,ab,λh=>(by cases h)⟩) (by rw[l];exact U))
  .refine ah ?_;refine RO.push U 0 (λw C o U=>?_);have x:=(U.sl 0).bq;refine ah ?_;exact Ru.wk (N (k+1) ab ab C o (a+1) (aA _ rfl) (r ⟨ab,ab,λh=>(by cases h)⟩) (by rw[l];exact U))
  refine ah ?_;refine RO.arith (v:=aN (j.bp.length - 1)) ?_ (hv:=pj ab ab);refine ah ?_;refine Ru.cond (λ(h:k<j.bp.length - 1)=>?_) (λh=>?_);·refine ah ?_;exact Ru.aP (t _ [_] false (no (p:=k+1=j.bp.length) ab λh=>(z h).2.2 rfl) (bQ _ _ _ U))
  have h:¬k<j.bp.length - 1:=h;refine ah ?_;refine RO.push U 0 (λw C o U=>?_);have x:=(U.sl 0).bq;refine ah ?_;exact Ru.wk (N (k+1) ab ab C o a (aA _ rfl) (r ⟨ab,ab,λ_=>by omega⟩) (by rw[l];exact U))
 have X:k=j.bp.length:=ab;subst X;rw[List.drop_length]at f;simp only[ka,agl]at f;refine Ru.exitTo ?_;refine ah ?_;refine RO.cl (qD T (a:=1) (b:=4) (n:=j.bp.length) ?_);by_cases h1:(1:Int)<=j.bp.length/\(j.bp.length:Int)<=4;rotate_left;·rw[decide_eq_false h1];refine ah ?_;exact Ru.aP (t _ [_] false (no h1 λh=>by have h8:=h.lo;have h9:=h.hi;omega) (bQ _ _ _ U))
 rw[decide_eq_true h1];refine ah ?_;refine RO.bT (λh2=>?_) (λh2=>?_);rotate_left;·refine ah ?_;exact Ru.aP (t _ [_] false (no h2 λh=>by have:=h.ar;omega) (bQ _ _ _ U))
 rw[af4]at U;refine ah ?_;refine RO.cl (wz T V hB P hb hs E ab (ws:=j.bp.map og) (λw hw=>?_) Q rfl aC (U.cH (afL _ afd.symm)) λH7 b7 h7 U=>?_);·obtain⟨k,_,rfl⟩:=aeK.1 hw;unfold og;split<;>omega
 refine ah ?_;exact Ru.aP (t _ [_] _ ⟨λh=>⟨λi hi=>hq i hi hi,ab,ab,ab,h7.1 h⟩,λh=>h7.2 h.ed⟩ (by simpa using U))
end
end
end
end Go.ak.R
end
