/- A part. No conditions. -/
import Derived.Test.YtjapbgcbkolgmaaGreatDoorA12
set_option linter.all false
set_option maxHeartbeats 16000000
open List.Perm renaming cons->agz
noncomputable section
namespace Go.al.R
section
variable{ac:Nat->aX}
section
structure kQ(g:G.be)(e:G.Edge)(w:Nat):Prop where
 lo:1<=e.block
 hi:e.block<g.aj.length
 aM:(g.aj.getD e.block.toNat default).i4.length=e.args.length+w
 iE:∀a∈e.args,0<=a/\a<=g.bc - 1
section
variable{g:G.be}{c:AV}{d f:af}{n:Nat}{A H:ah}{us:List Th}
theorem aba(T:Tb ac)(V:FV g n)(y:G.Sm g)(B:0<g.aj.length)(hb:cP 7 ji A g.aj c){s:List Bool}(hs:s.length=n){e:G.Edge}{cs:List AV}(he:oz A e cs){w:Nat}(L:w<=1)(hl:e.args.length<=1000000)(U:aq A H (fT g c d f n s++us)){K:KT}(l:∀u m(b:Bool),(b=true↔kQ g e w)->aq A u (fT g c d f n s++m++us)->K (.bool b) u):YN ac Xi [.aE d 0,.agg cs,aN w] H K:=by
 have x:=he.one;obtain⟨M,rfl,j⟩:=he;have⟨hd,_,_,N⟩:=j.all;have⟨C,_,_,D⟩:=hb.all;have E:=y.nb;obtain⟨i,O⟩:=e;refine YF.code T.aak aF ?_;refine au ?_;refine RO.dp U λP q U=>?_;refine au ?_;refine RO.nilCheck ?_;refine aV ?_;refine RO.arith (v:=aN (g.aj.length - 1)) ?_ (hv:=ou ab ab);refine aV ?_;refine RO.cl (qL T (a:=1) (b:=(g.aj.length - 1:Nat)) (n:=i) ?_);by_cases h1:(1:Int)<=i/\i<=((g.aj.length - 1:Nat):Int);rotate_left;·rw[decide_eq_false h1];refine aV ?_;exact Ru.aP (l _ [_] false ⟨λh=>(by cases h),λh=>absurd ⟨h.lo,by have o:i<g.aj.length:=h.hi;omega⟩ h1⟩ (by have:=aq.eG (xs:=[_]) U;simpa[fT]using this))
 rw[decide_eq_true h1];obtain⟨k,rfl⟩:∃k:Nat,i=(k:Int):=⟨i.toNat,ab⟩;have p:k<g.aj.length:=ab;refine aV ?_;refine RO.nilCheck ?_;refine aV ?_;refine RO.bY U.gr hb λQ o1 c1 hj r F hat hrd=>?_;obtain⟨R,S,W,rfl,t,_,_⟩:=r;have⟨I,_,_,J⟩:=t.all;have a:(g.aj.getD ((k:Int)).toNat default)=g.aj[k]:=by rw[afs,bB p]
 refine aV ?_;refine RO.bR (λh3=>?_) (λh3=>?_);·refine aV ?_;refine RO.cl (DT T V hs j hl (aq.eG (xs:=[_]) U) λX m z v U=>?_);refine aV ?_;exact Ru.aP (l _ (m++[_]) z ⟨λh=>⟨h1.1,by show(k:Int)<g.aj.length;omega,by show(g.aj.getD ((k:Int)).toNat default).i4.length=_;rw[a];exact h3,v.1 h⟩,λh=>v.2 h.iE⟩ (by simpa using U))
 refine aV ?_;exact Ru.aP (l _ [_] false ⟨λh=>(by cases h),λh=>absurd (by have o:=h.aM;rw[a]at o;exact o) h3⟩ (by have:=aq.eG (xs:=[_]) U;simpa[fT]using this))
structure lz(g:G.be)(es:List G.Edge)(ws:List Nat):Prop where
 len:es.length=ws.length
 ok:∀k(h:k<es.length),kQ g es[k] (ws.getD k 0)
theorem abb(T:Tb ac)(V:FV g n)(J:G.Sm g)(u:0<g.aj.length)(hb:cP 7 ji A g.aj c){s:List Bool}(hs:s.length=n){es:List G.Edge}{z m:AV}{a:List Nat}(gI:cP 2 oz A es z)(Q:es.length<=1000)(L:∀w∈a,w<=1)(v:∀e∈es,e.args.length<=1000)(U:aq A H (fT g c d f n s++tS 3 1 (a.map aN) a.length true m::us)){K:KT}(p:∀B(b:Bool),(b=true↔lz g es a)->aq A B (fT g c d f n s++tS 3 1 (a.map aN) a.length true m::us)->K (.bool b) B):YN ac Mn [.aE d 0,z,m] H K:=by
 have⟨R,_,_,W⟩:=gI.all;have x:Sl H 1 (a.map aN) a.length m:=U.sl 2;have⟨X,_,_,Y⟩:=x.all;refine YF.code T.Z8 aF ?_;refine au ?_;refine Ru.cond (λh=>?_) (λh=>?_);·refine au ?_;exact Ru.aP (p _ false ⟨λh=>(by cases h),λr=>absurd r.len (by simpa using h)⟩ U)
 have hl:es.length=a.length:=by simpa using h
 refine au ?_;refine Ru.nm λS M N C=>?_;refine Ru.bT C (up (P:=λk=>∀t,(∀j(h:j<es.length),j<k->kQ g es[j] (a.getD j 0))->aq A t (fT g c d f n s++tS 3 1 (a.map aN) a.length true m::us)->Ru ac _ S ([(jz,aN k)]++pk M [p0,p1,p2,fh,dR]) t) es.length (λk hk O t D U=>?_) 0 ab _ (λj _ hj=>by omega) U);subst N;subst C;refine Ru.loop ?_;refine au ?_;refine Ru.cond (λi=>?_) (λi=>?_)
 .have Z:=v _ (adq i);refine au ?_;refine RO.bY U.gr gI λq1 o1 c1 hj l ag hat hrd=>?_;have F:=l.one;have o:=l;obtain⟨va,rfl,y⟩:=l;have⟨hd,_,_,hn⟩:=y.all;refine aV ?_;refine RO.eL U λH1 q U=>?_;refine aV ?_;refine RO.fc U 0 (λH2 U=>?_);refine aV ?_;refine RO.dj U 0 ?_;refine au ?_;obtain⟨wq,I,av,rfl⟩:=U.rQ 3 rfl ab;refine aV ?_;refine RO.dM U 3 ?_ (hv:=mY 0 (show k<a.length by omega));refine au ?_;refine RO.cl (aba T V J u hb hs o (w:=a.getD k 0) (by rw[bB ab];exact L _ (adq _)) ab (aq.eG (xs:=[_]) U) λH3 gs P E U=>?_);cases P with
  |false=>refine au ?_;exact Ru.aP (p _ false ⟨λh=>(by cases h),λr=>by have:=E.2 (r.ok k i);cases this⟩ (aq.j5 (xs:=[_]) U.skip).tail)
  |true=>
   refine au ?_;exact Ru.wk (O (k+1) ab ab _ (λj hj h=>by
    by_cases e:j=k;·subst e;exact E.1 rfl
    exact D j hj ab) (aq.j5 (xs:=[_]) U.skip).tail)
 refine Ru.exitTo ?_;refine au ?_;exact Ru.aP (p _ true ⟨λ_=>⟨hl,λj h=>D j h ab⟩,λ_=>rfl⟩ U)
end
end
section
theorem RO.LX{j:Cx}{s:List SI}{L:Kn}{H:ah}{k:Option af}{l:List bA}{x y:aL}{a b:List Nat}(h:RO ac j l s (bq L k (.bool (decide (a≠b)))) H)(f:aW L x=.str a:=by exact cw)(i:aW L y=.str b:=by exact cw):RO ac j (⟨k,.lE .neq x y,none,[],[]⟩::l) s L H:=RO.lE (v:=.bool (decide (a≠b))) h f rfl i rfl (by simp only[ze,kf,decide_not])
def oF(k:Nat):Nat:=if k=2 then 1 else 0
def ku:List Nat->Nat
 |[]=>0
 |k::l=>(3 - k)+ku l
theorem Hn:∀{l:List Nat},ku l<=3*l.length|[]=>by simp[ku]|k::l=>by have:=Hn (l:=l);simp only[ku,afB];omega
structure uo(g:G.be)(es:List G.Edge):Prop where
 ex:∃e0 e1 e2,es=[e0,e1,e2]/\kQ g e0 0/\kQ g e1 1/\(e0.args=[]/\e1.args=[]/\e2.args=[])/\(1<=e2.block/\e2.block<g.aj.length)/\0<(g.aj.getD e2.block.toNat default).i4.length
structure yP(g:G.be)(j:G.fg):Prop where
 kd:∀i(h:i<j.bu.length),1<=j.bu[i]/\j.bu[i]<=3/\(j.bu[i]=3->i+1=j.bu.length)
 lo:1<=j.bu.length
 hi:j.bu.length<=4
 ar:j.args.length=ku j.bu
 ed:lz g j.go (j.bu.map oF)
inductive jl(g:G.be)(j:G.fg):Prop
 |go(h:j.op=61)(ha:j.args.length=0)(he:lz g j.go [0])
 |si(h:j.op=62)(ha:j.args.length=1)(he:lz g j.go [0,0])
 |is(h:j.op=63)(ha:j.args.length=1)(hn:jB j.i7)(he:lz g j.go [0,0])
 |dV(h:j.op=65)(ha:j.args.length=1)(he:lz g j.go [1,0])
 |nf(h:j.op=66)(hs:yP g j)
 |sj(h:j.op=67)(ha:j.args.length=0)(ht:uo g j.go)
 |oG(h:j.op=68)(ha:0<j.args.length)(hg:j.go.length=0)
 |ret(h:j.op=69\/j.op=21)(ha:j.args.length=1)(hg:j.go.length=0)
 |stuck(h:j.op=70)(ha:j.args.length=0)(hg:j.go.length=0)
structure AA(g:G.be)(j:G.fg):Prop where
 iE:∀a∈j.args,0<=a/\a<=g.bc - 1
 i7:j.op=63↔j.i7≠ []
 bu:j.op≠66->j.bu=[]
 aB:jl g j
section
variable{g:G.be}{c:AV}{d e:af}{n:Nat}{A H:ah}{us:List Th}
theorem yQ(T:Tb ac)(V:FV g n)(r:G.Sm g)(f:0<g.aj.length)(hb:cP 7 ji A g.aj c){s:List Bool}(hs:s.length=n){es:List G.Edge}{o p:AV}{ws:List Nat}(gI:cP 2 oz A es o)(h:es.length<=1000)(t:∀w∈ws,w<=1)(i:∀x∈es,x.args.length<=1000){q:List AV}{m:Nat}(j:q=ws.map aN)(u:m=ws.length)(U:aq A H (tS 3 1 q m true p::(fT g c d e n s++us))){K:KT}(v:∀a(b:Bool),(b=true↔lz g es ws)->aq A a (fT g c d e n s++us)->K (.bool b) a):YN ac Mn [.aE d 0,o,p] H K:=by subst j;subst u;exact abb T V r f hb hs gI h t i (aq.eG (xs:=[_]) U) λa b k l=>v a b k (aq.j5 (xs:=[_]) l).tail
theorem abc(T:Tb ac)(V:FV g n)(J:G.Sm g)(x:0<g.aj.length)(hb:cP 7 ji A g.aj c){s:List Bool}(hs:s.length=n){es:List G.Edge}{L:AV}(gI:cP 2 oz A es L)(ag:es.length<=1000)(j:∀cn∈es,cn.args.length<=1000)(U:aq A H (fT g c d e n s++us)){K:KT}(o:∀M ws(b:Bool),(b=true↔uo g es)->aq A M (fT g c d e n s++ws++us)->K (.bool b) M):YN ac W9 [.aE d 0,L] H K:=by
 have⟨av,_,_,aw⟩:=gI.all;have⟨ax,_,_,ay⟩:=hb.all;have a1:=J.nb;refine YF.code T.Z' aF ?_;refine au ?_;refine Ru.cond (λh=>?_) (λh=>?_);·refine au ?_;exact Ru.aP (o _ [] false ⟨λh=>(by cases h),λ⟨f,i,a,he,_⟩=>absurd (by rw[he];rfl) h⟩ (by simpa using U))
 have hl:es.length=3:=by simpa using h
 obtain⟨f,i,a,rfl⟩:∃f i a,es=[f,i,a]:=by match es,hl with|[f,i,a],_=>exact⟨f,i,a,rfl⟩
 have no:∀{p:Prop},¬p->(uo g [f,i,a]->p)->(false=true↔uo g [f,i,a]):=λh1 h2=>⟨λh=>(by cases h),λh=>absurd (h2 h) h1⟩;have jp:uo g [f,i,a]->kQ g f 0/\kQ g i 1/\(f.args=[]/\i.args=[]/\a.args=[])/\(1<=a.block/\a.block<g.aj.length)/\0<(g.aj.getD a.block.toNat default).i4.length:=λ⟨f0,f1,f2,he,h⟩=>by injection he with Y he;injection he with N he;injection he with a3 he;subst Y;subst N;subst a3;exact h
 refine au ?_;refine RO.bY U.gr gI (λq1 o1 c1 a2 l a6 hat hrd=>?_) (hj:=by simp);have l:oz A a c1:=l;have R:=l.one;obtain⟨O,rfl,y⟩:=l;have⟨a8,_,_,a'⟩:=y.all;refine aV ?_;refine RO.ff U (λH2 P U=>?_);refine aV ?_;refine RO.T7 gI (λba m=>?_) (b:=2) (hb:=by simp);have⟨S,_,_,W⟩:=m.all;refine RO.kr U 1 (λH6 q6 U=>?_);refine RO.cl (yQ T V J x hb hs m aF (ws:=[0,1]) bo (λcn he=>j cn (agQ he)) rfl rfl (U.cJ (agz _ af6.symm)) λH7 Q u U=>?_);have u:Q=true↔kQ g f 0/\kQ g i 1:=u.trans ⟨λh=>⟨h.ok 0 aF,h.ok 1 aF⟩,λh=>⟨rfl,λk Z=>by match k,Z with|0,_=>exact h.1|1,_=>exact h.2⟩⟩;have U:=aq.rR U;have da:∀w,aq A w (tB wm P [aI a.block,O]::(fT g c d e n s++us))->aq A w (fT g c d e n s++[tB wm P [aI a.block,O]]++us):=λw h=>by rw[afu];exact aq.eG (xs:=[_]) h
 cases Q with
 |false=>refine ai ?_;exact Ru.aP (o _ [_] false (no (p:=kQ g f 0/\kQ g i 1) (λh=>by have:=u.2 h;cases this) λh=>⟨(jp h).1,(jp h).2.1⟩) (da _ U))
 |true=>
  obtain⟨h0,h1⟩:=u.1 rfl;refine au ?_;refine RO.bY U.gr gI (λq3 o3 c3 bb z bd hat hrd=>?_) (hj:=by simp);obtain⟨v0,rfl,B⟩:=z;have⟨bv,_,_,q⟩:=B.all;have q:lenOf v0=some f.args.length:=q;refine aV ?_;refine RO.bY U.gr gI (λq4 o4 c4 b0 C b3 hat hrd=>?_) (hj:=by simp);obtain⟨v1,rfl,D⟩:=C;have⟨b4,_,_,r⟩:=D.all;have r:lenOf v1=some i.args.length:=r;have b6:=j f aF;have b7:=j i aF;have X:=j a aF;refine ai ?_;refine RO.bR (λh3=>?_) (λh3=>?_);rotate_left;·refine ai ?_;refine Ru.aP (o _ [_] false (no h3 λh=>?_) (da _ U));obtain⟨x0,x1,x2⟩:=(jp h).2.2.1;rw[x0,x1,x2];rfl
  have h3:f.args=[]/\i.args=[]/\a.args=[]:=by
   try simp only[afm]at h3
   exact⟨afQ ab,afQ ab,afQ ab⟩
  refine ai ?_;refine RO.arith (v:=aN (g.aj.length - 1)) ?_ (hv:=ou ab ab);refine ai ?_;refine RO.cl (qL T (a:=1) (b:=(g.aj.length - 1:Nat)) (n:=a.block) ?_);by_cases hj:(1:Int)<=a.block/\a.block<=((g.aj.length - 1:Nat):Int);rotate_left;·rw[decide_eq_false hj];refine ai ?_;exact Ru.aP (o _ [_] false (no hj λh=>by have:=(jp h).2.2.2.1;omega) (da _ U))
  rw[decide_eq_true hj];obtain⟨b2,N⟩:=a;have hj:(1:Int)<=b2/\b2<=((g.aj.length - 1:Nat):Int):=hj;obtain⟨k,rfl⟩:∃k:Nat,b2=(k:Int):=⟨b2.toNat,ab⟩;have E:k<g.aj.length:=ab;have t:(g.aj.getD ((k:Int)).toNat default)=g.aj[k]:=by rw[afs,bB E]
  refine ai ?_;refine RO.bY U.gr hb λq5 o5 c5 b' F ca hat hrd=>?_;obtain⟨vp,vs,jc,rfl,I,_,_⟩:=F;have⟨cd,_,_,cf⟩:=I.all;refine ai ?_;refine Ru.aP (o _ [_] _ ⟨λhp=>⟨_,_,_,rfl,h0,h1,h3,⟨hj.1,by show(k:Int)<g.aj.length;omega⟩,?_⟩,λh=>?_⟩ (da _ U));·show 0<(g.aj.getD ((k:Int)).toNat default).i4.length;rw[t];exact of_decide_eq_true hp
  have v:=(jp h).2.2.2.2;refine decide_eq_true ?_;have v:0<(g.aj.getD ((k:Int)).toNat default).i4.length:=v;rw[t]at v;exact v
theorem abd(T:Tb ac)(V:FV g n)(hB:G.Sm g)(P:0<g.aj.length)(hb:cP 7 ji A g.aj c){s:List Bool}(hs:s.length=n){j:G.fg}{cs:List AV}(hj:py A j cs)(v:∀bd∈j.bu,bd<256)(hl:j.args.length<=1000/\j.go.length<=1000/\j.bu.length<=1000)(Q:∀bb∈j.go,bb.args.length<=1000)(U:aq A H (fT g c d e n s++us)){K:KT}(t:∀Z ws(b:Bool),(b=true↔yP g j)->aq A Z (fT g c d e n s++ws++us)->K (.bool b) Z):YN ac W8 [.aE d 0,.agg cs] H K:=by
 have ag:=hj.one;obtain⟨I,J,L,rfl,R,D,E⟩:=hj;have⟨av,_,_,aw⟩:=R.all;have⟨ax,_,_,ay⟩:=D.all;have⟨a1,_,_,a2⟩:=E.all;have a6:=Hn (l:=j.bu);have no:∀{p:Prop},¬p->(yP g j->p)->(false=true↔yP g j):=λh1 h2=>⟨λh=>(by cases h),λh=>absurd (h2 h) h1⟩;refine YF.code T.Z9 aF ?_;refine au ?_;refine RO.dp U λH1 q U=>?_;refine au ?_;have U:=U.qE 3 1;refine au ?_;refine RO.iC U 1 ?_;refine au ?_;have da:∀u k y,aq A u (tS 3 1 (((j.bu.take k).map oF).map aN) k true y::tB mE q [aU j.op,I,.str j.i7,J,L]::(fT g c d e n s++us))->aq A u (fT g c d e n s++[tB mE q [aU j.op,I,.str j.i7,J,L]]++us):=λu k y h=>by rw[afu];exact aq.eG (xs:=[_]) h.tail
 refine Ru.nm λS M hS hM=>?_;refine Ru.bT hM (up (P:=λk=>∀u y a,a+ku (j.bu.drop k)=ku j.bu->(∀i(h:i<j.bu.length),i<k->1<=j.bu[i]/\j.bu[i]<=3/\(j.bu[i]=3->i+1=j.bu.length))->aq A u (tS 3 1 (((j.bu.take k).map oF).map aN) k true y::tB mE q [aU j.op,I,.str j.i7,J,L]::(fT g c d e n s++us))->Ru ac _ S ([(p5,y),(p6,aN a),(m8,aN k)]++pk M [p0,p3,eK,jy]) u) j.bu.length (λk a8 N u y a f hq U=>?_) 0 ab _ _ 0 aF (λi _ hi=>by omega) U);subst hS;subst hM;have x:=(U.sl 0).bC;refine Ru.loop ?_;refine au ?_;refine Ru.cond (λm=>?_) (λm=>?_)
 .have v:=v _ (adq m);have z:yP g j->1<=j.bu[k]/\j.bu[k]<=3/\(j.bu[k]=3->k+1=j.bu.length):=λh=>h.kd k m;have Y:=f;rw[afv m]at f;simp only[ku]at f;have r:(1<=j.bu[k]/\j.bu[k]<=3/\(j.bu[k]=3->k+1=j.bu.length))->∀i(h:i<j.bu.length),i<k+1->1<=j.bu[i]/\j.bu[i]<=3/\(j.bu[i]=3->i+1=j.bu.length):=λhb i hi h=>by
   by_cases bb:i=k;·subst bb;exact hb
   exact hq i hi ab
  refine au ?_;refine RO.fO U.gr D λq1 o1 a' W=>?_;have l:((j.bu.take (k+1)).map oF).map aN=((j.bu.take k).map oF).map aN++[aN (oF j.bu[k])]:=by rw[List.take_add_one,getElem?_pos j.bu k m];simp only[Option.toList_some,afS,afp,agu]
  have aB:∀O,O=a+(3 - j.bu[k])->O+ku (j.bu.drop (k+1))=ku j.bu:=λO bb=>by omega
  generalize ba:j.bu[k]=B at z r v W l aB⊢;rcases afZ 3 B with h3|h3
  .refine ai ?_;refine RO.bR (λh=>?_) (λh=>?_);·refine ai ?_;exact Ru.aP (t _ [_] false (no (λh=>by omega) λh=>(z h).2.1) (da _ _ _ U))
   refine ai ?_;refine RO.bR (λh=>?_) (λh=>absurd h3 h);refine ai ?_;exact Ru.aP (t _ [_] false (no (λh=>by omega) λh=>(z h).2.1) (da _ _ _ U))
  have F:B=0\/B=1\/B=2\/B=3:=ab;rcases F with rfl|rfl|rfl|rfl;·refine ai ?_;exact Ru.aP (t _ [_] false (no (p:=1<=0) (λh=>by omega) λh=>(z h).1) (da _ _ _ U))
  .refine ai ?_;refine RO.push U 0 (λw C o U=>?_);have x:=(U.sl 0).bC;refine ai ?_;exact Ru.wk (N (k+1) ab ab C o (a+2) (aB _ rfl) (r ⟨ab,ab,λh=>(by cases h)⟩) (by rw[l];exact U))
  .refine ai ?_;refine RO.push U 0 (λw C o U=>?_);have x:=(U.sl 0).bC;refine ai ?_;exact Ru.wk (N (k+1) ab ab C o (a+1) (aB _ rfl) (r ⟨ab,ab,λh=>(by cases h)⟩) (by rw[l];exact U))
  refine ai ?_;refine RO.arith (v:=aN (j.bu.length - 1)) ?_ (hv:=ou ab ab);refine ai ?_;refine Ru.cond (λ(h:k<j.bu.length - 1)=>?_) (λh=>?_);·refine ai ?_;exact Ru.aP (t _ [_] false (no (p:=k+1=j.bu.length) ab λh=>(z h).2.2 rfl) (da _ _ _ U))
  have h:¬k<j.bu.length - 1:=h;refine ai ?_;refine RO.push U 0 (λw C o U=>?_);have x:=(U.sl 0).bC;refine ai ?_;exact Ru.wk (N (k+1) ab ab C o a (aB _ rfl) (r ⟨ab,ab,λ_=>by omega⟩) (by rw[l];exact U))
 have X:k=j.bu.length:=ab;subst X;rw[List.drop_length]at f;simp only[ku,ahc]at f;refine Ru.exitTo ?_;refine ai ?_;refine RO.cl (qL T (a:=1) (b:=4) (n:=j.bu.length) ?_);by_cases h1:(1:Int)<=j.bu.length/\(j.bu.length:Int)<=4;rotate_left;·rw[decide_eq_false h1];refine ai ?_;exact Ru.aP (t _ [_] false (no h1 λh=>by have h8:=h.lo;have h9:=h.hi;omega) (da _ _ _ U))
 rw[decide_eq_true h1];refine ai ?_;refine RO.bR (λh2=>?_) (λh2=>?_);rotate_left;·refine ai ?_;exact Ru.aP (t _ [_] false (no h2 λh=>by have:=h.ar;omega) (da _ _ _ U))
 rw[agT]at U;refine ai ?_;refine RO.cl (yQ T V hB P hb hs E ab (ws:=j.bu.map oF) (λw hw=>?_) Q rfl aF (U.cJ (agz _ af6.symm)) λH7 b7 h7 U=>?_);·obtain⟨k,_,rfl⟩:=afE.1 hw;unfold oF;split<;>omega
 refine ai ?_;exact Ru.aP (t _ [_] _ ⟨λh=>⟨λi hi=>hq i hi hi,ab,ab,ab,h7.1 h⟩,λh=>h7.2 h.ed⟩ (by simpa using U))
end
end
end
end Go.al.R
end
