/- A part. No conditions. -/
import Derived.Test.YtodnahjlheaolaaGreatDoorA10
set_option linter.all false
set_option maxHeartbeats 16000000
open List.Perm renaming cons->ah6
noncomputable section
namespace Go.al.R
section
variable{ac:Nat->aX}
end
variable{B:List Bool}{C:List Th}{D:List G.Edge}{E:List AV}{F:KT}{I J:ai}{L Q S:AV}{N O:ah}{V n w:Nat}{A W ws:List Nat}{M:G.aM}
section
variable{ac:Nat->aX}
structure lu(g:G.aM)(e:G.Edge)(w:Nat):Prop where
 lo:1<=e.block
 hi:e.block<g.aj.length
 aK:(g.aj.getD e.block.toNat default).i4.length=e.args.length+w
 iU:∀a∈e.args,0<=a/\a<=g.aO - 1
section
variable{g:G.aM}
theorem abp(T:Tb ac)(V:FV g n)(x:G.Sm g)(z:0<g.aj.length)(hb:cQ 7 iR I g.aj L)(hs:B.length=n){e:G.Edge}(he:pE I e E)(W:w<=1)(hl:e.args.length<=1000000)(U:ak I J (fT g L N O n B++C))(l:∀t m(b:Bool),(b=true↔lu g e w)->ak I t (fT g L N O n B++m++C)->F (.bool b) t):YN ac XL [.aD N 0,.agg E,aN w] J F:=by
 have v:=he.one;obtain⟨X,rfl,j⟩:=he;have⟨hd,_,_,Y⟩:=j.all;have⟨D,_,_,M⟩:=hb.all;have P:=x.nb;obtain⟨i,Z⟩:=e;refine YF.code T.aax aC (au ?_);refine RO.bZ U λH1 q U=>au ?_;refine RO.nilCheck ?_;refine aS ?_;refine RO.arith (v:=aN (g.aj.length - 1)) ?_ (hv:=me aa aa);refine aS ?_;refine RO.cl (se T (a:=1) (b:=(g.aj.length - 1:Nat)) (n:=i) ?_);by_cases h1:(1:Int)<=i/\i<=((g.aj.length - 1:Nat):Int);rotate_left;·rw[decide_eq_false h1];refine aS ?_;exact Ru.aL (l _ [_] false ⟨λh=>(by cases h),λh=>absurd ⟨h.lo,by have o:i<g.aj.length:=h.hi;omega⟩ h1⟩ (by have:=ak.dK (xs:=[_]) U;simpa[fT]using this))
 rw[decide_eq_true h1];obtain⟨k,rfl⟩:∃k:Nat,i=(k:Int):=⟨i.toNat,aa⟩;have p:k<g.aj.length:=aa;refine aS ?_;refine RO.nilCheck ?_;refine aS ?_;refine RO.bL U.gr hb λq1 o1 c1 hj r Q hat hrd=>?_;obtain⟨vp,vs,jc,rfl,s,_,_⟩:=r;have⟨R,_,_,S⟩:=s.all;have a:(g.aj.getD ((k:Int)).toNat default)=g.aj[k]:=by rw[aeY,aZ p]
 refine aS ?_;refine RO.bP (λh3=>?_) (λh3=>?_);·refine aS ?_;refine RO.cl (B5 T V hs j hl (ak.dK (xs:=[_]) U) λH5 m y u U=>aS ?_);exact Ru.aL (l _ (m++[_]) y ⟨λh=>⟨h1.1,by show(k:Int)<g.aj.length;omega,by show(g.aj.getD ((k:Int)).toNat default).i4.length=_;rw[a];exact h3,u.1 h⟩,λh=>u.2 h.iU⟩ (by simpa using U))
 refine aS ?_;exact Ru.aL (l _ [_] false ⟨λh=>(by cases h),λh=>absurd (by have o:=h.aK;rw[a]at o;exact o) h3⟩ (by have:=ak.dK (xs:=[_]) U;simpa[fT]using this))
structure lP(g:G.aM)(es:List G.Edge)(ws:List Nat):Prop where
 len:es.length=ws.length
 ok:∀k(h:k<es.length),lu g es[k] (ws.getD k 0)
theorem abq(T:Tb ac)(a8:FV g V)(R:G.Sm g)(r:0<g.aj.length)(hb:cQ 7 iR I g.aj Q)(hs:B.length=V)(jP:cQ 2 pE I D S)(ag:D.length<=1000)(X:∀w∈W,w<=1)(s:∀e∈D,e.args.length<=1000)(U:ak I J (fT g Q N O V B++tS 3 1 (W.map aN) W.length true L::C))(m:∀v(b:Bool),(b=true↔lP g D W)->ak I v (fT g Q N O V B++tS 3 1 (W.map aN) W.length true L::C)->F (.bool b) v):YN ac KM [.aD N 0,S,L] J F:=by
 have⟨av,_,_,aw⟩:=jP.all;have t:Sl J 1 (W.map aN) W.length L:=U.sl 2;have⟨ax,_,_,ay⟩:=t.all;refine YF.code T.aaj aC (au ?_);refine Ru.cond (λh=>?_) (λh=>?_);·refine au ?_;exact Ru.aL (m _ false ⟨λh=>(by cases h),λo=>absurd o.len (by simpa using h)⟩ U)
 have hl:D.length=W.length:=by simpa using h
 refine au ?_;refine Ru.nm λa' M Y x=>Ru.bH x (up (P:=λk=>∀p,(∀j(h:j<D.length),j<k->lu g D[j] (W.getD j 0))->ak I p (fT g Q N O V B++tS 3 1 (W.map aN) W.length true L::C)->Ru ac _ a' ([(kU,aN k)]++pk M [p0,p1,p2,iF,km]) p) D.length (λk hk Z p y U=>?_) 0 aa _ (λj _ hj=>by omega) U);subst Y;subst x;refine Ru.loop (au ?_);refine Ru.cond (λa=>?_) (λa=>?_)
 .have a1:=s _ (abO a);refine au ?_;refine RO.bL U.gr jP λq1 o1 c1 hj i a2 hat hrd=>?_;have E:=i.one;have l:=i;obtain⟨va,rfl,u⟩:=i;have⟨hd,_,_,hn⟩:=u.all;refine aS ?_;refine RO.dL U λH1 q U=>aS ?_;refine RO.eT U 0 (λH2 U=>aS ?_);refine RO.bT U 0 (au ?_);obtain⟨wq,P,a6,rfl⟩:=U.jp 3 rfl aa;refine aS ?_;refine RO.cJ U 3 (au ?_) (hv:=nX 0 (show k<W.length by omega));refine RO.cl (abp T a8 R r hb hs l (w:=W.getD k 0) (by rw[aZ aa];exact X _ (abO _)) aa (ak.dK (xs:=[_]) U) λH3 gs b4 z U=>?_);cases b4 with
  |false=>refine au ?_;exact Ru.aL (m _ false ⟨λh=>(by cases h),λo=>by have:=z.2 (o.ok k a);cases this⟩ (ak.jd (xs:=[_]) U.skip).tail)
  |true=>
   refine au ?_;exact Ru.wk (Z (k+1) aa aa _ (λj hj h=>by
    by_cases e:j=k;·subst e;exact z.1 rfl
    exact y j hj aa) (ak.jd (xs:=[_]) U.skip).tail)
 refine Ru.exitTo ?_;refine au ?_;exact Ru.aL (m _ true ⟨λ_=>⟨hl,λj h=>y j h aa⟩,λ_=>rfl⟩ U)
end
end
section
variable{ac:Nat->aX}
theorem RO.BM{f:Cx}{s:List SI}{L:Kn}{i:Option ah}{l:List bD}{x y:aJ}(h:RO ac f l s (bo L i (.bool (decide (W≠A)))) I)(a:aT L x=.str W:=by exact cw)(b:aT L y=.str A:=by exact cw):RO ac f (⟨i,.kw .neq x y,none,[],[]⟩::l) s L I:=RO.kw (v:=.bool (decide (W≠A))) h a rfl b rfl (by simp only[vY,jT,decide_not])
def pM(k:Nat):Nat:=if k=2 then 1 else 0
def kV:List Nat->Nat
 |[]=>0
 |k::l=>(3 - k)+kV l
theorem Fz:∀{l:List Nat},kV l<=3*l.length|[]=>by simp[kV]|k::l=>by have:=Fz (l:=l);simp only[kV,ahK];omega
structure vi(g:G.aM)(es:List G.Edge):Prop where
 ex:∃e0 e1 e2,es=[e0,e1,e2]/\lu g e0 0/\lu g e1 1/\(e0.args=[]/\e1.args=[]/\e2.args=[])/\(1<=e2.block/\e2.block<g.aj.length)/\0<(g.aj.getD e2.block.toNat default).i4.length
structure yg(g:G.aM)(j:G.fJ):Prop where
 kd:∀i(h:i<j.bu.length),1<=j.bu[i]/\j.bu[i]<=3/\(j.bu[i]=3->i+1=j.bu.length)
 lo:1<=j.bu.length
 hi:j.bu.length<=4
 ar:j.args.length=kV j.bu
 ed:lP g j.go (j.bu.map pM)
inductive jE(g:G.aM)(j:G.fJ):Prop
 |go(h:j.op=61)(ha:j.args.length=0)(he:lP g j.go [0])
 |tF(h:j.op=62)(ha:j.args.length=1)(he:lP g j.go [0,0])
 |is(h:j.op=63)(ha:j.args.length=1)(hn:jS j.i7)(he:lP g j.go [0,0])
 |eg(h:j.op=65)(ha:j.args.length=1)(he:lP g j.go [1,0])
 |ou(h:j.op=66)(hs:yg g j)
 |tG(h:j.op=67)(ha:j.args.length=0)(ht:vi g j.go)
 |pN(h:j.op=68)(ha:0<j.args.length)(hg:j.go.length=0)
 |ret(h:j.op=69\/j.op=21)(ha:j.args.length=1)(hg:j.go.length=0)
 |stuck(h:j.op=70)(ha:j.args.length=0)(hg:j.go.length=0)
structure Ab(g:G.aM)(j:G.fJ):Prop where
 iU:∀a∈j.args,0<=a/\a<=g.aO - 1
 i7:j.op=63↔j.i7≠ []
 bu:j.op≠66->j.bu=[]
 aq:jE g j
theorem yh(T:Tb ac)(r:FV M V)(m:G.Sm M)(f:0<M.aj.length)(hb:cQ 7 iR I M.aj L)(hs:B.length=V)(jP:cQ 2 pE I D Q)(h:D.length<=1000)(o:∀s∈ws,s<=1)(i:∀t∈D,t.args.length<=1000)(j:E=ws.map aN)(p:w=ws.length)(U:ak I J (tS 3 1 E w true S::(fT M L N O V B++C)))(q:∀a(b:Bool),(b=true↔lP M D ws)->ak I a (fT M L N O V B++C)->F (.bool b) a):YN ac KM [.aD N 0,Q,S] J F:=by subst j;subst p;exact abq T r m f hb hs jP h o i (ak.dK (xs:=[_]) U) λa b k l=>q a b k (ak.jd (xs:=[_]) l).tail
theorem abr(T:Tb ac)(V:FV M n)(Y:G.Sm M)(x:0<M.aj.length)(hb:cQ 7 iR I M.aj L)(hs:B.length=n)(jP:cQ 2 pE I D Q)(ay:D.length<=1000)(j:∀c8∈D,c8.args.length<=1000)(U:ak I J (fT M L N O n B++C))(q:∀Z ws(b:Bool),(b=true↔vi M D)->ak I Z (fT M L N O n B++ws++C)->F (.bool b) Z):YN ac XD [.aD N 0,Q] J F:=by
 have⟨a6,_,_,a8⟩:=jP.all;have⟨a',_,_,ba⟩:=hb.all;have bb:=Y.nb;refine YF.code T.aal aC (au ?_);refine Ru.cond (λh=>?_) (λh=>?_);·refine au ?_;exact Ru.aL (q _ [] false ⟨λh=>(by cases h),λ⟨f,i,a,he,_⟩=>absurd (by rw[he];rfl) h⟩ (by simpa using U))
 have hl:D.length=3:=by simpa using h
 obtain⟨f,i,a,rfl⟩:∃f i a,D=[f,i,a]:=by match D,hl with|[f,i,a],_=>exact⟨f,i,a,rfl⟩
 have no:∀{p:Prop},¬p->(vi M [f,i,a]->p)->(false=true↔vi M [f,i,a]):=λh1 h2=>⟨λh=>(by cases h),λh=>absurd (h2 h) h1⟩;have fI:vi M [f,i,a]->lu M f 0/\lu M i 1/\(f.args=[]/\i.args=[]/\a.args=[])/\(1<=a.block/\a.block<M.aj.length)/\0<(M.aj.getD a.block.toNat default).i4.length:=λ⟨f0,f1,f2,he,h⟩=>by injection he with a1 he;injection he with a2 he;injection he with a3 he;subst a1;subst a2;subst a3;exact h
 refine au ?_;refine RO.bL U.gr jP (λq1 o1 c1 bc l bv hat hrd=>?_) (hj:=by simp);have l:pE I a c1:=l;have ag:=l.one;obtain⟨v2,rfl,y⟩:=l;have⟨b0,_,_,b3⟩:=y.all;refine aS ?_;refine RO.dD U (λH2 q2 U=>aS ?_);refine RO.Tc jP (λb4 o=>?_) (b:=2) (hb:=by simp);have⟨av,_,_,aw⟩:=o.all;refine RO.iE U 1 (λH6 q6 U=>RO.cl (yh T V Y x hb hs o aC (ws:=[0,1]) bt (λc8 he=>j c8 (aiK he)) rfl rfl (U.bO (ah6 _ ahy.symm)) λH7 b7 u U=>?_));have u:b7=true↔lu M f 0/\lu M i 1:=u.trans ⟨λh=>⟨h.ok 0 aC,h.ok 1 aC⟩,λh=>⟨rfl,λk hk=>by match k,hk with|0,_=>exact h.1|1,_=>exact h.2⟩⟩;have U:=ak.tq U;have m:∀w,ak I w (tB xD q2 [aI a.block,v2]::(fT M L N O n B++C))->ak I w (fT M L N O n B++[tB xD q2 [aI a.block,v2]]++C):=λw h=>by rw[ae0];exact ak.dK (xs:=[_]) h
 cases b7 with
 |false=>refine ab ?_;exact Ru.aL (q _ [_] false (no (p:=lu M f 0/\lu M i 1) (λh=>by have:=u.2 h;cases this) λh=>⟨(fI h).1,(fI h).2.1⟩) (m _ U))
 |true=>
  have⟨h0,h1⟩:=u.1 rfl;refine au ?_;refine RO.bL U.gr jP (λq3 o3 c3 b6 z b' hat hrd=>?_) (hj:=by simp);obtain⟨v0,rfl,E⟩:=z;have⟨ca,_,_,r⟩:=E.all;have r:lenOf v0=some f.args.length:=r;refine aS ?_;refine RO.bL U.gr jP (λq4 o4 c4 cd P cf hat hrd=>?_) (hj:=by simp);obtain⟨v1,rfl,R⟩:=P;have⟨cn,_,_,s⟩:=R.all;have s:lenOf v1=some i.args.length:=s;have cp:=j f aC;have cv:=j i aC;have ax:=j a aC;refine ab ?_;refine RO.bP (λh3=>?_) (λh3=>?_);rotate_left;·refine ab ?_;refine Ru.aL (q _ [_] false (no h3 λh=>?_) (m _ U));have⟨x0,x1,x2⟩:=(fI h).2.2.1;rw[x0,x1,x2];rfl
  have h3:f.args=[]/\i.args=[]/\a.args=[]:=by
   try simp only[ag0]at h3
   exact⟨ahz aa,ahz aa,ahz aa⟩
  refine ab ?_;refine RO.arith (v:=aN (M.aj.length - 1)) (ab ?_) (hv:=me aa aa);refine RO.cl (se T (a:=1) (b:=(M.aj.length - 1:Nat)) (n:=a.block) ?_);by_cases hj:(1:Int)<=a.block/\a.block<=((M.aj.length - 1:Nat):Int);rotate_left;·rw[decide_eq_false hj];refine ab ?_;exact Ru.aL (q _ [_] false (no hj λh=>by have:=(fI h).2.2.2.1;omega) (m _ U))
  rw[decide_eq_true hj];have⟨b2,a2⟩:=a;have hj:(1:Int)<=b2/\b2<=((M.aj.length - 1:Nat):Int):=hj;obtain⟨k,rfl⟩:∃k:Nat,b2=(k:Int):=⟨b2.toNat,aa⟩;have S:k<M.aj.length:=aa;have t:(M.aj.getD ((k:Int)).toNat default)=M.aj[k]:=by rw[aeY,aZ S]
  refine ab ?_;refine RO.bL U.gr hb λq5 o5 c5 cx W cy hat hrd=>?_;obtain⟨vp,vs,jc,rfl,X,_,_⟩:=W;have⟨cE,_,_,cR⟩:=X.all;refine ab ?_;refine Ru.aL (q _ [_] _ ⟨λhp=>⟨_,_,_,rfl,h0,h1,h3,⟨hj.1,by show(k:Int)<M.aj.length;omega⟩,?_⟩,λh=>?_⟩ (m _ U));·show 0<(M.aj.getD ((k:Int)).toNat default).i4.length;rw[t];exact of_decide_eq_true hp
  have v:=(fI h).2.2.2.2;refine decide_eq_true ?_;have v:0<(M.aj.getD ((k:Int)).toNat default).i4.length:=v;rw[t]at v;exact v
theorem abs(T:Tb ac)(V:FV M n)(hB:G.Sm M)(ag:0<M.aj.length)(hb:cQ 7 iR I M.aj L)(hs:B.length=n){j:G.fJ}(hj:nZ I j E)(v:∀ca∈j.bu,ca<256)(hl:j.args.length<=1000/\j.go.length<=1000/\j.bu.length<=1000)(av:∀b'∈j.go,b'.args.length<=1000)(U:ak I J (fT M L N O n B++C))(t:∀H' ws(b:Bool),(b=true↔yg M j)->ak I H' (fT M L N O n B++ws++C)->F (.bool b) H'):YN ac XC [.aD N 0,.agg E] J F:=by
 have a2:=hj.one;obtain⟨X,Y,Z,rfl,aw,Q,R⟩:=hj;have⟨a6,_,_,a8⟩:=aw.all;have⟨ba,_,_,bb⟩:=Q.all;have⟨bc,_,_,bv⟩:=R.all;have b0:=Fz (l:=j.bu);have no:∀{p:Prop},¬p->(yg M j->p)->(false=true↔yg M j):=λh1 h2=>⟨λh=>(by cases h),λh=>absurd (h2 h) h1⟩;refine YF.code T.aak aC (au ?_);refine RO.bZ U λH1 q U=>au ?_;have U:=U.mZ 3 1;refine au ?_;refine RO.eo U 1 ?_;refine au ?_;have m:∀u k y,ak I u (tS 3 1 (((j.bu.take k).map pM).map aN) k true y::tB mg q [aU j.op,X,.str j.i7,Y,Z]::(fT M L N O n B++C))->ak I u (fT M L N O n B++[tB mg q [aU j.op,X,.str j.i7,Y,Z]]++C):=λu k y h=>by rw[ae0];exact ak.dK (xs:=[_]) h.tail
 refine Ru.nm λS cd hS hM=>Ru.bH hM (up (P:=λk=>∀u y a,a+kV (j.bu.drop k)=kV j.bu->(∀i(h:i<j.bu.length),i<k->1<=j.bu[i]/\j.bu[i]<=3/\(j.bu[i]=3->i+1=j.bu.length))->ak I u (tS 3 1 (((j.bu.take k).map pM).map aN) k true y::tB mg q [aU j.op,X,.str j.i7,Y,Z]::(fT M L N O n B++C))->Ru ac _ S ([(p5,y),(p6,aN a),(iS,aN k)]++pk cd [p0,p3,eD,gQ]) u) j.bu.length (λk b3 ih u y a f hq U=>?_) 0 aa _ _ 0 aC (λi _ hi=>by omega) U);subst hS;subst hM;have x:=(U.sl 0).bk;refine Ru.loop ?_;refine au ?_;refine Ru.cond (λo=>?_) (λo=>?_)
 .have v:=v _ (abO o);have z:yg M j->1<=j.bu[k]/\j.bu[k]<=3/\(j.bu[k]=3->k+1=j.bu.length):=λh=>h.kd k o;have a1:=f;rw[ahp o]at f;simp only[kV]at f;have s:(1<=j.bu[k]/\j.bu[k]<=3/\(j.bu[k]=3->k+1=j.bu.length))->∀i(h:i<j.bu.length),i<k+1->1<=j.bu[i]/\j.bu[i]<=3/\(j.bu[i]=3->i+1=j.bu.length):=λhb i hi h=>by
   by_cases b':i=k;·subst b';exact hb
   exact hq i hi aa
  refine au ?_;refine RO.ic U.gr Q λq1 o1 b4 ax=>?_;have l:((j.bu.take (k+1)).map pM).map aN=((j.bu.take k).map pM).map aN++[aN (pM j.bu[k])]:=by rw[List.take_add_one,getElem?_pos j.bu k o];simp only[Option.toList_some,ahx,ahk,aiz]
  have aq:∀a',a'=a+(3 - j.bu[k])->a'+kV (j.bu.drop (k+1))=kV j.bu:=λa' b'=>by omega
  generalize b6:j.bu[k]=D at z s v ax l aq⊢;rcases aic 3 D with h3|h3
  .refine ab ?_;refine RO.bP (λh=>?_) (λh=>?_);·refine ab ?_;exact Ru.aL (t _ [_] false (no (λh=>by omega) λh=>(z h).2.1) (m _ _ _ U))
   refine ab ?_;refine RO.bP (λh=>ab ?_) (λh=>absurd h3 h);exact Ru.aL (t _ [_] false (no (λh=>by omega) λh=>(z h).2.1) (m _ _ _ U))
  have W:D=0\/D=1\/D=2\/D=3:=aa;rcases W with rfl|rfl|rfl|rfl;·refine ab ?_;exact Ru.aL (t _ [_] false (no (p:=1<=0) (λh=>by omega) λh=>(z h).1) (m _ _ _ U))
  .refine ab ?_;refine RO.push U 0 (λw P r U=>?_);have x:=(U.sl 0).bk;refine ab ?_;exact Ru.wk (ih (k+1) aa aa P r (a+2) (aq _ rfl) (s ⟨aa,aa,λh=>(by cases h)⟩) (by rw[l];exact U))
  .refine ab ?_;refine RO.push U 0 (λw P r U=>?_);have x:=(U.sl 0).bk;refine ab ?_;exact Ru.wk (ih (k+1) aa aa P r (a+1) (aq _ rfl) (s ⟨aa,aa,λh=>(by cases h)⟩) (by rw[l];exact U))
  refine ab ?_;refine RO.arith (v:=aN (j.bu.length - 1)) ?_ (hv:=me aa aa);refine ab ?_;refine Ru.cond (λ(h:k<j.bu.length - 1)=>?_) (λh=>?_);·refine ab ?_;exact Ru.aL (t _ [_] false (no (p:=k+1=j.bu.length) aa λh=>(z h).2.2 rfl) (m _ _ _ U))
  have h:¬k<j.bu.length - 1:=h;refine ab ?_;refine RO.push U 0 (λw P r U=>?_);have x:=(U.sl 0).bk;refine ab ?_;exact Ru.wk (ih (k+1) aa aa P r a (aq _ rfl) (s ⟨aa,aa,λ_=>by omega⟩) (by rw[l];exact U))
 have ay:k=j.bu.length:=aa;subst ay;rw[List.drop_length]at f;simp only[kV,aiV]at f;refine Ru.exitTo ?_;refine ab ?_;refine RO.cl (se T (a:=1) (b:=4) (n:=j.bu.length) ?_);by_cases h1:(1:Int)<=j.bu.length/\(j.bu.length:Int)<=4;rotate_left;·rw[decide_eq_false h1];refine ab ?_;exact Ru.aL (t _ [_] false (no h1 λh=>by have h8:=h.lo;have h9:=h.hi;omega) (m _ _ _ U))
 rw[decide_eq_true h1];refine ab ?_;refine RO.bP (λh2=>?_) (λh2=>?_);rotate_left;·refine ab ?_;exact Ru.aL (t _ [_] false (no h2 λh=>by have:=h.ar;omega) (m _ _ _ U))
 rw[aid]at U;refine ab ?_;refine RO.cl (yh T V hB ag hb hs R aa (ws:=j.bu.map pM) (λw hw=>?_) av rfl aC (U.bO (ah6 _ ahy.symm)) λH7 b7 h7 U=>?_);·obtain⟨k,_,rfl⟩:=ahm.1 hw;unfold pM;split<;>omega
 refine ab ?_;exact Ru.aL (t _ [_] _ ⟨λh=>⟨λi hi=>hq i hi hi,aa,aa,aa,h7.1 h⟩,λh=>h7.2 h.ed⟩ (by simpa using U))
end
end Go.al.R
end
