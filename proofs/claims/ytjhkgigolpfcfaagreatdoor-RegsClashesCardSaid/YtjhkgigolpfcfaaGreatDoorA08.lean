/- A part of the proof. No conditions. -/
import Derived.Test.YtjhkgigolpfcfaaGreatDoorA07
set_option linter.all false
set_option maxHeartbeats 16000000
open Option.some renaming injEq→acm
open Option renaming map_some→ahb
open List renaming mem_singleton→ac3,mem_cons_self→adc,mem_cons→adC,mem_cons_of_mem→adD,getElem_mem→af0,replicate→af3,mem_append→agI,append_assoc→agJ,map_cons→agN,length_append→agP,drop_eq_getElem_cons→agR,getElem_of_mem→agS,perm_middle→ag1,mem_map→ag3,mem_map_of_mem→ag5,length_cons→ahh,map_append→ahk,length_take→ahl,cons_append→ahC,perm_append_comm→ahD,nil_append→ahH,getElem?_cons_succ→ahK,map_nil→ahX,map_congr_left→ahZ,all_eq_true→ah1,take_length→ah2,map_replicate→aie,length_drop→aih
open Bool renaming false_eq_true→ac6,and_eq_true→agM,not_true→ag9
open Nat renaming le_refl→adW,beq→agQ,le_of_ble_eq_true→agT,zero_add→agW,lt_of_lt_of_le→ag6,mul_le_mul_right→ahf,blt_eq→ahF,ble→ahG,beq_refl→ahQ,add_assoc→ah3,mul_one→ah9,min_eq_left→aid,add_mul→aig,add_zero→ail,sub_zero→aip
open Prod.mk renaming injEq→age
open Int renaming toNat_natCast→agK,ofNat_eq_natCast→agL,ofNat→ahI
open List.cons renaming injEq→ag4
open List.Perm renaming cons→ahq,swap→ahw
noncomputable section
namespace Go.ak.R
section
variable{ab:Nat→aE}
section
theorem RO.DH{c:Cx}{s:List SI}{L:Kn}{H:af}{d:Option ac}{l:List aS}{x y:aG}{a b:List Nat}(h:RO ab c l s (bA L d (.bool (decide (a≠b)))) H)(e:aV L x=.aC a:=by(conv=>lhs;whnf)<;>rfl)(g:aV L y=.aC b:=by(conv=>lhs;whnf)<;>rfl):RO ab c (⟨d,.il .neq x y,none,[],[]⟩::l) s L H:=RO.il (v:=.bool (decide (a≠b))) h e rfl g rfl (by simp only[Ag,pA,decide_not])
structure sY(g:G.bu)(es:List G.Edge)(ws:List Nat):Prop where
 len:es.length=ws.length
 ok:∀k(h:k<es.length),vV g es[k] (ws[k]'(by omega))∧es[k].args.length≤1000
def uD(k:Nat):Nat:=if k=2 then 1 else 0
def mc:List Nat→Nat
 |[]=>0
 |k::l=>(3 - k)+mc l
inductive acE(g:G.bu)(j:G.k6):Prop
 |go(h:j.op=61)(ha:j.args=[])(he:sY g j.go [0])
 |BZ(h:j.op=62)(ha:j.args.length=1)(he:sY g j.go [0,0])
 |is(h:j.op=63)(ha:j.args.length=1)(hn:rF j.name)(he:sY g j.go [0,0])
 |fS(h:j.op=65)(ha:j.args.length=1)(he:sY g j.go [1,0])
 |zU(h:j.op=66)(hk:∀i(h:i<j.bY.length),1≤j.bY[i]∧j.bY[i]≤3∧(j.bY[i]=3→i+1=j.bY.length))(h1:1≤j.bY.length)(h4:j.bY.length≤4)(ha:j.args.length=mc j.bY)(he:sY g j.go (j.bY.map uD))
 |B0(h:j.op=67)(ha:j.args=[])(e0 e1 e2:G.Edge)(hg:j.go=[e0,e1,e2])(h0:vV g e0 0)(h1:vV g e1 1)(h3:e0.args=[]∧e1.args=[]∧e2.args=[])(hj:1≤e2.block∧e2.block<g.aj.length)(hp:0<(g.aj.getD e2.block.toNat default).params.length)
 |B3(h:j.op=68)(ha:0<j.args.length)(hg:j.go=[])
 |ret(h:j.op=69∨j.op=21)(ha:j.args.length=1)(hg:j.go=[])
 |stuck(h:j.op=70)(ha:j.args=[])(hg:j.go=[])
structure Iv(g:G.bu)(j:G.k6):Prop where
 oT:∀a∈j.args,0≤a∧a≤g.bi - 1
 name:j.op=63↔j.name≠ []
 bY:j.op≠66→j.bY=[]
 aq:acE g j
section
variable{g:G.bu}{f:AV}{o p:ac}{n:Nat}{A H:af}{us:List Th}
theorem zV(T:Tb ab)(V:FV g n)(j:G.Sm g)(hb:dL 7 jW A g.aj f){s:List Bool}(hs:s.length=n){es:List G.Edge}{d e:AV}{ws:List Nat}(kI:dL 2 rl A es d)(a:es.length≤1000)(k:∀w∈ws,w≤1)(h:sY g es ws){i:List AV}{m:Nat}(b:i=ws.map aN)(l:m=ws.length)(U:ai A H (tS 3 1 i m true e::(fT g f o p n s++us))){K:AV→af→Prop}(q:∀H',ai A H' (fT g f o p n s++us)→K (.bool true) H'):YF ab (.func Nr [] []) [.aw o 0,d,e] H K:=by subst b;subst l;exact acD T V j hb hs kI h.len a k h.ok (ai.gC (xs:=[_]) U) λH' c=>q H' (ai.lE (xs:=[_]) c).tail
theorem acF(T:Tb ab)(V:FV g n)(C:G.Sm g)(hb:dL 7 jW A g.aj f){s:List Bool}(hs:s.length=n){m e1 e2:G.Edge}{D:AV}(kI:dL 2 rl A [m,e1,e2] D)(h0:vV g m 0)(h1:vV g e1 1)(h3:m.args=[]∧e1.args=[]∧e2.args=[])(hj:1≤e2.block∧e2.block<g.aj.length)(q:0<(g.aj.getD e2.block.toNat default).params.length)(U:ai A H (fT g f o p n s++us)){K:AV→af→Prop}(J:∀H' ws,ai A H' (fT g f o p n s++ws++us)→K (.bool true) H'):YF ab (.func WD [] []) [.aw o 0,D] H K:=by
 have⟨N,_,_,O⟩:=kI.all;have⟨P,_,_,Q⟩:=hb.all;have R:=C.nb;obtain⟨c,d,r⟩:=h3;obtain⟨k,E⟩:∃k:Nat,e2.block=(k:Int):=⟨e2.block.toNat,by omega⟩;rw[E]at hj q;have t:k<g.aj.length:=by omega
 rw[agK,bE t]at q;refine YF.code T.abw (by simp) ?_;refine au ?_;refine RO.cP U.gr kI (λq1 o1 c1 S a W hat hrd=>?_) (hj:=by simp);have a:rl A e2 c1:=a;have l:=a.one;obtain⟨L,rfl,u⟩:=a;rw[E]at l hrd hat;have⟨X,_,_,e⟩:=u.all;have e:lenOf L=some 0:=by simpa[r]using e
 refine bz ?_;refine RO.fG U (λH2 q2 U=>?_);refine bz ?_;refine RO.Vc kI (λY b=>?_) (b:=2) (hb:=by simp);have⟨F,_,_,I⟩:=b.all;refine RO.kZ U 1 (λH6 q6 U=>?_);refine RO.cl (zV T V C hb hs b (by simp) (ws:=[0,1]) (by decide) ⟨rfl,λk h=>?_⟩ rfl rfl (U.cO (ahq _ ag1.symm)) λH7 U=>?_);·match k,h with|0,_=>exact⟨h0,by show m.args.length≤1000;rw[c];simp⟩|1,_=>exact⟨h1,by show e1.args.length≤1000;rw[d];simp⟩
 have U:=ai.vE U;refine au ?_;refine RO.cP U.gr kI (λq3 o3 c3 Z v ag hat hrd=>?_) (hj:=by simp);obtain⟨v0,rfl,w⟩:=v;have⟨ar,_,_,i⟩:=w.all;have i:lenOf v0=some 0:=by simpa[c]using i
 refine bz ?_;refine RO.cP U.gr kI (λq4 o4 c4 av x ax hat hrd=>?_) (hj:=by simp);obtain⟨M,rfl,y⟩:=x;have⟨ay,_,_,j⟩:=y.all;have j:lenOf M=some 0:=by simpa[d]using j
 refine ah ?_;refine RO.arith (v:=aN (g.aj.length - 1)) ?_ (hv:=nU (by omega) (by omega));refine ah ?_;refine RO.cl (xD T (a:=1) (b:=(g.aj.length - 1:Nat)) (n:=(k:Int)) (by omega) ?_);refine ah ?_;refine RO.cP U.gr hb λq5 o5 c5 a1 z a2 hat hrd=>?_;obtain⟨vp,vs,jc,rfl,B,_,_⟩:=z;have⟨a6,_,_,a8⟩:=B.all;refine ah ?_;refine Ru.aT ?_;rw[decide_eq_true q];exact J _ [_] (by rw[agJ];exact ai.gC (xs:=[_]) U)
theorem acG(T:Tb ab)(V:FV g n)(Q:G.Sm g)(hb:dL 7 jW A g.aj f){s:List Bool}(hs:s.length=n){j:G.k6}{cs:List AV}(hj:sG A j cs)(R:∀i(h:i<j.bY.length),1≤j.bY[i]∧j.bY[i]≤3∧(j.bY[i]=3→i+1=j.bY.length))(h1:1≤j.bY.length)(h4:j.bY.length≤4)(ha:j.args.length=mc j.bY)(he:sY g j.go (j.bY.map uD))(hl:j.args.length≤1000∧j.go.length≤1000)(U:ai A H (fT g f o p n s++us)){K:AV→af→Prop}(W:∀H' ws,ai A H' (fT g f o p n s++ws++us)→K (.bool true) H'):YF ab (.func WC [] []) [.aw o 0,.agg cs] H K:=by
 have P:=hj.one;obtain⟨X,Y,Z,rfl,E,t,u⟩:=hj;have⟨ag,_,_,ar⟩:=E.all;have⟨av,_,_,ax⟩:=t.all;have⟨ay,_,_,a1⟩:=u.all;refine YF.code T.abv (by simp) ?_;refine au ?_;refine RO.dS U λH1 q U=>?_;refine au ?_;have U:=U.oG 3 1;refine au ?_;refine RO.gM U 1 ?_;refine au ?_;refine Ru.nm λS M hS O=>?_;refine Ru.cA O (up (P:=λk=>∀y z a,a+mc (j.bY.drop k)=mc j.bY→ai A y (tS 3 1 (((j.bY.take k).map uD).map aN) k true z::tB sH q [aU j.op,X,.aC j.name,Y,Z]::(fT g f o p n s++us))→Ru ab _ S ([(p5,z),(p6,aN a),(aX,aN k)]++pk M [p0,p3,aQ,aZ]) y) j.bY.length (λk a2 B y z a b U=>?_) 0 (by omega) _ _ 0 (by simp) U);subst hS;subst O;have m:=(U.sl 0).bB;refine Ru.loop ?_;refine au ?_;refine Ru.cond (λl=>?_) (λl=>?_)
 ·obtain⟨F,I,v⟩:=R k l;have N:=b;rw[agR l]at b;simp only[mc]at b;refine au ?_;refine RO.jX U.gr t λq1 o1 a6 J=>?_;have c:((j.bY.take (k+1)).map uD).map aN=((j.bY.take k).map uD).map aN++[aN (uD j.bY[k])]:=by rw[List.take_add_one,getElem?_pos j.bY k l];simp only[Option.toList_some,ahk,agN,ahX]
  have aq:∀C,C=a+(3 - j.bY[k])→C+mc (j.bY.drop (k+1))=mc j.bY:=λC e=>by omega
  generalize a8:j.bY[k]=D at F I v J c aq⊢;have x:D=1∨D=2∨D=3:=by omega
  rcases x with rfl|rfl|rfl;·refine ah ?_;refine RO.push U 0 (λw r d U=>?_);have m:=(U.sl 0).bB;refine ah ?_;exact Ru.wk (B (k+1) (by omega) (by omega) r d (a+2) (aq _ rfl) (by rw[c];exact U))
  ·refine ah ?_;refine RO.push U 0 (λw r d U=>?_);have m:=(U.sl 0).bB;refine ah ?_;exact Ru.wk (B (k+1) (by omega) (by omega) r d (a+1) (aq _ rfl) (by rw[c];exact U))
  refine ah ?_;refine RO.arith (v:=aN (j.bY.length - 1)) ?_ (hv:=nU (by omega) (by omega));refine ah ?_;refine Ru.cond (λ(h:k<j.bY.length - 1)=>absurd h (by have:=v rfl;omega)) (λ_=>?_);refine ah ?_;refine RO.push U 0 (λw r d U=>?_);have m:=(U.sl 0).bB;refine ah ?_;exact Ru.wk (B (k+1) (by omega) (by omega) r d a (aq _ rfl) (by rw[c];exact U))
 have L:k=j.bY.length:=by omega
 subst L;rw[List.drop_length]at b;rw[ah2]at U;simp only[mc,ail]at b;refine Ru.exitTo ?_;refine ah ?_;refine RO.cl (xD T (a:=1) (b:=4) (n:=j.bY.length) (by omega) ?_);refine ah ?_;refine RO.cX (λ_=>?_) (λh=>absurd (show j.args.length=a by omega) h);refine ah ?_;refine RO.cl (zV T V Q hb hs u (by omega) (ws:=j.bY.map uD) (λw hw=>?_) he rfl (by simp) (U.cO (ahq _ ag1.symm)) λH7 U=>?_);·obtain⟨k,_,rfl⟩:=ag3.1 hw;unfold uD;split<;>omega
 refine ah ?_;exact Ru.aT (W _ [_] (by simpa using U))
end
end
section
section
variable{g:G.bu}{a:AV}{b c:ac}{n:Nat}{A H:af}{us:List Th}
theorem acH(T:Tb ab)(V:FV g n)(l:G.Sm g)(hb:dL 7 jW A g.aj a){s:List Bool}(hs:s.length=n){j:G.k6}{cs:List AV}(hj:sG A j cs)(N:Iv g j)(hl:j.args.length≤1000∧j.go.length≤1000∧j.bY.length≤1000)(U:ai A H (fT g a b c n s++us)){K:AV→af→Prop}(f:∀H' ws,ai A H' (fT g a b c n s++ws++us)→K (.bool true) H'):YF ab (.func Wq [] []) [.aw b 0,.agg cs] H K:=by
 have u:=hj.one;have o:=hj;obtain⟨X,Y,Z,rfl,i,p,e⟩:=hj;have⟨P,_,_,y⟩:=i.all;have⟨Q,_,_,z⟩:=p.all;have⟨R,_,_,B⟩:=e.all;obtain⟨h1,h2,h3,M⟩:=N;obtain⟨r,t,C⟩:=hl;obtain⟨op,args,name,bY,go⟩:=j;simp only at u o i p e y z B h1 h2 h3 r t C⊢;refine YF.code T.aa9 (by simp) ?_;refine au ?_;refine RO.dS U λH1 q U=>?_;refine bz ?_;refine RO.cl (Ek T V hs i (by omega) h1 (ai.gC (xs:=[_]) U) λH5 ws U=>?_);have U:=ai.lE (xs:=[_]) U.skip;refine au ?_;refine RO.gM U 0 ?_;refine au ?_;refine RO.gM U 0 ?_;refine RO.sC ?_;refine RO.DH ?_;refine RO.sC ?_;refine RO.eq (t:=true) ?_ (ht:=by simp[dZ,h2]);refine bz ?_;refine RO.cX (λ(h:op≠66)=>?_) (λ(h:¬op≠66)=>?_)
 ·have D:=h3 h;subst D;refine bz ?_;cases M with
  |go e1 e2 d=>simp only at e1 e2 d;subst e1;subst e2;refine bz ?_;refine RO.kZ U 1 (λv x U=>?_);refine bz ?_;refine RO.cl (zV T V l hb hs e (by omega) (ws:=[0]) (by decide) d rfl rfl (U.cO (ahq _ ag1.symm)) λm U=>?_);refine bz ?_;exact Ru.aT (f _ [_] (by simpa using U))
  |BZ e1 e2 d=>simp only at e1 e2 d;subst e1;rw[e2];refine bz ?_;refine RO.kZ U 1 (λv x U=>?_);refine bz ?_;refine RO.cl (zV T V l hb hs e (by omega) (ws:=[0,0]) (by decide) d rfl rfl (U.cO (ahq _ ag1.symm)) λm U=>?_);refine bz ?_;exact Ru.aT (f _ [_] (by simpa using U))
  |is e1 e2 d w=>simp only at e1 e2 d w;subst e1;rw[e2];refine bz ?_;refine RO.cl (Ip T d λv hg=>?_);have U:=U.cV hg;refine bz ?_;refine RO.kZ U 1 (λv x U=>?_);refine bz ?_;refine RO.cl (zV T V l hb hs e (by omega) (ws:=[0,0]) (by decide) w rfl rfl (U.cO (ahq _ ag1.symm)) λm U=>?_);refine bz ?_;exact Ru.aT (f _ [_] (by simpa using U))
  |fS e1 e2 d=>simp only at e1 e2 d;subst e1;rw[e2];refine bz ?_;refine RO.kZ U 1 (λv x U=>?_);refine bz ?_;refine RO.cl (zV T V l hb hs e (by omega) (ws:=[1,0]) (by decide) d rfl rfl (U.cO (ahq _ ag1.symm)) λm U=>?_);refine bz ?_;exact Ru.aT (f _ [_] (by simpa using U))
  |zU e1=>exact absurd e1 h
  |B0 e1 e2 e0 S W hg h0 E F I J=>simp only at e1 e2 hg;subst e1;subst e2;subst hg;refine bz ?_;refine RO.cl (acF T V l hb hs e h0 E F I J (ai.gC (xs:=[_]) U) λm k U=>?_);refine bz ?_;exact Ru.aT (f _ (k++[_]) (by simpa using U))
  |B3 e1 e2 d=>simp only at e1 e2 d;subst e1;subst d;refine bz ?_;refine RO.cX (λ_=>?_) (λh=>absurd e2 h);refine bz ?_;exact Ru.aT (f _ [_] (by simpa using ai.gC (xs:=[_]) U))
  |ret e1 e2 d=>
   simp only at e1 e2 d;subst d;rw[e2];rcases e1 with rfl|rfl;·refine bz ?_;exact Ru.aT (f _ [_] (by simpa using ai.gC (xs:=[_]) U))
   refine bz ?_;exact Ru.aT (f _ [_] (by simpa using ai.gC (xs:=[_]) U))
  |stuck e1 e2 d=>simp only at e1 e2 d;subst e1;subst e2;subst d;refine bz ?_;exact Ru.aT (f _ [_] (by simpa using ai.gC (xs:=[_]) U))
 have L:op=66:=Classical.not_not.1 h;subst L;refine bz ?_;cases M with|zU e1 O e2 d w he=>refine RO.eG U 0 ?_;refine RO.cl (acG T V l hb hs o O e2 d w he ⟨r,t⟩ (ai.gC (xs:=[_]) U) λm k U=>?_);refine bz ?_;exact Ru.aT (f _ (k++[_]) (by simpa using U))|ret e1=>simp at e1|_ e1=>simp at e1
end
end
section
def sZ(g:G.bu)(s:List Bool)(b:G.gD):Bool×List Bool:=
 ((gE (mB g) s b.params).1&&(gE (nq g) (gE (mB g) s b.params).2 b.aA).1,(gE (nq g) (gE (mB g) s b.params).2 b.aA).2)
structure Iw(g:G.bu)(n:Nat):Prop where
 fv:FV g n
 name:rF g.name
 ne:0<g.aj.length
 first:(g.aj.getD 0 default).params=[]
 aA:∀b∈g.aj,∀x∈b.aA,∃r,vU g x r
 B4:∀b∈g.aj,Iv g b.aq
 uC:(gE (sZ g) (af3 n false) g.aj).1=true
 all:∀k(h:k<(gE (sZ g) (af3 n false) g.aj).2.length),g.params≤k→(gE (sZ g) (af3 n false) g.aj).2[k]=true
section
variable{g:G.bu}{d:AV}{c f:ac}{n:Nat}{A H:af}{us:List Th}
theorem acI(g:G.bu)(s:List Bool)(x:G.gW):(nq g s x).2.length=s.length:=by
 unfold nq;split
 ·split;·unfold mB;split<;>(try split)<;>simp
  rfl
 rfl
theorem acJ(T:Tb ab)(V:FV g n)(a:List G.gW)(h:∀x∈a,∃r,vU g x r)(hl:∀x∈a,x.args.length≤1000):qv ab A (.func HI [.aw c 0] []) pU true (fT g d c f n) (λs=>s.length=n) (nq g) a:=by rintro s x cs H us i j k U;obtain⟨r,h1⟩:=h x i;have:=acB (K:=λv H'=>v=.bool (nq g s x).1∧(nq g s x).2.length=n∧∃b,ai A H' (fT g d c f n (nq g s x).2++b++us)) T V j k h1 (by have:=hl x i;omega) U λH' b e=>⟨rfl,by rw[acI];exact j,b,e⟩;exact this
theorem acK(T:Tb ab){H:af}{b:Bool}{K:AV→af→Prop}(a:K (.bool b) H):YF ab (.func HJ [] []) [.bool b] H K:=by refine YF.code T.abb (by simp) ?_;refine au ?_;exact Ru.aT a
def Ix:af→Bool→List AV→Prop:=λ_ v cs=>cs=[.bool v]
theorem acL(T:Tb ab){H:af}{b:List Bool}{g:AV}(j:Sl H 1 (b.map .bool) b.length g)(hl:b.length≤1000000)(l:∀a∈b,a=true){K:AV→af→Prop}(m:∀H',bf H H'→K (.bool true) H'):YF ab (.func Ws [] []) [g,.func HJ [] []] H K:=by
 have n:qv ab H (.func HJ [] []) Ix false (λ_:Unit=>[]) (λ_=>True) (λs v=>(v,s)) b:=by rintro s a cs H' us _ _ rfl U;exact acK T ⟨rfl,trivial,[],by simpa using U⟩
 have e:gE (λ(s:Unit)(v:Bool)=>(v,s)) () b=(true,()):=Iu (p:=λv=>v) l;have o:dL 1 Ix H b g:=⟨_,j,λk p=>by rw[ah9,agR (by simpa using p)];simp[Ix]⟩;refine BU T.aba (by decide) T.abx (by decide) T.abK (size:=1) (agg:=false) (by decide) (λ_=>rfl) (T:=λ_:Unit=>[]) (s:=()) (us:=[]) rfl rfl rfl (Im T.aby (by decide) rfl (λa cs h=>by cases h;rfl) n) (λa cs h=>by cases h;rfl) o hl trivial (ai.cW H) λH' q _ i=>?_;rw[e];exact m H' i.gr
theorem acM(T:Tb ab)(V:FV g n){s:List Bool}(hs:s.length=n){b:List G.gW}{j:AV}(k:dL 6 pU A b j)(hl:b.length≤1000000)(h:∀x∈b,∃r,vU g x r)(e:∀x∈b,x.args.length≤1000)(U:ai A H (fT g d c f n s++us)){K:AV→af→Prop}(l:∀H',(gE (nq g) s b).2.length=n→ai A H' (fT g d c f n (gE (nq g) s b).2++us)→K (.bool (gE (nq g) s b).1) H'):YF ab (.func Wp [] []) [j,.func HI [.aw c 0] []] H K:=by refine BU T.aa7 (by decide) T.abq (by decide) T.abE (size:=6) (agg:=true) (by decide) (λh=>by cases h) rfl rfl rfl (NV T.abr (by decide) rfl (λa cs h=>⟨by obtain⟨v,rfl,_⟩:=h;rfl,h.one⟩) (acJ T V b h e)) (λa cs h=>rfl) k hl hs U λH' o m i=>l H' m i.skip
theorem acN(T:Tb ab)(V:FV g n){s:List Bool}(hs:s.length=n){b:List Int}{i:AV}(j:iy A b i)(hl:b.length≤1000000)(U:ai A H (fT g d c f n s++us)){K:AV→af→Prop}(k:∀H',(gE (mB g) s b).2.length=n→ai A H' (fT g d c f n (gE (mB g) s b).2++us)→K (.bool (gE (mB g) s b).1) H'):YF ab (.func Np [] []) [i,.func HH [.aw c 0] []] H K:=by refine BU T.NP (by decide) T.Ii (by decide) T.Ij (size:=1) (agg:=false) (by decide) (λ_=>rfl) rfl rfl rfl (Im T.NQ (by decide) rfl (λa cs h=>by cases h;rfl) (acy T V b)) (λa cs h=>by cases h;rfl) (iy.r j) hl hs U λH' m l e=>k H' l e.skip
theorem acO{e b:Type}{st:b→e→Bool×b}:∀{a:List e}{s:b}{k:Nat}(g:k<a.length){r:Bool×b},gE st s (a.drop k)=r→r.1=true→(st s a[k]).1=true∧gE st (st s a[k]).2 (a.drop (k+1))=r:=by
 intro a s k g r h i;rw[agR g]at h;simp only[gE]at h;split at h;·rename_i h1;exact⟨h1,h⟩
 rw[←h]at i;cases i
theorem acP(T:Tb ab){H:af}(W:Iw g n)(C:G.Sm g){cs:List AV}(hg:iD H g cs){K:AV→af→Prop}(X:∀H',bf H H'→K (.bool true) H'):YF ab (.func Wh [] []) [.agg cs] H K:=by
 have z:=hg.one;obtain⟨d,rfl,co⟩:=hg;have⟨hd,_,_,hn⟩:=co.all;obtain⟨V,Y,p,r,dW,A,F,eS⟩:=W;have E:=V;obtain⟨v0,Z,v2,v3⟩:=V;have ag:=C.nb;refine YF.code T.aaT (by simp) ?_;refine au ?_;refine RO.dS (ai.cW H) λH1 q U=>?_;refine bz ?_;refine RO.cl (Ip T Y λH2 hg=>?_);have U:=U.cV hg;refine ah ?_;refine RO.cl (xD T (a:=0) (b:=g.bi) (n:=g.params) ⟨v0,Z⟩ ?_);refine ah ?_;refine RO.cX (λ(h:g.aj.length=0)=>by omega) (λ_=>?_);refine ah ?_;refine RO.cP U.gr co (λq1 o1 c1 hj b I hat hrd=>?_) (hj:=p);obtain⟨P,vs,jc,rfl,e,_,_⟩:=b;have⟨J,_,_,j⟩:=e.all;rw[bE p]at r;have j:lenOf P=some 0:=by simpa[r]using j
 refine ah ?_;refine RO.eG U 0 ?_;refine ah ?_;refine RO.nV U (n:=n) (λH3 f U=>?_) (hx:=by show aI g.bi=_;rw[←v3];rfl) (hy:=by show aI g.bi=_;rw[←v3];rfl) (hz:=by rw[iM];simp);have er:fx [AV.bool false] n=(af3 n false).map .bool:=by rw[iM,aie]
 rw[er]at U;refine ah ?_;refine RO.dS U (λH4 c U=>?_) (v:=.agg [.aC g.name,aI g.params,aI g.bi,d,.slice f 0 n n true]);refine ah ?_;refine Ru.nm λS M hS Q=>?_;refine Ru.cA Q (up (P:=λk=>∀D s,gE (sZ g) s (g.aj.drop k)=gE (sZ g) (af3 n false) g.aj→s.length=n→ai H D (fT g d c f n s++[tB fC q [.aC g.name,aI g.params,aI g.bi,d]])→Ru ab _ S ([(cS,aN k)]++pk M [p1,p3,du,dg]) D) g.aj.length (λk R ih D s hs t U=>?_) 0 (by omega) _ _ rfl (by simp) U);subst hS;subst Q;refine Ru.loop ?_;refine au ?_;refine Ru.cond (λl=>?_) (λl=>?_);·obtain⟨b,hs⟩:=acO l hs F;have o:=af0 l;simp only[sZ,agM]at b hs;have ar:=C.bl _ o;refine au ?_;refine RO.cP U.gr co (λq1 o1 c1 hj u I hat hrd=>?_);have z:=u.one;obtain⟨P,vs,jc,rfl,e,v,w⟩:=u;have B:=w;obtain⟨va,vk,vg,rfl,av,ax,ay⟩:=w;have⟨J,_,_,j⟩:=e.all;have⟨L,_,_,a1⟩:=v.all;refine bz ?_;refine RO.fG U (λH5 q5 U=>?_);refine bz ?_;refine RO.cl (acN T E t e (by omega) (ai.gC (xs:=[_]) U) λH6 N U=>?_);have U:=ai.lE (xs:=[_]) U;rw[b.1];refine bz ?_;refine RO.cl (acM T E N v (by omega) (dW _ o) (λx hx=>by have:=(C.st _ o x hx).1;omega) (ai.gC (xs:=[_]) U) λH7 y U=>?_);have U:=ai.lE (xs:=[_]) U;rw[b.2];refine bz ?_;refine RO.eG U 0 ?_;refine RO.sC ?_;refine RO.cl (acH T E C co y B (A _ o) ⟨by omega,by omega,by omega⟩ (ai.gC (xs:=[_]) U) λH8 ws U=>?_);have U:=(ai.lE (xs:=[_]) U.skip).tail;refine bz ?_;exact Ru.wk (ih (k+1) (by omega) (by omega) _ _ hs y U)
 have O:k=g.aj.length:=by omega
 subst O;rw[List.drop_length]at hs;refine Ru.exitTo ?_;refine ah ?_;obtain⟨m,o⟩:∃m:Nat,g.params=(m:Int):=⟨g.params.toNat,by omega⟩;refine RO.Vb (U.sl 1) (λsv i=>?_) (b:=m) (hy:=by show aI g.params=_;rw[o];rfl);have L:=i.bB;have i:Sl D 1 ((s.drop m).map .bool) (s.drop m).length sv:=by rw[aih,t,List.map_drop];simpa using i
 refine RO.cl (acL T i (by rw[aih];omega) (λa ha=>?_) λH9 hg=>?_);·simp only[gE]at hs;rw[←hs]at eS;obtain⟨k,R,rfl⟩:=agS ha;rw[List.getElem_drop];rw[aih]at R;exact eS (m+k) (by simp only;omega) (by omega)
 refine ah ?_;exact Ru.aT (X _ (U.gr.trans hg))
end
end
end
end Go.ak.R
namespace Go.ak
section
variable{ab:Nat→aE}{c:Cx}{s:List SI}{L:Kn}{H A:af}{d:Option ac}{l:List aS}{ts:List Th}{q:ac}{e n:Nat}
end
section
variable{ab:Nat→aE}
section
def Body(ab:Nat→aE)(A:af)(y:AV)(m:Nat)(E:Nat→List AV→List Th→Prop)(J:Nat→List Th→Prop)(D:List Th→Prop):Prop:=
 ∀k args b c us H,k<m→E k args b→J k c→ai A H (b++c++us)→YF ab y args H λv H'=>∃a,ai A H' (a++us)∧(v=.bool true∧J (k+1) a∨v=.bool false∧D a)
def zW(ab:Nat→aE)(A:af)(fv:AV)(m:Nat)(E:Nat→List AV→List Th→Prop)(c:List Th)(d Kp:af→Prop):Prop:=
 ∀y J D b us H(K:AV→af→Prop),y.bB=true→y.dQ=true→y.cells=[y]→(∀k b us H,J k b→ai A H (b++us)→Kp H)→Body ab A y m E J D→J 0 b→ai A H (c++b++us)→d H→(∀H' a v,ai A H' (a++us)→(J m a∨D a)→K v H')→YF ab fv [y] H K
def zX:List ac→List AV→Kn→Kn
 |p::a,v::b,L=>zX a b ((p,v)::L)
 |_,_,L=>L
theorem Le.pr:∀{a:List ac}{b:List AV}{L:Kn}{aa:am AV},Le L aa→Le (zX a b L) (ow a b aa)|[],_,_,_,h=>by trivial|p::a,[],_,_,h=>by trivial|p::a,v::b,L,aa,h=>by simp only[zX,ow];exact Le.pr (h.set (some p) v)
def xJ(A:af)(l:ac)(o2:b9)(us:List Th)(J:List Th→Prop)(Dn:cG→List Th→Prop)(j:cG)(_:Fr)(H':af):Prop:=
 ∃a,ai A H' (a++tX l o2::us)∧match j with
  |.none=>J a
  |j=>Dn j a
def N1(ab:Nat→aE)(l:ac)(o1 o2:b9)(body:bp)(K:cG→Fr→af→Prop)(j:cG)(fr:Fr)(H1:af):Prop:=
 j=.none∧H1.get l=o1∧∃n,Xc ab n body fr (H1.set l o2) K
abbrev B5(A:af)(l:ac)(o2:b9)(us:List Th)(J:List Th→Prop)(Dn:cG→List Th→Prop):Cx:=⟨xJ A l o2 us J Dn,[],some l⟩
abbrev El(ab:Nat→aE)(l:ac)(o1 o2:b9)(body:bp)(K:cG→Fr→af→Prop):Cx:=⟨N1 ab l o1 o2 body K,[],some l⟩
variable{A H:af}{l:ac}{o1 o2:b9}{us xs:List Th}{J:List Th→Prop}{Dn:cG→List Th→Prop}{L:Kn}{body:bp}
theorem Ru.dO(U:ai A H (xs++tX l o1::us))(h:∀b,ai A b (xs++tX l o2::us)→Ru ab (B5 A l o2 us J Dn) [.code body] L b):Ru ab (El ab l o1 o2 body (xJ A l o2 us J Dn)) [] L H:=λaa a=>by
 have hi:(xs++tX l o1::us)[xs.length]?=some (tX l o1):=by simp
 have h2:=U.sV xs.length hi o2;have e:(xs++tX l o1::us).set xs.length (tX l o2)=xs++tX l o2::us:=by simp
 rw[e]at h2;obtain⟨n,c⟩:=h _ h2 aa a;exact⟨rfl,U.qy xs.length hi,n,c.mono (adW _) λ_ _ _ h=>h⟩
theorem Ru.bD{ts:List Th}(U:ai A H (ts++tX l o2::us))(a:J ts):Ru ab (B5 A l o2 us J Dn) [] L H:=λ_ _=>⟨ts,U,a⟩
theorem RJ.bD{ts:List Th}{j:cG}(U:ai A H (ts++tX l o2::us))(hj:j≠.none)(a:Dn j ts):RJ ab (B5 A l o2 us J Dn) j [] L H:=λ_ _=>⟨ts,U,by grind⟩
theorem Ru.N3{ts:List Th}{s:List SI}(U:ai A H (ts++tX l o2::us))(a:Dn .ret ts):Ru ab (B5 A l o2 us J Dn) (.code .ret::s) L H:=Ru.ret (RJ.vu (RJ.bD U (by simp) a))
theorem N4{a b:Th}{d c us:List Th}:(a::b::(d++c++us)).Perm (d++(a::c)++(b::us)):=by have h1:(d++(a::c)++(b::us)).Perm (b::(d++(a::c)++us)):=ag1;have h2:(d++(a::c)++us).Perm (a::(d++c++us)):=(ag1 (l₁:=d)).append_right us;exact((h1.trans (h2.cons b)).trans (ahw a b _)).symm
theorem Iy{a:Th}{ws b us:List Th}:(ws++(a::b)++us).Perm (ws++b++a::us):=by have h1:(ws++b++a::us).Perm (a::(ws++b++us)):=ag1;have h2:(ws++(a::b)++us).Perm (a::(ws++b++us)):=(ag1 (l₁:=ws)).append_right us;exact h2.trans h1.symm
theorem N5{aa:am AV}{b:List ac}{dO body:bp}{c:ac}{args:List AV}{Q:AV→af→Prop}(d:H.get l=.loop .ready .none 0 aa b dO body c)(e:args.length=b.length)(f:jU ab (N1 ab l (.loop .ready .none 0 aa b dO body c) (.loop .busy .none 0 aa b dO body c) body (xJ A l (.loop .busy .none 0 aa b dO body c) us J Dn)) [.code dO] .none ⟨ow b args aa,[],some l⟩ H)(q:∀H' a,ai A H' (a++tX l (.loop .busy .none 0 aa b dO body c)::us)→J a→Q (.bool true) (H'.set l (.loop .ready .none 0 aa b dO body c)))(hd:∀j H' a,j≠.none→ai A H' (a++tX l (.loop .busy .none 0 aa b dO body c)::us)→Dn j a→Q (.bool false) (H'.set l (.loop .done j 0 aa b dO body c))):YF ab (.yield l) args H Q:=by obtain⟨g,i⟩:=f;obtain⟨m,o⟩:=(zr ab g).exec (K:=λm j fr H1=>j=.none∧H1.get l=.loop .ready .none 0 aa b dO body c∧Xc ab m body fr (H1.set l (.loop .busy .none 0 aa b dO body c)) (xJ A l (.loop .busy .none 0 aa b dO body c) us J Dn)) (λm r j fr H n h=>⟨h.1,h.2.1,h.2.2.mono n λ_ _ _ h=>h⟩) ((mono ab g).exec (adW _) (λj fr H h=>by obtain⟨h1,h2,k,h3⟩:=h;grind) i);refine⟨max g m+1,?_⟩;simp only[Xf,gS,d,aH e];refine(show Xc ab g dO _ H _ from o).mono (Nat.le_max_left ..) λj fr H1 h=>?_;obtain⟨rfl,h2,h3⟩:=h;simp only[h2];refine h3.mono (Nat.le_max_right ..) λj _ H' h=>?_;obtain⟨a,p,s⟩:=h;have t:H'.get l=.loop .busy .none 0 aa b dO body c:=p.qy a.length (by simp);grind
theorem Ru.qz{K:cG→Fr→af→Prop}{M:List ac}{s:List SI}{f:aG}{b:List ac}{dO body:bp}{fv:AV}{m:Nat}{E:Nat→List AV→List Th→Prop}{R p:List Th}{S Kp:af→Prop}{J:Nat→List Th→Prop}{Dn:cG→List Th→Prop}(U:ai A H (R++p++us))(V:zW ab A fv m E R S Kp)(W:∀F,bf H F→S F)(X:J 0 p)(Y:∀k args o,E k args o→args.length=b.length)(G:∀k c us H,J k c→ai A H (c++us)→Kp H)(Z:∀k args o c us l o1 o2 H,k<m→E k args o→J k c→ai A H (o++c++tX l o1::us)→Ru ab (El ab l o1 o2 body (xJ A l o2 us (J (k+1)) Dn)) [.code dO] (zX b args L) H)(z:∀H' a u,J m a→ai A H' (a++tX u (.deferred false)::us)→Ru ab ⟨K,u::M,none⟩ s L H')(B:∀j H' a u,j≠.none→Dn j a→ai A H' (a++tX u (.deferred false)::us)→RJ ab ⟨K,u::M,none⟩ j s L H')(hf:aV L f=fv:=by(conv=>lhs;whnf)<;>rfl)(I:fv.bB=true:=by first|rfl|assumption):Ru ab ⟨K,M,none⟩ (.code (.rangeFunc f b dO body)::s) L H:=by
 intro aa i;have N:=U.zT (.deferred false);have q:=N.zT (.loop .ready .none 0 aa b dO body H.next);have r:=q.cO N4;have w:bf H ((H.new (.deferred false)).new (.loop .ready .none 0 aa b dO body H.next)):=(bf.new H _).trans (bf.new _ _);generalize hl:(H.new (.deferred false)).next=l at q r;generalize O:((H.new (.deferred false)).new (.loop .ready .none 0 aa b dO body H.next))=F at q r w;have key:=V (.yield l) (λk a=>∃c,a=tX l (.loop .ready .none 0 aa b dO body H.next)::c∧J k c) (λa=>∃c j,j≠.none∧a=tX l (.loop .done j 0 aa b dO body H.next)::c∧Dn j c) _ _ F (λ_ H'=>match H'.get l with
  |.loop st cq fn C b as bd d=>match st with|.busy=>False|_=>jU ab K s cq ⟨aa,H.next::M,none⟩ (H'.set l (.loop .exhausted cq fn C b as bd d))
  |_=>False) rfl rfl rfl (by rintro k _ g H'⟨c,rfl,t⟩P;exact G k c _ H' t P.DJ) ?_ ⟨p,rfl,X⟩ r (W _ w) ?_;·obtain⟨n,hn⟩:=key;refine⟨n+1,?_⟩;simp only[Xc,exec];rw[hl,O,i.gv hf I];exact hn
 ·rintro k args o _ g T hk x⟨c,rfl,t⟩h;have y:=h.cO Iy;have e:T.get l=.loop .ready .none 0 aa b dO body H.next:=y.qy (o++c).length (by simp);have D:=Z k args o c g l _ (.loop .busy .none 0 aa b dO body H.next) T hk x t y (ow b args aa) i.pr;refine N5 e (Y _ _ _ x) D (λH' a h1 h2=>⟨tX l _::a,?_,.inl ⟨rfl,a,rfl,h2⟩⟩) (λj H' a hj h1 h2=>⟨tX l _::a,?_,.inr ⟨rfl,a,j,hj,rfl,h2⟩⟩);·have:=h1.sV (q:=l) (o:=.loop .busy .none 0 aa b dO body H.next) a.length (by simp) (.loop .ready .none 0 aa b dO body H.next);rw[show(a++tX l (.loop .busy .none 0 aa b dO body H.next)::g).set a.length (tX l (.loop .ready .none 0 aa b dO body H.next))=a++tX l (.loop .ready .none 0 aa b dO body H.next)::g by simp]at this;exact this.vE
  have:=h1.sV (q:=l) (o:=.loop .busy .none 0 aa b dO body H.next) a.length (by simp) (.loop .done j 0 aa b dO body H.next);rw[show(a++tX l (.loop .busy .none 0 aa b dO body H.next)::g).set a.length (tX l (.loop .done j 0 aa b dO body H.next))=a++tX l (.loop .done j 0 aa b dO body H.next)::g by simp]at this;exact this.vE
 rintro H' _ v h(⟨c,rfl,Q⟩|⟨c,j,hj,rfl,hD⟩);·have e:=h.qy 0 rfl;simp only[e];exact z _ c _ Q (h.sV 0 rfl _).tail aa i
 have e:=h.qy 0 rfl;simp only[e];exact B j _ c _ hj hD (h.sV 0 rfl _).tail aa i
end
section
def tR(size:Nat)(vs:List AV)(n:Nat)(v:AV):Th where
 P H b:=Sl H size vs n v∧(∀i o m c e,v=.slice i o m c e→i∈b)∧∀j∈b,j.al<H.next.al
 fr:=by
  rintro H H' b⟨h1,h2,h3⟩f hg
  refine⟨?_,h2,λj hj=>ag6 (h3 j hj) f⟩
  rcases h1 with h|⟨i,o,cap,ex,c,m,e,d,aK,fz,g,k,a⟩
  ·exact .inl h
  ·exact .inr ⟨i,o,cap,ex,c,m,e,d,aK,fz,g,by rw[hg i (h2 _ _ _ _ _ g)];exact k,a.1,a.2.1,a.2.2.1,ag6 a.2.2.2.1 f,a.2.2.2.2⟩
 lt h:=h.2.2
def tZ(F:List Th):Th where
 P H a:=(∀t∈F,∃f,(∀j∈f,j∈a)∧t.P H f)∧∀j∈a,j.al<H.next.al
 fr:=by
  rintro H H' a⟨h1,h2⟩b hg
  refine⟨λt d=>?_,λj hj=>ag6 (h2 j hj) b⟩
  obtain⟨f,c,e⟩:=h1 t d
  exact⟨f,c,t.fr e b λj hj=>hg j (c j hj)⟩
 lt h:=h.2
variable{A H H':af}{ts us:List Th}{F:List Th}{t t':Th}{i j e size n o m:Nat}{vs ws:List AV}{v w:AV}{full:Bool}{q r:ac}
theorem ai.rH(U:ai A H ts):ai A H (tZ []::ts):=by have h0:(tZ []).P H []:=⟨λt h=>absurd h (by simp),λj h=>absurd h (by simp)⟩;exact U.push (bf.refl H) h0 λj h=>absurd h (by simp)
theorem ai.lJ(U:ai A H (t::tZ F::ts)):ai A H (tZ (t::F)::ts):=by
 obtain⟨b,fs,c⟩:=U;match fs,c with
  |d::e::fs,⟨h1,h2,h3,a,g,k,i⟩=>
   refine⟨b,(d++e)::fs,⟨λu hu=>?_,λj hj=>?_⟩,λj hj=>?_,λj hj f l=>?_,i⟩
   ·rcases adC.1 hu with rfl|hu;·grind
    obtain⟨f,m,n⟩:=a.1 u hu;grind
   ·rcases agI.1 hj with h|h;·exact t.lt h1 j h
    exact a.2 j h
   ·rcases agI.1 hj with h|h;·exact h2 j h
    exact g j h
   grind
theorem ai.mC(U:ai A H ts)(i:Nat)(hi:ts[i]?=some (tZ F))(a:t∈F):∃f,t.P H f:=by obtain⟨c,b⟩:=U.get i hi;obtain⟨f,_,h⟩:=b.1 t a;grind
theorem ai.N6(U:ai A H (tZ F::ts))(b:t∈F)(h:∀f,t.P H f→t'.P H f):ai A H (tZ (t'::F)::ts):=by
 refine U.as 0 rfl λc a=>⟨λu hu=>?_,a.2⟩;rcases adC.1 hu with rfl|hu;·obtain⟨f,d,e⟩:=a.1 t b;grind
 exact a.1 u hu
theorem tS.lL{a:List ac}(h:(tS e size vs n full v).P H a):(tR size vs n v).P H a:=by refine⟨dK.sl h,λi o m c ex d=>?_,dK.below h⟩;rcases h with⟨_,_,_,h⟩|⟨f,g,aK,cap,b,rfl,h2,_⟩;all_goals grind
theorem Fs.nR:∀{fs:List (List ac)}{ts:List Th}{i j:Nat},Fs A H fs ts→ts[i]?=some t→ts[j]?=some t'→i<j→∃f g,t.P H f∧t'.P H g∧∀p∈f,p∉g|[],[],i,_,_,h,_,_=>by grind|[],_::_,_,_,h,_,_,_=>h.elim|_::_,[],_,_,h,_,_,_=>h.elim|b::fs,t0::ts,0,j+1,⟨h1,_,h3,a⟩,hi,hj,_=>by grind[List.getElem?_cons_zero,acm,ahK,Fs.at,List.mem_of_getElem?]|b::fs,t0::ts,i+1,j+1,⟨_,_,_,a⟩,hi,hj,c=>by exact Fs.nR a hi hj (by omega)|_::_,_::_,_,0,_,_,_,h=>by omega
variable{c:Cx}{s:List SI}{L:Kn}{d:Option ac}{l:List aS}
theorem RO.acQ(U:ai A H ts)(i j:Nat){x:aG}{p:ac}{C cap:Nat}{ex:Bool}(h:∀H',ai A H' ts→RO ab c l s (bA L d v) H')(G:aV L x=.aw q o:=by(conv=>lhs;whnf)<;>rfl)(D:lk L p=.slice r 0 C cap ex:=by(conv=>lhs;whnf)<;>rfl)(hi:ts[i]?=some (tB e q vs):=by rfl)(hj:ts[j]?=some (tS m size ws n full (.slice r 0 C cap ex)):=by rfl)(u:i≠j:=by decide)(I:vs[o]?=some v:=by rfl):RO ab c (⟨d,.aW x,none,[p],[]⟩::l) s L H:=by
 have w:q≠r:=by
  obtain⟨_,fs,E⟩:=U;rcases Nat.lt_or_gt_of_ne u with a|a
  ·obtain⟨f,g,h1,h2,h3⟩:=E.nR hi hj a;rintro rfl;refine h3 q h1.1 ?_;rcases h2 with⟨_,_,_,h⟩|⟨J,K,aK,cap,y,rfl,h2,_⟩;·cases h
   injection h2 with h2;subst h2;exact adc ..
  obtain⟨f,g,h1,h2,h3⟩:=E.nR hj hi a;rintro rfl;refine h3 q ?_ h2.1;rcases h1 with⟨_,_,_,h⟩|⟨J,K,aK,cap,y,rfl,h2,_⟩;·cases h
  injection h2 with h2;subst h2;exact adc ..
 obtain⟨M,z⟩:=U.get i hi;have t:=tB.cell z I;have B:ai A ((H.set r .none).set r (H.get r)) ts:=U.bS rfl λk=>by
  rw[af.aD];split;·rename_i e;rw[e]
  rename_i e;rw[af.aD,an e]
 refine RO.DI (λ_ _ h=>by grind) (λ_ h=>by grind) (λaa b=>⟨H.set r .none,?_,?_⟩) (λ_ _=>rfl) (h _ B)
 ·simp only[eM,b.get D rfl,jd,aB,b.gv G rfl];have:bh (H.set r .none) q o=some v:=by simp only[bh,af.aD,an w];exact t
  unfold bh at this;split at this;all_goals simp_all[ja,fj,ip,aH,ac6,bK]
 simp only[eM,b.get D rfl,jd,d8]
def iN(M:List ac):List Th:=M.map λm=>tX m (.deferred false)
theorem N7:∀{M:List ac}{H:af},ai A H (iN M++ts)→∃H',jw H M=some H'∧ai A H' ts|[],H,U=>⟨H,rfl,U⟩|m::M,H,U=>by have hg:H.get m=.deferred false:=U.qy 0 rfl;obtain⟨H',h1,h2⟩:=N7 (U.sV 0 rfl (.deferred true)).tail;simp[hg,h1,h2,jw]
theorem RJ.nu{K:AV→af→Prop}{c:List iH}{M:List ac}{a:cG}(hj:a=.none∨a=.ret)(U:ai A H (iN M++ts))(h:∀H',ai A H' ts→∃vs,sW L H' c vs∧K (iu vs) H'):RJ ab ⟨pi c K,M,none⟩ a [] L H:=λaa b=>by obtain⟨H',h1,h2⟩:=N7 U;obtain⟨vs,h3,d⟩:=h H' h2;have:=h3.xf b;rcases hj with rfl|rfl<;>simp only[jU,pi,h1,this]<;>exact d
theorem Ru.nu{K:AV→af→Prop}{a:List iH}{M:List ac}{s:List SI}(U:ai A H (iN M++ts))(h:∀H',ai A H' ts→∃vs,sW L H' a vs∧K (iu vs) H'):Ru ab ⟨pi a K,M,none⟩ (.code .ret::s) L H:=Ru.ret (RJ.vu (RJ.nu (.inr rfl) U h))
end
end
section
variable{ab:Nat→aE}{c:Cx}{s:List SI}{L:Kn}{A B H H':af}{d:Option ac}{l:List aS}{ts us:List Th}{q r:ac}{e size n m o k i j bytes:Nat}{vs ws:List AV}{v w sv:AV}{full:Bool}
theorem N8{c:am AV}{n:Nat}:∀{m o:Nat}{l:List AV},ip c n o m=some l→l.length=m∧o+m≤max n o∧∀j(h:j<l.length),c.bq .aiw (o+j)=l[j]
 |0,o,l,h=>by simp only[ip,acm]at h;grind
 |m+1,o,l,h=>by
  simp only[ip]at h;split at h
  ·split at h;·rename_i a hl;injection h with h;subst h;obtain⟨h1,h2,h3⟩:=N8 hl;grind
   grind
  grind
theorem Iz{cs:List AV}(h:fj H q o n=some cs)(a:k+m≤n):fj H q (o+k) m=some ((cs.drop k).take m):=by
 unfold fj at h⊢;split at h;·rename_i b c _ _ _ _ hg;obtain⟨h1,h2,h3⟩:=N8 h;by_cases h0:m=0;all_goals grind[ip,xi,ahl,aih,ah3,aid]
 grind
theorem Sl.bS(h:Sl H size vs n sv):hZ sv sv=true:=by rcases h with⟨rfl,_⟩|⟨_,_,_,_,_,_,_,_,_,_,rfl,_⟩;all_goals simp[hZ,fM,ac.gT]
theorem uE{xs ts us:List Th}:(xs++ts++us).Perm (ts++(xs++us)):=by rw[←agJ];exact ahD.append_right us
theorem dL.bS{a:Type}{R:af→a→List AV→Prop}{b:List a}(h:dL size R H b sv):hZ sv sv=true:=by obtain⟨vs,h,_⟩:=h;exact h.bS
theorem RO.IA(U:ai A H ts)(i:Nat){a x:aG}{re:List i9}(h:∀H',ai A H' (ts.set i (tB e q (sp vs o ws)))→(∀aa,Le (bA L d .aiw) aa→fh aa H' re=true)∧RO ab c l s (bA L d .aiw) H')(f:aV L a=.aw q o:=by(conv=>lhs;whnf)<;>rfl)(g:aV L x=.agg ws:=by(conv=>lhs;whnf)<;>rfl)(hi:ts[i]?=some (tB e q vs):=by rfl)(j:o+ws.length≤vs.length:=by first|decide|exact agT rfl|simp|omega)(k:ws.length=n:=by first|rfl|simp)(m:dI ws=true:=by repeat first|rfl|assumption|(refine ao ?_ ?_)):RO ab c (⟨d,.store n a x,none,[],re⟩::l) s L H:=by obtain⟨u,p,_,hu⟩:=U.jV i hi;obtain⟨H',fp',h1,h2,h3⟩:=tB.vD (ws:=ws) p j m;obtain⟨r,t⟩:=h H' (hu h2 h3);refine RO.DI (λ_ _ h=>by grind) (λ_ h=>by grind) (λaa b=>⟨H',?_,rfl⟩) r t;simp only[eM,aB,b.gv f rfl,b.gv g rfl,AV.cells,k,bm,h1]
theorem RO.IB{f:aG}{args:List aG}{fv:AV}{i:List AV}{p:ac}{re:List i9}{A cap off:Nat}{ex:Bool}(b:∀k,(∀j,j≠r→k.get j=H.get j)→k.next=H.next→YF ab fv i k λm H'=>m=v∧H'=k)(h:∀n,(∀j,n.get j=H.get j)→n.next=H.next→(∀aa,Le (bA L d v) aa→fh aa n re=true)∧RO ab c l s (bA L d v) n)(C:lk L p=.slice r off A cap ex:=by(conv=>lhs;whnf)<;>rfl)(D:aV L f=fv:=by(conv=>lhs;whnf)<;>rfl)(o:fv.bB=true:=by first|rfl|assumption)(E:args.map (aV L)=i:=by rfl)(q:i.all AV.bB=true:=by repeat first|rfl|assumption|(refine ad ?_ ?_)):RO ab c (⟨d,.call f args,none,[p],re⟩::l) s L H:=λaa a=>by
 have t:args.map (gv aa)=i:=by subst E;refine ahZ λx F=>?_;exact a.gv rfl (ah1.1 q _ (ag5 F))
 obtain⟨y,u⟩:=b (H.set r .none) (λj hj=>by rw[af.aD,an hj]) rfl;have g:∀j,((H.set r .none).set r (H.get r)).get j=H.get j:=λj=>by
  rw[af.aD];split;·rename_i e;rw[e]
  rename_i e;rw[af.aD,an e]
 obtain⟨G,I⟩:=h _ g rfl;obtain⟨z,w⟩:=I _ (a.set d v);refine⟨max y z+1,?_⟩;simp only[Xo,Go.ak.az,ft,eM,a.get C rfl,jd,bm];rw[a.gv D o,t];refine(show Xf ab y fv i _ _ from u).mono (Nat.le_max_left ..) λm H' J=>?_;obtain⟨rfl,rfl⟩:=J;have K:fh (aM aa d m) (d8 (H.set r .none) [(r,H.get r)]) re=true:=G _ (a.set d m);rw[aH K];exact(show Xo ab z l _ _ _ from w).mono (Nat.le_max_right ..) λ_ _ h=>h
theorem RO.IC(U:ai A H ts){x y:aG}{r:AV}{t:List AV}{re:List i9}(hs:(sv=.aP∧vs=[]∧n=0)∨∃i o,sv=.slice i o n n true∧Sl H size vs n sv)(b:Sl H size ws 1 r)(h:∀H' v,bf H H'→ai A H' (tS e size (vs++ws) (n+1) true v::ts)→(∀aa,Le (bA L d v) aa→fh aa H' re=true)∧RO ab c l s (bA L d v) H')(h1:dI ws=true:=by repeat first|rfl|assumption|(refine ao ?_ ?_))(u:aV L x=sv:=by(conv=>lhs;whnf)<;>rfl)(w:aV L y=r:=by(conv=>lhs;whnf)<;>rfl)(hb:(n+1)*bytes≤70368744177664:=by omega)(z:n+1≤70368744177664:=by omega):RO ab c (⟨d,.append e bytes size t false x y,none,[],re⟩::l) s L H:=by
 have f:(fc ((n+1)*bytes)&&fc (n+1))=true:=by rw[vC hb,vC z];rfl
 have hd:sv.bB=true:=by rcases hs with⟨rfl,_⟩|⟨_,_,rfl,_⟩<;>rfl
 have key:∃v H',kw e bytes size H sv 1 ws=some (v,H')∧bf H H'∧ai A H' (tS e size (vs++ws) (n+1) true v::ts):=by
  rcases hs with⟨rfl,rfl,rfl⟩|⟨i,o,rfl,hs⟩;·refine⟨.slice H.next 0 1 1 false,H.new (.cells (cM ws) (1*size) e true [] 0),?_,bf.new H _,U.push (bf.new H _) (dK.new (by simpa using b.length) false true) (uk H)⟩;rw[agW]at f;simp only[kw,h1,ag9,ac6,bK,show agQ 1 0=false from rfl,f,bm]
  have a:=hs.iS;have j:=hs.length;refine⟨.slice H.next 0 (n+1) (n+1) false,H.new (.cells (cM (vs++ws)) ((n+1)*size) e true [] 0),?_,bf.new H _,U.push (bf.new H _) (dK.new (by rw[agP,j,b.length,aig]) false true) (uk H)⟩;have m:ahG (n+1) n=false:=by cases p:ahG (n+1) n with|false=>rfl|true=>have:=agT p;omega
  simp only[iS,fj]at a;cases hg:H.get i with
  |cells C D J I aK fz=>rw[hg]at a;simp only at a;cases k:ip C D o (n*size)with|none=>rw[k]at a;cases a|some K=>rw[k]at a;simp only[acm,age,true_and]at a;subst a;simp only[kw,h1,ag9,ac6,bK,m,f,hg,k,bm]
  |_=>rw[hg]at a;cases a
 obtain⟨v,H',h2,h3,E⟩:=key;obtain⟨F,G⟩:=h H' v h3 E;have q:=b.bB;refine RO.DI (λ_ _ h=>by grind) (λ_ h=>by grind) (λaa g=>⟨H',?_,rfl⟩) F G;simp only[eM,aB,g.gv u hd,g.gv w q,b.iS,ac6,bK,h2]
def n8(v:AV)(b:Nat):AV:=match v with|.slice i o _ cap ex=>.slice i o b cap ex|v=>v
theorem B6{b:Nat}(hs:Sl H size vs n sv)(hb:b≤n):Sl H size (vs.take (b*size)) b (n8 sv b):=by
 rcases hs with⟨rfl,rfl,rfl⟩|⟨i,o,cap,ex,d,m,e,a,aK,fz,rfl,hg,f,hl,g,hi,c⟩
 ·have:b=0:=by omega
  subst this;exact .inl ⟨rfl,rfl,by simp⟩
 have co:b*size≤n*size:=ahf _ hb;refine .inr ⟨i,o,cap,ex,d,m,e,a,aK,fz,rfl,hg,by omega,?_,λj hj=>?_,hi,by omega⟩;all_goals grind
theorem RO.n8{x y:aG}{b:Nat}(hs:Sl B size vs n sv)(h:RO ab c l s (bA L d (Go.ak.n8 sv b)) H)(a:aV L x=sv:=by(conv=>lhs;whnf)<;>rfl)(f:aV L y=.int k (.ofNat b):=by(conv=>lhs;whnf)<;>rfl)(hb:b≤n:=by omega):RO ab c (⟨d,.gR e size x none (some y) none,none,[],[]⟩::l) s L H:=by
 rcases hs with⟨rfl,rfl,rfl⟩|⟨i,o,cap,ex,p,m,q,j,aK,fz,rfl,hg,r,hl,t,hi,g⟩
 ·have:b=0:=by omega
  subst this;refine RO.Bo (m:=0) (b:=0) (a:=0) a rfl ?_ rfl h;simp only[lD,f];rfl
 refine RO.gR (m:=cap) (b:=b) (a:=0) a rfl ?_ rfl (by simp) ?_;·simp only[lD,f];exact sF (by omega)
 have e1:(if ex&&decide (cap=0)then o else o+0*size)=o:=by split<;>omega
 rw[e1,aip,aip,Option.isSome_none,Bool.or_false];exact h
theorem RO.ID{g:Type}{R:af→g→List AV→Prop}{a:List g}(hg:bf B H){x y:aG}{j kd:Nat}(hs:dL size R B a sv)(h:∀q o cs(hj:j<a.length),R B a[j] cs→cs.length=size→(∀t v,cs[t]?=some v→∀{H'},bf B H'→bh H' q (o+t)=some v)→RO ab c l s (bA L d (.aw q o)) H)(k:aV L x=sv:=by(conv=>lhs;whnf)<;>rfl)(m:aV L y=.int kd (.ofNat j):=by(conv=>lhs;whnf)<;>rfl)(hj:j<a.length:=by first|assumption|omega):RO ab c (⟨d,.dk size x y,none,[],[]⟩::l) s L H:=by
 obtain⟨q,o,cap,ex,cs,rfl,h1,h2,h3,p⟩:=hs.at hj;have b:q.al<B.next.al:=by
  obtain⟨vs,n,_⟩:=hs;rcases n with⟨h,_⟩|⟨i,_,_,_,_,_,_,_,_,_,h,_,_,_,_,hi,_⟩;·cases h
  injection h with h;subst h;exact hi
 exact RO.dk (h q (o+j*size) cs hj h1 h2 λt v e H' f=>by rw[f.bh b];exact h3 t v e) k m hj
end
section
variable{ab:Nat→aE}{c:Cx}{s:List SI}{L:Kn}{A B H H':af}{d:Option ac}{l:List aS}{ts us:List Th}{q r:ac}{e n m o k i bytes:Nat}{vs:List AV}{v w sv:AV}
def tU(e:Nat)(vs:List AV)(sv:AV):Th where
 P H b:=∃i off ex c m aK,b=i::aK∧sv=.slice i off vs.length vs.length ex∧H.get i=.cells c m e true aK 0∧(ex=true∨m=off+vs.length)∧off+vs.length≤m∧(∀j(h:j<vs.length),c.bq .aiw (off+j)=vs[j])∧∀p∈b,p.al<H.next.al
 fr h g hg:=by
  obtain⟨i,off,ex,c,m,aK,rfl,h1,h2,h3,d,f,a⟩:=h
  exact⟨i,off,ex,c,m,aK,rfl,h1,by rw[hg i (adc ..)];exact h2,h3,d,f,λp k=>ag6 (a p k) g⟩
 lt h:=by
  obtain⟨i,off,ex,c,m,aK,rfl,h1,h2,h3,d,f,a⟩:=h
  exact a
theorem tU.sl{a:List ac}(h:(tU e vs sv).P H a):Sl H 1 vs vs.length sv:=by obtain⟨i,off,ex,c,m,aK,rfl,h1,h2,h3,f,b,d⟩:=h;exact .inr ⟨i,off,_,ex,c,m,e,true,aK,0,h1,h2,by omega,(ah9 _).symm,b,d i (adc ..),adW _⟩
theorem ai.N9(U:ai A H ts)(i:Nat)(hi:ts[i]?=some (tU e vs sv):=by rfl):Sl H 1 vs vs.length sv:=by obtain⟨b,a⟩:=U.get i hi;exact tU.sl a
theorem ai.toU(U:ai A H ts)(i:Nat)(hi:ts[i]?=some (tS e 1 vs vs.length true (.slice q 0 vs.length vs.length true))):ai A H (ts.set i (tU e vs (.slice q 0 vs.length vs.length true))):=by
 refine U.as i hi λk a=>?_;rcases a with⟨_,_,_,h⟩|⟨l,d,aK,cap,f,rfl,h2,hg,c,g,m,a,b⟩;·grind
 injection h2 with h2 _ _ h3 n;subst h2;exact⟨q,0,true,d,_,aK,rfl,rfl,hg,.inl rfl,by omega,λj hj=>by grind,a⟩
theorem RO.acS(U:ai A H ts)(i:Nat){x:aG}(h:∀a,ai A H (ts.set i (tU e vs a))→a.bB=true→a.dQ=true→a.cells=[a]→RO ab c l s (bA L d a) H)(hi:ts[i]?=some (tU e (v::vs) sv):=by rfl)(b:aV L x=sv:=by(conv=>lhs;whnf)<;>rfl):RO ab c (⟨d,.gR e 1 x (some (.c (.int 3 (.ofNat 1)))) none none,none,[],[]⟩::l) s L H:=by
 obtain⟨r,f,_,hu⟩:=U.jV i hi;obtain⟨j,off,ex,g,m,aK,rfl,h1,h2,h3,k,n,o⟩:=f;subst h1;have q:rX H j e=true:=by simp only[rX,h2,ahQ]
 refine RO.G7 (m:=vs.length+1) (b:=vs.length+1) (a:=1) b rfl rfl (by rfl) (by grind) (v:=.slice j (if ex&&decide (vs.length+1=1)then off else off+1*1) vs.length vs.length ex) (by simp) ?_;refine h _ (hu (t':=tU e vs _) (nT.refl _ H) ⟨j,_,ex,g,m,aK,rfl,rfl,h2,?_,?_,λt p=>?_,o⟩) rfl rfl rfl;·grind
 ·simp only[ahh]at k;split<;>omega
 split;·grind
 have:=n (t+1) (by simpa using p);grind
theorem RO.acT(U:ai A H ts)(i:Nat){p:ac}{x:aG}{C:List (Nat×Nat×aG)}{D v:List AV}(w:AV)(h:∀u H' b,ai A H' (ts.set i (tU e (vs++[w]) b))→b.bB=true→b.dQ=true→b.cells=[b]→RO ab c l s (bA ((p,u)::L) d b) H')(hi:ts[i]?=some (tU e vs sv):=by rfl)(hl:pQ L (fx D 1) C=some [w]:=by(conv=>lhs;whnf)<;>rfl)(h1:w.dQ=true:=by first|rfl|assumption)(E:∀u,aV ((p,u)::L) x=sv:=by(intro u;conv=>lhs;whnf)<;>rfl)(hb:(vs.length+1)*bytes≤70368744177664:=by omega)(hn:vs.length+1≤70368744177664:=by omega):RO ab c (⟨some p,.buildSlice e 1 D C,none,[],[]⟩::⟨d,.append e bytes 1 v false x (.t p),none,[],[]⟩::l) s L H:=by
 have g:dI [w]=true:=by simp[dI,h1]
 refine RO.buildSlice ?_ hl g;have hg:bf H (H.new (.cells (cM [w]) [w].length e true [] 0)):=bf.new H _;have y:=U.cV hg;have hs:Sl (H.new (.cells (cM [w]) [w].length e true [] 0)) 1 [w] 1 (.slice H.next 0 1 1 true):=(dK.new (H:=H) (e:=e) (size:=1) (n:=1) (vs:=[w]) rfl true true).sl;generalize O:H.new (.cells (cM [w]) [w].length e true [] 0)=H1 at*;obtain⟨Q,a,_,hu⟩:=y.jV i hi;obtain⟨j,off,ex,r,m,aK,rfl,G,F,I,J,K,M⟩:=a;subst G;have n:(!(fc ((vs.length+1)*bytes)&&fc (vs.length+1)))=false:=by rw[vC hb,vC hn];rfl
 have o:ahG (vs.length+1) vs.length=false:=by cases z:ahG (vs.length+1) vs.length with|false=>rfl|true=>have:=agT z;omega
 have hrd:ip r m off (vs.length*1)=some vs:=by have:=xi (c:=r) (n:=m) (l:=vs) (o:=off) J K;rw[ah9];exact this
 have f:∀j(hj:j<(vs++[w]).length),(cM (vs++[w])).bq .aiw (0+j)=(vs++[w])[j]:=λj hj=>by rw[agW];exact zE hj
 cases q:ex with
 |true=>subst q;refine RO.append (r:=(.slice H1.next 0 (vs.length+1) (vs.length+1) false,H1.new (.cells (cM (vs++[w])) ((vs.length+1)*1) e true [] 0))) hs.iS (by simp only[kw,g,ag9,ac6,bK,o,n,F,hrd,bm]) (h _ _ _ (hu (fp':=[H1.next]) (t':=tU e (vs++[w]) _) ⟨(bf.new H1 _).nx,λp a=>.inr (by rw[ac3]at a;subst a;exact adW _),λp _ a=>(bf.new H1 _).dJ p a⟩ ⟨H1.next,0,false,_,_,[],rfl,by simp,by rw[af.dt,aH rfl],.inr (by simp),by simp,f,λp a=>by rw[ac3]at a;subst a;rw[af.mT];omega⟩) rfl rfl rfl) (E _) rfl (by show lk (bA L (some p) _) p=_;simp only[bA,lk,ac.gT.2 rfl]) rfl
 |false=>
  subst q;have N:m=off+vs.length:=by rcases I with h|h;cases h;exact h
  have k:(true&&agQ vs.length vs.length&&agQ (off+vs.length*1) m&&agQ e e&&ahG 0 m)=true:=by rw[N,ah9];simp[ahQ]
  refine RO.append (r:=(.slice H1.next 0 (vs.length+1) (vs.length+1) false,(H1.set j (.cells r m e false aK 0)).new (.cells (cM (vs++[w])) ((vs.length+1)*1) e true (j::aK) (0 - off)))) hs.iS (by simp only[kw,g,ag9,ac6,bK,o,n,F,hrd,k,bm]) (h _ _ _ (hu (fp':=H1.next::j::aK) (t':=tU e (vs++[w]) _) ⟨by rw[af.mT,af.fR];omega,λp a=>?_,λp a P=>?_⟩ ⟨H1.next,0,false,_,_,j::aK,rfl,by simp,by rw[af.dt,af.fR,aH rfl,Nat.zero_sub],.inr (by simp),by simp,f,λp a=>?_⟩) rfl rfl rfl) (E _) rfl (by show lk (bA L (some p) _) p=_;simp only[bA,lk,ac.gT.2 rfl]) rfl
  ·rcases adC.1 a with rfl|a;·exact .inr (adW _)
   exact .inl a
  ·rw[af.dt,af.fR,an (cr (by omega)),af.aD,an λe:p=j=>a (by rw[e];exact adc ..)]
  rw[af.mT,af.fR];rcases adC.1 a with rfl|a;·omega
  have:=M p a;omega
end
section
variable{ab:Nat→aE}{c:Cx}{s:List SI}{L:Kn}{A B H H':af}{d:Option ac}{l:List aS}{ts us:List Th}{q r:ac}{e n m o k i cap:Nat}{vs:List AV}{v w sv:AV}{full ex:Bool}
theorem RO.xK(U:ai A H ts)(i:Nat)(f:vs.length=n){a x:aG}(h:∀H',ai A H' (ts.set i (tS e 1 (vs.set k w) n full (.slice q 0 n cap ex)))→RO ab c l s (bA L d .aiw) H')(g:aV L a=.aw q (0+k*1):=by(conv=>lhs;whnf)<;>rfl)(j:aV L x=w:=by(conv=>lhs;whnf)<;>rfl)(hi:ts[i]?=some (tS e 1 vs n full (.slice q 0 n cap ex)):=by rfl)(ho:k<vs.length:=by first|omega|assumption)(m:w.dQ=true:=by first|rfl|assumption)(o:w.cells=[w]:=by first|rfl|assumption)(hd:w.bB=true:=by first|rfl|assumption):RO ab c (⟨d,.store 1 a x,none,[],[]⟩::l) s L H:=by have e1:vs.map id=vs:=List.map_id vs;refine RO.ml (f:=id) (zs:=vs) U i w f (λH' b=>h H' ?_) g j (by rw[e1];exact hi) ho m o hd;rw[List.map_id]at b;exact b
end
section
variable{ab:Nat→aE}{c:Cx}{s:List SI}{L:Kn}{A B H H':af}{d:Option ac}{l:List aS}{ts us:List Th}{q r:ac}{e n m o k i cap size:Nat}{vs:List AV}{v w sv:AV}{full ex:Bool}
theorem acU{v:AV}{i:ac}(h:jd v=some i):v.bB=true:=by cases v<;>first|rfl|cases h
def xL(L:Kn):List ac→List (Option ac)
 |[]=>[]
 |p::a=>jd (lk L p)::xL L a
theorem B7{aa:am AV}(a:Le L aa):∀{ps is:List ac}{H:af},xL L ps=is.map some→(eM aa H ps).1.next=H.next∧(∀j,j∉is→(eM aa H ps).1.get j=H.get j)∧∀H1,(d8 H1 (eM aa H ps).2).next=H1.next∧∀j,(d8 H1 (eM aa H ps).2).get j=if j∈is then H.get j else H1.get j
 |[],[],H,_=>⟨rfl,λ_ _=>rfl,λH1=>⟨rfl,λj=>by rfl⟩⟩
 |[],_::_,H,h=>by trivial
 |_::_,[],H,h=>by trivial
 |p::ps,i::is,H,h=>by
  simp only[xL,agN,ag4]at h;have e1:aa.get .aiw p=lk L p:=a.get rfl (acU h.1);obtain⟨h1,h2,h3⟩:=B7 a (ps:=ps) (is:=is) (H:=H.set i .none) h.2;simp only[eM,e1,h.1];refine⟨h1,λj hj=>?_,λH1=>⟨?_,λj=>?_⟩⟩;·simp_all[adD,af.aD,an,adc]
  ·exact(h3 H1).1
  simp only[d8,af.aD];by_cases b:j=i;all_goals simp[b,h3,an,adC,false_or,af.aD,bK]
theorem Fs.move{A a H H':af}(c:H'.next=H.next)(b:a.next.al=A.next.al)(hg:∀j,A.next.al≤j.al→H'.get j=H.get j):∀{fs:List (List ac)}{ts:List Th},Fs A H fs ts→Fs a H' fs ts|[],[],_=>trivial|[],_::_,h=>h.elim|_::_,[],h=>h.elim|f::fs,t::ts,⟨h1,h2,h3,d⟩=>⟨t.fr h1 (by grind) λj hj=>hg j (h2 j hj),λj hj=>by rw[b];exact h2 j hj,h3,Fs.move c b hg d⟩
theorem ai.show{c H1 d:af}{is:List ac}(a:c.next=H.next)(h0:∀j,j∉is→c.get j=H.get j)(f:∀j∈is,j.al<H.next.al)(b:d.next=H1.next)(hu:∀j,d.get j=if j∈is then H.get j else H1.get j)(U:ai c H1 us):ai H d us:=by
 obtain⟨hg,fs,g⟩:=U;refine⟨⟨by rw[b,←a];exact hg.nx,λj hj=>?_⟩,fs,g.move b (by rw[a]) λj hj=>?_⟩
 ·rw[hu];split;·rfl
  rename_i e;rw[hg.dJ j (by rw[a];exact hj),h0 j e]
 rw[hu,an λe=>?_];have:=f j e;rw[a]at hj;omega
theorem RO.B8{f:aG}{args:List aG}{fv:AV}{i:List AV}{u is:List ac}{re:List i9}{Q:AV→List Th→Prop}(U:ai A H ts)(w:∀j∈is,j.al<H.next.al)(g:∀q,q.next=H.next→(∀j,j∉is→q.get j=H.get j)→YF ab fv i q λv H1=>∃e,ai q H1 e∧Q v e)(h:∀v e r,Q v e→bf H r→ai A r (e++ts)→(∀aa,Le (bA L d v) aa→fh aa r re=true)∧RO ab c l s (bA L d v) r)(D:xL L u=is.map some:=by(conv=>lhs;whnf)<;>rfl)(E:aV L f=fv:=by(conv=>lhs;whnf)<;>rfl)(y:fv.bB=true:=by first|rfl|assumption)(F:args.map (aV L)=i:=by rfl)(z:i.all AV.bB=true:=by repeat first|rfl|assumption|(refine ad ?_ ?_)):RO ab c (⟨d,.call f args,none,u,re⟩::l) s L H:=λaa b=>by
 have C:args.map (gv aa)=i:=by subst F;refine ahZ λx G=>?_;exact b.gv rfl (ah1.1 z _ (ag5 G))
 obtain⟨h1,h2,h3⟩:=B7 b (H:=H) D;generalize I:eM aa H u=a at h1 h2 h3;have key:YF ab fv i a.1 λv H1=>fh (aM aa d v) (d8 H1 a.2) re=true∧∃n,Xo ab n l ⟨aM aa d v,c.M,c.R⟩ (d8 H1 a.2) (jU ab c.K s .none):=by refine(g a.1 h1 h2).mono λv H1 t=>?_;obtain⟨e,hl,J⟩:=t;obtain⟨N,O⟩:=h3 H1;have o:=hl.show h1 h2 w N O;obtain⟨P,S⟩:=h v e _ J o.gr (U.fF o);exact⟨P _ (b.set d v),S _ (b.set d v)⟩
 obtain⟨n,T⟩:=key;obtain⟨m,k⟩:=(zr ab n).call (K:=λm v H1=>fh (aM aa d v) (d8 H1 a.2) re=true∧Xo ab m l ⟨aM aa d v,c.M,c.R⟩ (d8 H1 a.2) (jU ab c.K s .none)) (λm V v H k h=>⟨h.1,h.2.mono k λ_ _ h=>h⟩) ((mono ab n).call (adW _) (λv H1 t=>t.2.imp λm k=>⟨t.1,k⟩) T);refine⟨max n m+1,?_⟩;simp only[Xo,Go.ak.az,ft,bm,I];rw[b.gv E y,C];refine(show Xf ab n fv i _ _ from k).mono (Nat.le_max_left ..) λv H1 p=>?_;rw[aH p.1];exact(show Xo ab m l _ _ _ from p.2).mono (Nat.le_max_right ..) λ_ _ h=>h
theorem RO.vW{x:aG}{g is:List ac}(r:bh H q o=some v)(m:q∉is)(h:∀i,(∀j,i.get j=H.get j)→i.next=H.next→RO ab c l s (bA L d v) i)(t:aV L x=.aw q o:=by(conv=>lhs;whnf)<;>rfl)(u:xL L g=is.map some:=by(conv=>lhs;whnf)<;>rfl):RO ab c (⟨d,.aW x,none,g,[]⟩::l) s L H:=λaa e=>by
 obtain⟨h1,h2,h3⟩:=B7 e (H:=H) u;generalize w:eM aa H g=b at h1 h2 h3;obtain⟨y,z⟩:=h3 b.1;have f:∀j,(d8 b.1 b.2).get j=H.get j:=λj=>by
  rw[z];split;·rfl
  rename_i k;exact h2 j k
 obtain⟨n,k⟩:=h _ f (y.trans h1) _ (e.set d v);refine⟨n+1,?_⟩;have a:bh b.1 q o=some v:=by simp only[bh,h2 q m];exact r
 have he:aB (.aW x) aa b.1=some (v,b.1):=by
  simp only[aB,e.gv t rfl];unfold bh at a;split at a
  ·rename_i cc n _ _ _ _ hg;split at a;·rename_i hb;injection a with a;have p:o<n:=ahF.mp hb;simp only[ja,fj,hg,ip,aH p,a,ac6,bK];rfl
   cases a
  cases a
 simp[w,he,k,Xo,Go.ak.az,ft,bm,fh]
theorem ai.zY(U:ai A H ts)(i:Nat)(hi:ts[i]?=some (tB e q vs):=by rfl):A.next.al≤q.al∧q.al<H.next.al:=by obtain⟨c,a,b,_⟩:=U.jV i hi;exact⟨b q a.1,a.2.2.elim λ_ h=>h.2.2⟩
theorem ai.B9(U:ai A H ts)(i:Nat)(hi:ts[i]?=some (tS e size vs n full (.slice q o m cap ex)):=by rfl):A.next.al≤q.al∧q.al<H.next.al:=by
 obtain⟨d,a,b,_⟩:=U.jV i hi;have hb:=dK.below a;rcases a with⟨_,_,_,h⟩|⟨f,g,aK,cap,c,rfl,h2,_⟩;·grind
 injection h2 with h2;subst h2;exact⟨b _ (adc ..),hb _ (adc ..)⟩
end
end Go.ak
namespace Go.ak.R
section
variable{ab:Nat→aE}
section
theorem Ru.IE{c:Cx}{s:List SI}{x:SI}{L:Kn}{H:af}{P:af→Prop}(b:List ac)(h1:∀H',P H'→Ru ab c s (pk L b) H')(h2:(∀H' a,P H'→kg (pk L b) a→Ru ab c s a H')→Ru ab c (x::s) L H):Ru ab c (x::s) L H:=h2 λH' a d hl=>(h1 H' d).rh hl
structure B'(b:G.gD):Prop where
 bl:b.params.length≤12∧b.aA.length≤40∧b.aq.args.length≤12∧b.aq.bY.length≤12∧b.aq.go.length≤12∧b.aq.name.length≤60
 st:∀s∈b.aA,s.args.length≤12∧s.name.length≤250
 ed:∀e∈b.aq.go,e.args.length≤12
structure Em(g:G.bu):Prop where
 sm:G.Sm g
 nb:g.aj.length≤30∨1500<g.aj.length
 nv:g.bi≤200∨6000<g.bi
 nm:g.name.length≤60
section
variable{g:G.bu}{H:af}{cs:List AV}
theorem C3(T:Tb ab)(hg:iD H g cs){K:AV→af→Prop}(m:∀H',bf H H'→K (.bool true) H')(hF:∀H',bf H H'→Em g→K (.bool false) H'):YF ab (.func Vk [] []) [.agg cs] H K:=by
 have A:=hg.one;obtain⟨w,rfl,co⟩:=hg;have⟨av,n,ax,ay⟩:=co.all;refine YF.code T.ZS (by simp) ?_;refine Ru.seq ?_;refine Ru.region ?_;refine RO.dS (ai.cW H) λH1 q U=>?_;refine RO.bg ?_;refine RO.nil ?_;refine Ru.seq ?_;refine Ru.IE (P:=λH'=>ai H H' [tB fC q [.aC g.name,aI g.params,aI g.bi,w]]∧(g.aj.length≤30∨1500<g.aj.length)∧g.aj.length≤3000∧(g.bi≤200∨6000<g.bi)∧g.name.length≤60) [p1] (λH2⟨U,f1,f2,f3,f4⟩=>?_) (λv=>?_);rotate_left
 ·repeat'(first|refine qT ?_|refine RO.cX (λ_=>?_) (λ_=>?_))
  all_goals
   first|exact Ru.aT (m _ U.gr)|
    refine Ru.cond (λ_=>?_) (λ_=>?_);·refine ah ?_;exact Ru.aT (m _ U.gr)
    refine Ru.skip ?_;have e1:ahI 200=200:=rfl;have e2:ahI 6000=6000:=rfl;refine v _ _ ⟨U,by omega,by omega,by omega,by omega⟩ ?_;repeat'(first|exact trivial|refine⟨rfl,?_⟩)
 refine ah ?_;refine Ru.nm λS0 M hS hM=>?_;refine Ru.cA hM (up (P:=λk=>∀a,(∀i,i<k→∀h:i<g.aj.length,B' g.aj[i])→ai H a [tB fC q [.aC g.name,aI g.params,aI g.bi,w]]→Ru ab _ S0 ([(p3,aN k)]++pk M [p1]) a) g.aj.length (λk hk F a f U=>?_) 0 (by omega) _ (λi hi=>by omega) U);subst hS;subst hM;refine Ru.loop ?_;refine ah ?_;refine Ru.cond (λS=>?_) (λS=>?_)
 ·refine ah ?_;refine RO.cP U.gr co (λq1 o1 c1 hj n a1 hat hrd=>?_) (j:=k);have A:=n.one;obtain⟨G,I,jc,rfl,V,o,J,L,N,rfl,W,X,y⟩:=n;have⟨a2,_,_,_⟩:=V.all;have⟨a6,_,_,_⟩:=o.all;have⟨a8,_,_,_⟩:=W.all;have⟨a',_,_,_⟩:=X.all;have⟨ba,_,_,_⟩:=y.all;have F:=F (k+1) (by omega) (by omega);have f:B' g.aj[k]→∀i,i<k+1→∀h:i<g.aj.length,B' g.aj[i]:=λhb i hi h=>by
   by_cases e:i=k;·subst e;exact hb
   exact f i (by omega) h
  generalize g.aj[k]=B at*;refine ah ?_;refine RO.fG U λH3 O U=>?_;repeat'(first|refine qT ?_|refine RO.cX (λ_=>?_) (λ_=>?_))
  all_goals first|exact Ru.aT (m _ U.gr)|skip
  refine Ru.cond (λ_=>?_) (λ_=>?_);·refine ah ?_;exact Ru.aT (m _ U.gr)
  rename_i b1 b2 b3 b4 b5 b6;have U:ai H _ [tB dM O [G,I,aU B.aq.op,J,.aC B.aq.name,L,N],tB fC q [.aC g.name,aI g.params,aI g.bi,w]]:=U;refine ah ?_;refine Ru.nm λP Q p c=>?_;refine Ru.cA c (up (P:=λj=>∀a,(∀i,i<j→∀h:i<B.aA.length,B.aA[i].args.length≤12∧B.aA[i].name.length≤250)→ai H a [tB dM O [G,I,aU B.aq.op,J,.aC B.aq.name,L,N],tB fC q [.aC g.name,aI g.params,aI g.bi,w]]→Ru ab _ P ([(p5,aN j)]++pk Q [p1,p3,p4]) a) B.aA.length (λj hj r a dW U=>?_) 0 (by omega) _ (λi hi=>by omega) U);subst p;subst c;refine Ru.loop ?_;refine ah ?_;refine Ru.cond (λC=>?_) (λC=>?_)
  ·refine ah ?_;refine RO.cP U.gr o (λq9 o9 c9 Y t Z hat hrd=>?_) (j:=j);have r:=r (j+1) (by omega) (by omega);have dW:B.aA[j].args.length≤12∧B.aA[j].name.length≤250→∀i,i<j+1→∀h:i<B.aA.length,B.aA[i].args.length≤12∧B.aA[i].name.length≤250:=λhb i hi h=>by
    by_cases e:i=j;·subst e;exact hb
    exact dW i (by omega) h
   generalize ag:B.aA[j]=s at*;obtain⟨ar,rfl,d⟩:=t;have⟨D,_,_,_⟩:=d.all;repeat'(first|refine qT ?_|refine RO.cX (λ_=>?_) (λ_=>?_))
   ·refine ah ?_;exact Ru.aT (m _ U.gr)
   refine RO.cP U.gr o (λq8 o8 c8 bb z bc hat hrd=>?_) (j:=j);rw[ag]at z;obtain⟨bd,rfl,_⟩:=z;refine ah ?_;refine Ru.cond (λ_=>?_) (λ_=>?_);·refine ah ?_;exact Ru.aT (m _ U.gr)
   refine ah ?_;exact Ru.wk (r _ (dW (by omega)) U)
  refine Ru.exitTo ?_;refine ah ?_;refine Ru.nm λP Q p c=>?_;refine Ru.cA c (up (P:=λj=>∀a,(∀i,i<j→∀h:i<B.aq.go.length,B.aq.go[i].args.length≤12)→ai H a [tB dM O [G,I,aU B.aq.op,J,.aC B.aq.name,L,N],tB fC q [.aC g.name,aI g.params,aI g.bi,w]]→Ru ab _ P ([(p6,aN j)]++pk Q [p1,p3,p4]) a) B.aq.go.length (λi hi u a l U=>?_) 0 (by omega) _ (λi hi=>by omega) U);subst p;subst c;refine Ru.loop ?_;refine ah ?_;refine Ru.cond (λE=>?_) (λE=>?_)
  ·refine ah ?_;refine RO.cP U.gr y (λq9 o9 c9 Y t Z hat hrd=>?_) (j:=i);have u:=u (i+1) (by omega) (by omega);have l:B.aq.go[i].args.length≤12→∀x,x<i+1→∀h:x<B.aq.go.length,B.aq.go[x].args.length≤12:=λhb x R h=>by
    by_cases e:x=i;·subst e;exact hb
    exact l x (by omega) h
   generalize B.aq.go[i]=e at*;obtain⟨ar,rfl,d⟩:=t;have⟨D,_,_,_⟩:=d.all;refine ah ?_;refine Ru.cond (λ_=>?_) (λ_=>?_);·refine ah ?_;exact Ru.aT (m _ U.gr)
   refine ah ?_;exact Ru.wk (u _ (l (by omega)) U)
  refine Ru.exitTo ?_;refine ah ?_;refine Ru.wk (F _ (f ⟨⟨by omega,by omega,by omega,by omega,by omega,by omega⟩,λs hs=>?_,λs hs=>?_⟩) U.tail);all_goals obtain⟨x,R,rfl⟩:=agS hs
  ·exact dW x (by omega) R
  exact l x (by omega) R
 refine Ru.exitTo ?_;refine ah ?_;refine Ru.aT (hF _ U.gr ⟨⟨by omega,λb hb=>?_,λb hb=>?_,λb hb=>?_⟩,f1,f3,f4⟩);all_goals obtain⟨i,hi,rfl⟩:=agS hb;have:=f i (by omega) hi
 ·exact this.bl
 ·exact this.st
 exact this.ed
end
end
theorem Oa:∀{l:List Nat}{k:Nat}(h:k<l.length),Ai l k=some l[k]|_::_,0,_=>rfl|_::l,k+1,h=>Oa (l:=l) (by simpa using h)
theorem RO.mH{c:Cx}{s:List SI}{L:Kn}{H:af}{d:Option ac}{l:List aS}{x y:aG}{t:List Nat}{j kd:Nat}(hj:j<t.length)(h:RO ab c l s (bA L d (.int 4 (.ofNat t[j]))) H)(b:aV L x=.aC t:=by(conv=>lhs;whnf)<;>rfl)(e:aV L y=.int kd (.ofNat j):=by(conv=>lhs;whnf)<;>rfl):RO ab c (⟨d,.mH x y,none,[],[]⟩::l) s L H:=RO.op (λaa a=>by simp only[aB,a.gv b rfl,a.gv e rfl,Oa hj,ahb]) h
theorem rI(T:Tb ab){H:af}{a b n:Int}{K:AV→af→Prop}(h1:a≤n→n≤b→K (.bool true) H)(h2:¬(a≤n∧n≤b)→K (.bool false) H):YF ab (.func VF [] []) [.int 3 n,.int 3 a,.int 3 b] H K:=by
 refine YF.code T.aad (by simp) ?_;repeat'(first|refine qT ?_|refine RO.cX (λ_=>?_) (λ_=>?_))
 ·rename_i d;by_cases c:n≤b;·rw[decide_eq_true c];exact Ru.aT (h1 d c)
  rw[decide_eq_false c];exact Ru.aT (h2 λh=>c h.2)
 rename_i d;exact Ru.aT (h2 λh=>d h.1)
theorem En(T:Tb ab){H:af}{t:List Nat}(hb:∀x∈t,x<256)(hl:t.length≤1000000){K:AV→af→Prop}(h1:rF t→K (.bool true) H)(h2:K (.bool false) H):YF ab (.func VL [] []) [.aC t] H K:=by
 refine YF.code T.aal (by simp) ?_;refine ah ?_;refine Ru.nm λS M j f=>?_;refine Ru.cA f (up (P:=λk=>(∀i,i<k→∀h:i<t.length,33≤t[i]∧t[i]≤126∧t[i]≠34)→Ru ab _ S ([(p3,aN k)]++pk M [p0]) H) t.length (λk o l g=>?_) 0 (by omega) (λi hi=>by omega));subst j;subst f;refine Ru.loop ?_;refine ah ?_;refine Ru.cond (λa=>?_) (λa=>?_)
 ·have n:=hb _ (af0 a);refine ah ?_;refine RO.mH a ?_ (j:=k);refine RO.lu ?_;rw[pP (n:=.ofNat t[k]) (by rw[agL];omega) (by rw[agL];omega)];refine RO.cl (rI T (λc d=>?_) (λ_=>?_))
  ·refine ah ?_;refine RO.mH a ?_ (j:=k);refine ah ?_;refine Ru.cond (λm=>?_) (λm=>?_);·refine ah ?_;exact Ru.aT h2
   refine ah ?_;refine Ru.wk (l (k+1) (by omega) (by omega) λi hi h=>?_);by_cases e:i=k;·subst e;simp only[agL]at c d;omega
   exact g i (by omega) h
  refine ah ?_;exact Ru.aT h2
 refine Ru.exitTo ?_;refine ah ?_;refine RO.cl (rI T (λc d=>?_) (λ_=>?_));·refine ah ?_;refine Ru.aT (h1 ⟨by simp only[agL]at c;omega,by simp only[agL]at d;omega,λb hb=>?_⟩);obtain⟨i,hi,rfl⟩:=agS hb;exact g i (by omega) hi
 refine ah ?_;exact Ru.aT h2
theorem acV(T:Tb ab){H:af}{t:List Nat}(hb:∀x∈t,x<256)(hl:t.length≤1000000){K:AV→af→Prop}(h1:Ee t→K (.bool true) H)(h2:K (.bool false) H):YF ab (.func V4 [] []) [.aC t] H K:=by
 refine YF.code T.aaF (by simp) ?_;refine ah ?_;refine Ru.nm λS M l g=>?_;refine Ru.cA g (up (P:=λk=>(∀i,i<k→∀h:i<t.length,(32≤t[i]∧t[i]≤126)∨t[i]=10)→Ru ab _ S ([(p3,aN k)]++pk M [p0]) H) t.length (λk p f j=>?_) 0 (by omega) (λi hi=>by omega));subst l;subst g;refine Ru.loop ?_;refine ah ?_;refine Ru.cond (λa=>?_) (λa=>?_)
 ·have o:=hb _ (af0 a);have f:=f (k+1) (by omega) (by omega);have d:(32≤t[k]∧t[k]≤126)∨t[k]=10→∀i,i<k+1→∀h:i<t.length,(32≤t[i]∧t[i]≤126)∨t[i]=10:=λhg i hi h=>by
   by_cases e:i=k;·subst e;exact hg
   exact j i (by omega) h
  refine ah ?_;refine RO.mH a ?_ (j:=k);refine RO.lu ?_;rw[pP (n:=.ofNat t[k]) (by rw[agL];omega) (by rw[agL];omega)];refine RO.cl (rI T (λm c=>?_) (λ_=>?_));·refine ah ?_;exact Ru.wk (f (d (.inl (by simp only[agL]at m c;omega))))
  refine ah ?_;refine RO.mH a ?_ (j:=k);refine ah ?_;refine Ru.cond (λn=>?_) (λn=>?_);·refine ah ?_;exact Ru.aT h2
  refine ah ?_;exact Ru.wk (f (d (.inr (by omega))))
 refine Ru.exitTo ?_;refine ah ?_;by_cases c:t.length≤200;·rw[decide_eq_true c];refine Ru.aT (h1 ⟨c,λb hb=>?_⟩);obtain⟨i,hi,rfl⟩:=agS hb;exact j i (by omega) hi
 rw[decide_eq_false c];exact Ru.aT h2
theorem IF(T:Tb ab){H:af}{l:List Int}{v:AV}(b:iy H l v)(hl:l.length≤1000000){n:Int}(p:0≤n)(w:n≤1000000){K:AV→af→Prop}(h1:(∀x∈l,0≤x∧x≤n - 1)→K (.bool true) H)(h2:K (.bool false) H):YF ab (.func V3 [] []) [v,.int 3 n] H K:=by
 have⟨q,r,s,t⟩:=b.all;refine YF.code T.aaE (by simp) ?_;refine ah ?_;refine Ru.nm λS M f c=>?_;refine Ru.cA c (up (P:=λk=>(∀i,i<k→∀h:i<l.length,0≤l[i]∧l[i]≤n - 1)→Ru ab _ S ([(p5,aN k)]++pk M [p0,p1]) H) l.length (λk y g d=>?_) 0 (by omega) (λi hi=>by omega));subst f;subst c;refine Ru.loop ?_;refine ah ?_;refine Ru.cond (λa=>?_) (λa=>?_)
 ·refine ah ?_;refine RO.oH (bf.refl H) b (λz o1 hj u=>?_) (j:=k);refine ah ?_;refine RO.sub ?_ (a:=n) (b:=1);refine RO.cl (rI T (λj m=>?_) (λ_=>?_))
  ·refine ah ?_;refine Ru.wk (g (k+1) (by omega) (by omega) λi hi h=>?_);by_cases e:i=k;·subst e;exact⟨j,m⟩
   exact d i (by omega) h
  refine ah ?_;exact Ru.aT h2
 refine Ru.exitTo ?_;refine ah ?_;refine Ru.aT (h1 λx o=>?_);obtain⟨i,hi,rfl⟩:=agS o;exact d i (by omega) hi
theorem Ob(T:Tb ab){H:af}{l:List Int}{v:AV}(c:iy H l v)(hl:l.length≤1000000){n:Int}{K:AV→af→Prop}(h1:n∈l→K (.bool true) H)(h2:n∉l→K (.bool false) H):YF ab (.func VE [] []) [v,.int 3 n] H K:=by
 have⟨o,p,q,r⟩:=c.all;refine YF.code T.aac (by simp) ?_;refine ah ?_;refine Ru.nm λS M g d=>?_;refine Ru.cA d (up (P:=λk=>(∀i,i<k→∀h:i<l.length,l[i]≠n)→Ru ab _ S ([(p5,aN k)]++pk M [p0,p1]) H) l.length (λk t j f=>?_) 0 (by omega) (λi hi=>by omega));subst g;subst d;refine Ru.loop ?_;refine ah ?_;refine Ru.cond (λa=>?_) (λa=>?_)
 ·refine ah ?_;refine RO.oH (bf.refl H) c (λu o1 hj s=>?_) (j:=k);refine ah ?_;refine Ru.cond (λb=>?_) (λb=>?_);·refine ah ?_;exact Ru.aT (h1 (b▸af0 a))
  refine ah ?_;refine Ru.wk (j (k+1) (by omega) (by omega) λi hi h=>?_);by_cases e:i=k;·subst e;exact b
  exact f i (by omega) h
 refine Ru.exitTo ?_;refine ah ?_;refine Ru.aT (h2 λm=>?_);obtain⟨i,hi,e⟩:=agS m;exact f i (by omega) hi e
def oU:List G.Edge→Nat
 |[]=>0
 |e::l=>e.args.length+oU l
def md:List G.gD→Nat
 |[]=>0
 |b::l=>b.aA.length+oU b.aq.go+md l
def s9(g:G.bu):Bool:=decide (1500<g.aj.length)||decide (6000<g.bi)||decide (6000<md g.aj)
theorem Oc{l:List G.Edge}{n:Nat}(h:∀e∈l,e.args.length≤n):oU l≤n*l.length:=by induction l with|nil=>simp[oU]|cons e l a=>have:=h e (adc ..);have:=a λe he=>h e (adD _ he);simp only[oU,ahh,Nat.mul_succ];omega
theorem Od{l:List G.gD}{n:Nat}(h:∀b∈l,b.aA.length+oU b.aq.go≤n):md l≤n*l.length:=by induction l with|nil=>simp[md]|cons e l a=>have:=h e (adc ..);have:=a λe he=>h e (adD _ he);simp only[md,ahh,Nat.mul_succ];omega
theorem acW(T:Tb ab){H:af}{g:G.bu}{cs:List AV}(hg:iD H g cs)(n:G.Sm g){K:AV→af→Prop}(o:∀H',bf H H'→K (.bool (s9 g)) H'):YF ab (.func Wg [] []) [.agg cs] H K:=by
 obtain⟨y,rfl,co⟩:=hg;have⟨hd,h1,_,P⟩:=co.all;have hb:=n.nb;have hs:md g.aj≤1000*g.aj.length:=Od λb hb=>by have h1:=n.bl b hb;have h2:=Oc (n.ed b hb);omega
 refine YF.code T.aaS (by simp) ?_;refine au ?_;refine RO.dS (ai.cW H) (λH1 q U=>?_);refine bz ?_;refine Ru.nm λS M p i=>?_;refine Ru.cA i (up (P:=λk=>∀d a,a+md (g.aj.drop k)=md g.aj→ai H d [tB fC q [.aC g.name,aI g.params,aI g.bi,y]]→Ru ab _ S ([(aQ,aN k),(p3,aN a)]++pk M [p1,p9,aO]) d) g.aj.length (λk Q z d a r U=>?_) 0 (by omega) _ 0 (by simp) U);subst p;subst i;refine Ru.loop ?_;refine bz ?_;refine Ru.cond (λh=>?_) (λh=>?_)
 ·rw[agR h]at r;simp only[md]at r;have E:=n.bl _ (af0 h);refine au ?_;refine RO.cP U.gr co λA o1 c1 hj c t hat hrd=>?_;have m:=c.one;obtain⟨R,V,W,rfl,_,u,B,X,Y,rfl,_,_,l⟩:=c;have⟨F,_,_,I⟩:=u.all;have⟨J,_,_,L⟩:=l.all;refine bz ?_;refine RO.fG U (λC D U=>?_);refine bz ?_;refine Ru.nm λS M p i=>?_;refine Ru.cA i (up (P:=λj=>∀d x,x+oU (g.aj[k].aq.go.drop j)=a+(g.aj[k].aA.length+oU g.aj[k].aq.go)→ai H d [tB fC q [.aC g.name,aI g.params,aI g.bi,y]]→Ru ab _ S ([(bG,aN j),(p3,aN x)]++pk M [p1,p9,aO,aQ,bM,bI]) d) g.aj[k].aq.go.length (λj hj v d x s U=>?_) 0 (by omega) _ (a+g.aj[k].aA.length) (by simp;omega) U.tail);subst p;subst i;refine Ru.loop ?_;refine bz ?_;refine Ru.cond (λf=>?_) (λf=>?_);·rw[agR f]at s;simp only[oU]at s;refine au ?_;refine RO.cP U.gr l λA o1 c1 hj c t hat hrd=>?_;have m:=c.one;obtain⟨B,rfl,w⟩:=c;have⟨N,_,_,O⟩:=w.all;refine bz ?_;refine RO.fG U (λC D U=>?_);refine bz ?_;exact Ru.wk (v (j+1) (by omega) (by omega) _ (x+g.aj[k].aq.go[j].args.length) (by omega) U.tail)
  refine Ru.exitTo ?_;refine bz ?_;exact Ru.wk (z (k+1) (by omega) (by omega) _ x (by simp[List.drop_of_length_le (show g.aj[k].aq.go.length≤j by omega),oU]at s;omega) U)
 simp only[List.drop_of_length_le (show g.aj.length≤k by omega),md]at r;have e:a=md g.aj:=by omega
 subst e;refine Ru.exitTo ?_;refine bz ?_;refine RO.cX (λh1=>?_) (λh1=>?_);·refine bz ?_;refine Ru.aT ?_;simpa[s9,h1]using o d U.gr
 refine bz ?_;refine RO.cX (λ(h2:(6000:Int)<g.bi)=>?_) (λ(h2:¬(6000:Int)<g.bi)=>?_);·refine bz ?_;refine Ru.aT ?_;simpa[s9,h1,h2]using o d U.gr
 refine bz ?_;refine Ru.aT ?_;simpa[s9,h1,h2]using o d U.gr
section
section
variable{g:G.bu}{H:af}{cs:List AV}
theorem acX(T:Tb ab)(hg:iD H g cs)(p:G.Sm g){K:AV→af→Prop}(h1:∀H',bf H H'→s9 g=false→K (.bool true) H')(h2:∀H',bf H H'→K (.bool false) H'):YF ab (.func Vv [] []) [.agg cs] H K:=by
 have F:=hg.one;obtain⟨W,rfl,co⟩:=hg;have⟨J,a,L,N⟩:=co.all;have hb:=p.nb;have hs:md g.aj≤1000*g.aj.length:=Od λb hb=>by have h1:=p.bl b hb;have h2:=Oc (p.ed b hb);omega
 refine YF.code T.Z3 (by simp) ?_;refine ah ?_;refine RO.dS (ai.cW H) (λH1 q U=>?_);refine ah ?_;refine Ru.nm λS M s m=>?_;refine Ru.cA m (up (P:=λk=>∀c,c+md (g.aj.drop k)=md g.aj→Ru ab _ S ([(p4,aN k),(p3,aN c)]++pk M [p1]) H1) g.aj.length (λk X I c t=>?_) 0 (by omega) 0 (by simp));subst s;subst m;refine Ru.loop ?_;refine ah ?_;refine Ru.cond (λh=>?_) (λh=>?_)
 ·rw[agR h]at t;simp only[md]at t;have O:=p.bl _ (af0 h);refine ah ?_;refine RO.cP U.gr co (λu o1 c1 hj a i hat hrd=>?_) (j:=k);obtain⟨A,B,C,rfl,_,l,v,D,r,rfl,_,_,d⟩:=a;have⟨P,_,_,Q⟩:=l.all;have⟨n,_,_,o⟩:=d.all;refine ah ?_;refine Ru.nm λS M s m=>?_;refine Ru.cA m (up (P:=λj=>∀x,x+oU (g.aj[k].aq.go.drop j)=c+(g.aj[k].aA.length+oU g.aj[k].aq.go)→Ru ab _ S ([(p5,aN j),(p3,aN x)]++pk M [p1,p4]) H1) g.aj[k].aq.go.length (λj hj y x w=>?_) 0 (by omega) (c+g.aj[k].aA.length) (by simp;omega));subst s;subst m;refine Ru.loop ?_;refine ah ?_;refine RO.cP U.gr co (λu o1 c1 hj a i hat hrd=>?_) (j:=k);obtain⟨A,B,C,rfl,_,l,v,D,r,rfl,_,_,d⟩:=a;have⟨n,_,_,o⟩:=d.all;refine ah ?_;refine RO.aW (v:=r) ?_ (hc:=hat 6 _ rfl);refine ah ?_;refine Ru.cond (λf=>?_) (λf=>?_);·rw[agR f]at w;simp only[oU]at w;refine ah ?_;refine RO.cP U.gr co (λu o1 c1 hj a i hat hrd=>?_) (j:=k);obtain⟨A,B,C,rfl,_,l,v,D,r,rfl,_,_,d⟩:=a;have⟨n,_,_,o⟩:=d.all;refine ah ?_;refine RO.aW (v:=r) ?_ (hc:=hat 6 _ rfl);refine ah ?_;refine RO.cP U.gr d (λu o1 c1 hj a i hat hrd=>?_) (j:=j);obtain⟨v,rfl,z⟩:=a;have⟨R,_,_,V⟩:=z.all;refine ah ?_;exact Ru.wk (y (j+1) (by omega) (by omega) (x+g.aj[k].aq.go[j].args.length) (by omega))
  refine Ru.exitTo ?_;refine ah ?_;exact Ru.wk (I (k+1) (by omega) (by omega) x (by simp[List.drop_of_length_le (show g.aj[k].aq.go.length≤j by omega),oU]at w;omega))
 simp only[List.drop_of_length_le (show g.aj.length≤k by omega),md]at t;have e:c=md g.aj:=by omega
 subst e;refine Ru.exitTo ?_;have e1:ahI 6000=6000:=rfl;repeat'(first|refine qT ?_|refine RO.cX (λ_=>?_) (λ_=>?_))
 ·rename_i Y Z;by_cases E:md g.aj≤6000;·rw[decide_eq_true E];exact Ru.aT (h1 _ U.gr (by simp only[s9,Bool.or_eq_false_iff,decide_eq_false_iff_not];omega))
  rw[decide_eq_false E];exact Ru.aT (h2 _ U.gr)
 all_goals exact Ru.aT (h2 _ U.gr)
theorem acY(T:Tb ab){t:List Nat}{K:AV→af→Prop}(h:K (aN (gV t)) H):YF ab (.func V5 [] []) [.aC t] H K:=by
 refine YF.code T.aaG (by simp) ?_;repeat'(first|refine qT ?_|(refine Ru.kh (λa=>?_) (λa=>?_)<;>rw[a]))
 all_goals first|(rw[pA,decide_eq_true_eq]at a;subst a;exact Ru.aT (by simpa[gV,BV,BW,BX]using h))|skip
 simp only[pA,decide_eq_false_iff_not]at*;exact Ru.aT (by simpa[gV,BV,BW,BX, *]using h)
end
end
structure qA where
 w:List Nat
 to:Bool
 rJ:Int
 n:Bool
 lo:Int
 hi:Int
 nm:Int
 go:Int
def IG(s:qA):AV:=.agg [.aC s.w,.bool s.to,aI s.rJ,.bool s.n,aI s.lo,aI s.hi,aI s.nm,aI s.go]
def Oe:qA:=⟨[],false,0,false,0,0,0,0⟩
def ta(op:Nat):List (Nat×qA)→qA
 |[]=>Oe
 |p::l=>if op=p.1 then p.2 else ta op l
def Eo:List (Nat×qA):=[(1,⟨[105,110,116],true,0,true,(-1000000000),1000000000,0,0⟩),(2,⟨[98,111,111,108],true,0,true,0,1,0,0⟩),(3,⟨[116,101,120,116],true,0,false,0,0,1,0⟩),(4,⟨[117,110,105,116],true,0,false,0,0,0,0⟩),(11,⟨[102,110],true,0,false,0,0,2,0⟩),(40,⟨[99,108,111,115,101],true,(-1),false,0,0,2,0⟩),(14,⟨[112,114,105,109],true,(-1),false,0,0,3,0⟩),(15,⟨[110,101,119],true,(-1),false,0,0,4,0⟩),(16,⟨[103,101,116],true,1,true,0,5,5,0⟩),(17,⟨[112,117,116],false,2,true,0,5,5,0⟩),(18,⟨[99,97,115,101],true,(-1),false,0,0,6,0⟩),(13,⟨[99,97,108,108],true,(-2),false,0,0,0,0⟩),(21,⟨[116,104,114,111,119],false,1,false,0,0,0,0⟩),(23,⟨[115,112,97,119,110],false,1,false,0,0,0,0⟩),(24,⟨[99,104,97,110],true,0,true,1,8,0,0⟩),(25,⟨[115,101,110,100],false,2,false,0,0,0,0⟩),(26,⟨[114,101,99,118],true,1,false,0,0,0,0⟩),(31,⟨[121,105,101,108,100],false,0,false,0,0,0,0⟩),(32,⟨[111,117,116],false,1,false,0,0,0,0⟩),(33,⟨[105,110],true,0,false,0,0,0,0⟩),(34,⟨[99,111,108,108,101,99,116],false,0,false,0,0,0,0⟩),(35,⟨[119,101,97,107],true,1,false,0,0,0,0⟩)]
def xM:List (Nat×qA):=[(37,⟨[114,111,111,116],true,0,false,0,0,7,0⟩),(38,⟨[115,101,116,114,111,111,116],false,1,false,0,0,7,0⟩),(39,⟨[116,105,99,107],false,0,false,0,0,0,0⟩),(60,⟨[109,111,118,101],true,1,false,0,0,0,0⟩),(61,⟨[103,111],false,0,false,0,0,0,1⟩),(62,⟨[105,102],false,1,false,0,0,0,2⟩),(63,⟨[105,115],false,1,false,0,0,6,2⟩),(64,⟨[112,97,114,116],true,1,true,0,3,0,0⟩),(65,⟨[104,111,108,100],true,1,false,0,0,0,2⟩),(66,⟨[115,101,108,101,99,116],false,0,false,0,0,0,0⟩),(67,⟨[116,114,121],true,0,false,0,0,0,1⟩),(68,⟨[101,110,100],false,0,false,0,0,0,0⟩),(69,⟨[114,101,116],false,1,false,0,0,0,0⟩),(70,⟨[115,116,117,99,107],false,0,false,0,0,0,0⟩)]
def rL(op:Nat):qA:=ta op (Eo++xM)
theorem acZ(T:Tb ab){H:af}{op:Nat}{K:AV→af→Prop}(a:∀H',bf H H'→K (IG (ta op xM)) H'):YF ab (.func Wo [] []) [aU op] H K:=by
 refine YF.code T.aa3 (by simp) ?_;refine au ?_;refine RO.gk (ai.cW H) λH1 q U=>?_;refine ah ?_;iterate 14
  refine Ru.cond (λb=>?_) (λb=>?_);·subst b;refine ah ?_;refine RO.iL U 0 (λc U=>?_);refine ah ?_;exact Ru.lj (vs:=[_]) ⟨⟨q,0,rfl,U.agg 0⟩,trivial⟩ (a _ U.gr)
  refine ah ?_
 have e:ta op xM=Oe:=by simp only[xM,ta, *,bK]
 rw[e]at a;refine RO.iL U 0 (λc U=>?_);refine ah ?_;exact Ru.lj (vs:=[_]) ⟨⟨q,0,rfl,U.agg 0⟩,trivial⟩ (a _ U.gr)
theorem IH(T:Tb ab){H:af}{op:Nat}{K:AV→af→Prop}(b:∀H',bf H H'→K (IG (rL op)) H'):YF ab (.func We [] []) [aU op] H K:=by
 refine YF.code T.aaQ (by simp) ?_;refine au ?_;refine RO.gk (ai.cW H) λH1 q U=>?_;refine ah ?_;refine Ru.cond (λa=>?_) (λa=>?_);·subst a;refine ah ?_;refine RO.iL U 0 (λc U=>?_);refine ah ?_;exact Ru.lj (vs:=[_]) ⟨⟨q,0,rfl,U.agg 0⟩,trivial⟩ (b _ U.gr)
 refine ah ?_;iterate 21
  refine Ru.cond (λa=>?_) (λa=>?_);·subst a;refine ah ?_;refine RO.iL U 0 (λc U=>?_);refine ah ?_;exact Ru.lj (vs:=[_]) ⟨⟨q,0,rfl,U.agg 0⟩,trivial⟩ (b _ U.gr)
  refine ah ?_
 have e:rL op=ta op xM:=by simp only[rL,Eo,ahC,ahH,ta, *,bK]
 rw[e]at b;refine RO.cl (acZ T λc hg=>?_);have U:=U.cV hg;refine RO.iL U 0 (λd U=>?_);refine ah ?_;exact Ru.lj (vs:=[_]) ⟨⟨q,0,rfl,U.agg 0⟩,trivial⟩ (b _ U.gr)
def tb(op:Nat)(m:Int):qA:=if op=13∧m=1 then⟨[102,114,101,101],true, -3,false,0,0,2,0⟩else rL op
theorem ac0(T:Tb ab){H:af}{op:Nat}{m:Int}{K:AV→af→Prop}(b:∀H',bf H H'→K (IG (tb op m)) H'):YF ab (.func V2 [] []) [aU op,aI m] H K:=by
 refine YF.code T.aaD (by simp) ?_;refine au ?_;refine RO.gk (ai.cW H) λH1 q U=>?_;repeat'(first|refine qT ?_|refine RO.cX (λ_=>?_) (λ_=>?_))
 ·rename_i a;refine Ru.cond (λc=>?_) (λc=>?_);·rw[tb,aH ⟨a,c⟩]at b;refine ah ?_;refine RO.iL U 0 (λd U=>?_);refine ah ?_;exact Ru.lj (vs:=[_]) ⟨⟨q,0,rfl,U.agg 0⟩,trivial⟩ (b _ U.gr)
  rw[tb,an λh=>c h.2]at b;refine ah ?_;refine RO.cl (IH T λd hg=>?_);have U:=U.cV hg;refine RO.iL U 0 (λe U=>?_);refine ah ?_;exact Ru.lj (vs:=[_]) ⟨⟨q,0,rfl,U.agg 0⟩,trivial⟩ (b _ U.gr)
 rename_i a;rw[tb,an λh=>a h.1]at b;refine RO.cl (IH T λd hg=>?_);have U:=U.cV hg;refine RO.iL U 0 (λe U=>?_);refine ah ?_;exact Ru.lj (vs:=[_]) ⟨⟨q,0,rfl,U.agg 0⟩,trivial⟩ (b _ U.gr)
end
end Go.ak.R
end
