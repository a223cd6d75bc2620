/- A part of the proof. No conditions. -/
import Derived.Test.YtjhkgigolpfcfaaGreatDoorA10
set_option linter.all false
set_option maxHeartbeats 16000000
open List renaming length_cons->akA
open Nat renaming le_of_ble_eq_true->akc
open List.Perm renaming cons->akO
noncomputable section
namespace Go.am.R
section
variable{ac:Nat->aG}
section
structure wN(g:G.bu)(e:G.Edge)(w:Nat):Prop where
 lo:1<=e.block
 hi:e.block<g.al.length
 aM:(g.al.getD e.block.toNat default).params.length=e.args.length+w
 pF:∀a∈e.args,0<=a/\a<=g.bp - 1
section
variable{g:G.bu}{c:AV}{d f:ab}{n:Nat}{A H:ai}{us:List Th}
theorem adW(T:Tb ac)(V:FV g n)(y:G.Sm g)(B:0<g.al.length)(hb:dV 7 kj A g.al c){s:List Bool}(hs:s.length=n){e:G.Edge}{cs:List AV}(he:sa A e cs){w:Nat}(L:w<=1)(hl:e.args.length<=1000000)(U:aj A H (fT g c d f n s++us)){K:KT}(l:∀u m(b:Bool),(b=true↔wN g e w)->aj A u (fT g c d f n s++m++us)->K (.bool b) u):YN ac XP [.az d 0,.agg cs,aN w] H K:=by
 have x:=he.one;obtain⟨M,rfl,j⟩:=he;have⟨hd,_,_,N⟩:=j.all;have⟨C,_,_,D⟩:=hb.all;have E:=y.nb;obtain⟨i,O⟩:=e;refine YF.code T.ac2 aB ?_;refine au ?_;refine RO.dL U λH1 q U=>?_;refine au ?_;refine RO.nilCheck ?_;refine bD ?_;refine RO.arith (v:=aN (g.al.length - 1)) ?_ (hv:=px af af);refine bD ?_;refine RO.cl (IY T (a:=1) (b:=(g.al.length - 1:Nat)) (n:=i) ?_);by_cases h1:(1:Int)<=i/\i<=((g.al.length - 1:Nat):Int);rotate_left;·rw[decide_eq_false h1];refine bD ?_;exact Ru.aV (l _ [_] false ⟨λh=>(by cases h),λh=>absurd ⟨h.lo,by have o:i<g.al.length:=h.hi;omega⟩ h1⟩ (by have:=aj.gF (xs:=[_]) U;simpa[fT]using this))
 rw[decide_eq_true h1];obtain⟨k,rfl⟩:∃k:Nat,i=(k:Int):=⟨i.toNat,af⟩;have p:k<g.al.length:=af;refine bD ?_;refine RO.nilCheck ?_;refine bD ?_;refine RO.cZ U.gr hb λP o1 c1 hj r F hat hrd=>?_;obtain⟨Q,R,S,rfl,t,_,_⟩:=r;have⟨I,_,_,J⟩:=t.all;have a:(g.al.getD ((k:Int)).toNat default)=g.al[k]:=by rw[aj3,bF p]
 refine bD ?_;refine RO.de (λh3=>?_) (λh3=>?_);·refine bD ?_;refine RO.cl (EU T V hs j hl (aj.gF (xs:=[_]) U) λW m z v U=>?_);refine bD ?_;exact Ru.aV (l _ (m++[_]) z ⟨λh=>⟨h1.1,by show(k:Int)<g.al.length;omega,by show(g.al.getD ((k:Int)).toNat default).params.length=_;rw[a];exact h3,v.1 h⟩,λh=>v.2 h.pF⟩ (by simpa using U))
 refine bD ?_;exact Ru.aV (l _ [_] false ⟨λh=>(by cases h),λh=>absurd (by have o:=h.aM;rw[a]at o;exact o) h3⟩ (by have:=aj.gF (xs:=[_]) U;simpa[fT]using this))
structure ua(g:G.bu)(es:List G.Edge)(ws:List Nat):Prop where
 len:es.length=ws.length
 ok:∀k(h:k<es.length),wN g es[k] (ws.getD k 0)
theorem adX(T:Tb ac)(V:FV g n)(J:G.Sm g)(u:0<g.al.length)(hb:dV 7 kj A g.al c){s:List Bool}(hs:s.length=n){es:List G.Edge}{z m:AV}{a:List Nat}(k7:dV 2 sa A es z)(Q:es.length<=1000)(L:∀w∈a,w<=1)(v:∀e∈es,e.args.length<=1000)(U:aj A H (fT g c d f n s++tS 3 1 (a.map aN) a.length true m::us)){K:KT}(p:∀B(b:Bool),(b=true↔ua g es a)->aj A B (fT g c d f n s++tS 3 1 (a.map aN) a.length true m::us)->K (.bool b) B):YN ac N1 [.az d 0,z,m] H K:=by
 have⟨R,_,_,W⟩:=k7.all;have x:Sl H 1 (a.map aN) a.length m:=U.sl 2;have⟨X,_,_,Y⟩:=x.all;refine YF.code T.acN aB ?_;refine au ?_;refine Ru.cond (λh=>?_) (λh=>?_);·refine au ?_;exact Ru.aV (p _ false ⟨λh=>(by cases h),λr=>absurd r.len (by simpa using h)⟩ U)
 have hl:es.length=a.length:=by simpa using h
 refine au ?_;refine Ru.nm λS M N C=>?_;refine Ru.cC C (up (P:=λk=>∀t,(∀j(h:j<es.length),j<k->wN g es[j] (a.getD j 0))->aj A t (fT g c d f n s++tS 3 1 (a.map aN) a.length true m::us)->Ru ac _ S ([(bo,aN k)]++pk M [p0,p1,p2,bi,bk]) t) es.length (λk hk O t D U=>?_) 0 af _ (λj _ hj=>by omega) U);subst N;subst C;refine Ru.loop ?_;refine au ?_;refine Ru.cond (λi=>?_) (λi=>?_)
 .have Z:=v _ (agB i);refine au ?_;refine RO.cZ U.gr k7 λq1 o1 c1 hj l ag hat hrd=>?_;have F:=l.one;have o:=l;obtain⟨va,rfl,y⟩:=l;have⟨hd,_,_,hn⟩:=y.all;refine bD ?_;refine RO.gI U λH1 q U=>?_;refine bD ?_;refine RO.iT U 0 (λH2 U=>?_);refine bD ?_;refine RO.eQ U 0 ?_;refine au ?_;obtain⟨wq,I,av,rfl⟩:=U.uT 3 rfl af;refine bD ?_;refine RO.fD U 3 ?_ (hv:=qR 0 (show k<a.length by omega));refine au ?_;refine RO.cl (adW T V J u hb hs o (w:=a.getD k 0) (by rw[bF af];exact L _ (agB _)) af (aj.gF (xs:=[_]) U) λH3 gs P E U=>?_);cases P with
  |false=>refine au ?_;exact Ru.aV (p _ false ⟨λh=>(by cases h),λr=>by have:=E.2 (r.ok k i);cases this⟩ (aj.kO (xs:=[_]) U.skip).tail)
  |true=>
   refine au ?_;exact Ru.wk (O (k+1) af af _ (λj hj h=>by
    by_cases e:j=k;·subst e;exact E.1 rfl
    exact D j hj af) (aj.kO (xs:=[_]) U.skip).tail)
 refine Ru.exitTo ?_;refine au ?_;exact Ru.aV (p _ true ⟨λ_=>⟨hl,λj h=>D j h af⟩,λ_=>rfl⟩ U)
end
end
section
theorem RO.Eh{c:Cx}{s:List SI}{L:Kn}{H:ai}{d:Option ab}{l:List be}{x y:aJ}{a b:List Nat}(h:RO ac c l s (bC L d (.bool (decide (a≠b)))) H)(e:bf L x=.str a:=by exact cw)(g:bf L y=.str b:=by exact cw):RO ac c (⟨d,.iE .neq x y,none,[],[]⟩::l) s L H:=RO.iE (v:=.bool (decide (a≠b))) h e rfl g rfl (by simp only[Ba,qv,decide_not])
def vr(k:Nat):Nat:=if k=2 then 1 else 0
def mH:List Nat->Nat
 |[]=>0
 |k::l=>(3 - k)+mH l
theorem O9:∀{l:List Nat},mH l<=3*l.length|[]=>by simp[mH]|k::l=>by have:=O9 (l:=l);simp only[mH,akA];omega
structure sq(g:G.bu)(es:List G.Edge):Prop where
 ex:∃e0 e1 e2,es=[e0,e1,e2]/\wN g e0 0/\wN g e1 1/\(e0.args=[]/\e1.args=[]/\e2.args=[])/\(1<=e2.block/\e2.block<g.al.length)/\0<(g.al.getD e2.block.toNat default).params.length
structure tl(g:G.bu)(j:G.lD):Prop where
 kd:∀i(h:i<j.b9.length),1<=j.b9[i]/\j.b9[i]<=3/\(j.b9[i]=3->i+1=j.b9.length)
 lo:1<=j.b9.length
 hi:j.b9.length<=4
 ar:j.args.length=mH j.b9
 ed:ua g j.go (j.b9.map vr)
inductive adY(g:G.bu)(j:G.lD):Prop
 |go(h:j.op=61)(ha:j.args.length=0)(he:ua g j.go [0])
 |Cz(h:j.op=62)(ha:j.args.length=1)(he:ua g j.go [0,0])
 |is(h:j.op=63)(ha:j.args.length=1)(hn:su j.name)(he:ua g j.go [0,0])
 |gE(h:j.op=65)(ha:j.args.length=1)(he:ua g j.go [1,0])
 |AR(h:j.op=66)(hs:tl g j)
 |CB(h:j.op=67)(ha:j.args.length=0)(ht:sq g j.go)
 |CC(h:j.op=68)(ha:0<j.args.length)(hg:j.go.length=0)
 |ret(h:j.op=69\/j.op=21)(ha:j.args.length=1)(hg:j.go.length=0)
 |stuck(h:j.op=70)(ha:j.args.length=0)(hg:j.go.length=0)
structure I6(g:G.bu)(j:G.lD):Prop where
 pF:∀a∈j.args,0<=a/\a<=g.bp - 1
 name:j.op=63↔j.name≠ []
 b9:j.op≠66->j.b9=[]
 aA:adY g j
section
variable{g:G.bu}{f:AV}{o r:ab}{n:Nat}{A H:ai}{us:List Th}
theorem AS(T:Tb ac)(V:FV g n)(t:G.Sm g)(c:0<g.al.length)(hb:dV 7 kj A g.al f){s:List Bool}(hs:s.length=n){es:List G.Edge}{l p:AV}{ws:List Nat}(k7:dV 2 sa A es l)(d:es.length<=1000)(u:∀w∈ws,w<=1)(h:∀e∈es,e.args.length<=1000){q:List AV}{m:Nat}(i:q=ws.map aN)(v:m=ws.length)(U:aj A H (tS 3 1 q m true p::(fT g f o r n s++us))){K:KT}(x:∀a(b:Bool),(b=true↔ua g es ws)->aj A a (fT g f o r n s++us)->K (.bool b) a):YN ac N1 [.az o 0,l,p] H K:=by subst i;subst v;exact adX T V t c hb hs k7 d u h (aj.gF (xs:=[_]) U) λa b j k=>x a b j (aj.kO (xs:=[_]) k).tail
theorem adZ(T:Tb ac)(V:FV g n)(J:G.Sm g)(x:0<g.al.length)(hb:dV 7 kj A g.al f){s:List Bool}(hs:s.length=n){es:List G.Edge}{L:AV}(k7:dV 2 sa A es L)(ag:es.length<=1000)(c:∀e∈es,e.args.length<=1000)(U:aj A H (fT g f o r n s++us)){K:KT}(l:∀M ws(b:Bool),(b=true↔sq g es)->aj A M (fT g f o r n s++ws++us)->K (.bool b) M):YN ac XG [.az o 0,L] H K:=by
 have⟨av,_,_,aw⟩:=k7.all;have⟨ax,_,_,ay⟩:=hb.all;have a0:=J.nb;refine YF.code T.acP aB ?_;refine au ?_;refine Ru.cond (λh=>?_) (λh=>?_);·refine au ?_;exact Ru.aV (l _ [] false ⟨λh=>(by cases h),λ⟨a,e1,e2,he,_⟩=>absurd (by rw[he];rfl) h⟩ (by simpa using U))
 have hl:es.length=3:=by simpa using h
 obtain⟨a,e1,e2,rfl⟩:∃a e1 e2,es=[a,e1,e2]:=by match es,hl with|[a,e1,e2],_=>exact⟨a,e1,e2,rfl⟩
 have no:∀{p:Prop},¬p->(sq g [a,e1,e2]->p)->(false=true↔sq g [a,e1,e2]):=λh1 h2=>⟨λh=>(by cases h),λh=>absurd (h2 h) h1⟩;have kq:sq g [a,e1,e2]->wN g a 0/\wN g e1 1/\(a.args=[]/\e1.args=[]/\e2.args=[])/\(1<=e2.block/\e2.block<g.al.length)/\0<(g.al.getD e2.block.toNat default).params.length:=λ⟨f0,f1,f2,he,h⟩=>by injection he with Y he;injection he with N he;injection he with Z he;subst Y;subst N;subst Z;exact h
 refine au ?_;refine RO.cZ U.gr k7 (λq1 o1 c1 a1 d a2 hat hrd=>?_) (hj:=by simp);have d:sa A e2 c1:=d;have R:=d.one;obtain⟨O,rfl,y⟩:=d;have⟨a3,_,_,a4⟩:=y.all;refine bD ?_;refine RO.fx U (λH2 P U=>?_);refine bD ?_;refine RO.V8 k7 (λa5 j=>?_) (b:=2) (hb:=by simp);have⟨S,_,_,W⟩:=j.all;refine RO.lf U 1 (λH6 q6 U=>?_);refine RO.cl (AS T V J x hb hs j aB (ws:=[0,1]) bA (λe he=>c e (List.mem_of_mem_take he)) rfl rfl (U.cM (akO _ akj.symm)) λH7 Q u U=>?_);have u:Q=true↔wN g a 0/\wN g e1 1:=u.trans ⟨λh=>⟨h.ok 0 aB,h.ok 1 aB⟩,λh=>⟨rfl,λk hk=>by match k,hk with|0,_=>exact h.1|1,_=>exact h.2⟩⟩;have U:=aj.wy U;have i:∀w,aj A w (tB yj P [aI e2.block,O]::(fT g f o r n s++us))->aj A w (fT g f o r n s++[tB yj P [aI e2.block,O]]++us):=λw h=>by rw[aj2];exact aj.gF (xs:=[_]) h
 cases Q with
 |false=>refine ah ?_;exact Ru.aV (l _ [_] false (no (p:=wN g a 0/\wN g e1 1) (λh=>by have:=u.2 h;cases this) λh=>⟨(kq h).1,(kq h).2.1⟩) (i _ U))
 |true=>
  obtain⟨h0,h1⟩:=u.1 rfl;refine au ?_;refine RO.cZ U.gr k7 (λq3 o3 c3 a6 z a8 hat hrd=>?_) (hj:=by simp);obtain⟨v0,rfl,B⟩:=z;have⟨a9,_,_,m⟩:=B.all;have m:lenOf v0=some a.args.length:=m;refine bD ?_;refine RO.cZ U.gr k7 (λq4 o4 c4 a' C ba hat hrd=>?_) (hj:=by simp);obtain⟨v1,rfl,D⟩:=C;have⟨bb,_,_,q⟩:=D.all;have q:lenOf v1=some e1.args.length:=q;have bc:=c a aB;have bd:=c e1 aB;have X:=c e2 aB;refine ah ?_;refine RO.de (λh3=>?_) (λh3=>?_);rotate_left;·refine ah ?_;refine Ru.aV (l _ [_] false (no h3 λh=>?_) (i _ U));obtain⟨x0,x1,x2⟩:=(kq h).2.2.1;rw[x0,x1,x2];rfl
  have h3:a.args=[]/\e1.args=[]/\e2.args=[]:=by
   try simp only[aj5]at h3
   exact⟨akM af,akM af,akM af⟩
  refine ah ?_;refine RO.arith (v:=aN (g.al.length - 1)) ?_ (hv:=px af af);refine ah ?_;refine RO.cl (IY T (a:=1) (b:=(g.al.length - 1:Nat)) (n:=e2.block) ?_);by_cases hj:(1:Int)<=e2.block/\e2.block<=((g.al.length - 1:Nat):Int);rotate_left;·rw[decide_eq_false hj];refine ah ?_;exact Ru.aV (l _ [_] false (no hj λh=>by have:=(kq h).2.2.2.1;omega) (i _ U))
  rw[decide_eq_true hj];obtain⟨b2,N⟩:=e2;have hj:(1:Int)<=b2/\b2<=((g.al.length - 1:Nat):Int):=hj;obtain⟨k,rfl⟩:∃k:Nat,b2=(k:Int):=⟨b2.toNat,af⟩;have E:k<g.al.length:=af;have t:(g.al.getD ((k:Int)).toNat default)=g.al[k]:=by rw[aj3,bF E]
  refine ah ?_;refine RO.cZ U.gr hb λq5 o5 c5 bv F b0 hat hrd=>?_;obtain⟨vp,vs,jc,rfl,I,_,_⟩:=F;have⟨b3,_,_,b4⟩:=I.all;refine ah ?_;refine Ru.aV (l _ [_] _ ⟨λhp=>⟨_,_,_,rfl,h0,h1,h3,⟨hj.1,by show(k:Int)<g.al.length;omega⟩,?_⟩,λh=>?_⟩ (i _ U));·show 0<(g.al.getD ((k:Int)).toNat default).params.length;rw[t];exact of_decide_eq_true hp
  have v:=(kq h).2.2.2.2;refine decide_eq_true ?_;have v:0<(g.al.getD ((k:Int)).toNat default).params.length:=v;rw[t]at v;exact v
theorem ad0(T:Tb ac)(V:FV g n)(hB:G.Sm g)(W:0<g.al.length)(hb:dV 7 kj A g.al f){s:List Bool}(hs:s.length=n){j:G.lD}{cs:List AV}(hj:tw A j cs)(z:∀c∈j.b9,c<256)(hl:j.args.length<=1000/\j.go.length<=1000/\j.b9.length<=1000)(X:∀e∈j.go,e.args.length<=1000)(U:aj A H (fT g f o r n s++us)){K:KT}(x:∀H' ws(b:Bool),(b=true↔tl g j)->aj A H' (fT g f o r n s++ws++us)->K (.bool b) H'):YN ac XF [.az o 0,.agg cs] H K:=by
 have aw:=hj.one;obtain⟨N,O,P,rfl,Y,I,J⟩:=hj;have⟨ax,_,_,ay⟩:=Y.all;have⟨a0,_,_,a1⟩:=I.all;have⟨a2,_,_,a3⟩:=J.all;have a4:=O9 (l:=j.b9);have no:∀{p:Prop},¬p->(tl g j->p)->(false=true↔tl g j):=λh1 h2=>⟨λh=>(by cases h),λh=>absurd (h2 h) h1⟩;refine YF.code T.acO aB ?_;refine au ?_;refine RO.dL U λH1 q U=>?_;refine au ?_;have U:=U.py 3 1;refine au ?_;refine RO.gU U 1 ?_;refine au ?_;have m:∀y k C,aj A y (tS 3 1 (((j.b9.take k).map vr).map aN) k true C::tB tx q [aU j.op,N,.str j.name,O,P]::(fT g f o r n s++us))->aj A y (fT g f o r n s++[tB tx q [aU j.op,N,.str j.name,O,P]]++us):=λy k C h=>by rw[aj2];exact aj.gF (xs:=[_]) h.tail
 refine Ru.nm λS M hS hM=>?_;refine Ru.cC hM (up (P:=λk=>∀y C a,a+mH (j.b9.drop k)=mH j.b9->(∀i(h:i<j.b9.length),i<k->1<=j.b9[i]/\j.b9[i]<=3/\(j.b9[i]=3->i+1=j.b9.length))->aj A y (tS 3 1 (((j.b9.take k).map vr).map aN) k true C::tB tx q [aU j.op,N,.str j.name,O,P]::(fT g f o r n s++us))->Ru ac _ S ([(p5,C),(p6,aN a),(aX,aN k)]++pk M [p0,p3,aR,aY]) y) j.b9.length (λk a5 Q y C a d hq U=>?_) 0 af _ _ 0 aB (λi _ hi=>by omega) U);subst hS;subst hM;have B:=(U.sl 0).bB;refine Ru.loop ?_;refine au ?_;refine Ru.cond (λt=>?_) (λt=>?_)
 .have z:=z _ (agB t);have D:tl g j->1<=j.b9[k]/\j.b9[k]<=3/\(j.b9[k]=3->k+1=j.b9.length):=λh=>h.kd k t;have av:=d;rw[aj9 t]at d;simp only[mH]at d;have v:(1<=j.b9[k]/\j.b9[k]<=3/\(j.b9[k]=3->k+1=j.b9.length))->∀i(h:i<j.b9.length),i<k+1->1<=j.b9[i]/\j.b9[i]<=3/\(j.b9[i]=3->i+1=j.b9.length):=λhb i hi h=>by
   by_cases e:i=k;·subst e;exact hb
   exact hq i hi af
  refine au ?_;refine RO.lg U.gr I λq1 o1 a6 Z=>?_;have l:((j.b9.take (k+1)).map vr).map aN=((j.b9.take k).map vr).map aN++[aN (vr j.b9[k])]:=by rw[List.take_add_one,getElem?_pos j.b9 k t];simp only[Option.toList_some,akE,aj7,ali]
  have aA:∀R,R=a+(3 - j.b9[k])->R+mH (j.b9.drop (k+1))=mH j.b9:=λR e=>by omega
  generalize a8:j.b9[k]=E at D v z Z l aA⊢;rcases akW 3 E with h3|h3
  .refine ah ?_;refine RO.de (λh=>?_) (λh=>?_);·refine ah ?_;exact Ru.aV (x _ [_] false (no (λh=>by omega) λh=>(D h).2.1) (m _ _ _ U))
   refine ah ?_;refine RO.de (λh=>?_) (λh=>absurd h3 h);refine ah ?_;exact Ru.aV (x _ [_] false (no (λh=>by omega) λh=>(D h).2.1) (m _ _ _ U))
  have L:E=0\/E=1\/E=2\/E=3:=af;rcases L with rfl|rfl|rfl|rfl;·refine ah ?_;exact Ru.aV (x _ [_] false (no (p:=1<=0) (λh=>by omega) λh=>(D h).1) (m _ _ _ U))
  .refine ah ?_;refine RO.push U 0 (λw F u U=>?_);have B:=(U.sl 0).bB;refine ah ?_;exact Ru.wk (Q (k+1) af af F u (a+2) (aA _ rfl) (v ⟨af,af,λh=>(by cases h)⟩) (by rw[l];exact U))
  .refine ah ?_;refine RO.push U 0 (λw F u U=>?_);have B:=(U.sl 0).bB;refine ah ?_;exact Ru.wk (Q (k+1) af af F u (a+1) (aA _ rfl) (v ⟨af,af,λh=>(by cases h)⟩) (by rw[l];exact U))
  refine ah ?_;refine RO.arith (v:=aN (j.b9.length - 1)) ?_ (hv:=px af af);refine ah ?_;refine Ru.cond (λ(h:k<j.b9.length - 1)=>?_) (λh=>?_);·refine ah ?_;exact Ru.aV (x _ [_] false (no (p:=k+1=j.b9.length) af λh=>(D h).2.2 rfl) (m _ _ _ U))
  have h:¬k<j.b9.length - 1:=h;refine ah ?_;refine RO.push U 0 (λw F u U=>?_);have B:=(U.sl 0).bB;refine ah ?_;exact Ru.wk (Q (k+1) af af F u a (aA _ rfl) (v ⟨af,af,λ_=>by omega⟩) (by rw[l];exact U))
 have ag:k=j.b9.length:=af;subst ag;rw[List.drop_length]at d;simp only[mH,alG]at d;refine Ru.exitTo ?_;refine ah ?_;refine RO.cl (IY T (a:=1) (b:=4) (n:=j.b9.length) ?_);by_cases h1:(1:Int)<=j.b9.length/\(j.b9.length:Int)<=4;rotate_left;·rw[decide_eq_false h1];refine ah ?_;exact Ru.aV (x _ [_] false (no h1 λh=>by have h8:=h.lo;have h9:=h.hi;omega) (m _ _ _ U))
 rw[decide_eq_true h1];refine ah ?_;refine RO.de (λh2=>?_) (λh2=>?_);rotate_left;·refine ah ?_;exact Ru.aV (x _ [_] false (no h2 λh=>by have:=h.ar;omega) (m _ _ _ U))
 rw[ak7]at U;refine ah ?_;refine RO.cl (AS T V hB W hb hs J af (ws:=j.b9.map vr) (λw hw=>?_) X rfl aB (U.cM (akO _ akj.symm)) λH7 b7 h7 U=>?_);·obtain⟨k,_,rfl⟩:=akk.1 hw;unfold vr;split<;>omega
 refine ah ?_;exact Ru.aV (x _ [_] _ ⟨λh=>⟨λi hi=>hq i hi hi,af,af,af,h7.1 h⟩,λh=>h7.2 h.ed⟩ (by simpa using U))
end
end
end
end Go.am.R
end
