/- A part of the proof. No conditions. -/
import Derived.Test.YtjhkgigolpfcfaaGreatDoorA11
set_option linter.all false
set_option maxHeartbeats 16000000
open List renaming replicate->ahr,length_drop->alC
open Nat renaming le_of_ble_eq_true->akc
open List.Perm renaming cons->akO
noncomputable section
namespace Go.am.R
section
variable{ac:Nat->aG}
section
theorem adY.LO{g:G.bu}{j:G.lD}(c:adY g j)(e:j.op=61):j.args.length=0/\ua g j.go [0]:=by cases c with|go _ a b=>exact⟨a,b⟩|_=>omega
theorem adY.LV{g:G.bu}{j:G.lD}(c:adY g j)(e:j.op=62):j.args.length=1/\ua g j.go [0,0]:=by cases c with|Cz _ a b=>exact⟨a,b⟩|_=>omega
theorem adY.C0{g:G.bu}{j:G.lD}(i:adY g j)(e:j.op=63):j.args.length=1/\su j.name/\ua g j.go [0,0]:=by cases i with|is _ a b c=>exact⟨a,b,c⟩|_=>omega
theorem adY.L0{g:G.bu}{j:G.lD}(c:adY g j)(e:j.op=65):j.args.length=1/\ua g j.go [1,0]:=by cases c with|gE _ a b=>exact⟨a,b⟩|_=>omega
theorem adY.ZB{g:G.bu}{j:G.lD}(b:adY g j)(e:j.op=66):tl g j:=by cases b with|AR _ a=>exact a|_=>omega
theorem adY.L1{g:G.bu}{j:G.lD}(c:adY g j)(e:j.op=67):j.args.length=0/\sq g j.go:=by cases c with|CB _ a b=>exact⟨a,b⟩|_=>omega
theorem adY.L2{g:G.bu}{j:G.lD}(c:adY g j)(e:j.op=68):0<j.args.length/\j.go.length=0:=by cases c with|CC _ a b=>exact⟨a,b⟩|_=>omega
theorem adY.yC{g:G.bu}{j:G.lD}(c:adY g j)(e:j.op=69\/j.op=21):j.args.length=1/\j.go.length=0:=by cases c with|ret _ a b=>exact⟨a,b⟩|_=>omega
theorem adY.L3{g:G.bu}{j:G.lD}(c:adY g j)(e:j.op=70):j.args.length=0/\j.go.length=0:=by cases c with|stuck _ a b=>exact⟨a,b⟩|_=>omega
theorem adY.aC{g:G.bu}{j:G.lD}(a:adY g j):j.op=61\/j.op=62\/j.op=63\/j.op=65\/j.op=66\/j.op=67\/j.op=68\/j.op=69\/j.op=21\/j.op=70:=by cases a<;>omega
section
variable{g:G.bu}{d:AV}{f h:ab}{n:Nat}{A H:ai}{us:List Th}
theorem ad1(T:Tb ac)(V:FV g n)(y:G.Sm g)(r:0<g.al.length)(hb:dV 7 kj A g.al d){s:List Bool}(hs:s.length=n){j:G.lD}{cs:List AV}(hj:tw A j cs)(L:∀c∈j.name,c<256)(M:∀c∈j.b9,c<256)(hl:j.args.length<=1000/\j.go.length<=1000/\j.b9.length<=1000/\j.name.length<=1000)(t:∀e∈j.go,e.args.length<=1000)(U:aj A H (fT g d f h n s++us)){K:KT}(m:∀H' ws(b:Bool),(b=true↔I6 g j)->aj A H' (fT g d f h n s++ws++us)->K (.bool b) H'):YN ac Xu [.az f 0,.agg cs] H K:=by
 have ax:=hj.one;have N:=hj;obtain⟨va,vk,vg,rfl,B,O,u⟩:=hj;have⟨ay,_,_,a0⟩:=B.all;have⟨a1,_,_,a2⟩:=O.all;have⟨a3,_,_,a4⟩:=u.all;obtain⟨P,Q,R,a5⟩:=hl;have no:∀{p:Prop},¬p->(I6 g j->p)->(false=true↔I6 g j):=λh1 h2=>⟨λa6=>(by cases a6),λa6=>absurd (h2 a6) h1⟩;refine YF.code T.acs aB ?_;refine au ?_;refine RO.dL U λH1 q U=>?_;refine bD ?_;refine RO.cl (EU T V hs B af (aj.gF (xs:=[_]) U) λH5 ws b1 h1 U=>?_);have U:=aj.kO (xs:=[_]) U.skip;have a:∀F,aj A F (tB tx q [aU j.op,va,.str j.name,vk,vg]::(fT g d f h n s++us))->aj A F (fT g d f h n s++[tB tx q [aU j.op,va,.str j.name,vk,vg]]++us):=λF a6=>by rw[aj2];exact aj.gF (xs:=[_]) a6
 cases b1 with
 |false=>refine bD ?_;exact Ru.aV (m _ [_] false (no (λa6=>by have:=h1.2 a6;cases this) λa6=>a6.pF) (a _ U))
 |true=>
  have h1:=h1.1 rfl;refine au ?_;refine RO.gU U 0 ?_;refine au ?_;refine RO.gU U 0 ?_;refine RO.tm ?_;refine RO.Eh ?_;refine RO.tm ?_;refine RO.eq (t:=decide (j.op=63)==decide (j.name≠ [])) ?_ (ht:=rfl);refine bD ?_;refine RO.tq (λh2=>?_) (λh2=>?_);·refine bD ?_;exact Ru.aV (m _ [_] false (no (p:=j.op=63↔j.name≠ []) (λa6=>by by_cases e1:j.op=63<;>by_cases e2:j.name=[]<;>simp[e1,e2]at h2 a6) λa6=>a6.name) (a _ U))
  have h2:j.op=63↔j.name≠ []:=by by_cases e1:j.op=63<;>by_cases e2:j.name=[]<;>simp[e1,e2]at h2⊢
  refine bD ?_;refine RO.de (λ(a6:j.op≠66)=>?_) (λ(a6:¬j.op≠66)=>?_);rotate_left;·have w:j.op=66:=Classical.not_not.1 a6;refine bD ?_;refine Ru.kN (λl=>absurd (show j.op=61 from of_decide_eq_true l) af) (λ_=>?_);refine bD ?_;refine Ru.kN (λl=>absurd (show j.op=62 from of_decide_eq_true l) af) (λ_=>?_);refine bD ?_;refine Ru.kN (λl=>absurd (show j.op=63 from of_decide_eq_true l) af) (λ_=>?_);refine bD ?_;refine Ru.kN (λl=>absurd (show j.op=65 from of_decide_eq_true l) af) (λ_=>?_);refine bD ?_;refine Ru.kN (λ_=>?_) (λl=>absurd w (of_decide_eq_false l));refine bD ?_;refine RO.eQ U 0 ?_;refine RO.cl (ad0 T V y r hb hs N M ⟨P,Q,R⟩ t (aj.gF (xs:=[_]) U) λz x v o U=>?_);refine bD ?_;exact Ru.aV (m _ (x++[_]) v ⟨λa6=>⟨h1,h2,λa6=>absurd w a6,.AR w (o.1 a6)⟩,λa6=>o.2 (a6.aA.ZB w)⟩ (by simpa using U))
  refine bD ?_;refine Ru.cond (λh3=>?_) (λh3=>?_);·refine bD ?_;exact Ru.aV (m _ [_] false (no (p:=j.b9=[]) (λe=>by simp[e]at h3) λI=>I.b9 a6) (a _ U))
  have h3:j.op≠66->j.b9=[]:=λ_=>akM af;refine bD ?_;refine Ru.kN (λl=>?_) (λS=>?_)
  .have i:j.op=61:=of_decide_eq_true l;refine bD ?_;refine RO.de (λk=>?_) (λk=>?_);rotate_left;·refine bD ?_;exact Ru.aV (m _ [_] false (no k λa6=>(a6.aA.LO i).1) (a _ U))
   refine bD ?_;refine RO.lf U 1 (λD J U=>?_);refine bD ?_;refine RO.cl (AS T V y r hb hs u af (ws:=[0]) bA t rfl rfl (U.cM (akO _ akj.symm)) λz v o U=>?_);refine bD ?_;exact Ru.aV (m _ [_] v ⟨λa6=>⟨h1,h2,h3,.go i k (o.1 a6)⟩,λa6=>o.2 (a6.aA.LO i).2⟩ (by simpa using U))
  refine bD ?_;refine Ru.kN (λl=>?_) (λW=>?_)
  .have i:j.op=62:=of_decide_eq_true l;refine bD ?_;refine RO.de (λk=>?_) (λk=>?_);rotate_left;·refine bD ?_;exact Ru.aV (m _ [_] false (no k λa6=>(a6.aA.LV i).1) (a _ U))
   refine bD ?_;refine RO.lf U 1 (λD J U=>?_);refine bD ?_;refine RO.cl (AS T V y r hb hs u af (ws:=[0,0]) bA t rfl rfl (U.cM (akO _ akj.symm)) λz v o U=>?_);refine bD ?_;exact Ru.aV (m _ [_] v ⟨λa6=>⟨h1,h2,h3,.Cz i k (o.1 a6)⟩,λa6=>o.2 (a6.aA.LV i).2⟩ (by simpa using U))
  refine bD ?_;refine Ru.kN (λl=>?_) (λX=>?_)
  .have i:j.op=63:=of_decide_eq_true l;refine bD ?_;refine RO.de (λk=>?_) (λk=>?_);rotate_left;·refine bD ?_;exact Ru.aV (m _ [_] false (no k λa6=>(a6.aA.C0 i).1) (a _ U))
   refine bD ?_;refine RO.cl (IZ T L af λD hg=>?_);have U:=U.cI hg;by_cases E:su j.name;rotate_left;·rw[decide_eq_false E];refine bD ?_;exact Ru.aV (m _ [_] false (no E λa6=>(a6.aA.C0 i).2.1) (a _ U))
   rw[decide_eq_true E];refine bD ?_;refine RO.lf U 1 (λD J U=>?_);refine bD ?_;refine RO.cl (AS T V y r hb hs u af (ws:=[0,0]) bA t rfl rfl (U.cM (akO _ akj.symm)) λz v o U=>?_);refine bD ?_;exact Ru.aV (m _ [_] v ⟨λa6=>⟨h1,h2,h3,.is i k E (o.1 a6)⟩,λa6=>o.2 (a6.aA.C0 i).2.2⟩ (by simpa using U))
  refine bD ?_;refine Ru.kN (λl=>?_) (λY=>?_)
  .have i:j.op=65:=of_decide_eq_true l;refine bD ?_;refine RO.de (λk=>?_) (λk=>?_);rotate_left;·refine bD ?_;exact Ru.aV (m _ [_] false (no k λa6=>(a6.aA.L0 i).1) (a _ U))
   refine bD ?_;refine RO.lf U 1 (λD J U=>?_);refine bD ?_;refine RO.cl (AS T V y r hb hs u af (ws:=[1,0]) bA t rfl rfl (U.cM (akO _ akj.symm)) λz v o U=>?_);refine bD ?_;exact Ru.aV (m _ [_] v ⟨λa6=>⟨h1,h2,h3,.gE i k (o.1 a6)⟩,λa6=>o.2 (a6.aA.L0 i).2⟩ (by simpa using U))
  refine bD ?_;refine Ru.kN (λl=>absurd (show j.op=66 from of_decide_eq_true l) a6) (λw=>?_);refine bD ?_;refine Ru.kN (λl=>?_) (λZ=>?_)
  .have i:j.op=67:=of_decide_eq_true l;refine bD ?_;refine RO.de (λk=>?_) (λk=>?_);rotate_left;·refine bD ?_;exact Ru.aV (m _ [_] false (no k λa6=>(a6.aA.L1 i).1) (a _ U))
   refine bD ?_;refine RO.cl (adZ T V y r hb hs u af t (aj.gF (xs:=[_]) U) λz x v o U=>?_);refine bD ?_;exact Ru.aV (m _ (x++[_]) v ⟨λa6=>⟨h1,h2,h3,.CB i k (o.1 a6)⟩,λa6=>o.2 (a6.aA.L1 i).2⟩ (by simpa using U))
  refine bD ?_;refine Ru.kN (λl=>?_) (λag=>?_)
  .have i:j.op=68:=of_decide_eq_true l;refine bD ?_;refine RO.de (λk=>?_) (λk=>?_);rotate_left;·refine bD ?_;exact Ru.aV (m _ [_] false (no k λa6=>(a6.aA.L2 i).1) (a _ U))
   refine bD ?_;refine Ru.aV (m _ [_] _ ⟨λhg=>⟨h1,h2,h3,.CC i k (of_decide_eq_true hg)⟩,λa6=>decide_eq_true (a6.aA.L2 i).2⟩ (a _ U))
  refine bD ?_;refine Ru.kN (λl=>?_) (λC=>?_)
  .have i:j.op=69\/j.op=21:=.inl (of_decide_eq_true l);rw[l];refine bD ?_;refine RO.de (λk=>?_) (λk=>?_);rotate_left;·refine bD ?_;exact Ru.aV (m _ [_] false (no k λa6=>(a6.aA.yC i).1) (a _ U))
   refine bD ?_;refine Ru.aV (m _ [_] _ ⟨λhg=>⟨h1,h2,h3,.ret i k (of_decide_eq_true hg)⟩,λa6=>decide_eq_true (a6.aA.yC i).2⟩ (a _ U))
  rw[C];refine bD ?_;refine Ru.kN (λl=>?_) (λav=>?_)
  .have i:j.op=69\/j.op=21:=.inr (of_decide_eq_true l);refine bD ?_;refine RO.de (λk=>?_) (λk=>?_);rotate_left;·refine bD ?_;exact Ru.aV (m _ [_] false (no k λa6=>(a6.aA.yC i).1) (a _ U))
   refine bD ?_;refine Ru.aV (m _ [_] _ ⟨λhg=>⟨h1,h2,h3,.ret i k (of_decide_eq_true hg)⟩,λa6=>decide_eq_true (a6.aA.yC i).2⟩ (a _ U))
  refine bD ?_;refine Ru.kN (λl=>?_) (λaw=>?_)
  .have i:j.op=70:=of_decide_eq_true l;refine bD ?_;refine RO.de (λk=>?_) (λk=>?_);rotate_left;·refine bD ?_;exact Ru.aV (m _ [_] false (no k λa6=>(a6.aA.L3 i).1) (a _ U))
   refine bD ?_;refine Ru.aV (m _ [_] _ ⟨λhg=>⟨h1,h2,h3,.stuck i k (of_decide_eq_true hg)⟩,λa6=>decide_eq_true (a6.aA.L3 i).2⟩ (a _ U))
  refine bD ?_;refine Ru.aV (m _ [_] false (no (p:=False) id λI=>?_) (a _ U));have h8:=I.aA.aC;simp only[decide_eq_false_iff_not]at S W X Y Z ag C av aw;omega
end
end
section
open Classical in noncomputable def ey(g:G.bu)(s:List Bool)(b:G.gV):Bool×List Bool:=((gW (m8 g) s b.params).1&&(gW (stepG g) (gW (m8 g) s b.params).2 b.aD).1&&decide (I6 g b.aA),(gW (stepG g) (gW (m8 g) s b.params).2 b.aD).2)
structure I7(g:G.bu):Prop where
 name:su g.name
 p0:0<=g.params
 p1:g.params<=g.bp
 ne:0<g.al.length
 first:(g.al.getD 0 default).params=[]
 run:(gW (ey g) (ahr g.bp.toNat false) g.al).1=true
 all:∀k(h:k<(gW (ey g) (ahr g.bp.toNat false) g.al).2.length),g.params<=k->(gW (ey g) (ahr g.bp.toNat false) g.al).2[k]=true
structure CQ(g:G.bu):Prop where
 nm:∀c∈g.name,c<256
 st:∀b∈g.al,∀s∈b.aD,∀c∈s.name,c<256
 fn:∀b∈g.al,∀c∈b.aA.name,c<256
 kd:∀b∈g.al,∀c∈b.aA.b9,c<256
section
variable{g:G.bu}{f:AV}{d i:ab}{n:Nat}{A H:ai}{us:List Th}
theorem ZC(g:G.bu)(s:List Bool)(v:Int):(m8 g s v).2.length=s.length:=by unfold m8;split<;>(try split)<;>simp
theorem ZD(g:G.bu)(s:List Bool)(x:G.ic):(stepG g s x).2.length=s.length:=by
 unfold stepG;split
 .split
  .split;·exact ZC g s _
   rfl
  rfl
 rfl
theorem ad5(T:Tb ac)(V:FV g n)(a:List G.ic)(hb:∀x∈a,∀c∈x.name,c<256)(hl:∀x∈a,x.args.length<=1000/\x.name.length<=1000):ri ac A (.func Iy [.az d 0] []) qT true (fT g f d i n) (λs=>s.length=n) (stepG g) a:=by rintro s x cs H us h j l U;obtain⟨m,o⟩:=hl x h;have:=adV (K:=λv k=>v=.bool (stepG g s x).1/\(stepG g s x).2.length=n/\∃b,aj A k (fT g f d i n (stepG g s x).2++b++us)) T V j l (hb x h) af af U λk b e=>⟨rfl,by rw[ZD];exact j,b,e⟩;exact this
theorem ad6(T:Tb ac){H:ai}{b:Bool}{K:KT}(a:K (.bool b) H):YN ac Iz [.bool b] H K:=by refine YF.code T.acu aB ?_;refine au ?_;exact Ru.aV a
def I8:ai->Bool->List AV->Prop:=λ_ v cs=>cs=[.bool v]
theorem ad7(T:Tb ac){H:ai}{b:List Bool}{g:AV}(l:Sl H 1 (b.map .bool) b.length g)(hl:b.length<=1000000){K:KT}(m:∀c,bm H c->K (.bool (b.all λv=>v)) c):YN ac Xv [g,.func Iz [] []] H K:=by
 have n:ri ac H (.func Iz [] []) I8 false (λ_:Unit=>[]) (λ_=>True) (λs v=>(v,s)) b:=by rintro s a cs c us _ _ rfl U;exact ad6 T ⟨rfl,trivial,[],by simpa using U⟩
 have e:gW (λ(s:Unit)(v:Bool)=>(v,s)) () b=(b.all λv=>v,()):=Cr (p:=λv=>v);have o:dV 1 I8 H b g:=⟨_,l,λk p=>by rw[alt,aj9 (by simpa using p)];simp[I8]⟩;refine Ct T.act bA T.acQ bA T.ac3 (size:=1) (agg:=false) bA (λ_=>rfl) (T:=λ_:Unit=>[]) (s:=()) (us:=[]) rfl rfl rfl (IX T.acR bA rfl (λa cs h=>by cases h;rfl) n) (λa cs h=>by cases h;rfl) o hl trivial (aj.dc H) λc q _ j=>?_;rw[e];exact m c j.gr
theorem ad8(T:Tb ac)(V:FV g n){s:List Bool}(hs:s.length=n){b:List G.ic}{l:AV}(m:dV 6 qT A b l)(hl:b.length<=1000000)(hb:∀x∈b,∀c∈x.name,c<256)(j:∀x∈b,x.args.length<=1000/\x.name.length<=1000)(U:aj A H (fT g f d i n s++us)){K:KT}(o:∀e,(gW (stepG g) s b).2.length=n->aj A e (fT g f d i n (gW (stepG g) s b).2++us)->K (.bool (gW (stepG g) s b).1) e):YN ac Xt [l,.func Iy [.az d 0] []] H K:=by refine Ct T.acq bA T.acJ bA T.acX (size:=6) (agg:=true) bA (λh=>by cases h) rfl rfl rfl (OE T.acK bA rfl (λa cs h=>⟨by obtain⟨v,rfl,_⟩:=h;rfl,h.one⟩) (ad5 T V b hb j)) (λa cs h=>rfl) m hl hs U λe q p k=>o e p k.skip
theorem ad9(T:Tb ac)(V:FV g n){s:List Bool}(hs:s.length=n){b:List Int}{j:AV}(k:fZ A b j)(hl:b.length<=1000000)(U:aj A H (fT g f d i n s++us)){K:KT}(l:∀c,(gW (m8 g) s b).2.length=n->aj A c (fT g f d i n (gW (m8 g) s b).2++us)->K (.bool (gW (m8 g) s b).1) c):YN ac NZ [j,.func Ix [.az d 0] []] H K:=by refine Ct T.Oy bA T.IT bA T.IU (size:=1) (agg:=false) bA (λ_=>rfl) rfl rfl rfl (IX T.Oz bA rfl (λa cs h=>by cases h;rfl) (adS T V b)) (λa cs h=>by cases h;rfl) (fZ.r k) hl hs U λc o m e=>l c m e.skip
theorem ZE{c b:Type}{st:b->c->Bool×b}{a:List c}{s:b}{k:Nat}(e:k<a.length){r:Bool×b}(h:gW st s (a.drop k)=r):((st s a[k]).1=true->gW st (st s a[k]).2 (a.drop (k+1))=r)/\((st s a[k]).1=false->r.1=false):=by
 rw[aj9 e]at h;simp only[gW]at h;constructor;·intro h1;rw[aK h1]at h;exact h
 intro h1;rw[aq (by rw[h1];simp)]at h;rw[<-h]
theorem aeb(T:Tb ac){H:ai}(B:G.Sm g)(Q:CQ g)(Z:g.name.length<=1000000)(ag:g.bp<=6000){cs:List AV}(hg:iG H g cs){K:KT}(u:∀H'(b:Bool),bm H H'->(b=true↔I7 g)->K (.bool b) H'):YN ac Xk [.agg cs] H K:=by
 have O:=hg.one;obtain⟨f,rfl,cA⟩:=hg;have⟨hd,_,_,hn⟩:=cA.all;have a2:=B.nb;have no:∀{p:Prop},¬p->(I7 g->p)->(false=true↔I7 g):=λh1 h2=>⟨λh=>(by cases h),λh=>absurd (h2 h) h1⟩;refine YF.code T.acb aB ?_;refine au ?_;refine RO.dL (aj.dc H) λH1 q U=>?_;refine bD ?_;refine RO.cl (IZ T Q.nm Z λH2 hg=>?_);have U:=U.cI hg;by_cases W:su g.name;rotate_left;·rw[decide_eq_false W];refine ah ?_;exact Ru.aV (u _ false U.gr (no W λh=>h.name))
 rw[decide_eq_true W];refine ah ?_;refine RO.cl (IY T (a:=0) (b:=g.bp) (n:=g.params) ?_);by_cases y:0<=g.params/\g.params<=g.bp;rotate_left;·rw[decide_eq_false y];refine ah ?_;exact Ru.aV (u _ false U.gr (no y λh=>⟨h.p0,h.p1⟩))
 rw[decide_eq_true y];refine ah ?_;refine RO.de (λ(h:g.al.length=0)=>?_) (λc=>?_);·refine ah ?_;exact Ru.aV (u _ false U.gr (no (p:=0<g.al.length) af λh=>h.ne))
 have c:0<g.al.length:=af;refine ah ?_;refine RO.cZ U.gr cA (λq1 o1 c1 hj j av hat hrd=>?_) (hj:=c);obtain⟨vp,vs,jc,rfl,l,_,_⟩:=j;have⟨aw,_,_,ax⟩:=l.all;refine ah ?_;refine Ru.cond (λo=>?_) (λo=>?_);·refine ah ?_;exact Ru.aV (u _ false U.gr (no (p:=g.al[0].params=[]) (λe=>by simp[e]at o) λh=>by have:=h.first;rwa[bF c]at this))
 have o:(g.al.getD 0 default).params=[]:=by rw[bF c];exact akM af
 obtain⟨n,r⟩:∃n:Nat,g.bp.toNat=n:=⟨_,rfl⟩;have V:FV g n:=⟨y.1,y.2,ag,af⟩;have v3:(n:Int)=g.bp:=af;have kq:I7 g->(gW (ey g) (ahr n false) g.al).1=true:=λh=>by have:=h.run;rwa[r]at this
 have w:I7 g->∀k(h:k<(gW (ey g) (ahr n false) g.al).2.length),g.params<=k->(gW (ey g) (ahr n false) g.al).2[k]=true:=λh=>by have:=h.all;rwa[r]at this
 have mk:(gW (ey g) (ahr n false) g.al).1=true->(∀k(h:k<(gW (ey g) (ahr n false) g.al).2.length),g.params<=k->(gW (ey g) (ahr n false) g.al).2[k]=true)->I7 g:=λh1 h2=>⟨W,y.1,y.2,c,o,by rw[r];exact h1,by rw[r];exact h2⟩;refine ah ?_;refine RO.eQ U 0 ?_;refine ah ?_;refine RO.oT U (n:=n) (λH3 i U=>?_) (hx:=by show aI g.bp=_;rw[<-v3];rfl) (hy:=by show aI g.bp=_;rw[<-v3];rfl) (hz:=by rw[iZ];simp);have er:fO [AV.bool false] n=(ahr n false).map .bool:=by rw[iZ,alz]
 rw[er]at U;refine ah ?_;refine RO.dL U (λH4 d U=>?_) (v:=.agg [.str g.name,aI g.params,aI g.bp,f,.slice i 0 n n true]);refine ah ?_;generalize hR:gW (ey g) (ahr n false) g.al=R at kq w mk;refine Ru.nm λS M hS hM=>?_;refine Ru.cC hM (up (P:=λk=>∀X s,gW (ey g) s (g.al.drop k)=R->s.length=n->aj H X (fT g f d i n s++[tB fI q [.str g.name,aI g.params,aI g.bp,f]])->Ru ac _ S ([(da,aN k)]++pk M [p1,p3,dw,dg]) X) g.al.length (λk C ih X s hs D U=>?_) 0 af _ (ahr n false) (by rw[List.drop_zero];exact hR) aB U);subst hS;subst hM;refine Ru.loop ?_;refine au ?_;refine Ru.cond (λz=>?_) (λz=>?_);·obtain⟨E,eh⟩:=ZE z hs;have v:=agB z;have a3:=B.bl _ v;have pM:(ey g s g.al[k]).1=false->(false=true↔I7 g):=λh=>no (p:=R.1=true) (by rw[eh h];simp) kq;simp only[ey]at E pM;refine au ?_;refine RO.cZ U.gr cA (λq1 o1 c1 hj F av hat hrd=>?_);have O:=F.one;obtain⟨vp,vs,jc,rfl,l,I,J⟩:=F;have P:=J;obtain⟨va,vk,vg,rfl,a4,a5,a6⟩:=J;have⟨aw,_,_,ax⟩:=l.all;have⟨ay,_,_,a8⟩:=I.all;refine bD ?_;refine RO.fx U (λH5 q5 U=>?_);refine bD ?_;refine RO.cl (ad9 T V D l af (aj.gF (xs:=[_]) U) λH6 a0 U=>?_);have U:=aj.kO (xs:=[_]) U;generalize gW (m8 g) s g.al[k].params=r1 at*;cases j:r1.1 with|false=>refine bD ?_;exact Ru.aV (u _ false U.gr (pM (by simp[j])))|true=>refine bD ?_;refine RO.cl (ad8 T V a0 I af (Q.st _ v) (λx hx=>by have:=B.st _ v x hx;omega) (aj.gF (xs:=[_]) U) λH7 L U=>?_);have U:=aj.kO (xs:=[_]) U;generalize gW (stepG g) r1.2 g.al[k].aD=r2 at*;cases A:r2.1 with|false=>refine bD ?_;exact Ru.aV (u _ false U.gr (pM (by simp[A])))|true=>refine bD ?_;refine RO.eQ U 0 ?_;refine RO.tm ?_;refine RO.cl (ad1 T V B c cA L P (Q.fn _ v) (Q.kd _ v) ⟨af,af,af,af⟩ (λe he=>by have:=B.ed _ v e he;omega) (aj.gF (xs:=[_]) U) λH8 ws b3 h3 U=>?_);have U:=(aj.kO (xs:=[_]) U.skip).tail;cases b3 with|false=>refine bD ?_;exact Ru.aV (u _ false U.gr (pM (by simp only[j,A,Bool.true_and,decide_eq_false_iff_not];exact λh=>by have:=h3.2 h;cases this)))|true=>refine bD ?_;exact Ru.wk (ih (k+1) af af _ _ (E (by simp only[j,A,Bool.true_and,decide_eq_true_eq];exact h3.1 rfl)) L U)
 have a1:k=g.al.length:=af;subst a1;rw[List.drop_length]at hs;simp only[gW]at hs;subst hs;refine Ru.exitTo ?_;refine ah ?_;obtain⟨m,v⟩:∃m:Nat,g.params=(m:Int):=⟨g.params.toNat,af⟩;refine RO.V7 (U.sl 1) (λsv t=>?_) (b:=m) (hy:=by show aI g.params=_;rw[v];rfl);have ay:=t.bB;have t:Sl X 1 ((s.drop m).map .bool) (s.drop m).length sv:=by rw[alC,D,List.map_drop];simpa using t
 refine RO.cl (ad7 T t (by rw[alC];omega) λH9 hg=>?_);refine ah ?_;refine Ru.aV (u _ _ (U.gr.trans hg) ⟨λh=>mk rfl λk C a9=>?_,λh=>?_⟩)
 .rw[aln]at h;have C:k<s.length:=C;have N:k - m<(s.drop m).length:=by rw[alC];omega
  have Y:=h ((s.drop m)[k - m]'N) (agB N);rw[List.getElem_drop]at Y;have e:m+(k - m)=k:=af;simp only[e]at Y;exact Y
 rw[aln];intro a ha;obtain⟨k,C,rfl⟩:=aka ha;rw[List.getElem_drop];rw[alC]at C;exact w h (m+k) (by show m+k<s.length;omega) af
end
end
end
end Go.am.R
end
