/- A part. No conditions. -/
import Derived.Test.YtpplokbfajnjhaaGreatDoorA11
set_option linter.all false
set_option maxHeartbeats 16000000
open List renaming replicate->acJ
open List.Perm renaming cons->aiP
noncomputable section
namespace Go.al.R
section
variable{ab:Nat->aV}
section
theorem jB.Ly{g:G.aP}{j:G.fB}(c:jB g j)(e:j.op=61):j.args.length=0/\lS g j.go [0]:=by cases c with|go _ a b=>exact⟨a,b⟩|_=>omega
theorem jB.Lz{g:G.aP}{j:G.fB}(c:jB g j)(e:j.op=62):j.args.length=1/\lS g j.go [0,0]:=by cases c with|tu _ a b=>exact⟨a,b⟩|_=>omega
theorem jB.Fx{g:G.aP}{j:G.fB}(i:jB g j)(e:j.op=63):j.args.length=1/\jR j.name/\lS g j.go [0,0]:=by cases i with|is _ a b c=>exact⟨a,b,c⟩|_=>omega
theorem jB.LA{g:G.aP}{j:G.fB}(c:jB g j)(e:j.op=65):j.args.length=1/\lS g j.go [1,0]:=by cases c with|ef _ a b=>exact⟨a,b⟩|_=>omega
theorem jB.i66{g:G.aP}{j:G.fB}(b:jB g j)(e:j.op=66):xE g j:=by cases b with|og _ a=>exact a|_=>omega
theorem jB.LB{g:G.aP}{j:G.fB}(c:jB g j)(e:j.op=67):j.args.length=0/\uV g j.go:=by cases c with|tw _ a b=>exact⟨a,b⟩|_=>omega
theorem jB.LC{g:G.aP}{j:G.fB}(c:jB g j)(e:j.op=68):0<j.args.length/\j.go.length=0:=by cases c with|pu _ a b=>exact⟨a,b⟩|_=>omega
theorem jB.B8{g:G.aP}{j:G.fB}(c:jB g j)(e:j.op=69\/j.op=21):j.args.length=1/\j.go.length=0:=by cases c with|ret _ a b=>exact⟨a,b⟩|_=>omega
theorem jB.LD{g:G.aP}{j:G.fB}(c:jB g j)(e:j.op=70):j.args.length=0/\j.go.length=0:=by cases c with|stuck _ a b=>exact⟨a,b⟩|_=>omega
theorem jB.aB{g:G.aP}{j:G.fB}(a:jB g j):j.op=61\/j.op=62\/j.op=63\/j.op=65\/j.op=66\/j.op=67\/j.op=68\/j.op=69\/j.op=21\/j.op=70:=by cases a<;>omega
section
variable{g:G.aP}{d:AV}{f h:ah}{n:Nat}{A H:ai}{us:List Th}
theorem abQ(T:Tb ab)(V:FV g n)(y:G.Sm g)(r:0<g.aj.length)(hb:cQ 7 iP A g.aj d){s:List Bool}(hs:s.length=n){j:G.fB}{cs:List AV}(hj:nX A j cs)(L:∀c∈j.name,c<256)(M:∀c∈j.bw,c<256)(hl:j.args.length<=1000/\j.go.length<=1000/\j.bw.length<=1000/\j.name.length<=1000)(t:∀e∈j.go,e.args.length<=1000)(U:ak A H (fT g d f h n s++us)){K:KT}(m:∀H' ws(b:Bool),(b=true↔zL g j)->ak A H' (fT g d f h n s++ws++us)->K (.bool b) H'):YN ab X9 [.aD f 0,.agg cs] H K:=by
 have ax:=hj.one;have N:=hj;obtain⟨va,vk,vg,rfl,B,O,u⟩:=hj;have⟨ay,_,_,a1⟩:=B.all;have⟨a2,_,_,a6⟩:=O.all;have⟨a8,_,_,a'⟩:=u.all;obtain⟨P,Q,R,ba⟩:=hl;have no:∀{p:Prop},¬p->(zL g j->p)->(false=true↔zL g j):=λh1 h2=>⟨λbb=>(by cases bb),λbb=>absurd (h2 bb) h1⟩;refine YF.code T.aal aC (au ?_);refine RO.ct U λH1 q U=>?_;refine aX ?_;refine RO.cl (B7 T V hs B aa (ak.dR (xs:=[_]) U) λH5 ws b1 h1 U=>?_);have U:=ak.jP (xs:=[_]) U.skip;have a:∀F,ak A F (tB mi q [aU j.op,va,.str j.name,vk,vg]::(fT g d f h n s++us))->ak A F (fT g d f h n s++[tB mi q [aU j.op,va,.str j.name,vk,vg]]++us):=λF bb=>by rw[ahD];exact ak.dR (xs:=[_]) bb
 cases b1 with
 |false=>refine aX ?_;exact Ru.aL (m _ [_] false (no (λbb=>by have:=h1.2 bb;cases this) λbb=>bb.iS) (a _ U))
 |true=>
  have h1:=h1.1 rfl;refine au ?_;refine RO.eD U 0 ?_;refine au ?_;refine RO.eD U 0 ?_;refine RO.rF ?_;refine RO.BF ?_;refine RO.rF ?_;refine RO.eq (t:=decide (j.op=63)==decide (j.name≠ [])) ?_ (ht:=rfl);refine aX ?_;refine RO.pj (λh2=>?_) (λh2=>?_);·refine aX ?_;exact Ru.aL (m _ [_] false (no (p:=j.op=63↔j.name≠ []) (λbb=>by by_cases e1:j.op=63<;>by_cases e2:j.name=[]<;>simp[e1,e2]at h2 bb) λbb=>bb.name) (a _ U))
  have h2:j.op=63↔j.name≠ []:=by by_cases e1:j.op=63<;>by_cases e2:j.name=[]<;>simp[e1,e2]at h2⊢
  refine aX ?_;refine RO.bW (λ(bb:j.op≠66)=>?_) (λ(bb:¬j.op≠66)=>?_);rotate_left;·have w:j.op=66:=ajj.1 bb;refine aX ?_;refine Ru.eC (λl=>absurd (show j.op=61 from of_decide_eq_true l) aa) (λ_=>aX ?_);refine Ru.eC (λl=>absurd (show j.op=62 from of_decide_eq_true l) aa) (λ_=>aX ?_);refine Ru.eC (λl=>absurd (show j.op=63 from of_decide_eq_true l) aa) (λ_=>aX ?_);refine Ru.eC (λl=>absurd (show j.op=65 from of_decide_eq_true l) aa) (λ_=>aX ?_);refine Ru.eC (λ_=>aX ?_) (λl=>absurd w (of_decide_eq_false l));refine RO.co U 0 ?_;refine RO.cl (abO T V y r hb hs N M ⟨P,Q,R⟩ t (ak.dR (xs:=[_]) U) λz x v o U=>?_);refine aX ?_;exact Ru.aL (m _ (x++[_]) v ⟨λbb=>⟨h1,h2,λbb=>absurd w bb,.og w (o.1 bb)⟩,λbb=>o.2 (bb.aq.i66 w)⟩ (by simpa using U))
  refine aX ?_;refine Ru.cond (λh3=>?_) (λh3=>?_);·refine aX ?_;exact Ru.aL (m _ [_] false (no (p:=j.bw=[]) (λe=>by simp[e]at h3) λI=>I.bw bb) (a _ U))
  have h3:j.op≠66->j.bw=[]:=λ_=>aih aa;refine aX ?_;refine Ru.eC (λl=>?_) (λS=>?_)
  .have i:j.op=61:=of_decide_eq_true l;refine aX ?_;refine RO.bW (λk=>?_) (λk=>?_);rotate_left;·refine aX ?_;exact Ru.aL (m _ [_] false (no k λbb=>(bb.aq.Ly i).1) (a _ U))
   refine aX ?_;refine RO.i6 U 1 (λD J U=>aX ?_);refine RO.cl (xF T V y r hb hs u aa (ws:=[0]) bx t rfl rfl (U.bV (aiP _ aii.symm)) λz v o U=>aX ?_);exact Ru.aL (m _ [_] v ⟨λbb=>⟨h1,h2,h3,.go i k (o.1 bb)⟩,λbb=>o.2 (bb.aq.Ly i).2⟩ (by simpa using U))
  refine aX ?_;refine Ru.eC (λl=>?_) (λW=>?_)
  .have i:j.op=62:=of_decide_eq_true l;refine aX ?_;refine RO.bW (λk=>?_) (λk=>?_);rotate_left;·refine aX ?_;exact Ru.aL (m _ [_] false (no k λbb=>(bb.aq.Lz i).1) (a _ U))
   refine aX ?_;refine RO.i6 U 1 (λD J U=>aX ?_);refine RO.cl (xF T V y r hb hs u aa (ws:=[0,0]) bx t rfl rfl (U.bV (aiP _ aii.symm)) λz v o U=>aX ?_);exact Ru.aL (m _ [_] v ⟨λbb=>⟨h1,h2,h3,.tu i k (o.1 bb)⟩,λbb=>o.2 (bb.aq.Lz i).2⟩ (by simpa using U))
  refine aX ?_;refine Ru.eC (λl=>?_) (λX=>?_)
  .have i:j.op=63:=of_decide_eq_true l;refine aX ?_;refine RO.bW (λk=>?_) (λk=>?_);rotate_left;·refine aX ?_;exact Ru.aL (m _ [_] false (no k λbb=>(bb.aq.Fx i).1) (a _ U))
   refine aX ?_;refine RO.cl (Fq T L aa λD hg=>?_);have U:=U.bR hg;by_cases E:jR j.name;rotate_left;·rw[decide_eq_false E];refine aX ?_;exact Ru.aL (m _ [_] false (no E λbb=>(bb.aq.Fx i).2.1) (a _ U))
   rw[decide_eq_true E];refine aX ?_;refine RO.i6 U 1 (λD J U=>aX ?_);refine RO.cl (xF T V y r hb hs u aa (ws:=[0,0]) bx t rfl rfl (U.bV (aiP _ aii.symm)) λz v o U=>aX ?_);exact Ru.aL (m _ [_] v ⟨λbb=>⟨h1,h2,h3,.is i k E (o.1 bb)⟩,λbb=>o.2 (bb.aq.Fx i).2.2⟩ (by simpa using U))
  refine aX ?_;refine Ru.eC (λl=>?_) (λY=>?_)
  .have i:j.op=65:=of_decide_eq_true l;refine aX ?_;refine RO.bW (λk=>?_) (λk=>?_);rotate_left;·refine aX ?_;exact Ru.aL (m _ [_] false (no k λbb=>(bb.aq.LA i).1) (a _ U))
   refine aX ?_;refine RO.i6 U 1 (λD J U=>aX ?_);refine RO.cl (xF T V y r hb hs u aa (ws:=[1,0]) bx t rfl rfl (U.bV (aiP _ aii.symm)) λz v o U=>aX ?_);exact Ru.aL (m _ [_] v ⟨λbb=>⟨h1,h2,h3,.ef i k (o.1 bb)⟩,λbb=>o.2 (bb.aq.LA i).2⟩ (by simpa using U))
  refine aX ?_;refine Ru.eC (λl=>absurd (show j.op=66 from of_decide_eq_true l) bb) (λw=>aX ?_);refine Ru.eC (λl=>?_) (λZ=>?_)
  .have i:j.op=67:=of_decide_eq_true l;refine aX ?_;refine RO.bW (λk=>?_) (λk=>?_);rotate_left;·refine aX ?_;exact Ru.aL (m _ [_] false (no k λbb=>(bb.aq.LB i).1) (a _ U))
   refine aX ?_;refine RO.cl (abN T V y r hb hs u aa t (ak.dR (xs:=[_]) U) λz x v o U=>aX ?_);exact Ru.aL (m _ (x++[_]) v ⟨λbb=>⟨h1,h2,h3,.tw i k (o.1 bb)⟩,λbb=>o.2 (bb.aq.LB i).2⟩ (by simpa using U))
  refine aX ?_;refine Ru.eC (λl=>?_) (λag=>?_)
  .have i:j.op=68:=of_decide_eq_true l;refine aX ?_;refine RO.bW (λk=>?_) (λk=>?_);rotate_left;·refine aX ?_;exact Ru.aL (m _ [_] false (no k λbb=>(bb.aq.LC i).1) (a _ U))
   refine aX ?_;refine Ru.aL (m _ [_] _ ⟨λhg=>⟨h1,h2,h3,.pu i k (of_decide_eq_true hg)⟩,λbb=>decide_eq_true (bb.aq.LC i).2⟩ (a _ U))
  refine aX ?_;refine Ru.eC (λl=>?_) (λC=>?_)
  .have i:j.op=69\/j.op=21:=.inl (of_decide_eq_true l);rw[l];refine aX ?_;refine RO.bW (λk=>?_) (λk=>?_);rotate_left;·refine aX ?_;exact Ru.aL (m _ [_] false (no k λbb=>(bb.aq.B8 i).1) (a _ U))
   refine aX ?_;refine Ru.aL (m _ [_] _ ⟨λhg=>⟨h1,h2,h3,.ret i k (of_decide_eq_true hg)⟩,λbb=>decide_eq_true (bb.aq.B8 i).2⟩ (a _ U))
  rw[C];refine aX ?_;refine Ru.eC (λl=>?_) (λav=>?_)
  .have i:j.op=69\/j.op=21:=.inr (of_decide_eq_true l);refine aX ?_;refine RO.bW (λk=>?_) (λk=>?_);rotate_left;·refine aX ?_;exact Ru.aL (m _ [_] false (no k λbb=>(bb.aq.B8 i).1) (a _ U))
   refine aX ?_;refine Ru.aL (m _ [_] _ ⟨λhg=>⟨h1,h2,h3,.ret i k (of_decide_eq_true hg)⟩,λbb=>decide_eq_true (bb.aq.B8 i).2⟩ (a _ U))
  refine aX ?_;refine Ru.eC (λl=>?_) (λaw=>?_)
  .have i:j.op=70:=of_decide_eq_true l;refine aX ?_;refine RO.bW (λk=>?_) (λk=>?_);rotate_left;·refine aX ?_;exact Ru.aL (m _ [_] false (no k λbb=>(bb.aq.LD i).1) (a _ U))
   refine aX ?_;refine Ru.aL (m _ [_] _ ⟨λhg=>⟨h1,h2,h3,.stuck i k (of_decide_eq_true hg)⟩,λbb=>decide_eq_true (bb.aq.LD i).2⟩ (a _ U))
  refine aX ?_;refine Ru.aL (m _ [_] false (no (p:=False) id λI=>?_) (a _ U));have h8:=I.aq.aB;simp only[decide_eq_false_iff_not]at S W X Y Z ag C av aw;omega
end
end
section
open Classical in noncomputable def kL(g:G.aP)(s:List Bool)(b:G.dK):Bool×List Bool:=((dO (iR g) s b.params).1&&(dO (stepG g) (dO (iR g) s b.params).2 b.aA).1&&decide (zL g b.aq),(dO (stepG g) (dO (iR g) s b.params).2 b.aA).2)
structure tx(g:G.aP):Prop where
 name:jR g.name
 p0:0<=g.params
 p1:g.params<=g.aQ
 ne:0<g.aj.length
 first:(g.aj.getD 0 default).params=[]
 run:(dO (kL g) (acJ g.aQ.toNat false) g.aj).1=true
 all:∀k(h:k<(dO (kL g) (acJ g.aQ.toNat false) g.aj).2.length),g.params<=k->(dO (kL g) (acJ g.aQ.toNat false) g.aj).2[k]=true
structure lT(g:G.aP):Prop where
 nm:∀c∈g.name,c<256
 st:∀b∈g.aj,∀s∈b.aA,∀c∈s.name,c<256
 fn:∀b∈g.aj,∀c∈b.aq.name,c<256
 kd:∀b∈g.aj,∀c∈b.aq.bw,c<256
section
variable{g:G.aP}{f:AV}{d i:ah}{n:Nat}{A H:ai}{us:List Th}
theorem abR(g:G.aP)(s:List Bool)(v:Int):(iR g s v).2.length=s.length:=by unfold iR;split<;>(try split)<;>simp
theorem abS(g:G.aP)(s:List Bool)(x:G.ee):(stepG g s x).2.length=s.length:=by
 unfold stepG;split
 .split
  .split;·exact abR g s _
   rfl
  rfl
 rfl
theorem abT(T:Tb ab)(V:FV g n)(a:List G.ee)(hb:∀x∈a,∀c∈x.name,c<256)(hl:∀x∈a,x.args.length<=1000/\x.name.length<=1000):n9 ab A (.func Fe [.aD d 0] []) nW true (fT g f d i n) (λs=>s.length=n) (stepG g) a:=by rintro s x cs H us h j k U;have⟨l,m⟩:=hl x h;have:=abK (K:=λv H'=>v=.bool (stepG g s x).1/\(stepG g s x).2.length=n/\∃b,ak A H' (fT g f d i n (stepG g s x).2++b++us)) T V j k (hb x h) aa aa U λH' b e=>⟨rfl,by rw[abS];exact j,b,e⟩;exact this
theorem abU(T:Tb ab){H:ai}{b:Bool}{K:KT}(a:K (.bool b) H):YN ab Ff [.bool b] H K:=by refine YF.code T.aan aC (au ?_);exact Ru.aL a
def Fy:ai->Bool->List AV->Prop:=λ_ v cs=>cs=[.bool v]
theorem abV(T:Tb ab){H:ai}{b:List Bool}{c:AV}(j:Sl H 1 (b.map .bool) b.length c)(hl:b.length<=1000000){K:KT}(l:∀H',aS H H'->K (.bool (b.all λv=>v)) H'):YN ab X' [c,.func Ff [] []] H K:=by
 have m:n9 ab H (.func Ff [] []) Fy false (λ_:Unit=>[]) (λ_=>True) (λs v=>(v,s)) b:=by rintro s a cs H' us _ _ rfl U;exact abU T ⟨rfl,trivial,[],by simpa using U⟩
 have e:dO (λ(s:Unit)(v:Bool)=>(v,s)) () b=(b.all λv=>v,()):=Fu (p:=λv=>v);have n:cQ 1 Fy H b c:=⟨_,j,λk o=>by rw[ajo,ah6 (by simpa using o)];simp[Fy]⟩;refine zC T.aam bx T.aaJ bx T.aaV (size:=1) (agg:=false) bx (λ_=>rfl) (T:=λ_:Unit=>[]) (s:=()) (us:=[]) rfl rfl rfl (Fm T.aaK bx rfl (λa cs h=>by cases h;rfl) m) (λa cs h=>by cases h;rfl) n hl trivial (ak.bN H) λH' p _ g=>?_;rw[e];exact l H' g.gr
theorem abW(T:Tb ab)(V:FV g n){s:List Bool}(hs:s.length=n){b:List G.ee}{k:AV}(l:cQ 6 nW A b k)(hl:b.length<=1000000)(hb:∀x∈b,∀c∈x.name,c<256)(e:∀x∈b,x.args.length<=1000/\x.name.length<=1000)(U:ak A H (fT g f d i n s++us)){K:KT}(m:∀H',(dO (stepG g) s b).2.length=n->ak A H' (fT g f d i n (dO (stepG g) s b).2++us)->K (.bool (dO (stepG g) s b).1) H'):YN ab X8 [k,.func Fe [.aD d 0] []] H K:=by refine zC T.aaj bx T.aaC bx T.aaQ (size:=6) (agg:=true) bx (λh=>by cases h) rfl rfl rfl (Lo T.aaD bx rfl (λa cs h=>⟨by obtain⟨v,rfl,_⟩:=h;rfl,h.one⟩) (abT T V b hb e)) (λa cs h=>rfl) l hl hs U λH' p o j=>m H' o j.skip
theorem abX(T:Tb ab)(V:FV g n){s:List Bool}(hs:s.length=n){b:List Int}{e:AV}(j:eE A b e)(hl:b.length<=1000000)(U:ak A H (fT g f d i n s++us)){K:KT}(k:∀H',(dO (iR g) s b).2.length=n->ak A H' (fT g f d i n (dO (iR g) s b).2++us)->K (.bool (dO (iR g) s b).1) H'):YN ab KU [e,.func Fc [.aD d 0] []] H K:=by refine zC T.Lg bx T.Fi bx T.Fj (size:=1) (agg:=false) bx (λ_=>rfl) rfl rfl rfl (Fm T.Lh bx rfl (λa cs h=>by cases h;rfl) (abI T V b)) (λa cs h=>by cases h;rfl) (eE.r j) hl hs U λH' m l c=>k H' l c.skip
theorem abY{c b:Type}{st:b->c->Bool×b}{a:List c}{s:b}{k:Nat}(e:k<a.length){r:Bool×b}(h:dO st s (a.drop k)=r):((st s a[k]).1=true->dO st (st s a[k]).2 (a.drop (k+1))=r)/\((st s a[k]).1=false->r.1=false):=by
 rw[ah6 e]at h;simp only[dO]at h;constructor;·intro h1;rw[aG h1]at h;exact h
 intro h1;rw[an (by rw[h1];simp)]at h;rw[<-h]
theorem abZ(T:Tb ab){H:ai}(B:G.Sm g)(Q:lT g)(Z:g.name.length<=1000000)(ag:g.aQ<=6000){cs:List AV}(hg:dt H g cs){K:KT}(u:∀H'(b:Bool),aS H H'->(b=true↔tx g)->K (.bool b) H'):YN ab XT [.agg cs] H K:=by
 have O:=hg.one;obtain⟨f,rfl,bG⟩:=hg;have⟨hd,_,_,hn⟩:=bG.all;have a6:=B.nb;have no:∀{p:Prop},¬p->(tx g->p)->(false=true↔tx g):=λh1 h2=>⟨λh=>(by cases h),λh=>absurd (h2 h) h1⟩;refine YF.code T.Z8 aC (au ?_);refine RO.ct (ak.bN H) λH1 q U=>?_;refine aX ?_;refine RO.cl (Fq T Q.nm Z λH2 hg=>?_);have U:=U.bR hg;by_cases W:jR g.name;rotate_left;·rw[decide_eq_false W];refine af ?_;exact Ru.aL (u _ false U.gr (no W λh=>h.name))
 rw[decide_eq_true W];refine af ?_;refine RO.cl (rT T (a:=0) (b:=g.aQ) (n:=g.params) ?_);by_cases y:0<=g.params/\g.params<=g.aQ;rotate_left;·rw[decide_eq_false y];refine af ?_;exact Ru.aL (u _ false U.gr (no y λh=>⟨h.p0,h.p1⟩))
 rw[decide_eq_true y];refine af ?_;refine RO.bW (λ(h:g.aj.length=0)=>?_) (λc=>?_);·refine af ?_;exact Ru.aL (u _ false U.gr (no (p:=0<g.aj.length) aa λh=>h.ne))
 have c:0<g.aj.length:=aa;refine af ?_;refine RO.bO U.gr bG (λq1 o1 c1 hj j av hat hrd=>?_) (hj:=c);obtain⟨vp,vs,jc,rfl,l,_,_⟩:=j;have⟨aw,_,_,ax⟩:=l.all;refine af ?_;refine Ru.cond (λo=>?_) (λo=>?_);·refine af ?_;exact Ru.aL (u _ false U.gr (no (p:=g.aj[0].params=[]) (λe=>by simp[e]at o) λh=>by have:=h.first;rwa[bf c]at this))
 have o:(g.aj.getD 0 default).params=[]:=by rw[bf c];exact aih aa
 obtain⟨n,r⟩:∃n:Nat,g.aQ.toNat=n:=⟨_,rfl⟩;have V:FV g n:=⟨y.1,y.2,ag,aa⟩;have v3:(n:Int)=g.aQ:=aa;have fQ:tx g->(dO (kL g) (acJ n false) g.aj).1=true:=λh=>by have:=h.run;rwa[r]at this
 have w:tx g->∀k(h:k<(dO (kL g) (acJ n false) g.aj).2.length),g.params<=k->(dO (kL g) (acJ n false) g.aj).2[k]=true:=λh=>by have:=h.all;rwa[r]at this
 have mk:(dO (kL g) (acJ n false) g.aj).1=true->(∀k(h:k<(dO (kL g) (acJ n false) g.aj).2.length),g.params<=k->(dO (kL g) (acJ n false) g.aj).2[k]=true)->tx g:=λh1 h2=>⟨W,y.1,y.2,c,o,by rw[r];exact h1,by rw[r];exact h2⟩;refine af ?_;refine RO.co U 0 (af ?_);refine RO.jy U (n:=n) (λH3 i U=>?_) (hx:=by show aI g.aQ=_;rw[<-v3];rfl) (hy:=by show aI g.aQ=_;rw[<-v3];rfl) (hz:=by rw[eK];simp);have er:dY [AV.bool false] n=(acJ n false).map .bool:=by rw[eK,ajd]
 rw[er]at U;refine af ?_;refine RO.ct U (λH4 d U=>af ?_) (v:=.agg [.str g.name,aI g.params,aI g.aQ,f,.slice i 0 n n true]);generalize hR:dO (kL g) (acJ n false) g.aj=R at fQ w mk;refine Ru.nm λS M hS hM=>?_;refine Ru.bI hM (up (P:=λk=>∀X s,dO (kL g) s (g.aj.drop k)=R->s.length=n->ak H X (fT g f d i n s++[tB cJ q [.str g.name,aI g.params,aI g.aQ,f]])->Ru ab _ S ([(uN,aN k)]++pk M [p1,p3,uL,uM]) X) g.aj.length (λk C ih X s hs D U=>?_) 0 aa _ (acJ n false) (by rw[ajG];exact hR) aC U);subst hS;subst hM;refine Ru.loop (au ?_);refine Ru.cond (λz=>?_) (λz=>?_);·obtain⟨E,de⟩:=abY z hs;have v:=acm z;have a8:=B.bl _ v;have l6:(kL g s g.aj[k]).1=false->(false=true↔tx g):=λh=>no (p:=R.1=true) (by rw[de h];simp) fQ;simp only[kL]at E l6;refine au ?_;refine RO.bO U.gr bG (λq1 o1 c1 hj F av hat hrd=>?_);have O:=F.one;obtain⟨vp,vs,jc,rfl,l,I,J⟩:=F;have P:=J;obtain⟨va,vk,vg,rfl,a',ba,bb⟩:=J;have⟨aw,_,_,ax⟩:=l.all;have⟨ay,_,_,bc⟩:=I.all;refine aX ?_;refine RO.dS U (λH5 q5 U=>?_);refine aX ?_;refine RO.cl (abX T V D l aa (ak.dR (xs:=[_]) U) λH6 a1 U=>?_);have U:=ak.jP (xs:=[_]) U;generalize dO (iR g) s g.aj[k].params=r1 at*;cases j:r1.1 with|false=>refine aX ?_;exact Ru.aL (u _ false U.gr (l6 (by simp[j])))|true=>refine aX ?_;refine RO.cl (abW T V a1 I aa (Q.st _ v) (λx hx=>by have:=B.st _ v x hx;omega) (ak.dR (xs:=[_]) U) λH7 L U=>?_);have U:=ak.jP (xs:=[_]) U;generalize dO (stepG g) r1.2 g.aj[k].aA=r2 at*;cases A:r2.1 with|false=>refine aX ?_;exact Ru.aL (u _ false U.gr (l6 (by simp[A])))|true=>refine aX ?_;refine RO.co U 0 (RO.rF ?_);refine RO.cl (abQ T V B c bG L P (Q.fn _ v) (Q.kd _ v) ⟨aa,aa,aa,aa⟩ (λe he=>by have:=B.ed _ v e he;omega) (ak.dR (xs:=[_]) U) λH8 ws b3 h3 U=>?_);have U:=(ak.jP (xs:=[_]) U.skip).tail;cases b3 with|false=>refine aX ?_;exact Ru.aL (u _ false U.gr (l6 (by simp only[j,A,ajB,decide_eq_false_iff_not];exact λh=>by have:=h3.2 h;cases this)))|true=>refine aX ?_;exact Ru.wk (ih (k+1) aa aa _ _ (E (by simp only[j,A,ajB,decide_eq_true_eq];exact h3.1 rfl)) L U)
 have a2:k=g.aj.length:=aa;subst a2;rw[List.drop_length]at hs;simp only[dO]at hs;subst hs;refine Ru.exitTo ?_;refine af ?_;obtain⟨m,v⟩:∃m:Nat,g.params=(m:Int):=⟨g.params.toNat,aa⟩;refine RO.TV (U.sl 1) (λsv t=>?_) (b:=m) (hy:=by show aI g.params=_;rw[v];rfl);have ay:=t.br;have t:Sl X 1 ((s.drop m).map .bool) (s.drop m).length sv:=by rw[ajw,D,List.map_drop];simpa using t
 refine RO.cl (abV T t (by rw[ajw];omega) λH9 hg=>?_);refine af ?_;refine Ru.aL (u _ _ (U.gr.trans hg) ⟨λh=>mk rfl λk C bv=>?_,λh=>?_⟩)
 .rw[ai8]at h;have C:k<s.length:=C;have N:k - m<(s.drop m).length:=by rw[ajw];omega
  have Y:=h ((s.drop m)[k - m]'N) (acm N);rw[List.getElem_drop]at Y;have e:m+(k - m)=k:=aa;simp only[e]at Y;exact Y
 rw[ai8];intro a ha;obtain⟨k,C,rfl⟩:=ah0 ha;rw[List.getElem_drop];rw[ajw]at C;exact w h (m+k) (by show m+k<s.length;omega) aa
end
end
end
end Go.al.R
end
