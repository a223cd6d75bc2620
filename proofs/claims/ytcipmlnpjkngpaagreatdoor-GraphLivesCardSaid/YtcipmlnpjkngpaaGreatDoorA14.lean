/- A part. No conditions. -/
import Derived.Test.YtcipmlnpjkngpaaGreatDoorA13
set_option linter.all false
set_option maxHeartbeats 16000000
open List renaming replicate->aeo
open List.Perm renaming cons->afL
noncomputable section
namespace Go.ak.R
section
variable{ac:Nat->aX}
section
theorem i9.Ke{g:G.aY}{j:G.eV}(h:i9 g j)(e:j.op=61):j.args.length=0/\lg g j.go [0]:=by cases h with|go _ d f=>exact⟨d,f⟩|_=>omega
theorem i9.Kf{g:G.aY}{j:G.eV}(h:i9 g j)(e:j.op=62):j.args.length=1/\lg g j.go [0,0]:=by cases h with|rV _ d f=>exact⟨d,f⟩|_=>omega
theorem i9.Eo{g:G.aY}{j:G.eV}(h:i9 g j)(e:j.op=63):j.args.length=1/\jo j.i7/\lg g j.go [0,0]:=by cases h with|is _ d f i=>exact⟨d,f,i⟩|_=>omega
theorem i9.Kg{g:G.aY}{j:G.eV}(h:i9 g j)(e:j.op=65):j.args.length=1/\lg g j.go [1,0]:=by cases h with|eZ _ d f=>exact⟨d,f⟩|_=>omega
theorem i9.YA{g:G.aY}{j:G.eV}(h:i9 g j)(e:j.op=66):wy g j:=by cases h with|mR _ d=>exact d|_=>omega
theorem i9.Kh{g:G.aY}{j:G.eV}(h:i9 g j)(e:j.op=67):j.args.length=0/\tT g j.go:=by cases h with|rW _ d f=>exact⟨d,f⟩|_=>omega
theorem i9.Ki{g:G.aY}{j:G.eV}(h:i9 g j)(e:j.op=68):0<j.args.length/\j.go.length=0:=by cases h with|oh _ d f=>exact⟨d,f⟩|_=>omega
theorem i9.A6{g:G.aY}{j:G.eV}(h:i9 g j)(e:j.op=69\/j.op=21):j.args.length=1/\j.go.length=0:=by cases h with|ret _ d f=>exact⟨d,f⟩|_=>omega
theorem i9.Kj{g:G.aY}{j:G.eV}(h:i9 g j)(e:j.op=70):j.args.length=0/\j.go.length=0:=by cases h with|stuck _ d f=>exact⟨d,f⟩|_=>omega
theorem i9.aq{g:G.aY}{j:G.eV}(h:i9 g j):j.op=61\/j.op=62\/j.op=63\/j.op=65\/j.op=66\/j.op=67\/j.op=68\/j.op=69\/j.op=21\/j.op=70:=by cases h<;>omega
section
variable{g:G.aY}{a:AV}{b c:af}{n:Nat}{A H:ai}{us:List Th}
theorem YB(T:Tb ac)(V:FV g n)(w:G.Sm g)(m:0<g.aj.length)(hb:cK 7 i6 A g.aj a){s:List Bool}(hs:s.length=n){j:G.eV}{cs:List AV}(hj:mM A j cs)(L:∀bb∈j.i7,bb<256)(M:∀bb∈j.bp,bb<256)(hl:j.args.length<=1000/\j.go.length<=1000/\j.bp.length<=1000/\j.i7.length<=1000)(o:∀e∈j.go,e.args.length<=1000)(U:al A H (fT g a b c n s++us)){K:KT}(k:∀H' ws(bd:Bool),(bd=true↔yF g j)->al A H' (fT g a b c n s++ws++us)->K (.bool bd) H'):YN ac U8 [.aD b 0,.agg cs] H K:=by
 have ax:=hj.one;have N:=hj;obtain⟨va,vk,vg,rfl,y,O,r⟩:=hj;have⟨ay,_,_,a1⟩:=y.all;have⟨a2,_,_,a6⟩:=O.all;have⟨a8,_,_,a'⟩:=r.all;obtain⟨P,Q,R,ba⟩:=hl;have no:∀{p:Prop},¬p->(yF g j->p)->(false=true↔yF g j):=λh1 h2=>⟨λh=>(by cases h),λh=>absurd (h2 h) h1⟩;refine YF.code T.W0 aC ?_;refine au ?_;refine RO.cG U λH1 q U=>?_;refine aS ?_;refine RO.cl (A5 T V hs y ab (al.eC (xs:=[_]) U) λH5 ws b1 h1 U=>?_);have U:=al.jU (xs:=[_]) U.skip;have bQ:∀D,al A D (tB mf q [aU j.op,va,.str j.i7,vk,vg]::(fT g a b c n s++us))->al A D (fT g a b c n s++[tB mf q [aU j.op,va,.str j.i7,vk,vg]]++us):=λD h=>by rw[aeC];exact al.eC (xs:=[_]) h
 cases b1 with
 |false=>refine aS ?_;exact Ru.aP (k _ [_] false (no (λh=>by have:=h1.2 h;cases this) λh=>h.iy) (bQ _ U))
 |true=>
  have h1:=h1.1 rfl;refine au ?_;refine RO.gR U 0 ?_;refine au ?_;refine RO.gR U 0 ?_;refine RO.yj ?_;refine RO.I0 ?_;refine RO.yj ?_;refine RO.eq (t:=decide (j.op=63)==decide (j.i7≠ [])) ?_ (ht:=rfl);refine aS ?_;refine RO.nV (λh2=>?_) (λh2=>?_);·refine aS ?_;exact Ru.aP (k _ [_] false (no (p:=j.op=63↔j.i7≠ []) (λh=>by by_cases E:j.op=63<;>by_cases F:j.i7=[]<;>simp[E,F]at h2 h) λh=>h.i7) (bQ _ U))
  have h2:j.op=63↔j.i7≠ []:=by by_cases E:j.op=63<;>by_cases F:j.i7=[]<;>simp[E,F]at h2⊢
  refine aS ?_;refine RO.bT (λ(h:j.op≠66)=>?_) (λ(h:¬j.op≠66)=>?_);rotate_left;·have u:j.op=66:=afP.1 h;refine aS ?_;refine Ru.eh (λi=>absurd (show j.op=61 from of_decide_eq_true i) ab) (λ_=>?_);refine aS ?_;refine Ru.eh (λi=>absurd (show j.op=62 from of_decide_eq_true i) ab) (λ_=>?_);refine aS ?_;refine Ru.eh (λi=>absurd (show j.op=63 from of_decide_eq_true i) ab) (λ_=>?_);refine aS ?_;refine Ru.eh (λi=>absurd (show j.op=65 from of_decide_eq_true i) ab) (λ_=>?_);refine aS ?_;refine Ru.eh (λ_=>?_) (λi=>absurd u (of_decide_eq_false i));refine aS ?_;refine RO.cr U 0 ?_;refine RO.cl (Yz T V w m hb hs N M ⟨P,Q,R⟩ o (al.eC (xs:=[_]) U) λx v t l U=>?_);refine aS ?_;exact Ru.aP (k _ (v++[_]) t ⟨λh=>⟨h1,h2,λh=>absurd u h,.mR u (l.1 h)⟩,λh=>l.2 (h.aA.YA u)⟩ (by simpa using U))
  refine aS ?_;refine Ru.cond (λh3=>?_) (λh3=>?_);·refine aS ?_;exact Ru.aP (k _ [_] false (no (p:=j.bp=[]) (λe=>by simp[e]at h3) λI=>I.bp h) (bQ _ U))
  have h3:j.op≠66->j.bp=[]:=λ_=>aeQ ab;refine aS ?_;refine Ru.eh (λi=>?_) (λS=>?_)
  .have d:j.op=61:=of_decide_eq_true i;refine aS ?_;refine RO.bT (λf=>?_) (λf=>?_);rotate_left;·refine aS ?_;exact Ru.aP (k _ [_] false (no f λh=>(h.aA.Ke d).1) (bQ _ U))
   refine aS ?_;refine RO.j9 U 1 (λB J U=>?_);refine aS ?_;refine RO.cl (wz T V w m hb hs r ab (ws:=[0]) bK o rfl rfl (U.cH (afL _ afd.symm)) λx t l U=>?_);refine aS ?_;exact Ru.aP (k _ [_] t ⟨λh=>⟨h1,h2,h3,.go d f (l.1 h)⟩,λh=>l.2 (h.aA.Ke d).2⟩ (by simpa using U))
  refine aS ?_;refine Ru.eh (λi=>?_) (λW=>?_)
  .have d:j.op=62:=of_decide_eq_true i;refine aS ?_;refine RO.bT (λf=>?_) (λf=>?_);rotate_left;·refine aS ?_;exact Ru.aP (k _ [_] false (no f λh=>(h.aA.Kf d).1) (bQ _ U))
   refine aS ?_;refine RO.j9 U 1 (λB J U=>?_);refine aS ?_;refine RO.cl (wz T V w m hb hs r ab (ws:=[0,0]) bK o rfl rfl (U.cH (afL _ afd.symm)) λx t l U=>?_);refine aS ?_;exact Ru.aP (k _ [_] t ⟨λh=>⟨h1,h2,h3,.rV d f (l.1 h)⟩,λh=>l.2 (h.aA.Kf d).2⟩ (by simpa using U))
  refine aS ?_;refine Ru.eh (λi=>?_) (λX=>?_)
  .have d:j.op=63:=of_decide_eq_true i;refine aS ?_;refine RO.bT (λf=>?_) (λf=>?_);rotate_left;·refine aS ?_;exact Ru.aP (k _ [_] false (no f λh=>(h.aA.Eo d).1) (bQ _ U))
   refine aS ?_;refine RO.cl (Ek T L ab λB hg=>?_);have U:=U.bZ hg;by_cases C:jo j.i7;rotate_left;·rw[decide_eq_false C];refine aS ?_;exact Ru.aP (k _ [_] false (no C λh=>(h.aA.Eo d).2.1) (bQ _ U))
   rw[decide_eq_true C];refine aS ?_;refine RO.j9 U 1 (λB J U=>?_);refine aS ?_;refine RO.cl (wz T V w m hb hs r ab (ws:=[0,0]) bK o rfl rfl (U.cH (afL _ afd.symm)) λx t l U=>?_);refine aS ?_;exact Ru.aP (k _ [_] t ⟨λh=>⟨h1,h2,h3,.is d f C (l.1 h)⟩,λh=>l.2 (h.aA.Eo d).2.2⟩ (by simpa using U))
  refine aS ?_;refine Ru.eh (λi=>?_) (λY=>?_)
  .have d:j.op=65:=of_decide_eq_true i;refine aS ?_;refine RO.bT (λf=>?_) (λf=>?_);rotate_left;·refine aS ?_;exact Ru.aP (k _ [_] false (no f λh=>(h.aA.Kg d).1) (bQ _ U))
   refine aS ?_;refine RO.j9 U 1 (λB J U=>?_);refine aS ?_;refine RO.cl (wz T V w m hb hs r ab (ws:=[1,0]) bK o rfl rfl (U.cH (afL _ afd.symm)) λx t l U=>?_);refine aS ?_;exact Ru.aP (k _ [_] t ⟨λh=>⟨h1,h2,h3,.eZ d f (l.1 h)⟩,λh=>l.2 (h.aA.Kg d).2⟩ (by simpa using U))
  refine aS ?_;refine Ru.eh (λi=>absurd (show j.op=66 from of_decide_eq_true i) h) (λu=>?_);refine aS ?_;refine Ru.eh (λi=>?_) (λZ=>?_)
  .have d:j.op=67:=of_decide_eq_true i;refine aS ?_;refine RO.bT (λf=>?_) (λf=>?_);rotate_left;·refine aS ?_;exact Ru.aP (k _ [_] false (no f λh=>(h.aA.Kh d).1) (bQ _ U))
   refine aS ?_;refine RO.cl (Yy T V w m hb hs r ab o (al.eC (xs:=[_]) U) λx v t l U=>?_);refine aS ?_;exact Ru.aP (k _ (v++[_]) t ⟨λh=>⟨h1,h2,h3,.rW d f (l.1 h)⟩,λh=>l.2 (h.aA.Kh d).2⟩ (by simpa using U))
  refine aS ?_;refine Ru.eh (λi=>?_) (λag=>?_)
  .have d:j.op=68:=of_decide_eq_true i;refine aS ?_;refine RO.bT (λf=>?_) (λf=>?_);rotate_left;·refine aS ?_;exact Ru.aP (k _ [_] false (no f λh=>(h.aA.Ki d).1) (bQ _ U))
   refine aS ?_;refine Ru.aP (k _ [_] _ ⟨λhg=>⟨h1,h2,h3,.oh d f (of_decide_eq_true hg)⟩,λh=>decide_eq_true (h.aA.Ki d).2⟩ (bQ _ U))
  refine aS ?_;refine Ru.eh (λi=>?_) (λz=>?_)
  .have d:j.op=69\/j.op=21:=.inl (of_decide_eq_true i);rw[i];refine aS ?_;refine RO.bT (λf=>?_) (λf=>?_);rotate_left;·refine aS ?_;exact Ru.aP (k _ [_] false (no f λh=>(h.aA.A6 d).1) (bQ _ U))
   refine aS ?_;refine Ru.aP (k _ [_] _ ⟨λhg=>⟨h1,h2,h3,.ret d f (of_decide_eq_true hg)⟩,λh=>decide_eq_true (h.aA.A6 d).2⟩ (bQ _ U))
  rw[z];refine aS ?_;refine Ru.eh (λi=>?_) (λav=>?_)
  .have d:j.op=69\/j.op=21:=.inr (of_decide_eq_true i);refine aS ?_;refine RO.bT (λf=>?_) (λf=>?_);rotate_left;·refine aS ?_;exact Ru.aP (k _ [_] false (no f λh=>(h.aA.A6 d).1) (bQ _ U))
   refine aS ?_;refine Ru.aP (k _ [_] _ ⟨λhg=>⟨h1,h2,h3,.ret d f (of_decide_eq_true hg)⟩,λh=>decide_eq_true (h.aA.A6 d).2⟩ (bQ _ U))
  refine aS ?_;refine Ru.eh (λi=>?_) (λaw=>?_)
  .have d:j.op=70:=of_decide_eq_true i;refine aS ?_;refine RO.bT (λf=>?_) (λf=>?_);rotate_left;·refine aS ?_;exact Ru.aP (k _ [_] false (no f λh=>(h.aA.Kj d).1) (bQ _ U))
   refine aS ?_;refine Ru.aP (k _ [_] _ ⟨λhg=>⟨h1,h2,h3,.stuck d f (of_decide_eq_true hg)⟩,λh=>decide_eq_true (h.aA.Kj d).2⟩ (bQ _ U))
  refine aS ?_;refine Ru.aP (k _ [_] false (no (p:=False) id λI=>?_) (bQ _ U));have h8:=I.aA.aq;simp only[decide_eq_false_iff_not]at S W X Y Z ag z av aw;omega
end
end
section
open Classical in noncomputable def jV(g:G.aY)(s:List Bool)(b:G.dE):Bool×List Bool:=((dC (ix g) s b.i4).1&&(dC (stepG g) (dC (ix g) s b.i4).2 b.aL).1&&decide (yF g b.aA),(dC (stepG g) (dC (ix g) s b.i4).2 b.aL).2)
structure rX(g:G.aY):Prop where
 i7:jo g.i7
 p0:0<=g.i4
 p1:g.i4<=g.aW
 ne:0<g.aj.length
 first:(g.aj.getD 0 default).i4=[]
 run:(dC (jV g) (aeo g.aW.toNat false) g.aj).1=true
 all:∀k(h:k<(dC (jV g) (aeo g.aW.toNat false) g.aj).2.length),g.i4<=k->(dC (jV g) (aeo g.aW.toNat false) g.aj).2[k]=true
structure mh(g:G.aY):Prop where
 nm:∀c∈g.i7,c<256
 st:∀b∈g.aj,∀s∈b.aL,∀c∈s.i7,c<256
 fn:∀b∈g.aj,∀c∈b.aA.i7,c<256
 kd:∀b∈g.aj,∀c∈b.aA.bp,c<256
section
variable{g:G.aY}{e:AV}{d f:af}{n:Nat}{A H:ai}{us:List Th}
theorem YC(g:G.aY)(s:List Bool)(v:Int):(ix g s v).2.length=s.length:=by unfold ix;split<;>(try split)<;>simp
theorem YD(g:G.aY)(s:List Bool)(x:G.dI):(stepG g s x).2.length=s.length:=by
 unfold stepG;split
 .split
  .split;·exact YC g s _
   rfl
  rfl
 rfl
theorem YE(T:Tb ac)(V:FV g n)(a:List G.dI)(hb:∀x∈a,∀c∈x.i7,c<256)(hl:∀x∈a,x.args.length<=1000/\x.i7.length<=1000):mQ ac A (.func Ec [.aD d 0] []) nX true (fT g e d f n) (λs=>s.length=n) (stepG g) a:=by rintro s x cs H us i j l U;obtain⟨m,o⟩:=hl x i;have:=Yv (K:=λv k=>v=.bool (stepG g s x).1/\(stepG g s x).2.length=n/\∃b,al A k (fT g e d f n (stepG g s x).2++b++us)) T V j l (hb x i) ab ab U λk b h=>⟨rfl,by rw[YD];exact j,b,h⟩;exact this
theorem YG(T:Tb ac){H:ai}{b:Bool}{K:KT}(a:K (.bool b) H):YN ac Ed [.bool b] H K:=by refine YF.code T.W2 aC ?_;refine au ?_;exact Ru.aP a
def Ep:ai->Bool->List AV->Prop:=λ_ v cs=>cs=[.bool v]
theorem YH(T:Tb ac){H:ai}{b:List Bool}{i:AV}(l:Sl H 1 (b.map .bool) b.length i)(hl:b.length<=1000000){K:KT}(m:∀c,aZ H c->K (.bool (b.all λv=>v)) c):YN ac U9 [i,.func Ed [] []] H K:=by
 have o:mQ ac H (.func Ed [] []) Ep false (λ_:Unit=>[]) (λ_=>True) (λs v=>(v,s)) b:=by rintro s a cs c us _ _ rfl U;exact YG T ⟨rfl,trivial,[],by simpa using U⟩
 have t:dC (λ(s:Unit)(v:Bool)=>(v,s)) () b=(b.all λv=>v,()):=Em (p:=λv=>v);have p:cK 1 Ep H b i:=⟨_,l,λk q=>by rw[af0,aeE (by simpa using q)];simp[Ep]⟩;refine yt T.W1 bK T.Xm bK T.Xy (size:=1) (agg:=false) bK (λ_=>rfl) (T:=λ_:Unit=>[]) (s:=()) (us:=[]) rfl rfl rfl (Ej T.Xn bK rfl (λa cs h=>by cases h;rfl) o) (λa cs h=>by cases h;rfl) p hl trivial (al.bY H) λc r _ j=>?_;rw[t];exact m c j.gr
theorem YI(T:Tb ac)(V:FV g n){s:List Bool}(hs:s.length=n){b:List G.dI}{l:AV}(m:cK 6 nX A b l)(hl:b.length<=1000000)(hb:∀x∈b,∀c∈x.i7,c<256)(j:∀x∈b,x.args.length<=1000/\x.i7.length<=1000)(U:al A H (fT g e d f n s++us)){K:KT}(o:∀i,(dC (stepG g) s b).2.length=n->al A i (fT g e d f n (dC (stepG g) s b).2++us)->K (.bool (dC (stepG g) s b).1) i):YN ac U7 [l,.func Ec [.aD d 0] []] H K:=by refine yt T.WY bK T.Xe bK T.Xt (size:=6) (agg:=true) bK (λh=>by cases h) rfl rfl rfl (J6 T.Xg bK rfl (λa cs h=>⟨by obtain⟨v,rfl,_⟩:=h;rfl,h.one⟩) (YE T V b hb j)) (λa cs h=>rfl) m hl hs U λi q p k=>o i p k.skip
theorem YJ(T:Tb ac)(V:FV g n){s:List Bool}(hs:s.length=n){b:List Int}{j:AV}(k:fx A b j)(hl:b.length<=1000000)(U:al A H (fT g e d f n s++us)){K:KT}(l:∀c,(dC (ix g) s b).2.length=n->al A c (fT g e d f n (dC (ix g) s b).2++us)->K (.bool (dC (ix g) s b).1) c):YN ac JG [j,.func Eb [.aD d 0] []] H K:=by refine yt T.JV bK T.Eg bK T.Eh (size:=1) (agg:=false) bK (λ_=>rfl) rfl rfl rfl (Ej T.JW bK rfl (λa cs h=>by cases h;rfl) (Yt T V b)) (λa cs h=>by cases h;rfl) (fx.r k) hl hs U λc o m i=>l c m i.skip
theorem YK{c b:Type}{st:b->c->Bool×b}{a:List c}{s:b}{k:Nat}(i:k<a.length){r:Bool×b}(h:dC st s (a.drop k)=r):((st s a[k]).1=true->dC st (st s a[k]).2 (a.drop (k+1))=r)/\((st s a[k]).1=false->r.1=false):=by
 rw[aeE i]at h;simp only[dC]at h;constructor;·intro h1;rw[aH h1]at h;exact h
 intro h1;rw[ap (by rw[h1];simp)]at h;rw[<-h]
theorem YL(T:Tb ac){H:ai}(B:G.Sm g)(Q:mh g)(Z:g.i7.length<=1000000)(ag:g.aW<=6000){cs:List AV}(hg:dS H g cs){K:KT}(t:∀H'(b:Bool),aZ H H'->(b=true↔rX g)->K (.bool b) H'):YN ac US [.agg cs] H K:=by
 have O:=hg.one;obtain⟨e,rfl,bH⟩:=hg;have⟨hd,_,_,hn⟩:=bH.all;have a6:=B.nb;have no:∀{p:Prop},¬p->(rX g->p)->(false=true↔rX g):=λh1 h2=>⟨λh=>(by cases h),λh=>absurd (h2 h) h1⟩;refine YF.code T.WD aC ?_;refine au ?_;refine RO.cG (al.bY H) λH1 q U=>?_;refine aS ?_;refine RO.cl (Ek T Q.nm Z λH2 hg=>?_);have U:=U.bZ hg;by_cases W:jo g.i7;rotate_left;·rw[decide_eq_false W];refine ah ?_;exact Ru.aP (t _ false U.gr (no W λh=>h.i7))
 rw[decide_eq_true W];refine ah ?_;refine RO.cl (qD T (a:=0) (b:=g.aW) (n:=g.i4) ?_);by_cases w:0<=g.i4/\g.i4<=g.aW;rotate_left;·rw[decide_eq_false w];refine ah ?_;exact Ru.aP (t _ false U.gr (no w λh=>⟨h.p0,h.p1⟩))
 rw[decide_eq_true w];refine ah ?_;refine RO.bT (λ(h:g.aj.length=0)=>?_) (λc=>?_);·refine ah ?_;exact Ru.aP (t _ false U.gr (no (p:=0<g.aj.length) ab λh=>h.ne))
 have c:0<g.aj.length:=ab;refine ah ?_;refine RO.bW U.gr bH (λq1 o1 c1 hj i av hat hrd=>?_) (hj:=c);obtain⟨vp,vs,jc,rfl,j,_,_⟩:=i;have⟨aw,_,_,ax⟩:=j.all;refine ah ?_;refine Ru.cond (λl=>?_) (λl=>?_);·refine ah ?_;exact Ru.aP (t _ false U.gr (no (p:=g.aj[0].i4=[]) (λb0=>by simp[b0]at l) λh=>by have:=h.first;rwa[bm c]at this))
 have l:(g.aj.getD 0 default).i4=[]:=by rw[bm c];exact aeQ ab
 obtain⟨n,o⟩:∃n:Nat,g.aW.toNat=n:=⟨_,rfl⟩;have V:FV g n:=⟨w.1,w.2,ag,ab⟩;have v3:(n:Int)=g.aW:=ab;have jf:rX g->(dC (jV g) (aeo n false) g.aj).1=true:=λh=>by have:=h.run;rwa[o]at this
 have v:rX g->∀k(h:k<(dC (jV g) (aeo n false) g.aj).2.length),g.i4<=k->(dC (jV g) (aeo n false) g.aj).2[k]=true:=λh=>by have:=h.all;rwa[o]at this
 have mk:(dC (jV g) (aeo n false) g.aj).1=true->(∀k(h:k<(dC (jV g) (aeo n false) g.aj).2.length),g.i4<=k->(dC (jV g) (aeo n false) g.aj).2[k]=true)->rX g:=λh1 h2=>⟨W,w.1,w.2,c,l,by rw[o];exact h1,by rw[o];exact h2⟩;refine ah ?_;refine RO.cr U 0 ?_;refine ah ?_;refine RO.jn U (n:=n) (λH3 f U=>?_) (hx:=by show aI g.aW=_;rw[<-v3];rfl) (hy:=by show aI g.aW=_;rw[<-v3];rfl) (hz:=by rw[eS];simp);have er:ep [AV.bool false] n=(aeo n false).map .bool:=by rw[eS,afS]
 rw[er]at U;refine ah ?_;refine RO.cG U (λH4 d U=>?_) (v:=.agg [.str g.i7,aI g.i4,aI g.aW,e,.slice f 0 n n true]);refine ah ?_;generalize hR:dC (jV g) (aeo n false) g.aj=R at jf v mk;refine Ru.nm λS M hS hM=>?_;refine Ru.bM hM (up (P:=λk=>∀X s,dC (jV g) s (g.aj.drop k)=R->s.length=n->al H X (fT g e d f n s++[tB cX q [.str g.i7,aI g.i4,aI g.aW,e]])->Ru ac _ S ([(tH,aN k)]++pk M [p1,p3,tF,tG]) X) g.aj.length (λk C ih X s hs D U=>?_) 0 ab _ (aeo n false) (by rw[agm];exact hR) aC U);subst hS;subst hM;refine Ru.loop ?_;refine au ?_;refine Ru.cond (λy=>?_) (λy=>?_);·obtain⟨E,cz⟩:=YK y hs;have u:=acI y;have a8:=B.bl _ u;have lq:(jV g s g.aj[k]).1=false->(false=true↔rX g):=λh=>no (p:=R.1=true) (by rw[cz h];simp) jf;simp only[jV]at E lq;refine au ?_;refine RO.bW U.gr bH (λq1 o1 c1 hj F av hat hrd=>?_);have O:=F.one;obtain⟨vp,vs,jc,rfl,j,I,J⟩:=F;have P:=J;obtain⟨va,vk,vg,rfl,a',ba,bb⟩:=J;have⟨aw,_,_,ax⟩:=j.all;have⟨ay,_,_,bd⟩:=I.all;refine aS ?_;refine RO.eR U (λH5 q5 U=>?_);refine aS ?_;refine RO.cl (YJ T V D j ab (al.eC (xs:=[_]) U) λH6 a1 U=>?_);have U:=al.jU (xs:=[_]) U;generalize dC (ix g) s g.aj[k].i4=r1 at*;cases i:r1.1 with|false=>refine aS ?_;exact Ru.aP (t _ false U.gr (lq (by simp[i])))|true=>refine aS ?_;refine RO.cl (YI T V a1 I ab (Q.st _ u) (λx hx=>by have:=B.st _ u x hx;omega) (al.eC (xs:=[_]) U) λH7 L U=>?_);have U:=al.jU (xs:=[_]) U;generalize dC (stepG g) r1.2 g.aj[k].aL=r2 at*;cases z:r2.1 with|false=>refine aS ?_;exact Ru.aP (t _ false U.gr (lq (by simp[z])))|true=>refine aS ?_;refine RO.cr U 0 ?_;refine RO.yj ?_;refine RO.cl (YB T V B c bH L P (Q.fn _ u) (Q.kd _ u) ⟨ab,ab,ab,ab⟩ (λb0 he=>by have:=B.ed _ u b0 he;omega) (al.eC (xs:=[_]) U) λH8 ws b3 h3 U=>?_);have U:=(al.jU (xs:=[_]) U.skip).tail;cases b3 with|false=>refine aS ?_;exact Ru.aP (t _ false U.gr (lq (by simp only[i,z,agj,decide_eq_false_iff_not];exact λh=>by have:=h3.2 h;cases this)))|true=>refine aS ?_;exact Ru.wk (ih (k+1) ab ab _ _ (E (by simp only[i,z,agj,decide_eq_true_eq];exact h3.1 rfl)) L U)
 have a2:k=g.aj.length:=ab;subst a2;rw[List.drop_length]at hs;simp only[dC]at hs;subst hs;refine Ru.exitTo ?_;refine ah ?_;obtain⟨m,u⟩:∃m:Nat,g.i4=(m:Int):=⟨g.i4.toNat,ab⟩;refine RO.RU (U.sl 1) (λsv r=>?_) (b:=m) (hy:=by show aI g.i4=_;rw[u];rfl);have ay:=r.bq;have r:Sl X 1 ((s.drop m).map .bool) (s.drop m).length sv:=by rw[afF,D,List.map_drop];simpa using r
 refine RO.cl (YH T r (by rw[afF];omega) λH9 hg=>?_);refine ah ?_;refine Ru.aP (t _ _ (U.gr.trans hg) ⟨λh=>mk rfl λk C bv=>?_,λh=>?_⟩)
 .rw[afv]at h;have C:k<s.length:=C;have N:k - m<(s.drop m).length:=by rw[afF];omega
  have Y:=h ((s.drop m)[k - m]'N) (acI N);rw[List.getElem_drop]at Y;have b0:m+(k - m)=k:=ab;simp only[b0]at Y;exact Y
 rw[afv];intro a ha;obtain⟨k,C,rfl⟩:=aeB ha;rw[List.getElem_drop];rw[afF]at C;exact v h (m+k) (by show m+k<s.length;omega) ab
end
end
end
end Go.ak.R
end
