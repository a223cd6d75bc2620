/- A part. No conditions. -/
import Derived.Test.YtjapbgcbkolgmaaGreatDoorA13
set_option linter.all false
set_option maxHeartbeats 16000000
open List renaming replicate->aeN
open List.Perm renaming cons->agz
noncomputable section
namespace Go.al.R
section
variable{ac:Nat->aX}
section
theorem jl.MO{g:G.be}{j:G.fg}(h:jl g j)(e:j.op=61):j.args.length=0/\lz g j.go [0]:=by cases h with|go _ d f=>exact⟨d,f⟩|_=>omega
theorem jl.MP{g:G.be}{j:G.fg}(h:jl g j)(e:j.op=62):j.args.length=1/\lz g j.go [0,0]:=by cases h with|si _ d f=>exact⟨d,f⟩|_=>omega
theorem jl.Ho{g:G.be}{j:G.fg}(h:jl g j)(e:j.op=63):j.args.length=1/\jB j.i7/\lz g j.go [0,0]:=by cases h with|is _ d f i=>exact⟨d,f,i⟩|_=>omega
theorem jl.MQ{g:G.be}{j:G.fg}(h:jl g j)(e:j.op=65):j.args.length=1/\lz g j.go [1,0]:=by cases h with|dV _ d f=>exact⟨d,f⟩|_=>omega
theorem jl.i66{g:G.be}{j:G.fg}(h:jl g j)(e:j.op=66):yP g j:=by cases h with|nf _ d=>exact d|_=>omega
theorem jl.MR{g:G.be}{j:G.fg}(h:jl g j)(e:j.op=67):j.args.length=0/\uo g j.go:=by cases h with|sj _ d f=>exact⟨d,f⟩|_=>omega
theorem jl.MS{g:G.be}{j:G.fg}(h:jl g j)(e:j.op=68):0<j.args.length/\j.go.length=0:=by cases h with|oG _ d f=>exact⟨d,f⟩|_=>omega
theorem jl.DU{g:G.be}{j:G.fg}(h:jl g j)(e:j.op=69\/j.op=21):j.args.length=1/\j.go.length=0:=by cases h with|ret _ d f=>exact⟨d,f⟩|_=>omega
theorem jl.MT{g:G.be}{j:G.fg}(h:jl g j)(e:j.op=70):j.args.length=0/\j.go.length=0:=by cases h with|stuck _ d f=>exact⟨d,f⟩|_=>omega
theorem jl.az{g:G.be}{j:G.fg}(h:jl g j):j.op=61\/j.op=62\/j.op=63\/j.op=65\/j.op=66\/j.op=67\/j.op=68\/j.op=69\/j.op=21\/j.op=70:=by cases h<;>omega
section
variable{g:G.be}{a:AV}{b c:af}{n:Nat}{A H:ah}{us:List Th}
theorem abf(T:Tb ac)(V:FV g n)(w:G.Sm g)(m:0<g.aj.length)(hb:cP 7 ji A g.aj a){s:List Bool}(hs:s.length=n){j:G.fg}{cs:List AV}(hj:py A j cs)(L:∀bb∈j.i7,bb<256)(M:∀bb∈j.bu,bb<256)(hl:j.args.length<=1000/\j.go.length<=1000/\j.bu.length<=1000/\j.i7.length<=1000)(o:∀e∈j.go,e.args.length<=1000)(U:aq A H (fT g a b c n s++us)){K:KT}(k:∀H' ws(bd:Bool),(bd=true↔AA g j)->aq A H' (fT g a b c n s++ws++us)->K (.bool bd) H'):YN ac WX [.aE b 0,.agg cs] H K:=by
 have ax:=hj.one;have N:=hj;obtain⟨va,vk,vg,rfl,y,O,r⟩:=hj;have⟨ay,_,_,a1⟩:=y.all;have⟨a2,_,_,a6⟩:=O.all;have⟨a8,_,_,a'⟩:=r.all;obtain⟨P,Q,R,ba⟩:=hl;have no:∀{p:Prop},¬p->(AA g j->p)->(false=true↔AA g j):=λh1 h2=>⟨λh=>(by cases h),λh=>absurd (h2 h) h1⟩;refine YF.code T.ZR aF ?_;refine au ?_;refine RO.dp U λH1 q U=>?_;refine aV ?_;refine RO.cl (DT T V hs y ab (aq.eG (xs:=[_]) U) λH5 ws b1 h1 U=>?_);have U:=aq.j5 (xs:=[_]) U.skip;have da:∀D,aq A D (tB mE q [aU j.op,va,.str j.i7,vk,vg]::(fT g a b c n s++us))->aq A D (fT g a b c n s++[tB mE q [aU j.op,va,.str j.i7,vk,vg]]++us):=λD h=>by rw[afu];exact aq.eG (xs:=[_]) h
 cases b1 with
 |false=>refine aV ?_;exact Ru.aP (k _ [_] false (no (λh=>by have:=h1.2 h;cases this) λh=>h.iE) (da _ U))
 |true=>
  have h1:=h1.1 rfl;refine au ?_;refine RO.iC U 0 ?_;refine au ?_;refine RO.iC U 0 ?_;refine RO.Ag ?_;refine RO.LX ?_;refine RO.Ag ?_;refine RO.eq (t:=decide (j.op=63)==decide (j.i7≠ [])) ?_ (ht:=rfl);refine aV ?_;refine RO.oq (λh2=>?_) (λh2=>?_);·refine aV ?_;exact Ru.aP (k _ [_] false (no (p:=j.op=63↔j.i7≠ []) (λh=>by by_cases E:j.op=63<;>by_cases F:j.i7=[]<;>simp[E,F]at h2 h) λh=>h.i7) (da _ U))
  have h2:j.op=63↔j.i7≠ []:=by by_cases E:j.op=63<;>by_cases F:j.i7=[]<;>simp[E,F]at h2⊢
  refine aV ?_;refine RO.bR (λ(h:j.op≠66)=>?_) (λ(h:¬j.op≠66)=>?_);rotate_left;·have u:j.op=66:=agJ.1 h;refine aV ?_;refine Ru.eE (λi=>absurd (show j.op=61 from of_decide_eq_true i) ab) (λ_=>?_);refine aV ?_;refine Ru.eE (λi=>absurd (show j.op=62 from of_decide_eq_true i) ab) (λ_=>?_);refine aV ?_;refine Ru.eE (λi=>absurd (show j.op=63 from of_decide_eq_true i) ab) (λ_=>?_);refine aV ?_;refine Ru.eE (λi=>absurd (show j.op=65 from of_decide_eq_true i) ab) (λ_=>?_);refine aV ?_;refine Ru.eE (λ_=>?_) (λi=>absurd u (of_decide_eq_false i));refine aV ?_;refine RO.dj U 0 ?_;refine RO.cl (abd T V w m hb hs N M ⟨P,Q,R⟩ o (aq.eG (xs:=[_]) U) λx v t l U=>?_);refine aV ?_;exact Ru.aP (k _ (v++[_]) t ⟨λh=>⟨h1,h2,λh=>absurd u h,.nf u (l.1 h)⟩,λh=>l.2 (h.aB.i66 u)⟩ (by simpa using U))
  refine aV ?_;refine Ru.cond (λh3=>?_) (λh3=>?_);·refine aV ?_;exact Ru.aP (k _ [_] false (no (p:=j.bu=[]) (λe=>by simp[e]at h3) λI=>I.bu h) (da _ U))
  have h3:j.op≠66->j.bu=[]:=λ_=>afQ ab;refine aV ?_;refine Ru.eE (λi=>?_) (λS=>?_)
  .have d:j.op=61:=of_decide_eq_true i;refine aV ?_;refine RO.bR (λf=>?_) (λf=>?_);rotate_left;·refine aV ?_;exact Ru.aP (k _ [_] false (no f λh=>(h.aB.MO d).1) (da _ U))
   refine aV ?_;refine RO.kr U 1 (λB J U=>?_);refine aV ?_;refine RO.cl (yQ T V w m hb hs r ab (ws:=[0]) bo o rfl rfl (U.cJ (agz _ af6.symm)) λx t l U=>?_);refine aV ?_;exact Ru.aP (k _ [_] t ⟨λh=>⟨h1,h2,h3,.go d f (l.1 h)⟩,λh=>l.2 (h.aB.MO d).2⟩ (by simpa using U))
  refine aV ?_;refine Ru.eE (λi=>?_) (λW=>?_)
  .have d:j.op=62:=of_decide_eq_true i;refine aV ?_;refine RO.bR (λf=>?_) (λf=>?_);rotate_left;·refine aV ?_;exact Ru.aP (k _ [_] false (no f λh=>(h.aB.MP d).1) (da _ U))
   refine aV ?_;refine RO.kr U 1 (λB J U=>?_);refine aV ?_;refine RO.cl (yQ T V w m hb hs r ab (ws:=[0,0]) bo o rfl rfl (U.cJ (agz _ af6.symm)) λx t l U=>?_);refine aV ?_;exact Ru.aP (k _ [_] t ⟨λh=>⟨h1,h2,h3,.si d f (l.1 h)⟩,λh=>l.2 (h.aB.MP d).2⟩ (by simpa using U))
  refine aV ?_;refine Ru.eE (λi=>?_) (λX=>?_)
  .have d:j.op=63:=of_decide_eq_true i;refine aV ?_;refine RO.bR (λf=>?_) (λf=>?_);rotate_left;·refine aV ?_;exact Ru.aP (k _ [_] false (no f λh=>(h.aB.Ho d).1) (da _ U))
   refine aV ?_;refine RO.cl (Hk T L ab λB hg=>?_);have U:=U.cq hg;by_cases C:jB j.i7;rotate_left;·rw[decide_eq_false C];refine aV ?_;exact Ru.aP (k _ [_] false (no C λh=>(h.aB.Ho d).2.1) (da _ U))
   rw[decide_eq_true C];refine aV ?_;refine RO.kr U 1 (λB J U=>?_);refine aV ?_;refine RO.cl (yQ T V w m hb hs r ab (ws:=[0,0]) bo o rfl rfl (U.cJ (agz _ af6.symm)) λx t l U=>?_);refine aV ?_;exact Ru.aP (k _ [_] t ⟨λh=>⟨h1,h2,h3,.is d f C (l.1 h)⟩,λh=>l.2 (h.aB.Ho d).2.2⟩ (by simpa using U))
  refine aV ?_;refine Ru.eE (λi=>?_) (λY=>?_)
  .have d:j.op=65:=of_decide_eq_true i;refine aV ?_;refine RO.bR (λf=>?_) (λf=>?_);rotate_left;·refine aV ?_;exact Ru.aP (k _ [_] false (no f λh=>(h.aB.MQ d).1) (da _ U))
   refine aV ?_;refine RO.kr U 1 (λB J U=>?_);refine aV ?_;refine RO.cl (yQ T V w m hb hs r ab (ws:=[1,0]) bo o rfl rfl (U.cJ (agz _ af6.symm)) λx t l U=>?_);refine aV ?_;exact Ru.aP (k _ [_] t ⟨λh=>⟨h1,h2,h3,.dV d f (l.1 h)⟩,λh=>l.2 (h.aB.MQ d).2⟩ (by simpa using U))
  refine aV ?_;refine Ru.eE (λi=>absurd (show j.op=66 from of_decide_eq_true i) h) (λu=>?_);refine aV ?_;refine Ru.eE (λi=>?_) (λZ=>?_)
  .have d:j.op=67:=of_decide_eq_true i;refine aV ?_;refine RO.bR (λf=>?_) (λf=>?_);rotate_left;·refine aV ?_;exact Ru.aP (k _ [_] false (no f λh=>(h.aB.MR d).1) (da _ U))
   refine aV ?_;refine RO.cl (abc T V w m hb hs r ab o (aq.eG (xs:=[_]) U) λx v t l U=>?_);refine aV ?_;exact Ru.aP (k _ (v++[_]) t ⟨λh=>⟨h1,h2,h3,.sj d f (l.1 h)⟩,λh=>l.2 (h.aB.MR d).2⟩ (by simpa using U))
  refine aV ?_;refine Ru.eE (λi=>?_) (λag=>?_)
  .have d:j.op=68:=of_decide_eq_true i;refine aV ?_;refine RO.bR (λf=>?_) (λf=>?_);rotate_left;·refine aV ?_;exact Ru.aP (k _ [_] false (no f λh=>(h.aB.MS d).1) (da _ U))
   refine aV ?_;refine Ru.aP (k _ [_] _ ⟨λhg=>⟨h1,h2,h3,.oG d f (of_decide_eq_true hg)⟩,λh=>decide_eq_true (h.aB.MS d).2⟩ (da _ U))
  refine aV ?_;refine Ru.eE (λi=>?_) (λz=>?_)
  .have d:j.op=69\/j.op=21:=.inl (of_decide_eq_true i);rw[i];refine aV ?_;refine RO.bR (λf=>?_) (λf=>?_);rotate_left;·refine aV ?_;exact Ru.aP (k _ [_] false (no f λh=>(h.aB.DU d).1) (da _ U))
   refine aV ?_;refine Ru.aP (k _ [_] _ ⟨λhg=>⟨h1,h2,h3,.ret d f (of_decide_eq_true hg)⟩,λh=>decide_eq_true (h.aB.DU d).2⟩ (da _ U))
  rw[z];refine aV ?_;refine Ru.eE (λi=>?_) (λav=>?_)
  .have d:j.op=69\/j.op=21:=.inr (of_decide_eq_true i);refine aV ?_;refine RO.bR (λf=>?_) (λf=>?_);rotate_left;·refine aV ?_;exact Ru.aP (k _ [_] false (no f λh=>(h.aB.DU d).1) (da _ U))
   refine aV ?_;refine Ru.aP (k _ [_] _ ⟨λhg=>⟨h1,h2,h3,.ret d f (of_decide_eq_true hg)⟩,λh=>decide_eq_true (h.aB.DU d).2⟩ (da _ U))
  refine aV ?_;refine Ru.eE (λi=>?_) (λaw=>?_)
  .have d:j.op=70:=of_decide_eq_true i;refine aV ?_;refine RO.bR (λf=>?_) (λf=>?_);rotate_left;·refine aV ?_;exact Ru.aP (k _ [_] false (no f λh=>(h.aB.MT d).1) (da _ U))
   refine aV ?_;refine Ru.aP (k _ [_] _ ⟨λhg=>⟨h1,h2,h3,.stuck d f (of_decide_eq_true hg)⟩,λh=>decide_eq_true (h.aB.MT d).2⟩ (da _ U))
  refine aV ?_;refine Ru.aP (k _ [_] false (no (p:=False) id λI=>?_) (da _ U));have h8:=I.aB.az;simp only[decide_eq_false_iff_not]at S W X Y Z ag z av aw;omega
end
end
section
open Classical in noncomputable def kg(g:G.be)(s:List Bool)(b:G.dW):Bool×List Bool:=((dC (iD g) s b.i4).1&&(dC (stepG g) (dC (iD g) s b.i4).2 b.aS).1&&decide (AA g b.aB),(dC (stepG g) (dC (iD g) s b.i4).2 b.aS).2)
structure sn(g:G.be):Prop where
 i7:jB g.i7
 p0:0<=g.i4
 p1:g.i4<=g.bc
 ne:0<g.aj.length
 first:(g.aj.getD 0 default).i4=[]
 run:(dC (kg g) (aeN g.bc.toNat false) g.aj).1=true
 all:∀k(h:k<(dC (kg g) (aeN g.bc.toNat false) g.aj).2.length),g.i4<=k->(dC (kg g) (aeN g.bc.toNat false) g.aj).2[k]=true
structure qN(g:G.be):Prop where
 nm:∀c∈g.i7,c<256
 st:∀b∈g.aj,∀s∈b.aS,∀c∈s.i7,c<256
 fn:∀b∈g.aj,∀c∈b.aB.i7,c<256
 kd:∀b∈g.aj,∀c∈b.aB.bu,c<256
section
variable{g:G.be}{e:AV}{d f:af}{n:Nat}{A H:ah}{us:List Th}
theorem abg(g:G.be)(s:List Bool)(v:Int):(iD g s v).2.length=s.length:=by unfold iD;split<;>(try split)<;>simp
theorem abh(g:G.be)(s:List Bool)(x:G.d9):(stepG g s x).2.length=s.length:=by
 unfold stepG;split
 .split
  .split;·exact abg g s _
   rfl
  rfl
 rfl
theorem abi(T:Tb ac)(V:FV g n)(a:List G.d9)(hb:∀x∈a,∀c∈x.i7,c<256)(hl:∀x∈a,x.args.length<=1000/\x.i7.length<=1000):na ac A (.func Hc [.aE d 0] []) oB true (fT g e d f n) (λs=>s.length=n) (stepG g) a:=by rintro s x cs H us i j l U;obtain⟨m,o⟩:=hl x i;have:=aa9 (K:=λv k=>v=.bool (stepG g s x).1/\(stepG g s x).2.length=n/\∃b,aq A k (fT g e d f n (stepG g s x).2++b++us)) T V j l (hb x i) ab ab U λk b h=>⟨rfl,by rw[abh];exact j,b,h⟩;exact this
theorem abj(T:Tb ac){H:ah}{b:Bool}{K:KT}(a:K (.bool b) H):YN ac Hd [.bool b] H K:=by refine YF.code T.ZT aF ?_;refine au ?_;exact Ru.aP a
def Hp:ah->Bool->List AV->Prop:=λ_ v cs=>cs=[.bool v]
theorem abk(T:Tb ac){H:ah}{b:List Bool}{i:AV}(l:Sl H 1 (b.map .bool) b.length i)(hl:b.length<=1000000){K:KT}(m:∀c,aZ H c->K (.bool (b.all λv=>v)) c):YN ac WY [i,.func Hd [] []] H K:=by
 have o:na ac H (.func Hd [] []) Hp false (λ_:Unit=>[]) (λ_=>True) (λs v=>(v,s)) b:=by rintro s a cs c us _ _ rfl U;exact abj T ⟨rfl,trivial,[],by simpa using U⟩
 have t:dC (λ(s:Unit)(v:Bool)=>(v,s)) () b=(b.all λv=>v,()):=Hm (p:=λv=>v);have p:cP 1 Hp H b i:=⟨_,l,λk q=>by rw[agU,afv (by simpa using q)];simp[Hp]⟩;refine Aq T.ZS bo T.aaa bo T.aal (size:=1) (agg:=false) bo (λ_=>rfl) (T:=λ_:Unit=>[]) (s:=()) (us:=[]) rfl rfl rfl (Hj T.aab bo rfl (λa cs h=>by cases h;rfl) o) (λa cs h=>by cases h;rfl) p hl trivial (aq.ct H) λc r _ j=>?_;rw[t];exact m c j.gr
theorem abl(T:Tb ac)(V:FV g n){s:List Bool}(hs:s.length=n){b:List G.d9}{l:AV}(m:cP 6 oB A b l)(hl:b.length<=1000000)(hb:∀x∈b,∀c∈x.i7,c<256)(j:∀x∈b,x.args.length<=1000/\x.i7.length<=1000)(U:aq A H (fT g e d f n s++us)){K:KT}(o:∀i,(dC (stepG g) s b).2.length=n->aq A i (fT g e d f n (dC (stepG g) s b).2++us)->K (.bool (dC (stepG g) s b).1) i):YN ac WW [l,.func Hc [.aE d 0] []] H K:=by refine Aq T.ZP bo T.Z4 bo T.aag (size:=6) (agg:=true) bo (λh=>by cases h) rfl rfl rfl (MG T.Z5 bo rfl (λa cs h=>⟨by obtain⟨v,rfl,_⟩:=h;rfl,h.one⟩) (abi T V b hb j)) (λa cs h=>rfl) m hl hs U λi q p k=>o i p k.skip
theorem abm(T:Tb ac)(V:FV g n){s:List Bool}(hs:s.length=n){b:List Int}{j:AV}(k:eU A b j)(hl:b.length<=1000000)(U:aq A H (fT g e d f n s++us)){K:KT}(l:∀c,(dC (iD g) s b).2.length=n->aq A c (fT g e d f n (dC (iD g) s b).2++us)->K (.bool (dC (iD g) s b).1) c):YN ac Mm [j,.func G9 [.aE d 0] []] H K:=by refine Aq T.My bo T.Hg bo T.Hh (size:=1) (agg:=false) bo (λ_=>rfl) rfl rfl rfl (Hj T.Mz bo rfl (λa cs h=>by cases h;rfl) (aa7 T V b)) (λa cs h=>by cases h;rfl) (eU.r k) hl hs U λc o m i=>l c m i.skip
theorem abn{c b:Type}{st:b->c->Bool×b}{a:List c}{s:b}{k:Nat}(i:k<a.length){r:Bool×b}(h:dC st s (a.drop k)=r):((st s a[k]).1=true->dC st (st s a[k]).2 (a.drop (k+1))=r)/\((st s a[k]).1=false->r.1=false):=by
 rw[afv i]at h;simp only[dC]at h;constructor;·intro h1;rw[aJ h1]at h;exact h
 intro h1;rw[ap (by rw[h1];simp)]at h;rw[<-h]
theorem abo(T:Tb ac){H:ah}(B:G.Sm g)(Q:qN g)(Z:g.i7.length<=1000000)(ag:g.bc<=6000){cs:List AV}(hg:gu H g cs){K:KT}(t:∀H'(b:Bool),aZ H H'->(b=true↔sn g)->K (.bool b) H'):YN ac WI [.agg cs] H K:=by
 have O:=hg.one;obtain⟨e,rfl,bW⟩:=hg;have⟨hd,_,_,hn⟩:=bW.all;have a6:=B.nb;have no:∀{p:Prop},¬p->(sn g->p)->(false=true↔sn g):=λh1 h2=>⟨λh=>(by cases h),λh=>absurd (h2 h) h1⟩;refine YF.code T.Zv aF ?_;refine au ?_;refine RO.dp (aq.ct H) λH1 q U=>?_;refine aV ?_;refine RO.cl (Hk T Q.nm Z λH2 hg=>?_);have U:=U.cq hg;by_cases W:jB g.i7;rotate_left;·rw[decide_eq_false W];refine ai ?_;exact Ru.aP (t _ false U.gr (no W λh=>h.i7))
 rw[decide_eq_true W];refine ai ?_;refine RO.cl (qL T (a:=0) (b:=g.bc) (n:=g.i4) ?_);by_cases w:0<=g.i4/\g.i4<=g.bc;rotate_left;·rw[decide_eq_false w];refine ai ?_;exact Ru.aP (t _ false U.gr (no w λh=>⟨h.p0,h.p1⟩))
 rw[decide_eq_true w];refine ai ?_;refine RO.bR (λ(h:g.aj.length=0)=>?_) (λc=>?_);·refine ai ?_;exact Ru.aP (t _ false U.gr (no (p:=0<g.aj.length) ab λh=>h.ne))
 have c:0<g.aj.length:=ab;refine ai ?_;refine RO.bY U.gr bW (λq1 o1 c1 hj i av hat hrd=>?_) (hj:=c);obtain⟨vp,vs,jc,rfl,j,_,_⟩:=i;have⟨aw,_,_,ax⟩:=j.all;refine ai ?_;refine Ru.cond (λl=>?_) (λl=>?_);·refine ai ?_;exact Ru.aP (t _ false U.gr (no (p:=g.aj[0].i4=[]) (λb0=>by simp[b0]at l) λh=>by have:=h.first;rwa[bB c]at this))
 have l:(g.aj.getD 0 default).i4=[]:=by rw[bB c];exact afQ ab
 obtain⟨n,o⟩:∃n:Nat,g.bc.toNat=n:=⟨_,rfl⟩;have V:FV g n:=⟨w.1,w.2,ag,ab⟩;have v3:(n:Int)=g.bc:=ab;have jp:sn g->(dC (kg g) (aeN n false) g.aj).1=true:=λh=>by have:=h.run;rwa[o]at this
 have v:sn g->∀k(h:k<(dC (kg g) (aeN n false) g.aj).2.length),g.i4<=k->(dC (kg g) (aeN n false) g.aj).2[k]=true:=λh=>by have:=h.all;rwa[o]at this
 have mk:(dC (kg g) (aeN n false) g.aj).1=true->(∀k(h:k<(dC (kg g) (aeN n false) g.aj).2.length),g.i4<=k->(dC (kg g) (aeN n false) g.aj).2[k]=true)->sn g:=λh1 h2=>⟨W,w.1,w.2,c,l,by rw[o];exact h1,by rw[o];exact h2⟩;refine ai ?_;refine RO.dj U 0 ?_;refine ai ?_;refine RO.ls U (n:=n) (λH3 f U=>?_) (hx:=by show aI g.bc=_;rw[<-v3];rfl) (hy:=by show aI g.bc=_;rw[<-v3];rfl) (hz:=by rw[io];simp);have er:eo [AV.bool false] n=(aeN n false).map .bool:=by rw[io,ag7]
 rw[er]at U;refine ai ?_;refine RO.dp U (λH4 d U=>?_) (v:=.agg [.str g.i7,aI g.i4,aI g.bc,e,.slice f 0 n n true]);refine ai ?_;generalize hR:dC (kg g) (aeN n false) g.aj=R at jp v mk;refine Ru.nm λS M hS hM=>?_;refine Ru.bT hM (up (P:=λk=>∀X s,dC (kg g) s (g.aj.drop k)=R->s.length=n->aq H X (fT g e d f n s++[tB eg q [.str g.i7,aI g.i4,aI g.bc,e]])->Ru ac _ S ([(ud,aN k)]++pk M [p1,p3,ub,uc]) X) g.aj.length (λk C ih X s hs D U=>?_) 0 ab _ (aeN n false) (by rw[ahd];exact hR) aF U);subst hS;subst hM;refine Ru.loop ?_;refine au ?_;refine Ru.cond (λy=>?_) (λy=>?_);·obtain⟨E,cD⟩:=abn y hs;have u:=adq y;have a8:=B.bl _ u;have lG:(kg g s g.aj[k]).1=false->(false=true↔sn g):=λh=>no (p:=R.1=true) (by rw[cD h];simp) jp;simp only[kg]at E lG;refine au ?_;refine RO.bY U.gr bW (λq1 o1 c1 hj F av hat hrd=>?_);have O:=F.one;obtain⟨vp,vs,jc,rfl,j,I,J⟩:=F;have P:=J;obtain⟨va,vk,vg,rfl,a',ba,bb⟩:=J;have⟨aw,_,_,ax⟩:=j.all;have⟨ay,_,_,bd⟩:=I.all;refine aV ?_;refine RO.ff U (λH5 q5 U=>?_);refine aV ?_;refine RO.cl (abm T V D j ab (aq.eG (xs:=[_]) U) λH6 a1 U=>?_);have U:=aq.j5 (xs:=[_]) U;generalize dC (iD g) s g.aj[k].i4=r1 at*;cases i:r1.1 with|false=>refine aV ?_;exact Ru.aP (t _ false U.gr (lG (by simp[i])))|true=>refine aV ?_;refine RO.cl (abl T V a1 I ab (Q.st _ u) (λx hx=>by have:=B.st _ u x hx;omega) (aq.eG (xs:=[_]) U) λH7 L U=>?_);have U:=aq.j5 (xs:=[_]) U;generalize dC (stepG g) r1.2 g.aj[k].aS=r2 at*;cases z:r2.1 with|false=>refine aV ?_;exact Ru.aP (t _ false U.gr (lG (by simp[z])))|true=>refine aV ?_;refine RO.dj U 0 ?_;refine RO.Ag ?_;refine RO.cl (abf T V B c bW L P (Q.fn _ u) (Q.kd _ u) ⟨ab,ab,ab,ab⟩ (λb0 he=>by have:=B.ed _ u b0 he;omega) (aq.eG (xs:=[_]) U) λH8 ws b3 h3 U=>?_);have U:=(aq.j5 (xs:=[_]) U.skip).tail;cases b3 with|false=>refine aV ?_;exact Ru.aP (t _ false U.gr (lG (by simp only[i,z,ahb,decide_eq_false_iff_not];exact λh=>by have:=h3.2 h;cases this)))|true=>refine aV ?_;exact Ru.wk (ih (k+1) ab ab _ _ (E (by simp only[i,z,ahb,decide_eq_true_eq];exact h3.1 rfl)) L U)
 have a2:k=g.aj.length:=ab;subst a2;rw[List.drop_length]at hs;simp only[dC]at hs;subst hs;refine Ru.exitTo ?_;refine ai ?_;obtain⟨m,u⟩:∃m:Nat,g.i4=(m:Int):=⟨g.i4.toNat,ab⟩;refine RO.T6 (U.sl 1) (λsv r=>?_) (b:=m) (hy:=by show aI g.i4=_;rw[u];rfl);have ay:=r.bC;have r:Sl X 1 ((s.drop m).map .bool) (s.drop m).length sv:=by rw[agv,D,List.map_drop];simpa using r
 refine RO.cl (abk T r (by rw[agv];omega) λH9 hg=>?_);refine ai ?_;refine Ru.aP (t _ _ (U.gr.trans hg) ⟨λh=>mk rfl λk C bv=>?_,λh=>?_⟩)
 .rw[agn]at h;have C:k<s.length:=C;have N:k - m<(s.drop m).length:=by rw[agv];omega
  have Y:=h ((s.drop m)[k - m]'N) (adq N);rw[List.getElem_drop]at Y;have b0:m+(k - m)=k:=ab;simp only[b0]at Y;exact Y
 rw[agn];intro a ha;obtain⟨k,C,rfl⟩:=afr ha;rw[List.getElem_drop];rw[agv]at C;exact v h (m+k) (by show m+k<s.length;omega) ab
end
end
end
end Go.al.R
end
