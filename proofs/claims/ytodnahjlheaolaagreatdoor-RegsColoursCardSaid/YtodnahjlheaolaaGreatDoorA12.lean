/- A part. No conditions. -/
import Derived.Test.YtodnahjlheaolaaGreatDoorA11
set_option linter.all false
set_option maxHeartbeats 16000000
open List renaming replicate->ab7
open List.Perm renaming cons->ah6
noncomputable section
namespace Go.al.R
section
variable{ac:Nat->aX}
end
variable{B:G.aM}{C:G.fJ}{D:List Bool}{E:KT}{F n:Nat}{I L:ai}{J O:AV}{M N:ah}
section
variable{ac:Nat->aX}
theorem jE.Lk(h:jE B C)(e:C.op=61):C.args.length=0/\lP B C.go [0]:=by cases h with|go _ d f=>exact⟨d,f⟩|_=>omega
theorem jE.Ll(h:jE B C)(e:C.op=62):C.args.length=1/\lP B C.go [0,0]:=by cases h with|tF _ d f=>exact⟨d,f⟩|_=>omega
theorem jE.FA(h:jE B C)(e:C.op=63):C.args.length=1/\jS C.i7/\lP B C.go [0,0]:=by cases h with|is _ d f i=>exact⟨d,f,i⟩|_=>omega
theorem jE.Lm(h:jE B C)(e:C.op=65):C.args.length=1/\lP B C.go [1,0]:=by cases h with|eg _ d f=>exact⟨d,f⟩|_=>omega
theorem jE.i66(h:jE B C)(e:C.op=66):yg B C:=by cases h with|ou _ d=>exact d|_=>omega
theorem jE.Ln(h:jE B C)(e:C.op=67):C.args.length=0/\vi B C.go:=by cases h with|tG _ d f=>exact⟨d,f⟩|_=>omega
theorem jE.Lo(h:jE B C)(e:C.op=68):0<C.args.length/\C.go.length=0:=by cases h with|pN _ d f=>exact⟨d,f⟩|_=>omega
theorem jE.B6(h:jE B C)(e:C.op=69\/C.op=21):C.args.length=1/\C.go.length=0:=by cases h with|ret _ d f=>exact⟨d,f⟩|_=>omega
theorem jE.Lq(h:jE B C)(e:C.op=70):C.args.length=0/\C.go.length=0:=by cases h with|stuck _ d f=>exact⟨d,f⟩|_=>omega
theorem jE.aA(h:jE B C):C.op=61\/C.op=62\/C.op=63\/C.op=65\/C.op=66\/C.op=67\/C.op=68\/C.op=69\/C.op=21\/C.op=70:=by cases h<;>omega
section
variable{us:List Th}
theorem abu(T:Tb ac)(V:FV B F)(w:G.Sm B)(o:0<B.aj.length)(hb:cQ 7 iR I B.aj J)(hs:D.length=F){cs:List AV}(hj:nZ I C cs)(Y:∀cd∈C.i7,cd<256)(Z:∀cd∈C.bu,cd<256)(hl:C.args.length<=1000/\C.go.length<=1000/\C.bu.length<=1000/\C.i7.length<=1000)(r:∀e∈C.go,e.args.length<=1000)(U:ak I L (fT B J M N F D++us))(l:∀H' ws(cf:Bool),(cf=true↔Ab B C)->ak I H' (fT B J M N F D++ws++us)->E (.bool cf) H'):YN ac Xq [.aD M 0,.agg cs] L E:=by
 have bv:=hj.one;have ag:=hj;obtain⟨va,vk,vg,rfl,y,av,s⟩:=hj;have⟨b0,_,_,b3⟩:=y.all;have⟨b4,_,_,b6⟩:=av.all;have⟨b7,_,_,b'⟩:=s.all;obtain⟨aw,ax,ay,ca⟩:=hl;have no:∀{p:Prop},¬p->(Ab B C->p)->(false=true↔Ab B C):=λh1 h2=>⟨λh=>(by cases h),λh=>absurd (h2 h) h1⟩;refine YF.code T.ZY aC (au ?_);refine RO.bZ U λH1 q U=>?_;refine aS ?_;refine RO.cl (B5 T V hs y aa (ak.dK (xs:=[_]) U) λH5 ws b1 h1 U=>?_);have U:=ak.jd (xs:=[_]) U.skip;have d:∀Q,ak I Q (tB mg q [aU C.op,va,.str C.i7,vk,vg]::(fT B J M N F D++us))->ak I Q (fT B J M N F D++[tB mg q [aU C.op,va,.str C.i7,vk,vg]]++us):=λQ h=>by rw[ae0];exact ak.dK (xs:=[_]) h
 cases b1 with
 |false=>refine aS ?_;exact Ru.aL (l _ [_] false (no (λh=>by have:=h1.2 h;cases this) λh=>h.iU) (d _ U))
 |true=>
  have h1:=h1.1 rfl;refine au ?_;refine RO.eo U 0 ?_;refine au ?_;refine RO.eo U 0 ?_;refine RO.rR ?_;refine RO.BM ?_;refine RO.rR ?_;refine RO.eq (t:=decide (C.op=63)==decide (C.i7≠ [])) ?_ (ht:=rfl);refine aS ?_;refine RO.pD (λh2=>?_) (λh2=>?_);·refine aS ?_;exact Ru.aL (l _ [_] false (no (p:=C.op=63↔C.i7≠ []) (λh=>by by_cases R:C.op=63<;>by_cases S:C.i7=[]<;>simp[R,S]at h2 h) λh=>h.i7) (d _ U))
  have h2:C.op=63↔C.i7≠ []:=by by_cases R:C.op=63<;>by_cases S:C.i7=[]<;>simp[R,S]at h2⊢
  refine aS ?_;refine RO.bP (λ(h:C.op≠66)=>?_) (λ(h:¬C.op≠66)=>?_);rotate_left;·have u:C.op=66:=aix.1 h;refine aS ?_;refine Ru.d9 (λk=>absurd (show C.op=61 from of_decide_eq_true k) aa) (λ_=>aS ?_);refine Ru.d9 (λk=>absurd (show C.op=62 from of_decide_eq_true k) aa) (λ_=>aS ?_);refine Ru.d9 (λk=>absurd (show C.op=63 from of_decide_eq_true k) aa) (λ_=>aS ?_);refine Ru.d9 (λk=>absurd (show C.op=65 from of_decide_eq_true k) aa) (λ_=>aS ?_);refine Ru.d9 (λ_=>aS ?_) (λk=>absurd u (of_decide_eq_false k));refine RO.bT U 0 ?_;refine RO.cl (abs T V w o hb hs ag Z ⟨aw,ax,ay⟩ r (ak.dK (xs:=[_]) U) λx v t m U=>?_);refine aS ?_;exact Ru.aL (l _ (v++[_]) t ⟨λh=>⟨h1,h2,λh=>absurd u h,.ou u (m.1 h)⟩,λh=>m.2 (h.aq.i66 u)⟩ (by simpa using U))
  refine aS ?_;refine Ru.cond (λh3=>?_) (λh3=>?_);·refine aS ?_;exact Ru.aL (l _ [_] false (no (p:=C.bu=[]) (λe=>by simp[e]at h3) λW=>W.bu h) (d _ U))
  have h3:C.op≠66->C.bu=[]:=λ_=>ahz aa;refine aS ?_;refine Ru.d9 (λk=>?_) (λa1=>?_)
  .have f:C.op=61:=of_decide_eq_true k;refine aS ?_;refine RO.bP (λi=>?_) (λi=>?_);rotate_left;·refine aS ?_;exact Ru.aL (l _ [_] false (no i λh=>(h.aq.Lk f).1) (d _ U))
   refine aS ?_;refine RO.iE U 1 (λO X U=>aS ?_);refine RO.cl (yh T V w o hb hs s aa (ws:=[0]) bt r rfl rfl (U.bO (ah6 _ ahy.symm)) λx t m U=>aS ?_);exact Ru.aL (l _ [_] t ⟨λh=>⟨h1,h2,h3,.go f i (m.1 h)⟩,λh=>m.2 (h.aq.Lk f).2⟩ (by simpa using U))
  refine aS ?_;refine Ru.d9 (λk=>?_) (λa2=>?_)
  .have f:C.op=62:=of_decide_eq_true k;refine aS ?_;refine RO.bP (λi=>?_) (λi=>?_);rotate_left;·refine aS ?_;exact Ru.aL (l _ [_] false (no i λh=>(h.aq.Ll f).1) (d _ U))
   refine aS ?_;refine RO.iE U 1 (λO X U=>aS ?_);refine RO.cl (yh T V w o hb hs s aa (ws:=[0,0]) bt r rfl rfl (U.bO (ah6 _ ahy.symm)) λx t m U=>aS ?_);exact Ru.aL (l _ [_] t ⟨λh=>⟨h1,h2,h3,.tF f i (m.1 h)⟩,λh=>m.2 (h.aq.Ll f).2⟩ (by simpa using U))
  refine aS ?_;refine Ru.d9 (λk=>?_) (λa6=>?_)
  .have f:C.op=63:=of_decide_eq_true k;refine aS ?_;refine RO.bP (λi=>?_) (λi=>?_);rotate_left;·refine aS ?_;exact Ru.aL (l _ [_] false (no i λh=>(h.aq.FA f).1) (d _ U))
   refine aS ?_;refine RO.cl (Fv T Y aa λO hg=>?_);have U:=U.bN hg;by_cases P:jS C.i7;rotate_left;·rw[decide_eq_false P];refine aS ?_;exact Ru.aL (l _ [_] false (no P λh=>(h.aq.FA f).2.1) (d _ U))
   rw[decide_eq_true P];refine aS ?_;refine RO.iE U 1 (λO X U=>aS ?_);refine RO.cl (yh T V w o hb hs s aa (ws:=[0,0]) bt r rfl rfl (U.bO (ah6 _ ahy.symm)) λx t m U=>aS ?_);exact Ru.aL (l _ [_] t ⟨λh=>⟨h1,h2,h3,.is f i P (m.1 h)⟩,λh=>m.2 (h.aq.FA f).2.2⟩ (by simpa using U))
  refine aS ?_;refine Ru.d9 (λk=>?_) (λa8=>?_)
  .have f:C.op=65:=of_decide_eq_true k;refine aS ?_;refine RO.bP (λi=>?_) (λi=>?_);rotate_left;·refine aS ?_;exact Ru.aL (l _ [_] false (no i λh=>(h.aq.Lm f).1) (d _ U))
   refine aS ?_;refine RO.iE U 1 (λO X U=>aS ?_);refine RO.cl (yh T V w o hb hs s aa (ws:=[1,0]) bt r rfl rfl (U.bO (ah6 _ ahy.symm)) λx t m U=>aS ?_);exact Ru.aL (l _ [_] t ⟨λh=>⟨h1,h2,h3,.eg f i (m.1 h)⟩,λh=>m.2 (h.aq.Lm f).2⟩ (by simpa using U))
  refine aS ?_;refine Ru.d9 (λk=>absurd (show C.op=66 from of_decide_eq_true k) h) (λu=>aS ?_);refine Ru.d9 (λk=>?_) (λa'=>?_)
  .have f:C.op=67:=of_decide_eq_true k;refine aS ?_;refine RO.bP (λi=>?_) (λi=>?_);rotate_left;·refine aS ?_;exact Ru.aL (l _ [_] false (no i λh=>(h.aq.Ln f).1) (d _ U))
   refine aS ?_;refine RO.cl (abr T V w o hb hs s aa r (ak.dK (xs:=[_]) U) λx v t m U=>aS ?_);exact Ru.aL (l _ (v++[_]) t ⟨λh=>⟨h1,h2,h3,.tG f i (m.1 h)⟩,λh=>m.2 (h.aq.Ln f).2⟩ (by simpa using U))
  refine aS ?_;refine Ru.d9 (λk=>?_) (λba=>?_)
  .have f:C.op=68:=of_decide_eq_true k;refine aS ?_;refine RO.bP (λi=>?_) (λi=>?_);rotate_left;·refine aS ?_;exact Ru.aL (l _ [_] false (no i λh=>(h.aq.Lo f).1) (d _ U))
   refine aS ?_;refine Ru.aL (l _ [_] _ ⟨λhg=>⟨h1,h2,h3,.pN f i (of_decide_eq_true hg)⟩,λh=>decide_eq_true (h.aq.Lo f).2⟩ (d _ U))
  refine aS ?_;refine Ru.d9 (λk=>?_) (λz=>?_)
  .have f:C.op=69\/C.op=21:=.inl (of_decide_eq_true k);rw[k];refine aS ?_;refine RO.bP (λi=>?_) (λi=>?_);rotate_left;·refine aS ?_;exact Ru.aL (l _ [_] false (no i λh=>(h.aq.B6 f).1) (d _ U))
   refine aS ?_;refine Ru.aL (l _ [_] _ ⟨λhg=>⟨h1,h2,h3,.ret f i (of_decide_eq_true hg)⟩,λh=>decide_eq_true (h.aq.B6 f).2⟩ (d _ U))
  rw[z];refine aS ?_;refine Ru.d9 (λk=>?_) (λbb=>?_)
  .have f:C.op=69\/C.op=21:=.inr (of_decide_eq_true k);refine aS ?_;refine RO.bP (λi=>?_) (λi=>?_);rotate_left;·refine aS ?_;exact Ru.aL (l _ [_] false (no i λh=>(h.aq.B6 f).1) (d _ U))
   refine aS ?_;refine Ru.aL (l _ [_] _ ⟨λhg=>⟨h1,h2,h3,.ret f i (of_decide_eq_true hg)⟩,λh=>decide_eq_true (h.aq.B6 f).2⟩ (d _ U))
  refine aS ?_;refine Ru.d9 (λk=>?_) (λbc=>?_)
  .have f:C.op=70:=of_decide_eq_true k;refine aS ?_;refine RO.bP (λi=>?_) (λi=>?_);rotate_left;·refine aS ?_;exact Ru.aL (l _ [_] false (no i λh=>(h.aq.Lq f).1) (d _ U))
   refine aS ?_;refine Ru.aL (l _ [_] _ ⟨λhg=>⟨h1,h2,h3,.stuck f i (of_decide_eq_true hg)⟩,λh=>decide_eq_true (h.aq.Lq f).2⟩ (d _ U))
  refine aS ?_;refine Ru.aL (l _ [_] false (no (p:=False) id λW=>?_) (d _ U));have h8:=W.aq.aA;simp only[decide_eq_false_iff_not]at a1 a2 a6 a8 a' ba z bb bc;omega
end
end
section
variable{ac:Nat->aX}
open Classical in noncomputable def kK(g:G.aM)(s:List Bool)(b:G.dI):Bool×List Bool:=((dM (iT g) s b.i4).1&&(dM (stepG g) (dM (iT g) s b.i4).2 b.aB).1&&decide (Ab g b.aq),(dM (stepG g) (dM (iT g) s b.i4).2 b.aB).2)
structure tH(g:G.aM):Prop where
 i7:jS g.i7
 p0:0<=g.i4
 p1:g.i4<=g.aO
 ne:0<g.aj.length
 first:(g.aj.getD 0 default).i4=[]
 run:(dM (kK g) (ab7 g.aO.toNat false) g.aj).1=true
 all:∀k(h:k<(dM (kK g) (ab7 g.aO.toNat false) g.aj).2.length),g.i4<=k->(dM (kK g) (ab7 g.aO.toNat false) g.aj).2[k]=true
structure ml(g:G.aM):Prop where
 nm:∀c∈g.i7,c<256
 st:∀b∈g.aj,∀s∈b.aB,∀c∈s.i7,c<256
 fn:∀b∈g.aj,∀c∈b.aq.i7,c<256
 kd:∀b∈g.aj,∀c∈b.aq.bu,c<256
section
variable{us:List Th}
theorem abv(g:G.aM)(s:List Bool)(v:Int):(iT g s v).2.length=s.length:=by unfold iT;split<;>(try split)<;>simp
theorem abw(g:G.aM)(s:List Bool)(x:G.dY):(stepG g s x).2.length=s.length:=by
 unfold stepG;split
 .split
  .split;·exact abv g s _
   rfl
  rfl
 rfl
theorem abx(T:Tb ac)(V:FV B F)(a:List G.dY)(hb:∀x∈a,∀c∈x.i7,c<256)(hl:∀x∈a,x.args.length<=1000/\x.i7.length<=1000):oq ac I (.func Fh [.aD M 0] []) nY true (fT B J M N F) (λs=>s.length=F) (stepG B) a:=by rintro s x cs L us i j l U;have⟨m,o⟩:=hl x i;have:=abo (K:=λv k=>v=.bool (stepG B s x).1/\(stepG B s x).2.length=F/\∃b,ak I k (fT B J M N F (stepG B s x).2++b++us)) T V j l (hb x i) aa aa U λk b h=>⟨rfl,by rw[abw];exact j,b,h⟩;exact this
theorem aby(T:Tb ac){b:Bool}(a:E (.bool b) I):YN ac Fi [.bool b] I E:=by refine YF.code T.Z0 aC (au ?_);exact Ru.aL a
def FB:ai->Bool->List AV->Prop:=λ_ v cs=>cs=[.bool v]
theorem abz(T:Tb ac)(i:Sl I 1 (D.map .bool) D.length J)(hl:D.length<=1000000)(j:∀b,aR I b->E (.bool (D.all λv=>v)) b):YN ac Xr [J,.func Fi [] []] I E:=by
 have l:oq ac I (.func Fi [] []) FB false (λ_:Unit=>[]) (λ_=>True) (λs v=>(v,s)) D:=by rintro s a cs b us _ _ rfl U;exact aby T ⟨rfl,trivial,[],by simpa using U⟩
 have q:dM (λ(s:Unit)(v:Bool)=>(v,s)) () D=(D.all λv=>v,()):=Fy (p:=λv=>v);have m:cQ 1 FB I D J:=⟨_,i,λk o=>by rw[aiE,ahp (by simpa using o)];simp[FB]⟩;refine zW T.ZZ bt T.aam bt T.aay (size:=1) (agg:=false) bt (λ_=>rfl) (T:=λ_:Unit=>[]) (s:=()) (us:=[]) rfl rfl rfl (Fu T.aan bt rfl (λa cs h=>by cases h;rfl) l) (λa cs h=>by cases h;rfl) m hl trivial (ak.bM I) λb p _ c=>?_;rw[q];exact j b c.gr
theorem abA(T:Tb ac)(V:FV B F)(hs:D.length=F){b:List G.dY}(l:cQ 6 nY I b J)(hl:b.length<=1000000)(hb:∀x∈b,∀c∈x.i7,c<256)(j:∀x∈b,x.args.length<=1000/\x.i7.length<=1000)(U:ak I L (fT B O M N F D++us))(m:∀i,(dM (stepG B) D b).2.length=F->ak I i (fT B O M N F (dM (stepG B) D b).2++us)->E (.bool (dM (stepG B) D b).1) i):YN ac Xp [J,.func Fh [.aD M 0] []] L E:=by refine zW T.ZW bt T.aaf bt T.aat (size:=6) (agg:=true) bt (λh=>by cases h) rfl rfl rfl (Lb T.aag bt rfl (λa cs h=>⟨by obtain⟨v,rfl,_⟩:=h;rfl,h.one⟩) (abx T V b hb j)) (λa cs h=>rfl) l hl hs U λi p o k=>m i o k.skip
theorem abB(T:Tb ac)(V:FV B F)(hs:D.length=F){b:List Int}(j:dh I b J)(hl:b.length<=1000000)(U:ak I L (fT B O M N F D++us))(k:∀c,(dM (iT B) D b).2.length=F->ak I c (fT B O M N F (dM (iT B) D b).2++us)->E (.bool (dM (iT B) D b).1) c):YN ac KK [J,.func Fg [.aD M 0] []] L E:=by refine zW T.K3 bt T.Fl bt T.Fm (size:=1) (agg:=false) bt (λ_=>rfl) rfl rfl rfl (Fu T.K4 bt rfl (λa cs h=>by cases h;rfl) (abm T V b)) (λa cs h=>by cases h;rfl) (dh.r j) hl hs U λc m l i=>k c l i.skip
theorem abC{c b:Type}{st:b->c->Bool×b}{a:List c}{s:b}(i:F<a.length){r:Bool×b}(h:dM st s (a.drop F)=r):((st s a[F]).1=true->dM st (st s a[F]).2 (a.drop (F+1))=r)/\((st s a[F]).1=false->r.1=false):=by
 rw[ahp i]at h;simp only[dM]at h;constructor;·intro h1;rw[aF h1]at h;exact h
 intro h1;rw[an (by rw[h1];simp)]at h;rw[<-h]
theorem abD(T:Tb ac)(C:G.Sm B)(hY:ml B)(ag:B.i7.length<=1000000)(av:B.aO<=6000){cs:List AV}(hg:dc I B cs)(t:∀H'(b:Bool),aR I H'->(b=true↔tH B)->E (.bool b) H'):YN ac Xd [.agg cs] I E:=by
 have Y:=hg.one;obtain⟨J,rfl,bz⟩:=hg;have⟨hd,_,_,hn⟩:=bz.all;have a8:=C.nb;have no:∀{p:Prop},¬p->(tH B->p)->(false=true↔tH B):=λh1 h2=>⟨λh=>(by cases h),λh=>absurd (h2 h) h1⟩;refine YF.code T.ZH aC (au ?_);refine RO.bZ (ak.bM I) λH1 q U=>?_;refine aS ?_;refine RO.cl (Fv T hY.nm ag λH2 hg=>?_);have U:=U.bN hg;by_cases hN:jS B.i7;rotate_left;·rw[decide_eq_false hN];refine ab ?_;exact Ru.aL (t _ false U.gr (no hN λh=>h.i7))
 rw[decide_eq_true hN];refine ab ?_;refine RO.cl (se T (a:=0) (b:=B.aO) (n:=B.i4) ?_);by_cases w:0<=B.i4/\B.i4<=B.aO;rotate_left;·rw[decide_eq_false w];refine ab ?_;exact Ru.aL (t _ false U.gr (no w λh=>⟨h.p0,h.p1⟩))
 rw[decide_eq_true w];refine ab ?_;refine RO.bP (λ(h:B.aj.length=0)=>?_) (λc=>?_);·refine ab ?_;exact Ru.aL (t _ false U.gr (no (p:=0<B.aj.length) aa λh=>h.ne))
 have c:0<B.aj.length:=aa;refine ab ?_;refine RO.bL U.gr bz (λq1 o1 c1 hj i aw hat hrd=>?_) (hj:=c);obtain⟨vp,vs,jc,rfl,j,_,_⟩:=i;have⟨ax,_,_,ay⟩:=j.all;refine ab ?_;refine Ru.cond (λl=>?_) (λl=>?_);·refine ab ?_;exact Ru.aL (t _ false U.gr (no (p:=B.aj[0].i4=[]) (λb4=>by simp[b4]at l) λh=>by have:=h.first;rwa[aZ c]at this))
 have l:(B.aj.getD 0 default).i4=[]:=by rw[aZ c];exact ahz aa
 obtain⟨n,o⟩:∃n:Nat,B.aO.toNat=n:=⟨_,rfl⟩;have V:FV B n:=⟨w.1,w.2,av,aa⟩;have v3:(n:Int)=B.aO:=aa;have fI:tH B->(dM (kK B) (ab7 n false) B.aj).1=true:=λh=>by have:=h.run;rwa[o]at this
 have v:tH B->∀k(h:k<(dM (kK B) (ab7 n false) B.aj).2.length),B.i4<=k->(dM (kK B) (ab7 n false) B.aj).2[k]=true:=λh=>by have:=h.all;rwa[o]at this
 have mk:(dM (kK B) (ab7 n false) B.aj).1=true->(∀k(h:k<(dM (kK B) (ab7 n false) B.aj).2.length),B.i4<=k->(dM (kK B) (ab7 n false) B.aj).2[k]=true)->tH B:=λh1 h2=>⟨hN,w.1,w.2,c,l,by rw[o];exact h1,by rw[o];exact h2⟩;refine ab ?_;refine RO.bT U 0 (ab ?_);refine RO.jq U (n:=n) (λH3 M U=>?_) (hx:=by show aI B.aO=_;rw[<-v3];rfl) (hy:=by show aI B.aO=_;rw[<-v3];rfl) (hz:=by rw[eE];simp);have er:dZ [AV.bool false] n=(ab7 n false).map .bool:=by rw[eE,aio]
 rw[er]at U;refine ab ?_;refine RO.bZ U (λH4 N U=>ab ?_) (v:=.agg [.str B.i7,aI B.i4,aI B.aO,J,.slice M 0 n n true]);generalize hR:dM (kK B) (ab7 n false) B.aj=R at fI v mk;refine Ru.nm λS b6 hS hM=>?_;refine Ru.bH hM (up (P:=λk=>∀HX s,dM (kK B) s (B.aj.drop k)=R->s.length=n->ak I HX (fT B J N M n s++[tB cA q [.str B.i7,aI B.i4,aI B.aO,J]])->Ru ac _ S ([(uQ,aN k)]++pk b6 [p1,p3,uO,uP]) HX) B.aj.length (λk D ih HX s hs F U=>?_) 0 aa _ (ab7 n false) (by rw[aiX];exact hR) aC U);subst hS;subst hM;refine Ru.loop (au ?_);refine Ru.cond (λy=>?_) (λy=>?_);·obtain⟨L,dg⟩:=abC y hs;have u:=abO y;have a':=C.bl _ u;have lY:(kK B s B.aj[k]).1=false->(false=true↔tH B):=λh=>no (p:=R.1=true) (by rw[dg h];simp) fI;simp only[kK]at L lY;refine au ?_;refine RO.bL U.gr bz (λq1 o1 c1 hj O aw hat hrd=>?_);have Y:=O.one;obtain⟨vp,vs,jc,rfl,j,P,Q⟩:=O;have Z:=Q;obtain⟨va,vk,vg,rfl,ba,bb,bc⟩:=Q;have⟨ax,_,_,ay⟩:=j.all;have⟨a1,_,_,bv⟩:=P.all;refine aS ?_;refine RO.dD U (λH5 q5 U=>?_);refine aS ?_;refine RO.cl (abB T V F j aa (ak.dK (xs:=[_]) U) λH6 a2 U=>?_);have U:=ak.jd (xs:=[_]) U;generalize dM (iT B) s B.aj[k].i4=r1 at*;cases i:r1.1 with|false=>refine aS ?_;exact Ru.aL (t _ false U.gr (lY (by simp[i])))|true=>refine aS ?_;refine RO.cl (abA T V a2 P aa (hY.st _ u) (λx hx=>by have:=C.st _ u x hx;omega) (ak.dK (xs:=[_]) U) λH7 W U=>?_);have U:=ak.jd (xs:=[_]) U;generalize dM (stepG B) r1.2 B.aj[k].aB=r2 at*;cases z:r2.1 with|false=>refine aS ?_;exact Ru.aL (t _ false U.gr (lY (by simp[z])))|true=>refine aS ?_;refine RO.bT U 0 (RO.rR ?_);refine RO.cl (abu T V C c bz W Z (hY.fn _ u) (hY.kd _ u) ⟨aa,aa,aa,aa⟩ (λb4 he=>by have:=C.ed _ u b4 he;omega) (ak.dK (xs:=[_]) U) λH8 ws b3 h3 U=>?_);have U:=(ak.jd (xs:=[_]) U.skip).tail;cases b3 with|false=>refine aS ?_;exact Ru.aL (t _ false U.gr (lY (by simp only[i,z,aiU,decide_eq_false_iff_not];exact λh=>by have:=h3.2 h;cases this)))|true=>refine aS ?_;exact Ru.wk (ih (k+1) aa aa _ _ (L (by simp only[i,z,aiU,decide_eq_true_eq];exact h3.1 rfl)) W U)
 have a6:k=B.aj.length:=aa;subst a6;rw[List.drop_length]at hs;simp only[dM]at hs;subst hs;refine Ru.exitTo ?_;refine ab ?_;obtain⟨m,u⟩:∃m:Nat,B.i4=(m:Int):=⟨B.i4.toNat,aa⟩;refine RO.Ta (U.sl 1) (λsv r=>?_) (b:=m) (hy:=by show aI B.i4=_;rw[u];rfl);have a1:=r.bk;have r:Sl HX 1 ((s.drop m).map .bool) (s.drop m).length sv:=by rw[aiM,F,List.map_drop];simpa using r
 refine RO.cl (abz T r (by rw[aiM];omega) λH9 hg=>?_);refine ab ?_;refine Ru.aL (t _ _ (U.gr.trans hg) ⟨λh=>mk rfl λk D b0=>?_,λh=>?_⟩)
 .rw[aiv]at h;have D:k<s.length:=D;have X:k - m<(s.drop m).length:=by rw[aiM];omega
  have h9:=h ((s.drop m)[k - m]'X) (abO X);rw[List.getElem_drop]at h9;have b4:m+(k - m)=k:=aa;simp only[b4]at h9;exact h9
 rw[aiv];intro a ha;obtain⟨k,D,rfl⟩:=ahd ha;rw[List.getElem_drop];rw[aiM]at D;exact v h (m+k) (by show m+k<s.length;omega) aa
end
end
end Go.al.R
end
