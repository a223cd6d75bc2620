/- A part. No conditions. -/
import Derived.Test.YtjapbgcbkolgmaaGreatDoorA22
set_option linter.all false
set_option maxHeartbeats 16000000
open List renaming replicate->aeN,range->agA
open Int renaming ofNat->age
open List.Perm renaming swap->agm,cons->agz
noncomputable section
namespace Go.al.R
section
variable{g:G.be}{come:List Bool}{os:List (List bK)}
abbrev bm(g:G.be)(b:Nat):G.dW:=g.aj.getD b default
structure oM(g:G.be):Prop where
 v0:0<=g.bc
 p0:0<=g.i4
 uz:∀b∈g.aj,∀p∈cK b,g.i4<=p.1/\p.1<g.bc
 nd:∀b∈g.aj,((cK b).map (·.1)).Nodup
 one:∀i j,i<g.aj.length->j<g.aj.length->∀v p q,(v,p)∈cK (bm g i)->(v,q)∈cK (bm g j)->i=j
 all:∀v:Int,g.i4<=v->v<g.bc->∃i p,i<g.aj.length/\(v,p)∈cK (bm g i)
theorem sB{b:Nat}(h:b<g.aj.length):bm g b∈g.aj:=by rw[bm,bB h];exact adq h
theorem Ig{k:Nat}{v:Int}(b:0<=v):∀(l a:List (Int×Int)),(∀p∈l,0<=p.1/\p.1≠v)->(mG k a l).getD v.toNat (-1, -1)=a.getD v.toNat (-1, -1)|[],a,_=>rfl|p::l,a,h=>by have h1:=h p (abL ..);show(mG k (a.set p.1.toNat ((k:Int),p.2)) l).getD _ _=_;rw[Ig b l _ λq c=>h q (aco _ c)];simp only[afz,List.getElem?_set];rw[ap ab]
theorem NL{k:Nat}{v p:Int}:∀(l a:List (Int×Int)),(l.map (·.1)).Nodup->(∀q∈l,0<=q.1/\q.1.toNat<a.length)->(v,p)∈l->(mG k a l).getD v.toNat (-1, -1)=((k:Int),p)
 |[],a,_,_,h=>by cases h
 |q::l,a,c,d,h=>by
  rw[afp,agf]at c;have f:=d q (abL ..);show(mG k (a.set q.1.toNat ((k:Int),q.2)) l).getD _ _=_;rcases acn.1 h with rfl|h;·rw[Ig f.1 l _ λr b=>⟨(d r (aco _ b)).1,λe=>c.1 (by rw[<-e];exact afI b)⟩,dG f.2,aJ rfl]
  exact NL l _ c.2 (λr b=>by have:=d r (aco _ b);rw[agC];exact this) h
theorem oM.at(h:oM g){i:Nat}{v p:Int}(hi:i<g.aj.length)(c:(v,p)∈cK (bm g i)):(gO g).getD v.toNat (-1, -1)=((i:Int),p):=by
 have f:=h.uz _ (sB hi) _ c;have h0:=h.p0;have key:∀k,k<=g.aj.length->i<k->(jR g g.bc.toNat k).getD v.toNat (-1, -1)=((i:Int),p):=by
  intro k;induction k with
  |zero=>intro _ h;omega
  |succ k j=>
   intro n m;have a:=sB (g:=g) (b:=k) ab;have d:∀q∈cK (bm g k),0<=q.1/\q.1.toNat<(jR g g.bc.toNat k).length:=λq b=>by have:=h.uz _ a q b;rw[D'];simp only at*;omega
   show(mG k _ (cK (bm g k))).getD _ _=_;by_cases e:i=k;·subst e;exact NL _ _ (h.nd _ a) d c
   rw[Ig (by simp only at f;omega) _ _ λq b=>⟨(d q b).1,λl=>e (h.one i k hi ab v p q.2 c (by rw[<-l];exact b))⟩];exact j ab ab
 exact key _ (adv _) hi
theorem NM:∀(l:List G.d9)(i:Nat)(p:Int×Int),p∈iq l i->(i:Int)<=p.2/\p.2<i+l.length
 |[],i,p,h=>by cases h
 |s::l,i,p,h=>by
  simp only[iq,ae8]at h;rcases h with h|h
  .split at h;·cases h
   rw[abx]at h;subst h;simp only[afB];omega
  have:=NM l (i+1) p h;simp only[afB];omega
theorem act{b:G.dW}{v p:Int}(h:(v,p)∈cK b):p= -1\/0<=p/\p<b.aS.length:=by
 simp only[cK,ae8,afE]at h;rcases h with⟨x,_,h⟩|h;·injection h with _ h;exact .inl h.symm
 have:=NM _ _ _ h;simp only at this;right;omega
def nD(g:G.be)(b:Nat)(v bz:Int):Prop:=∀p,(v,p)∈cK (bm g b)->bz<=p
def kU(g:G.be)(o:List bK):Option Int:=(o.reverse.find? λx=>x.2==0).map λx=>((bm g x.1.toNat).aB.go.getD 1 default).block
inductive Lv(g:G.be)(os:List (List bK)):Nat->Int->Prop
 |lV{b:Nat}{v bz:Int}(h:(v,bz)∈gw (bm g b))(hn:nD g b v bz):Lv g os b v
 |lC{b w:Nat}{v:Int}(hw:w∈wW g os b)(h:Lv g os w v)(hn:nD g b v (bm g b).aS.length):Lv g os b v
 |sx{b:Nat}{t v:Int}(ht:kU g (os.getD b [])=some t)(h:Lv g os t.toNat v)(hn:nD g b v 0):Lv g os b v
theorem acu{o:List bK}{t:Int}(h:kU g o=some t):∃x∈o,x.2=0/\t=((bm g x.1.toNat).aB.go.getD 1 default).block:=by unfold kU at h;cases h2:o.reverse.find? λx=>x.2==0 with|none=>rw[h2]at h;cases h|some x=>rw[h2]at h;simp only[afL,aaM]at h;have h3:=List.mem_of_find?_eq_some h2;have a:=List.find?_some h2;exact⟨x,ag3.1 h3,by simpa using a,h.symm⟩
theorem iF.ne{W:Nat->List Nat}{d b:Nat}(h:iF W d b):b≠d:=by cases h with|zero h=>exact h|step _ _ h=>exact h
theorem dX.acv{W:Nat->List Nat}{d:Nat}:dX W d d:=λh=>h.ne rfl
theorem dX.trans{W:Nat->List Nat}{a b c:Nat}(h1:dX W a b)(h2:dX W b c):dX W a c:=by
 intro h;have key:∀x,iF W a x->iF W a b\/iF W b x:=λx f=>by
  induction f with
  |zero h=>
   by_cases e:0=b;·left;rw[<-e];exact .zero h
   exact .inr (.zero e)
  | @step x y f i j d=>
   rcases d with d|d;·exact .inl d
   by_cases e:y=b;·left;rw[<-e];exact .step f i j
   exact .inr (.step d i e)
 rcases key c h with h|h;·exact h1 h
 exact h2 h
theorem dw.qR(c:fK g)(a:dw g come os){b:Nat}{o:List bK}(h:fF g b o):come.getD b false=true/\os.getD b []=o:=by induction h with|zero=>exact⟨a.c0,c.DZ (a.eh 0 a.c0) .zero⟩| @step b o w h d e=>obtain⟨h1,h2⟩:=e;have h3:=a.dn b h1 w (by rw[h2];exact d);exact⟨h3,c.DZ (a.eh _ h3) (.step h d)⟩
theorem acw{b:Nat}{w:Int×List bK}(a:w∈cU g b (os.getD b [])):w.1.toNat∈wW g os b:=afI a
theorem Ih{b:Nat}{o:List bK}{w:Int×List bK}(a:w∈cU g b o){x:bK}(c:x∈w.2):x∈o\/x.1=b/\(bm g b).aB.op=67:=by
 simp only[cU]at a;split at a
 .rename_i d;simp only[acn,afy,or_false]at a;rcases a with rfl|rfl;·simp only[ae8,abx]at c;exact c.imp id λh=>⟨by rw[h],d⟩
  simp only[ae8,abx]at c;exact c.imp id λh=>⟨by rw[h],d⟩
 split at a
 .split at a;·rw[abx]at a;subst a;exact .inl (agQ c)
  cases a
 obtain⟨e,_,rfl⟩:=afE.1 a;exact .inl c
theorem fF.acx(c:fK g)(d:dw g come os){b:Nat}{o:List bK}(h:fF g b o):∀x∈o,∃t:Nat,x.1=t/\come.getD t false=true/\(bm g t).aB.op=67:=by
 induction h with
 |zero=>intro x a;cases a
 | @step b o w h e f=>
  intro x a;rcases Ih e a with h1|⟨h1,h2⟩;·exact f x h1
  exact⟨b,h1,(d.qR c h).1,h2⟩
theorem iF.lM(i:fK g)(f:dw g come os){d b:Nat}(h:iF (wW g os) d b):come.getD b false=true/\∀x∈os.getD b [],x.1≠(d:Int):=by
 induction h with
 |zero h=>refine⟨f.c0,λx c=>?_⟩;rw[(f.qR i .zero).2]at c;cases c
 | @step a x h c m l=>
  obtain⟨h1,h2⟩:=l;refine⟨f.lC h1 c,λy j=>?_⟩;simp only[wW,ky,afE]at c;obtain⟨w,k,rfl⟩:=c;have hl:=f.eh a h1;rw[(f.qR i (.step hl k)).2]at j;rcases Ih k j with h3|⟨h3,_⟩;·exact h2 y h3
  rw[h3];exact λe=>h.ne ab
theorem acy(a:fK g)(c:dw g come os){b t:Nat}{k:Nat}(h:(((t:Int),k):bK)∈os.getD b []):dX (wW g os) t b:=λd=>(d.lM a c).2 _ h rfl
theorem acz{aA:List Nat}(i:nu g come os aA){b8 a:List Nat}{t:Nat}(e:aA=b8++t::a):∀(n x:Nat),b8[n]?=some x->iF (wW g os) t x:=by
 have c:=i.nd;have d:∀x∈b8,x≠t:=λx b h=>by rw[e]at c;exact(afY.1 c).2.2 x b t (abL ..) h
 intro n;induction n using Nat.strongRecOn with
 |ind n k=>
  intro x b;obtain⟨j,b⟩:=af3.1 b;have f:=d x (by rw[<-b];exact adq j);have l:aA=b8.take n++x::(b8.drop (n+1)++t::a):=by
   rw[e];conv=>lhs;rw[<-agy n b8,afv j,b]
   simp
  rcases i.aM _ _ _ l with h|⟨y,o,p⟩;·rw[h];exact .zero ab
  obtain⟨m,q,rfl⟩:=afr o;rw[afH]at q;refine .step (k m ab _ ?_) p f;rw[List.getElem_take,agi ab]
theorem acA(d:fK g)(c:dw g come os){aA:List Nat}(f:nu g come os aA){b t:Nat}{k:Nat}(hb:come.getD b false=true)(h:(((t:Int),k):bK)∈os.getD b []):t≠b:=by
 rintro rfl;obtain⟨b8,n,e⟩:=List.append_of_mem ((f.mem t).2 hb);rcases f.aM _ _ _ e with h0|⟨y,o,a⟩;·subst h0;rw[(c.qR d .zero).2]at h;cases h
 obtain⟨m,p,rfl⟩:=afr o;have j:=acz f e m _ (agi p);obtain⟨h1,h2⟩:=j.lM d c;simp only[wW,ky,afE]at a;obtain⟨w,a,q⟩:=a;have l:=(c.qR d (.step (c.eh _ h1) a)).2;rw[q]at l;rw[l]at h;rcases Ih a h with i|⟨i,_⟩;·exact h2 _ i rfl
 exact j.ne (by simp only at i;omega)
theorem nu.rk{aA:List Nat}(a:nu g come os aA)(n:Nat)(c:∀b∈aA,b<n):Rk (wW g os) aA ((agA n).map λb=>aA.idxOf b):=by refine⟨a.nd,a.hd,a.aM,λi h=>?_⟩;have hi:=c _ (adq h);rw[bB (by simpa using hi)];simp only[agw,List.getElem_range];exact a.nd.idxOf_getElem i h
theorem dX.acB(h:dw g come os){aA:List Nat}(e:nu g come os aA){a b:Nat}(i:come.getD a false=true)(hb:come.getD b false=true)(h1:dX (wW g os) a b)(h2:dX (wW g os) b a):a=b:=by have f:=e.rk g.aj.length λb hb=>h.lt ((e.mem b).1 hb);have c:=(e.mem a).2 i;have d:=(e.mem b).2 hb;exact f.inj c d (Nat.le_antisymm (f.dO _ b rfl d h1) (f.dO _ a rfl c h2))
abbrev uA(g:G.be)(v:Int):Int:=((gO g).getD v.toNat (-1, -1)).1
def Far(g:G.be)(come:List Bool)(os:List (List bK))(b:Nat)(v:Int):Prop:=0<=v/\v<g.bc/\(v<g.i4\/∃s:Nat,uA g v=s/\s≠b/\come.getD s false=true/\dX (wW g os) s b)
theorem Ii(h:0<=g.bc):((gO g).length:Int)=g.bc:=by rw[gO,D'];omega
theorem oM.jp(a:oM g){v:Int}(h0:g.i4<=v)(h1:v<g.bc):∃i p,i<g.aj.length/\(v,p)∈cK (bm g i)/\(gO g).getD v.toNat (-1, -1)=((i:Int),p):=by obtain⟨i,p,hi,b⟩:=a.all v h0 h1;exact⟨i,p,hi,b,a.at hi b⟩
theorem Ea(h:fK g)(c:dw g come os){b:Nat}{t:Int}(hb:come.getD b false=true)(k:kU g (os.getD b [])=some t):∃u:Nat,(((u:Int),0):bK)∈os.getD b []/\come.getD u false=true/\t.toNat∈wW g os u/\come.getD t.toNat false=true/\0<=t:=by
 obtain⟨x,i,d,rfl⟩:=acu k;obtain⟨u,hu,a,e⟩:=(c.eh b hb).acx h c x i;have f:x=((u:Int),0):=by rw[<-hu,<-d]
 rw[hu,afs];have j:(((bm g u).aB.go.getD 1 default).block,os.getD u []++[((u:Int),1)])∈cU g u (os.getD u []):=by simp only[cU];rw[aJ e];simp
 have h2:=acw j;refine⟨u,by rw[<-f];exact i,a,h2,c.lC a h2,(h.HH (c.eh u a) _ j).1⟩
theorem Lv.rr(o:fK g)(c:dw g come os)(F:qP g come os)(q:oM g){aA:List Nat}(D:nu g come os aA){b:Nat}{v:Int}(h:Lv g os b v):come.getD b false=true->Far g come os b v:=by
 induction h with
 | @lV b v bz h k=>
  intro hb;obtain⟨t,l,G,r⟩:=F.rd b hb _ h;simp only at l;subst l;have d:(t:Int)<g.bc:=by have:=Ii q.v0;omega
  refine⟨ab,d,?_⟩;rcases r with r|⟨h1,h2⟩|⟨s,h1,h2,h3,a⟩;·exact .inl r
  .by_cases x:(t:Int)<g.i4;·exact .inl x
   obtain⟨i,p,hi,m,he⟩:=q.jp (v:=(t:Int)) ab d;rw[afs]at he;rw[he]at h1 h2;simp only at h1 h2;have:i=b:=ab;subst this;have:=k p m;omega
  exact .inr ⟨s,by rw[uA,afs];exact h1,h2,h3,a⟩
 | @lC b w v E h k y=>
  intro hb;obtain⟨h0,h1,h2⟩:=y (c.lC hb E);by_cases x:v<g.i4;·exact⟨h0,h1,.inl x⟩
  refine⟨h0,h1,h2.imp id λ⟨s,h3,a,z,n⟩=>⟨s,h3,λe=>?_,z,n.b8 E a⟩⟩;subst e;obtain⟨i,p,hi,m,he⟩:=q.jp ab h1;rw[uA,he]at h3;simp only at h3;have:i=s:=ab;subst this;have I:=k p m;have J:=act m;omega
 | @sx b t v l h k y=>intro hb;obtain⟨u,hu,A,f,B,H⟩:=Ea o c hb l;obtain⟨h0,h1,h2⟩:=y B;have C:=acA o c D hb hu;have j:=acy o c hu;refine⟨h0,h1,h2.imp id λ⟨s,h3,a,z,n⟩=>⟨s,h3,λe=>?_,z,(n.b8 f a).trans j⟩⟩;subst e;exact C (dX.acB c D A hb j (n.b8 f a))
end
def acH:ah->List Int->List AV->Prop:=λH l cs=>∃v,cs=[v]/\eU H l v
abbrev qS(H:ah)(a:List (List Int))(v:AV):Prop:=cP 1 acH H a v
structure iN(lv:List (List Int))(vsl:List AV)(F:List Th):Prop where
 len:vsl.length=lv.length
 mem:∀b,b<lv.length->tR 1 ((lv.getD b []).map aI) (lv.getD b []).length (vsl.getD b .b9)∈F
theorem iN.sl{c:List (List Int)}{a:List AV}{F:List Th}(h:iN c a F){A H:ah}{d:List Th}(U:aq A H d)(i:Nat)(hi:d[i]?=some (tZ F)){v:AV}(hs:Sl H 1 a a.length v):qS H c v:=by have hl:=h.len;refine⟨a,by rw[<-hl];exact hs,λb hb=>?_⟩;obtain⟨f,e,_⟩:=U.jO i hi (h.mem b hb);refine⟨a.getD b .b9,?_,by rw[<-bB hb []];exact e⟩;rw[agU,afv ab,bB ab];rfl
theorem jm{L:Kn}{c b cs r:List AV}{off size:Nat}{x:aL}{v:AV}{a:List (Nat×Nat×aL)}(d:aW L x=v)(hd:v.bC=true)(e:v.cells=cs)(hs:cs.length=size)(hl:nN c off cs=some b)(f:mB L b a=some r):mB L c ((off,size,x)::a)=some r:=by simp only[mB,d,hd,e,hs,decide_true,ahj,bf,hl,f]
theorem acI{size:Nat}{j p:List AV}{n m:Nat}{nv v:AV}(b:∀H,Sl H size j n nv->Sl H size p m v){H:ah}{f:List af}(h:(tR size j n nv).P H f):(tR size p m v).P H f:=by
 obtain⟨h1,h2,h3⟩:=h;refine⟨b H h1,λi o m c e w=>?_,h3⟩;apply afO;intro hi;have x:Sl (H.set i .none) size j n nv:=by
  rcases h1 with h|⟨k,q,cap,ex,r,s,t,d,aM,fz,a,g,u⟩;·exact .inl h
  have l:k≠i:=λe=>hi (e▸h2 _ _ _ _ _ a);exact .inr ⟨k,q,cap,ex,r,s,t,d,aM,fz,a,by rw[ah.aC,ap l];exact g,u⟩
 have a:=b _ x;subst w;rcases a with⟨h,_⟩|⟨k,q,cap,ex,r,s,t,d,aM,fz,a,g,u⟩;·cases h
 injection a with a;subst a;rw[ah.aC,aJ rfl]at g;cases g
section
variable{ac:Nat->aX}
section
def nE(g:G.be)(x:Int):Int:=((bm g (x.toNat/2)).aB.go.getD 2 default).block
def gB(g:G.be)(b:Nat)(o:List Int):List (Int×List Int):=
 if(bm g b).aB.op=67 then[(((bm g b).aB.go.getD 0 default).block,o++[2*(b:Int)]),(((bm g b).aB.go.getD 1 default).block,o++[2*(b:Int)+1])]
 else if(bm g b).aB.op=68 then(if o.length=0 then[]else[(nE g (o.getD (o.length - 1) 0),o.take (o.length - 1))])
 else(bm g b).aB.go.map λe=>(e.block,o)
def oN(g:G.be)(o:List Int):Prop:=∀x∈o,0<=x/\x.toNat/2<g.aj.length/\(bm g (x.toNat/2)).aB.go.length=3
def mH(w:List (Int×List Int))(a:Nat->AV):List AV:=(agA w.length).flatMap λk=>[aI (w.getD k (0,[])).1,a k]
def acJ(o:List Int)(c:AV)(w:List (Int×List Int))(a:Nat->AV)(F:List Th):Prop:=∀k,k<w.length->tR 1 ((w.getD k (0,[])).2.map aI) (w.getD k (0,[])).2.length (a k)∈F\/∀b,Sl b 1 (o.map aI) o.length c->Sl b 1 ((w.getD k (0,[])).2.map aI) (w.getD k (0,[])).2.length (a k)
theorem AR{b c:Type}{f g:b->List c}:∀{l:List b},(∀x∈l,f x=g x)->l.flatMap f=l.flatMap g|[],_=>rfl|a::l,h=>by rw[ags,ags,h a (abL ..),AR λx d=>h x (aco _ d)]
theorem acK{w:List (Int×List Int)}{x:Int×List Int}{a:Nat->AV}:mH (w++[x]) a=mH w a++[aI x.1,a w.length]:=by
 unfold mH;rw[afq,af2,agS,afX,agc];congr 1;·refine AR λk b=>?_;rw[agK]at b;simp[afG b]
 simp
theorem _root_.Go.al.aq.NQ{A H:ah}{t:Th}{a:List Th}(U:aq A H (t::a)):aq A H (tZ [t]::a):=(U.pE.cJ (agm t (tZ []) a)).kw
section
variable{g:G.be}{H:ah}{cs:List AV}
theorem NR(T:Tb ac)(hg:gu H g cs)(hB:G.Sm g){b:Nat}(hb:b<g.aj.length)(l:(bm g b).aB.op=67->(bm g b).aB.go.length=3){o:List Int}{a:AV}(q:eU H o a)(cx:o.length<=1000)(hO:oN g o){K:KT}(h:∀H' wv vs F,acJ o a (gB g b o) vs F->aq H H' [tZ F,tS qF 2 (mH (gB g b o) vs) (gB g b o).length true wv]->K wv H'):YN ac Wi [.agg cs,aN b,a] H K:=by
 have ca:=hg.one;obtain⟨vb,rfl,bW⟩:=hg;have⟨cy,_,_,cE⟩:=bW.all;have⟨Y,cR,Z,c9⟩:=q.all;have c':=hB.nb;have ag:=adq hb;have dm:=hB.bl _ ag;have i:bm g b=g.aj[b]:=by rw[bm,bB hb]
 rw[i]at l;refine YF.code T.Y5 aF ?_;refine ai ?_;refine RO.dp (aq.ct H) λH1 q3 U=>?_;refine ai ?_;refine RO.bY U.gr bW (λq1 o1 c1 av m aw hat hrd=>?_) (j:=b);unfold gB at h;rw[i]at h;generalize dr:g.aj[b]=B at*;obtain⟨vp,ds,jc,rfl,dv,dx,va,vk,vg,rfl,ax,ay,c⟩:=m;have⟨dy,_,_,dz⟩:=c.all;have⟨d0,d1,_,_⟩:=ax.all;have⟨d2,d3,_,_⟩:=ay.all;have d4:=c.dg;have cd:=Hr (k:=2) (m:=5) hrd bo;refine ai ?_;refine RO.lW U 2 λH2 v8 U=>?_;have⟨d5,_,_,_⟩:=(U.sl 0 rfl).all;refine RO.ff U λH3 q7 U=>?_;have U:aq H H3 [tB mE q7 [aU B.aB.op,va,.str B.aB.i7,vk,vg],tS qF 2 [] 0 true v8,tB eg q3 [.str g.i7,aI g.i4,aI g.bc,vb]]:=U;refine ai ?_;refine Ru.cond (λE=>?_) (λE=>?_)
 .have l:=l E;rw[aJ E]at h;have s:eR .mul 3 (.ofNat 2) (.ofNat b)=some (aI (2*(b:Int))):=by simp only[eR];rw[show(age 2*age b:Int)=2*(b:Int)from rfl,mA ab ab]
  refine ai ?_;refine RO.lW U 1 λH4 d6 U=>?_;have⟨d7,_,_,_⟩:=(U.sl 0 rfl).all;refine ai ?_;refine RO.lu U 0 (U.gr.sl q) (λH5 d' U=>?_) (h1:=mC _);have⟨ea,_,_,_⟩:=(U.sl 0 rfl).all;refine ai ?_;refine RO.arith ?_ (hv:=s);refine RO.push U 0 (λw1 H6 v9 U=>?_) (ws:=[aI (2*(b:Int))]);have⟨a1,eb,a2,_⟩:=(U.sl 0 rfl).all;refine ai ?_;refine RO.lW U 1 λH7 ec U=>?_;have⟨ei,_,_,_⟩:=(U.sl 0 rfl).all;refine ai ?_;refine RO.lu U 0 (U.gr.sl q) (λH8 ej U=>?_) (h1:=mC _);have⟨ek,_,_,_⟩:=(U.sl 0 rfl).all;refine ai ?_;refine RO.arith ?_ (hv:=s);refine RO.add ?_ (a:=2*(b:Int)) (b:=1);refine RO.push U 0 (λw1 H9 n U=>?_) (ws:=[aI (2*(b:Int)+1)]);have⟨C,cf,D,_⟩:=(U.sl 0 rfl).all;refine ai ?_;refine RO.bY U.gr c (λO P c8 a6 d t hat hrd=>?_) (j:=0);obtain⟨Q,rfl,_⟩:=d;refine ai ?_;refine RO.build (vs:=[aI B.aB.go[0].block,v9]) ?_ (hl:=jm rfl rfl rfl rfl rfl (jm rfl a1 a2 rfl rfl rfl));refine ai ?_;refine RO.bY U.gr c (λO P c8 cn d t hat hrd=>?_) (j:=1);obtain⟨Q,rfl,_⟩:=d;refine ai ?_;refine RO.build (vs:=[aI B.aB.go[1].block,n]) ?_ (hl:=jm rfl rfl rfl rfl rfl (jm rfl C D rfl rfl rfl));refine RO.kr U 2 (ws:=[aI B.aB.go[0].block,v9,aI B.aB.go[1].block,n]) (n:=2) (λHA a8 U=>?_) (hl:=jm rfl rfl rfl rfl rfl (jm rfl rfl rfl rfl rfl rfl));refine RO.lu U 4 (U.sl 0 rfl) (λR p U=>?_);have⟨a',_,_,_⟩:=(U.sl 4 rfl).all;refine ai ?_;have e1:∀x:Int,[]++o.map aI++[aI x]=(o++[x]).map aI:=λx=>by simp
  have e2:∀x:Int,0+o.length+1=(o++[x]).length:=λx=>by simp
  have ba:=((U.sub (.cons _ (.cons_cons _ (.cons_cons _ (.cons _ (.cons_cons _ (.cons _ .slnil))))))).as 0 rfl λfp S=>tS.kR S).as 1 rfl λfp S=>tS.kR S;have u:=((((ba.cJ (agm _ _ _)).NQ).cJ (agm _ _ _)).kw);rw[e1,e1,e2 (2*(b:Int))]at u;have V:B.aB.go.getD 0 default=B.aB.go[0]:=bB ab _;have bb:B.aB.go.getD 1 default=B.aB.go[1]:=bB ab _;rw[V,bb]at h;refine Ru.aP (h R p (λk=>if k=0 then v9 else n) _ (λk r=>.inl ?_) u);match k,r with|0,_=>simp|1,_=>simp
 rw[ap E]at h;refine ai ?_;refine Ru.cond (λW=>?_) (λW=>?_)
 .rw[aJ W]at h;refine ai ?_;refine Ru.cond (λX=>?_) (λX=>?_);·rw[aJ X]at h;refine ai ?_;exact Ru.aP (h _ v8 (λ_=>.aH) [] (λk r=>absurd r aF) (U.sub (.cons _ (.cons_cons _ (.cons _ .slnil)))).pE)
  rw[ap X]at h;have f:o.length - 1<o.length:=ab;refine ai ?_;refine RO.arith (v:=aN (o.length - 1)) ?_ (hv:=ou (k:=o.length) ab ab);refine RO.mD U.gr q (λO P hj el=>?_) (j:=o.length - 1);have v:=hO _ (adq f);have bd:o.getD (o.length - 1) 0=o[o.length - 1]:=bB f _;rw[bd]at h;generalize o[o.length - 1]=x at*;obtain⟨x,rfl⟩:∃y:Nat,x=y:=⟨x.toNat,ab⟩;rw[nE,afs]at h;rw[afs]at v;obtain⟨_,bv,z⟩:=v;have hq:eR .quo 3 (x:Int) (.ofNat 2)=some (aN (x/2)):=by simp only[eR];rw[ap bo,show((x:Int).tdiv (age 2))=((x/2:Nat):Int)from by rw[afm,Int.tdiv_eq_ediv_of_nonneg ab];simp,mA ab ab];rfl
  refine ai ?_;refine RO.arith ?_ (hv:=hq);refine RO.bY U.gr bW (λq1 o1 c1 av m aw hat hrd=>?_) (j:=x/2);rw[bm,bB bv]at z h;generalize g.aj[x/2]=I at*;obtain⟨et,cp,ew,rfl,_,_,e0,e3,b0,rfl,_,_,j⟩:=m;have⟨cv,_,_,_⟩:=j.all;refine ai ?_;refine RO.bi (v:=b0) ?_ (hc:=hat 6 _ rfl);refine RO.bY U.gr j (λO P c8 a6 d t hat hrd=>?_) (j:=2);obtain⟨Q,rfl,_⟩:=d;refine ai ?_;refine RO.arith (v:=aN (o.length - 1)) ?_ (hv:=ou (k:=o.length) ab ab);refine RO.ng (U.gr.sl q) (b:=o.length - 1) ?_;have A:=λJ(hs:Sl J 1 (o.map aI) o.length a)=>DW hs (b:=o.length - 1) ab;have⟨b3,_,b4,_⟩:=(A _ q).all;refine RO.build (vs:=[aI I.aB.go[2].block,ng a (o.length - 1)]) ?_ (hl:=jm rfl rfl rfl rfl rfl (jm rfl b3 b4 rfl rfl rfl));refine RO.kr U 2 (ws:=[aI I.aB.go[2].block,ng a (o.length - 1)]) (n:=1) (λHA a8 U=>?_) (hl:=jm rfl rfl rfl rfl rfl rfl);refine RO.lu U 2 (U.sl 0 rfl) (λR p U=>?_);have⟨a',_,_,_⟩:=(U.sl 2 rfl).all;refine ai ?_;have V:I.aB.go.getD 2 default=I.aB.go[2]:=bB ab _;rw[V]at h;refine Ru.aP (h R p (λk=>ng a (o.length - 1)) [] (λk r=>.inr λJ hs=>?_) (U.sub (.cons _ (.cons _ (.cons_cons _ (.cons _ .slnil))))).pE);have b6:k=0:=by simpa using r
  subst b6;have:=A J hs;rw[agU,<-List.map_take]at this;simpa using this
 rw[ap W]at h;refine ai ?_;refine Ru.nm λS0 M hS hM=>?_;refine Ru.bT hM (up (P:=λk=>∀L w,aq H L [tB mE q7 [aU B.aB.op,va,.str B.aB.i7,vk,vg],tS qF 2 (mH ((B.aB.go.take k).map λe=>(e.block,o)) λ_=>a) k true w,tB eg q3 [.str g.i7,aI g.i4,aI g.bc,vb]]->Ru ac _ S0 ([(jy,aN k),(p8,w)]++pk M [p2,p7]) L) B.aB.go.length (λk r N L w U=>?_) 0 ab _ _ U);subst hS;subst hM;have⟨e4,_,_,_⟩:=(U.sl 1 rfl).all;refine Ru.loop ?_;refine ai ?_;refine Ru.cond (λf=>?_) (λf=>?_);·have N:=N (k+1) ab ab;rw[(afK f).symm,afS,List.map_singleton,acK]at N;refine ai ?_;refine RO.bY U.gr c (λq9 o9 e' e5 b7 e6 hat hrd=>?_) (j:=k);generalize B.aB.go[k]=e at*;obtain⟨Q,rfl,e7⟩:=b7;refine ai ?_;refine RO.build (vs:=[aI e.block,a]) ?_ (hl:=jm rfl rfl rfl rfl rfl (jm rfl Y Z rfl rfl rfl));refine RO.push U 1 (λw0 H5 v2 U=>?_) (ws:=[aI e.block,a]);have⟨e8,_,_,_⟩:=(U.sl 1 rfl).all;refine ai ?_;exact Ru.wk (N _ v2 U)
 refine Ru.exitTo ?_;rw[afF ab]at U;have b':k=(B.aB.go.map λe=>(e.block,o)).length:=by rw[afJ];omega
 refine ai ?_;refine Ru.aP (h L w (λ_=>a) [] (λx hx=>.inr λJ hs=>?_) ?_)
 .have z:x<B.aB.go.length:=by simpa using hx
  have e:((B.aB.go.map λe=>(e.block,o)).getD x (0,[])).2=o:=by rw[bB hx,agw]
  rw[e];exact hs
 rw[<-b'];exact(U.sub (.cons _ (.cons_cons _ (.cons _ .slnil)))).pE
end
end
section
theorem RO.acL{A H:ah}{o:List Th}{c:Cx}{s:List SI}{L:Kn}{d:Option af}{l:List bA}{e n k cap:Nat}{b ex:Bool}{q:af}{p:Type}{f:p->AV}{zs:List p}(U:aq A H o)(i:Nat)(z:p)(r:zs.length=n){a x:aL}{re:List gE}(h:∀j,aq A j (o.set i (tS e 1 ((zs.set k z).map f) n b (.slice q 0 n cap ex)))->(∀aa,Le (bq L d .ahp) aa->du aa j re=true)/\RO ac c l s (bq L d .ahp) j)(t:aW L a=.aE q (0+k*1):=by exact cw)(u:aW L x=f z:=by exact cw)(hi:o[i]?=some (tS e 1 (zs.map f) n b (.slice q 0 n cap ex)):=by rfl)(v:k<zs.length:=by first|omega|assumption)(w:(f z).dg=true:=by first|rfl|assumption)(y:(f z).cells=[f z]:=by first|rfl|assumption)(hd:(f z).bC=true:=by first|rfl|assumption):RO ac c (⟨d,.store 1 a x,none,[],re⟩::l) s L H:=by subst r;obtain⟨E,B,_,hu⟩:=U.iJ i hi;obtain⟨j,h1,h2,h3⟩:=Mc.set (k:=k) B v z w;have:=hu (t':=tS e 1 ((zs.set k z).map f) (zs.set k z).length b (.slice q 0 (zs.set k z).length cap ex)) h2 h3;rw[agC]at this;obtain⟨C,D⟩:=h j this;refine RO.Cq (λ_ _ h=>by cases h) (λ_ h=>by cases h) (λaa m=>⟨j,?_,rfl⟩) C D;simp only[cW,aD,m.gv t rfl,m.gv u hd,y,af2,bf,h1]
theorem acM(T:Tb ac){H:ah}{l m:List Int}{v w:AV}(j:eU H l v)(n:eU H m w)(hl:l.length<=1000000){K:KT}(h1:l=m->K (.bool true) H)(h2:l≠m->K (.bool false) H):YN ac Wh [v,w] H K:=by
 have⟨t,u,x,y⟩:=j.all;have⟨z,A,B,C⟩:=n.all;refine YF.code T.Y4 aF ?_;refine ai ?_;refine Ru.cond (λa=>?_) (λa=>?_);·refine ai ?_;exact Ru.aP (h2 λe=>a (by rw[e]))
 have a:l.length=m.length:=ab;refine ai ?_;refine Ru.nm λS M q o=>?_;refine Ru.bT o (up (P:=λk=>(∀i(h:i<l.length)(b:i<m.length),i<k->l[i]=m[i])->Ru ac _ S ([(p5,aN k)]++pk M [p0,p1]) H) l.length (λk D r p=>?_) 0 ab (λi _ _ hi=>by omega));subst q;subst o;refine Ru.loop ?_;refine ai ?_;refine Ru.cond (λd=>?_) (λd=>?_)
 .refine ai ?_;refine RO.mD (aZ.refl H) j (λs o1 hj f=>?_) (j:=k);refine ai ?_;refine RO.mD (aZ.refl H) n (λs o1 hj f=>?_) (j:=k);refine ai ?_;refine Ru.cond (λc=>?_) (λc=>?_);·refine ai ?_;exact Ru.aP (h2 λe=>c (by subst e;rfl))
  refine ai ?_;refine Ru.wk (r (k+1) ab ab λi h b hi=>?_);by_cases e:i=k;·subst e;exact agJ.1 c
  exact p i h b ab
 refine Ru.exitTo ?_;refine ai ?_;exact Ru.aP (h1 (List.ext_getElem a λi h b=>p i h b ab))
structure i9(g:G.be):Prop where
 ne:0<g.aj.length
 t3:∀b,b<g.aj.length->(bm g b).aB.op=67->(bm g b).aB.go.length=3
 rg:∀b,b<g.aj.length->∀e∈(bm g b).aB.go,1<=e.block/\e.block<=(g.aj.length:Int) - 1
theorem fu.sh{g:G.be}(h:fu g):i9 g:=by
 have hb:∀b,b<g.aj.length->l6 g (bm g b).aB:=λb hb=>by rw[bm,bB hb];exact h.yY _ (adq hb)
 refine⟨h.ne,λb c d=>?_,λb c e he=>?_⟩;·have:=(hb b c).ae;generalize(bm g b).aB.go.length=n at*;generalize(bm g b).aB.args.length=a at*;cases this<;>simp_all
 obtain⟨i,hi,rfl⟩:=afr he;have:=(hb b c).AL i hi;exact⟨this.lo,this.hi⟩
inductive gC(g:G.be)(wo:Int):Nat->List Int->Prop
 |zero(h:wo≠0):gC g wo 0 []
 |step{b:Nat}{o:List Int}{w:Int×List Int}(h:gC g wo b o)(hw:w∈gB g b o)(hn:w.1≠wo):gC g wo w.1.toNat w.2
section
variable{g:G.be}{wo:Int}
theorem oN.mZ{o:List Int}{x:Int}(h:oN g o)(b:0<=x/\x.toNat/2<g.aj.length/\(bm g (x.toNat/2)).aB.go.length=3):oN g (o++[x]):=λy a=>by
 rcases ae8.1 a with a|a;·exact h y a
 rw[abx]at a;subst a;exact b
theorem pJ(d:i9 g){b:Nat}(hb:b<g.aj.length){o:List Int}(c:oN g o):∀w∈gB g b o,(1<=w.1/\w.1<=(g.aj.length:Int) - 1)/\oN g w.2/\w.2.length<=o.length+1:=by
 intro w a;unfold gB at a;split at a
 .rename_i f;have h3:=d.t3 b hb f;have h:=d.rg b hb;have i:(2*(b:Int)).toNat/2=b:=ab;have j:(2*(b:Int)+1).toNat/2=b:=ab;simp only[acn,afy,or_false]at a;rcases a with rfl|rfl;·refine⟨h _ (by rw[bB ab];exact adq _),c.mZ ⟨ab,by rw[i];exact hb,by rw[i];exact h3⟩,aF⟩
  refine⟨h _ (by rw[bB ab];exact adq _),c.mZ ⟨ab,by rw[j];exact hb,by rw[j];exact h3⟩,aF⟩
 split at a
 .split at a;·cases a
  rename_i h0;rw[abx]at a;subst a;have k:=adq (l:=o) (n:=o.length - 1) ab;obtain⟨_,h2,h3⟩:=c _ k;refine⟨?_,λx l=>c x (agQ l),by rw[afH];omega⟩;show 1<=nE g _/\_;rw[bB ab,nE];exact d.rg _ h2 _ (by rw[bB ab];exact adq _)
 obtain⟨e,he,rfl⟩:=afE.1 a;exact⟨d.rg b hb e he,c,aF⟩
theorem gC.ok(a:i9 g){b:Nat}{o:List Int}(h:gC g wo b o):b<g.aj.length/\oN g o:=by induction h with|zero _=>exact⟨a.ne,λx d=>by cases d⟩|step _ e _ c=>obtain⟨⟨h1,h2⟩,h3,_⟩:=pJ a c.1 c.2 _ e;exact⟨ab,h3⟩
structure jD(g:G.be)(wo:Int)(come:List Bool)(az:List (List Int)):Prop where
 lc:come.length=g.aj.length
 lo:az.length=g.aj.length
 c0:wo≠0->come.getD 0 false=true
 Ik:∀b,come.getD b false=false->az.getD b []=[]
 snd:∀b,come.getD b false=true->gC g wo b (az.getD b [])
 iM:∀b,come.getD b false=true->(az.getD b []).length+iL come<g.aj.length
structure oO(g:G.be)(wo:Int)(come:List Bool)(az:List (List Int))(oth:Bool):Prop extends toFlI:jD g wo come az where
 NS:oth=true->∃b o o',gC g wo b o/\gC g wo b o'/\o≠o'
def y6(wo:Int)(a:List Bool)(az:List (List Int))(b:Bool)(w:Int×List Int):Prop:=w.1=wo\/a.getD w.1.toNat false=true/\(b=false->az.getD w.1.toNat []=w.2)
def ja(g:G.be)(wo:Int)(a:List Bool)(az:List (List Int))(c:Bool)(b:Nat):Prop:=a.getD b false=true->∀w∈gB g b (az.getD b []),y6 wo a az c w
theorem jD.add(k:i9 g){a:List Bool}{az:List (List Int)}(h:jD g wo a az){b:Nat}{w:Int×List Int}(hb:a.getD b false=true)(l:w∈gB g b (az.getD b []))(m:w.1≠wo)(n:a.getD w.1.toNat false=false):jD g wo (a.set w.1.toNat true) (az.set w.1.toNat w.2):=by
 have d:=h.lc;have f:=h.lo;obtain⟨j,o⟩:=(h.snd b hb).ok k;obtain⟨⟨h1,h2⟩,h3,q⟩:=pJ k j o _ l;have i:w.1.toNat<g.aj.length:=ab;have r:=h.iM b hb;have p:=pH (by rw[d];exact i) n;refine⟨by simpa using d,by simpa using f,λh0=>?_,λx c=>?_,λx c=>?_,λx c=>?_⟩
 .rw[dG (by rw[d];exact i)];split;·rfl
  exact h.c0 h0
 .rw[dG (by rw[d];exact i)]at c;rw[dG (by rw[f];exact i)];split;·rename_i e;rw[aJ e]at c;cases c
  rename_i e;rw[ap e]at c;exact h.Ik x c
 .rw[dG (by rw[d];exact i)]at c;rw[dG (by rw[f];exact i)];split;·rename_i e;subst e;exact .step (h.snd b hb) l m
  rename_i e;rw[ap e]at c;exact h.snd x c
 rw[dG (by rw[d];exact i)]at c;rw[dG (by rw[f];exact i)];split;·omega
 rename_i e;rw[ap e]at c;have:=h.iM x c;omega
end
end
end
end Go.al.R
namespace Go.al
section
variable{ac:Nat->aX}{c:Cx}{s:List SI}{L:Kn}{A B H H':ah}{d:Option af}{l:List bA}{ts us:List Th}{q r:af}{e n m o k i cap size bytes:Nat}{vs ws:List AV}{v w sv yv:AV}{full ex:Bool}
theorem RO.acZ{x:aL}{g is:List af}(y:dK H q o m=some vs)(t:q∉is)(h:∀i,(∀j,i.get j=H.get j)->i.next=H.next->RO ac c l s (bq L d (.agg vs)) i)(z:aW L x=.aE q o:=by exact cw)(C:qO L g=is.map some:=by exact cw):RO ac c (⟨d,.gR m x,none,g,[]⟩::l) s L H:=λaa b=>by
 obtain⟨h1,h2,h3⟩:=AD b (H:=H) C;generalize D:cW aa H g=a at h1 h2 h3;obtain⟨E,F⟩:=h3 a.1;have f:∀j,(cH a.1 a.2).get j=H.get j:=λj=>by
  rw[F];split;·rfl
  rename_i p;exact h2 j p
 obtain⟨n,p⟩:=h _ f (E.trans h1) _ (b.set d _);refine⟨n+1,?_⟩;have u:dK a.1 q o m=some vs:=by simp only[dK,h2 q t];exact y
 have he:aD (.gR m x) aa a.1=some (.agg vs,a.1):=by simp only[aD,b.gv z rfl,gF,u,bf,afL]
 simp only[Xo,Go.al.az,dc,bf,D,he,du];exact p
theorem Sl.ac0{a:ah}{is:List af}(h:Sl H size vs n v)(hg:∀j,j∉is->a.get j=H.get j)(f:a.next=H.next)(g:∀q o m c e,v=.slice q o m c e->q∉is):Sl a size vs n v:=by
 rcases h with h|⟨i,o,cap,ex,p,m,e,b,aM,fz,h1,h2,h3⟩;·exact .inl h
 refine .inr ⟨i,o,cap,ex,p,m,e,b,aM,fz,h1,by rw[hg i (g _ _ _ _ _ h1)];exact h2,?_⟩;rw[f];exact h3
theorem RO.Iv(U:aq A H (tS e size vs n true sv::ts)){x y:aL}{zs:List AV}{O is:List af}{re:List gE}(hs:Sl H size ws k yv)(T:∀q o m c e,yv=.slice q o m c e->q∉is)(dB:∀j∈is,∃(m:Nat)(t:Th),ts[m]?=some t/\∀Hx f,t.P Hx f->j∈f)(h:∀Q v,aq A Q (tS e size (vs++ws) (n+k) true v::ts)->(∀aa,Le (bq L d v) aa->du aa Q re=true)/\RO ac c l s (bq L d v) Q)(h1:cL ws=true:=by repeat first|rfl|assumption|(refine ao ?_ ?_))(R:qO L O=is.map some:=by exact cw)(hx:aW L x=sv:=by exact cw)(hy:aW L y=yv:=by exact cw)(hb:(n+k)*bytes<=70368744177664:=by omega)(z:n+k<=70368744177664:=by omega):RO ac c (⟨d,.append e bytes size zs false x y,none,O,re⟩::l) s L H:=λaa g=>by
 obtain⟨K,M,g3⟩:=AD g (H:=H) R;generalize hh:cW aa H O=b at K M g3;obtain⟨hG,fs,hF⟩:=U;match fs,hF with
  |N::fs,⟨q1,q2,q3,S⟩=>
   have E:∀j∈is,∃f∈fs,j∈f:=λj hj=>by obtain⟨m,t,hm,ht⟩:=dB j hj;obtain⟨f,C,R⟩:=S.at hm;exact⟨f,List.mem_of_getElem? C,ht _ _ R⟩
   have F:∀j∈is,j∉N:=λj hj V=>by obtain⟨f,C,p⟩:=E j hj;exact q3 j V f C p
   have W:∀j∈is,j.am<H.next.am:=λj hj=>by obtain⟨f,C,p⟩:=E j hj;exact S.lt f C j p
   have ho:cM b.1 N e size vs n true sv:=cM.frame q1 (by rw[K];exact adv _) λj hj=>M j λz=>F j z hj;have X:Sl b.1 size ws k yv:=hs.ac0 M K T;obtain⟨a,D,u,a1,a2,a3,a4,a5⟩:=ho.append (bytes:=bytes) hs.length h1 hb z;rw[K]at a3 a4 a5;obtain⟨g4,g5⟩:=g3 D;have I:∀j∈u,j∉is:=λj hj G=>by
    rcases a4 j hj with h|h;·exact F j G h
    have:=W j G;omega
   have J:cM (cH D b.2) u e size (vs++ws) (n+k) true a:=cM.frame a2 (by rw[g4];exact adv _) λj hj=>by rw[g5,ap (I j hj)]
   have i:lr N u H (cH D b.2):=⟨by rw[g4];exact a3,λj hj=>(a4 j hj).imp id λh=>h.1,λj hj Y=>by
    rw[g5];split;·rfl
    rename_i z;rw[a5 j hj Y,M j z]⟩;obtain⟨Z,ag,_⟩:=Fs.iJ (t':=tS e size (vs++ws) (n+k) true a) hG i (fs:=N::fs) (ts:=tS e size vs n true sv::ts) (i:=0) ⟨q1,q2,q3,S⟩ rfl rfl J;have av:aq A (cH D b.2) (tS e size (vs++ws) (n+k) true a::ts):=⟨i.cq hG q2,Z,ag⟩;obtain⟨h4,h5⟩:=h _ a av;obtain⟨n',aw⟩:=h5 _ (g.set d a);have he:aD (.append e bytes size zs false x y) aa b.1=some (a,D):=by simp only[aD,abe,bD,g.gv hx ho.sl.bC,g.gv hy hs.bC,X.gh,a1]
   refine⟨n'+1,?_⟩;simp only[Xo,Go.al.az,dc,bf,hh,he,h4 _ (g.set d a)];exact aw
end
end Go.al
namespace Go.al.R
section
variable{ac:Nat->aX}
section
theorem RO.ac1{c:Cx}{s:List SI}{L:Kn}{H:ah}{d:Option af}{l:List bA}{a b:Nat}{x y:aL}(h:RO ac c l s (bq L d (aN (a % b))) H)(f:aW L x=.int 3 (.ofNat a):=by exact cw)(i:aW L y=.int 3 (.ofNat b):=by exact cw)(hb:b≠0:=by omega):RO ac c (⟨d,.arith .rem 3 x y,none,[],[]⟩::l) s L H:=RO.arith (v:=aN (a % b)) (a:=.ofNat a) (b:=.ofNat b) h f i (by show(if age b=0 then none else some (AV.int 3 ((age a).tmod (age b))))=_;rw[ap (by intro e;exact hb (Int.ofNat.inj e))];rfl)
theorem sC{l:List Bool}{k n:Nat}(h1:l.length=n)(h2:k<n):(l.map AV.bool)[0+k*1]?=some (.bool (l.getD k false)):=by rw[show 0+k*1=k by omega,af0,getElem?_pos l k ab,bB ab];rfl
section
variable{H:ah}
def km(g:G.be)(o:List Int):Option Int:=(o.reverse.find? λx=>x % 2==0).map λx=>((bm g (x.toNat/2)).aB.go.getD 1 default).block
theorem ac2{g:G.be}{o:List Int}(h:∀x∈o,x % 2≠0):km g o=none:=by
 unfold km;rw[List.find?_eq_none.2];·rfl
 intro x a;simpa using h x (ag3.1 a)
theorem ac3{g:G.be}{o:List Int}{k:Nat}(a:k<o.length)(h:∀j(hj:j<o.length),k<j->o[j]% 2≠0)(h0:o[k]% 2=0):km g o=some ((bm g (o[k].toNat/2)).aB.go.getD 1 default).block:=by
 unfold km;rw[(List.find?_eq_some_iff_getElem (b:=o[k])).2];·rfl
 refine⟨by simpa using h0,o.length - 1 - k,by simp;omega,by rw[List.getElem_reverse];congr 1;omega,λj hj=>?_⟩;rw[List.getElem_reverse];simpa using h (o.length - 1 - j) ab ab
variable{g:G.be}{cs:List AV}
theorem ac4(T:Tb ac)(hg:gu H g cs)(N:G.Sm g){o:List Int}{D:AV}(r:eU H o D)(X:o.length<=1000)(O:oN g o){K:KT}(h:∀E,aZ H E->K (aI (match km g o with|some t=>t|none=> -1)) E):YN ac Wd [.agg cs,D] H K:=by
 have J:=hg.one;obtain⟨vb,rfl,bW⟩:=hg;have⟨Y,_,_,Z⟩:=bW.all;have⟨ag,_,_,av⟩:=r.all;have aw:=N.nb;refine YF.code T.Y0 aF ?_;refine ai ?_;refine RO.dp (aq.ct H) λP q U=>?_;refine ai ?_;refine RO.sub (a:=(o.length:Int)) (b:=1) ?_;refine ai ?_;refine Ru.nm λQ R w b=>?_;refine Ru.bT b (up (P:=λk=>(∀j(hj:j<o.length),o.length - k<=j->o[j]% 2≠0)->Ru ac _ Q ([(p5,aI ((o.length:Int) - 1 - k))]++pk R [p1,p2]) P) o.length (λk hk s u=>?_) 0 ab (λj hj c=>by omega)) (by simp;exact⟨rfl,trivial⟩);subst w;subst b;refine Ru.loop ?_;refine ai ?_;refine Ru.cond (λ(z:(0:Int)<=(o.length:Int) - 1 - k)=>?_) (λ(z:¬(0:Int)<=(o.length:Int) - 1 - k)=>?_)
 .have s:=s (k+1) ab ab;obtain⟨t,S⟩:∃t:Nat,(o.length:Int) - 1 - k=(t:Int):=⟨o.length - 1 - k,ab⟩;have ax:t=o.length - 1 - k:=ab;have d:t<o.length:=ab;rw[S];refine ai ?_;refine RO.mD U.gr r (λF I f i=>?_) (j:=t);refine ai ?_;have v:=O _ (adq d);have l:=λh1 h2=>ac3 (g:=g) (o:=o) (k:=t) d h1 h2;generalize m:o[t]=x at*;obtain⟨x,rfl⟩:∃y:Nat,x=y:=⟨x.toNat,ab⟩;obtain⟨_,n,p⟩:=v;rw[afs]at n p l;have V:eR .quo 3 (x:Int) (.ofNat 2)=some (aN (x/2)):=by simp only[eR];rw[ap bo,show((x:Int).tdiv (age 2))=((x/2:Nat):Int)from by rw[afm,Int.tdiv_eq_ediv_of_nonneg ab];simp,mA ab ab];rfl
  refine ai ?_;refine RO.ac1 (a:=x) (b:=2) ?_;refine ai ?_;refine Ru.cond (λ(h0:x % 2=0)=>?_) (λ(h0:¬x % 2=0)=>?_);·rw[l (λj hj c=>u j hj ab) ab]at h;rw[bm,bB n]at p h;refine ai ?_;refine RO.mD U.gr r (λF I f i=>?_) (j:=t);rw[m]at i;refine ai ?_;refine RO.arith ?_ (hv:=V);refine RO.bY U.gr bW (λq1 o1 c1 ay A a1 hat hrd=>?_) (j:=x/2);generalize g.aj[x/2]=B2 at*;obtain⟨a2,L,a6,rfl,_,_,a8,a',B,rfl,_,_,a⟩:=A;have⟨M,_,_,_⟩:=a.all;refine ai ?_;refine RO.bi (v:=B) ?_ (hc:=hat 6 _ rfl);refine RO.bY U.gr a (λF I c8 f C ba hat hrd=>?_) (j:=1);obtain⟨ve,rfl,_⟩:=C;rw[bB ab]at h;refine ai ?_;exact Ru.aP (h _ U.gr)
  refine ai ?_;refine RO.sub (a:=(t:Int)) (b:=1) ?_;refine ai ?_;rw[show((t:Int) - 1)=(o.length:Int) - 1 - (k+1:Nat)by omega];exact Ru.wk (s λj hj c=>by
   by_cases e:j=t;·subst e;rw[m];omega
   exact u j hj ab)
 refine Ru.exitTo ?_;have W:km g o=none:=ac2 λx v=>by obtain⟨j,hj,rfl⟩:=afr v;exact u j hj ab
 rw[W]at h;refine ai ?_;exact Ru.aP (h _ U.gr)
end
end
section
theorem _root_.Go.al.aq.acN{A H:ah}{F G:List Th}{b:List Th}(U:aq A H (tZ F::tZ G::b)):aq A H (tZ (F++G)::b):=by
 refine U.kw.as 0 rfl λk a=>⟨λu hu=>?_,a.2⟩;rcases ae8.1 hu with hu|hu;·obtain⟨f,c,d⟩:=a.1 _ (abL ..);obtain⟨e,h,i⟩:=d.1 u hu;exact⟨e,λj hj=>c j (h j hj),i⟩
 exact a.1 u (aco _ hu)
theorem _root_.Go.al.aq.acO{A H:ah}{F G:List Th}{b:List Th}(U:aq A H (tZ F::b))(h:∀t∈G,∃t0∈F,∀c f,t0.P c f->t.P c f):aq A H (tZ (G++F)::b):=by
 refine U.as 0 rfl λi a=>⟨λu hu=>?_,a.2⟩;rcases ae8.1 hu with hu|hu;·obtain⟨t0,h0,h1⟩:=h u hu;obtain⟨f,d,e⟩:=a.1 _ h0;exact⟨f,d,h1 _ _ e⟩
 exact a.1 u hu
theorem iN.HK{c:List (List Int)}{a:List AV}{F G:List Th}(h:iN c a F)(hs:∀t∈F,t∈G):iN c a G:=⟨h.len,λb hb=>hs _ (h.mem b hb)⟩
theorem iN.set{c:List (List Int)}{a:List AV}{F:List Th}(h:iN c a F){t:Nat}(d:t<c.length){l:List Int}{v:AV}(f:tR 1 (l.map aI) l.length v∈F):iN (c.set t l) (a.set t v) F:=by
 have hl:=h.len;refine⟨by simpa using hl,λb hb=>?_⟩;rw[agC]at hb;rw[dG d,dG ab];by_cases e:b=t;·rw[aJ e,aJ e];exact f
 rw[ap e,ap e];exact h.mem b hb
theorem Il{w:List (Int×List Int)}{vs:Nat->AV}:∀n,((agA n).flatMap λk=>[aI (w.getD k (0,[])).1,vs k]).length=n*2|0=>rfl|n+1=>by rw[agS,afX,afq,Il n];simp;omega
theorem NT{w:List (Int×List Int)}{vs:Nat->AV}{k:Nat}(a:k<w.length):(mH w vs)[0+k*2]?=some (aI (w.getD k (0,[])).1)/\(mH w vs)[0+k*2+1]?=some (vs k):=by
 unfold mH;obtain⟨d,hd⟩:∃d,w.length=k+1+d:=⟨w.length - (k+1),ab⟩;rw[hd,afC];clear hd a;induction d with
 |zero=>
  rw[ahc,agS,afX,agc];have hl:=Il (w:=w) (vs:=vs) k;constructor;·rw[agl ab,hl,Nat.sub_self];rfl
  rw[agl ab,hl];simp
 |succ d b=>have hl:=Il (w:=w) (vs:=vs) (k+1+d);rw[<-agM,agS,afX,afG ab,afG ab];exact b
def uB(f h i d e:af)(g:G.be)(j:AV)(F:List Th)(a:List Bool)(b:List AV)(c:Bool):List Th:=[tZ F,tB pA f [.slice d 0 g.aj.length g.aj.length true,.slice e 0 g.aj.length g.aj.length true,.bool c],tS wn 1 b g.aj.length true (.slice e 0 g.aj.length g.aj.length true),tS 4 1 (a.map .bool) g.aj.length true (.slice d 0 g.aj.length g.aj.length true),tB pA h [.aH,.aH,.bool false],tB eg i [.str g.i7,aI g.i4,aI g.bc,j]]
section
variable{g:G.be}{wo:Int}{H:ah}{cs:List AV}
theorem jD.zero(i:i9 g):jD g wo (if wo≠0 then(aeN g.aj.length false).set 0 true else aeN g.aj.length false) (aeN g.aj.length []):=by
 have a:=i.ne;have c:∀b,(aeN g.aj.length ([]:List Int)).getD b []=[]:=λb=>by simp only[afz,agr];split<;>rfl
 have d:∀b,(aeN g.aj.length false).getD b false=false:=λb=>by simp only[afz,agr];split<;>rfl
 by_cases h:wo≠0
 .rw[aJ h];have j:∀b,((aeN g.aj.length false).set 0 true).getD b false=true->b=0:=λb hb=>by
   rw[dG (by simpa using a)]at hb;by_cases e:b=0;·exact e
   rw[ap e,d]at hb;cases hb
  have f:=pH (come:=aeN g.aj.length false) (k:=0) (by simpa using a) (d 0);rw[yW]at f;refine⟨aF,aF,λ_=>by rw[dG (by simpa using a),aJ rfl],λb _=>c b,λb hb=>?_,λb hb=>?_⟩;·rw[c,j b hb];exact .zero h
  rw[c];simp only[List.length_nil];omega
 rw[ap h];exact⟨aF,aF,λh0=>absurd h0 h,λb _=>c b,λb hb=>(by rw[d]at hb;cases hb),λb hb=>(by rw[d]at hb;cases hb)⟩
theorem AS(T:Tb ac)(hg:gu H g cs)(hB:G.Sm g)(hS:i9 g)(d7:g.aj.length<=40){K:KT}(h:∀H' P N n F c az p,oO g wo c az p->(∀b,ja g wo c az p b)->iN az n F->aq H H' [tZ F,tS wn 1 n g.aj.length true (.slice N 0 g.aj.length g.aj.length true),tS 4 1 (c.map .bool) g.aj.length true (.slice P 0 g.aj.length g.aj.length true)]->K (.agg [.slice P 0 g.aj.length g.aj.length true,.slice N 0 g.aj.length g.aj.length true,.bool p]) H'):YN ac V8 [.agg cs,aI wo] H K:=by
 have d':=hg.one;have cv:=hg;obtain⟨vb,rfl,bW⟩:=hg;have⟨ej,_,_,ek⟩:=bW.all;have cx:=hS.ne;refine YF.code T.YU aF ?_;refine au ?_;refine RO.dp (aq.ct H) λH1 X U=>?_;refine RO.eL U λH2 S U=>?_;refine ai ?_;refine RO.ls U (n:=g.aj.length) (λH3 P U=>?_) (hz:=by rw[io];simp);refine ai ?_;refine RO.ls U (n:=g.aj.length) (λH4 N U=>?_) (hz:=by rw[io];simp);refine ai ?_;refine RO.ff U λH5 V U=>?_;have U:=U.qE 3 1;have U:=(U.as 0 rfl λfp hp=>tS.kR hp).NQ;rw[io,io]at U;have U:aq H H5 (uB V S X P N g vb [tR 1 [] 0 .aH] (aeN g.aj.length false) (aeN g.aj.length .aH) false):=by unfold uB;rw[ag7];exact U
 have f:iN (aeN g.aj.length []) (aeN g.aj.length .aH) [tR 1 [] 0 .aH]:=⟨aF,λb hb=>by rw[agx]at hb;rw[bB (by simpa using hb),bB (by simpa using hb),List.getElem_replicate,List.getElem_replicate];exact abL ..⟩;refine RO.nil ?_;refine Ru.seq ?_;refine Ru.sw (P:=λM H'=>M=[(p1,aI wo),(p2,.aE X 0),(p4,.aE S 0),(p5,aN g.aj.length),(p6,.aE V 0)]/\aq H H' (uB V S X P N g vb [tR 1 [] 0 .aH] (if wo≠0 then(aeN g.aj.length false).set 0 true else aeN g.aj.length false) (aeN g.aj.length .aH) false)) (λM H6⟨hM,U⟩=>?_) (λs' q=>?_);rotate_left
 .refine ai ?_;refine Ru.cond (λu=>?_) (λu=>?_);·have u:wo≠0:=u;rw[aJ u]at q;refine ai ?_;refine RO.kq (f:=AV.bool) (zs:=aeN g.aj.length false) U 3 true (n:=g.aj.length) (agx ..) (λH6 U=>?_) (k:=0) (ho:=by simpa using cx);refine ai ?_;exact q _ _ _ ⟨rfl,U⟩ ey
  have u:¬wo≠0:=u;rw[ap u]at q;refine ai ?_;exact q _ _ _ ⟨rfl,U⟩ ey
 subst hM;have r:=jD.zero (wo:=wo) hS;generalize(if wo≠0 then(aeN g.aj.length false).set 0 true else aeN g.aj.length false)=d5 at*;generalize [tR 1 [] 0 .aH]=F0 at*;generalize aeN g.aj.length AV.aH=ea at*;generalize aeN g.aj.length ([]:List Int)=eb at*;refine ai ?_;refine Ru.nm λS0 M cy hM=>?_;refine Ru.bT hM (dn (P:=λm=>∀B c az n F p C,(if C=true then iL c+1 else 0)=m->oO g wo c az p->iN az n F->(C=false->∀b,ja g wo c az p b)->aq H B (uB V S X P N g vb F c n p)->Ru ac _ S0 ([(p7,.bool C)]++pk M [p1,p2,p4,p5,p6]) B) (λm ih B c az n F p C cE r f z U=>?_) _ _ _ _ _ _ false true rfl ⟨r,λh=>by cases h⟩ f (λh=>by cases h) U);subst cy;subst hM;refine Ru.loop ?_;refine ai ?_;refine Ru.eE (λax=>?_) (λax=>?_)
 .subst ax;simp only[bf]at cE;refine ai ?_;refine Ru.nm λS1 M1 cR a'=>?_;refine Ru.bT a' (up (P:=λk=>∀B c az n F p C,(C=true->iL c+1<m)->iL c+1<=m->oO g wo c az p->iN az n F->(C=false->∀b,b<k->ja g wo c az p b)->aq H B (uB V S X P N g vb F c n p)->Ru ac _ S1 ([(p8,aN k),(p7,.bool C)]++pk M1 [p1,p2,p4,p5,p6]) B) g.aj.length (λb hb ay B c az n F p C A E r f z U=>?_) 0 ab _ c az n F p false (λh=>by cases h) ab r f (λ_ b hb=>by omega) U);subst cR;subst a';refine Ru.loop ?_;refine ai ?_;refine Ru.cond (λba=>?_) (λba=>?_)
  .have bb:=r.lc;have bd:=r.lo;have bv:=f.len;refine ai ?_;refine RO.lW U 2 λH6 v9 U=>?_;have⟨el,_,_,et⟩:=(U.sl 0 rfl).all;refine RO.aR ?_;refine RO.nil ?_;refine Ru.seq ?_;refine Ru.sw (P:=λM H'=>∃w vs F' wv,M=[(p9,wv),(p1,aI wo),(p2,.aE X 0),(p4,.aE S 0),(p5,aN g.aj.length),(p6,.aE V 0),(p7,.bool C),(p8,aN b)]/\(c.getD b false=true->w=gB g b (az.getD b []))/\(c.getD b false=false->w=[])/\w.length<=12/\(∀k,k<w.length->tR 1 ((w.getD k (0,[])).2.map aI) (w.getD k (0,[])).2.length (vs k)∈F')/\iN az n F'/\aq H H' (tS qF 2 (mH w vs) w.length true wv::uB V S X P N g vb F' c n p)) (λM H7⟨w,vs,F',wv,hM,b0,c9,ec,c',f,U⟩=>?_) (λs' q=>?_);rotate_left
   .have dm:(c.map AV.bool)[0+b*1]?=some (.bool (c.getD b false)):=by rw[show 0+b*1=b by omega,af0,getElem?_pos c b ab,bB ab];rfl
    refine ai ?_;refine RO.dM U 4 (hv:=dm) ?_;refine ai ?_;refine Ru.eE (λu=>?_) (λu=>?_)
    .have dr:n[0+b*1]?=some (n.getD b .b9):=by rw[show 0+b*1=b by omega,getElem?_pos n b ab,bB ab]
     have hF:=f.mem b ab;obtain⟨_,b3,_,_⟩:=U.jO 1 rfl hF;have⟨ew,_,_,_⟩:=b3.all;obtain⟨I,a1⟩:=(r.snd b u).ok hS;have cp:=r.iM b u;refine ai ?_;refine RO.dj U 6 ?_;refine ai ?_;refine RO.dM U 3 (hv:=dr) ?_;refine RO.cl (NR T (cY.jk U.gr cv) hB I (hS.t3 b I) b3 ab a1 λH7 wv vs Fw ds hl=>?_);have U:=U.eO hl;have W:=(hl.sl 1 rfl).all.1;refine ai ?_;have dv:=((U.sub (.cons_cons _ (.cons_cons _ (.cons _ (agt _))))).cJ (agz _ (agm _ _ _))).acN;have dx:(gB g b (az.getD b [])).length<=12:=by
      have:=(hB.bl _ (adq I)).2.2.2.2.1;unfold gB;split;·simp
      split;·split<;>simp
      rw[afJ,bm,bB I];omega
     generalize gB g b (az.getD b [])=w at*;have dy:=(dv.acO (G:=(agA w.length).map λk=>tR 1 ((w.getD k (0,[])).2.map aI) (w.getD k (0,[])).2.length (vs k)) λt L=>by
      obtain⟨k,hk,rfl⟩:=afE.1 L;rw[agK]at hk;rcases ds k hk with h9|h9;·exact⟨_,afD _ h9,λ_ _ h=>h⟩
      exact⟨_,afW _ hF,λ_ _ h=>acI h9 h⟩).cJ (agm _ _ _);exact q _ _ _ ⟨w,vs,_,wv,rfl,λ_=>rfl,λh=>(by rw[u]at h;cases h),dx,λk hk=>afD _ (afE.2 ⟨k,agK.2 hk,rfl⟩),f.HK λt L=>afW _ (afW _ L),dy⟩ ey
    refine ai ?_;exact q _ _ _ ⟨[],λ_=>.aH,F,v9,rfl,λh=>(by rw[u]at h;cases h),λ_=>rfl,aF,λk hk=>absurd hk aF,f,U⟩ ey
   subst hM;have ei:b<g.aj.length:=ba;refine ai ?_;have ay:=ay (b+1) ab ab;refine Ru.nm λS2 M2 dz b4=>?_;refine Ru.bT b4 (up (P:=λj=>∀B a d o l y,(y=true->iL a+1<m)->iL a+1<=m->oO g wo a d l->iN d o F'->(c.getD b false=true->a.getD b false=true/\d.getD b []=az.getD b [])->(y=false->a.getD b false=c.getD b false/\(∀Q,Q<b->ja g wo a d l Q)/\∀i,i<w.length->i<j->y6 wo a d l (w.getD i (0,[])))->aq H B (tS qF 2 (mH w vs) w.length true wv::uB V S X P N g vb F' a o l)->Ru ac _ S2 ([(eP,aN j),(p7,.bool y)]++pk M2 [p1,p2,p4,p5,p6,p8,p9]) B) w.length (λj hj J B a d o l y A E r f O z U=>?_) 0 ab _ c az n p C A E r f (λh=>⟨h,rfl⟩) (λh=>⟨rfl,z h,λi _ hi=>by omega⟩) U);subst dz;subst b4;have W:=(U.sl 0 rfl).all;have e0:=W.2.2.2;have W:=W.1;have bb:=r.lc;have bd:=r.lo;have bv:=f.len;refine Ru.loop ?_;refine ai ?_;refine Ru.cond (λs=>?_) (λs=>?_)
   .have b6:c.getD b false=true:=by cases R:c.getD b false with|true=>rfl|false=>rw[c9 R]at s;simp at s
    obtain⟨v,Y⟩:=O b6;have a2:w.getD j (0,[])∈gB g b (d.getD b []):=by rw[Y,<-b0 b6,bB s];exact adq s
    obtain⟨I,a1⟩:=(r.snd b v).ok hS;obtain⟨⟨e1,e2⟩,e3,e4⟩:=pJ hS I a1 _ a2;have cp:=r.iM b v;have hF:=c' j s;have J:=J (j+1) ab ab;have Z:y=false->y6 wo a d l (w.getD j (0,[]))->a.getD b false=c.getD b false/\(∀Q,Q<b->ja g wo a d l Q)/\∀i,i<w.length->i<j+1->y6 wo a d l (w.getD i (0,[])):=λh hd=>by
     obtain⟨a6,a8,a3⟩:=z h;refine⟨a6,a8,λi hi d0=>?_⟩;by_cases e:i=j;·subst e;exact hd
     exact a3 i hi ab
    obtain⟨b7,b'⟩:=NT (vs:=vs) s;generalize d1:w.getD j (0,[])=wj at*;obtain⟨t,L⟩:∃t:Nat,wj.1=t:=⟨wj.1.toNat,ab⟩;rw[L]at b7;have e5:t<g.aj.length:=ab;obtain⟨qw,cap,ex,rfl⟩:=U.rQ 0 rfl ab;obtain⟨_,ag,_,_⟩:=U.jO 1 rfl hF;have⟨e6,e7,e8,_⟩:=ag.all;refine ai ?_;refine RO.dM U 0 (hv:=b7) ?_;refine ai ?_;refine Ru.cond (λu=>?_) (λu=>?_)
    .have u:wj.1=wo:=by rw[L];exact u
     refine ai ?_;exact Ru.wk (J _ a d o l y A E r f O (λh=>Z h (.inl u)) U)
    have u:wj.1≠wo:=by rw[L];exact u
    have d2:(a.map AV.bool)[0+t*1]?=some (.bool (a.getD t false)):=by rw[show 0+t*1=t by omega,af0,getElem?_pos a t ab,bB ab];rfl
    refine ai ?_;refine RO.dM U 4 (hv:=d2) ?_;refine ai ?_;refine Ru.eE (λD=>?_) (λD=>?_)
    .have D:a.getD t false=false:=by simpa using D
     have ca:b≠t:=λe=>by rw[<-e,v]at D;cases D
     have e':=pH ab D;refine ai ?_;refine RO.dM U 0 (hv:=b') ?_;refine ai ?_;refine RO.acL (f:=AV.bool) (zs:=a) U 4 true bb (k:=t) (λH8 U=>⟨λaa d3=>?_,?_⟩);·obtain⟨_,hp⟩:=U.get 2 rfl;exact iX (i:=V) (o:=1) (v:=.slice N 0 g.aj.length g.aj.length true) d3 (by(conv=>lhs;whnf)<;>rfl) (by(conv=>lhs;whnf)<;>rfl) rfl (by simp[gT,fy,af.eS]) (tB.cell hp rfl) rfl
     refine ai ?_;refine RO.DX U 3 (n:=g.aj.length) (vs:=o) ab (k:=t) (w:=vs j) (λH9 U=>?_);refine ai ?_;have av:=r.add hS v a2 u (by rw[L,afs];exact D);rw[L,afs]at av;exact Ru.wk (J _ (a.set t true) (d.set t wj.2) (o.set t (vs j)) l true (λ_=>by omega) ab ⟨av,r.NS⟩ (f.set ab hF) (λh=>by rw[dG ab,dG ab,ap ca,ap ca];exact⟨v,Y⟩) (λh=>by cases h) U)
    have D:a.getD t false=true:=by simpa using D
    have d4:o[0+t*1]?=some (o.getD t .b9):=by rw[show 0+t*1=t by omega,getElem?_pos o t ab,bB ab]
    obtain⟨_,aw,_,_⟩:=U.jO 1 rfl (f.mem t ab);have⟨fa,_,_,_⟩:=aw.all;have d6:=r.iM t D;refine ai ?_;refine RO.dM U 3 (hv:=d4) ?_;refine ai ?_;refine RO.dM U 0 (hv:=b') ?_;refine RO.cl (acM T aw ag ab (λg3=>?_) (λg3=>?_));·refine ai ?_;exact Ru.wk (J _ a d o l y A E r f O (λh=>Z h (.inr (by rw[L,afs];exact⟨D,λ_=>g3⟩))) U)
    refine ai ?_;refine RO.ez U 2 (λH8 U=>?_);refine ai ?_;have cd:∀w,y6 wo a d l w->y6 wo a d true w:=λw hw=>hw.imp id λh=>⟨h.1,λh=>by cases h⟩;have cf:=gC.step (r.snd b v) a2 u;rw[L,afs]at cf;exact Ru.wk (J _ a d o true y A E ⟨r.toFlI,λ_=>⟨t,_,_,r.snd t D,cf,g3⟩⟩ f O (λh=>by
     obtain⟨a6,a8,a3⟩:=z h;refine⟨a6,λQ cn R x hx=>cd _ (a8 Q cn R x hx),λi hi d0=>?_⟩;by_cases e:i=j;·subst e;rw[d1];exact .inr (by rw[L,afs];exact⟨D,λh=>by cases h⟩)
     exact cd _ (a3 i hi ab)) U)
   refine Ru.exitTo ?_;refine ai ?_;refine Ru.wk (ay B a d o F' l y A E r f (λh Q cn=>?_) U.tail);obtain⟨a6,a8,a3⟩:=z h;by_cases e:Q=b;·subst e;intro R x hx;rw[a6]at R;rw[(O R).2,<-b0 R]at hx;obtain⟨i,hi,rfl⟩:=afr hx;have:=a3 i hi ab;rw[bB hi]at this;exact this
   exact a8 Q ab
  refine Ru.exitTo ?_;obtain rfl:b=g.aj.length:=ab;refine ai ?_;refine Ru.wk (ih _ ?_ B c az n F p C rfl r f (λh x=>?_) U);·cases C with|true=>rw[aJ rfl];exact A rfl|false=>rw[ap aF];omega
  by_cases hx:x<g.aj.length;·exact z h x hx
  intro R;have:=r.lc;rw[afz,agV ab]at R;cases R
 subst ax;refine Ru.exitTo ?_;have bd:=r.lo;have bv:=f.len;refine ai ?_;refine RO.dj U 1 ?_;refine RO.fc U 4 (λH7 U=>?_);refine ai ?_;exact Ru.iY (vs:=[_]) ⟨⟨S,0,rfl,U.agg 4⟩,trivial⟩ (h H7 P N n F c az p r (z rfl) f (U.sub (.cons_cons _ (.cons _ (.cons_cons _ (.cons_cons _ (.cons _ (.cons _ .slnil))))))))
end
end
end
end Go.al.R
end
