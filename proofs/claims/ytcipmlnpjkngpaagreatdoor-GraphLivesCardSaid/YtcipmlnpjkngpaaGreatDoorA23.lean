/- A part. No conditions. -/
import Derived.Test.YtcipmlnpjkngpaaGreatDoorA22
set_option linter.all false
set_option maxHeartbeats 16000000
open List renaming replicate->aeo,range->afD
open Nat renaming blt->ae0
open Int renaming ofNat->afq
open List.Perm renaming swap->afA,cons->afL
open Eq renaming mpr->agu
open List.Pairwise renaming nil->agv
noncomputable section
namespace Go.ak.R
section
variable{g:G.aY}{come:List Bool}{os:List (List bI)}
abbrev be(g:G.aY)(b:Nat):G.dE:=g.aj.getD b default
structure ml(g:G.aY):Prop where
 v0:0<=g.aW
 p0:0<=g.i4
 wF:∀b∈g.aj,∀p∈cD b,g.i4<=p.1/\p.1<g.aW
 nd:∀b∈g.aj,((cD b).map (·.1)).Nodup
 one:∀i j,i<g.aj.length->j<g.aj.length->∀v p q,(v,p)∈cD (be g i)->(v,q)∈cD (be g j)->i=j
 all:∀v:Int,g.i4<=v->v<g.aW->∃i p,i<g.aj.length/\(v,p)∈cD (be g i)
theorem qH{b:Nat}(h:b<g.aj.length):be g b∈g.aj:=by rw[be,bm h];exact acI h
theorem EN{k:Nat}{v:Int}(b:0<=v):∀(l a:List (Int×Int)),(∀p∈l,0<=p.1/\p.1≠v)->(mj k a l).getD v.toNat (-1, -1)=a.getD v.toNat (-1, -1)|[],a,_=>rfl|p::l,a,h=>by have h1:=h p (acm ..);show(mj k (a.set p.1.toNat ((k:Int),p.2)) l).getD _ _=_;rw[EN b l _ λq c=>h q (aen _ c)];simp only[aeD,List.getElem?_set];rw[ap ab]
theorem KX{k:Nat}{v p:Int}:∀(l a:List (Int×Int)),(l.map (·.1)).Nodup->(∀q∈l,0<=q.1/\q.1.toNat<a.length)->(v,p)∈l->(mj k a l).getD v.toNat (-1, -1)=((k:Int),p)
 |[],a,_,_,h=>by cases h
 |q::l,a,c,d,h=>by
  rw[aez,afX]at c;have f:=d q (acm ..);show(mj k (a.set q.1.toNat ((k:Int),q.2)) l).getD _ _=_;rcases aer.1 h with rfl|h;·rw[EN f.1 l _ λr b=>⟨(d r (aen _ b)).1,λe=>c.1 (by rw[<-e];exact aeX b)⟩,dk f.2,aH rfl]
  exact KX l _ c.2 (λr b=>by have:=d r (aen _ b);rw[afQ];exact this) h
theorem ml.at(h:ml g){i:Nat}{v p:Int}(hi:i<g.aj.length)(c:(v,p)∈cD (be g i)):(fS g).getD v.toNat (-1, -1)=((i:Int),p):=by
 have f:=h.wF _ (qH hi) _ c;have h0:=h.p0;have key:∀k,k<=g.aj.length->i<k->(jJ g g.aW.toNat k).getD v.toNat (-1, -1)=((i:Int),p):=by
  intro k;induction k with
  |zero=>intro _ h;omega
  |succ k j=>
   intro n m;have a:=qH (g:=g) (b:=k) ab;have d:∀q∈cD (be g k),0<=q.1/\q.1.toNat<(jJ g g.aW.toNat k).length:=λq b=>by have:=h.wF _ a q b;rw[Bh];simp only at*;omega
   show(mj k _ (cD (be g k))).getD _ _=_;by_cases e:i=k;·subst e;exact KX _ _ (h.nd _ a) d c
   rw[EN (by simp only at f;omega) _ _ λq b=>⟨(d q b).1,λl=>e (h.one i k hi ab v p q.2 c (by rw[<-l];exact b))⟩];exact j ab ab
 exact key _ (aeq _) hi
theorem EO:∀(l:List G.dI)(i:Nat)(p:Int×Int),p∈fF l i->(i:Int)<=p.2/\p.2<i+l.length
 |[],i,p,h=>by cases h
 |s::l,i,p,h=>by
  simp only[fF,aeu]at h;rcases h with h|h
  .split at h;·cases h
   rw[aaN]at h;subst h;simp only[aeJ];omega
  have:=EO l (i+1) p h;simp only[aeJ];omega
theorem KY{b:G.dE}{v p:Int}(h:(v,p)∈cD b):p= -1\/0<=p/\p<b.aL.length:=by
 simp only[cD,aeu,aeK]at h;rcases h with⟨x,_,h⟩|h;·injection h with _ h;exact .inl h.symm
 have:=EO _ _ _ h;simp only at this;right;omega
def lI(g:G.aY)(b:Nat)(v bt:Int):Prop:=∀p,(v,p)∈cD (be g b)->bt<=p
def kH(g:G.aY)(o:List bI):Option Int:=(o.reverse.find? λx=>x.2==0).map λx=>((be g x.1.toNat).aA.go.getD 1 default).block
inductive Lv(g:G.aY)(os:List (List bI)):Nat->Int->Prop
 |mL{b:Nat}{v bt:Int}(h:(v,bt)∈eO (be g b))(hn:lI g b v bt):Lv g os b v
 |kG{b w:Nat}{v:Int}(hw:w∈wW g os b)(h:Lv g os w v)(hn:lI g b v (be g b).aL.length):Lv g os b v
 |qI{b:Nat}{t v:Int}(ht:kH g (os.getD b [])=some t)(h:Lv g os t.toNat v)(hn:lI g b v 0):Lv g os b v
theorem Zw{o:List bI}{t:Int}(h:kH g o=some t):∃x∈o,x.2=0/\t=((be g x.1.toNat).aA.go.getD 1 default).block:=by unfold kH at h;cases h2:o.reverse.find? λx=>x.2==0 with|none=>rw[h2]at h;cases h|some x=>rw[h2]at h;simp only[aeT,aas]at h;have h3:=List.mem_of_find?_eq_some h2;have a:=List.find?_some h2;exact⟨x,aga.1 h3,by simpa using a,h.symm⟩
theorem iA.ne{W:Nat->List Nat}{d b:Nat}(h:iA W d b):b≠d:=by cases h with|zero h=>exact h|step _ _ h=>exact h
theorem dZ.Zx{W:Nat->List Nat}{d:Nat}:dZ W d d:=λh=>h.ne rfl
theorem dZ.trans{W:Nat->List Nat}{a b c:Nat}(h1:dZ W a b)(h2:dZ W b c):dZ W a c:=by
 intro h;have key:∀x,iA W a x->iA W a b\/iA W b x:=λx f=>by
  induction f with
  |zero h=>
   by_cases e:0=b;·left;rw[<-e];exact .zero h
   exact .inr (.zero e)
  | @step x y f i j d=>
   rcases d with d|d;·exact .inl d
   by_cases e:y=b;·left;rw[<-e];exact .step f i j
   exact .inr (.step d i e)
 rcases key c h with h|h;·exact h1 h
 exact h2 h
theorem dq.qJ(c:ff g)(a:dq g come os){b:Nat}{o:List bI}(h:fy g b o):come.getD b false=true/\os.getD b []=o:=by induction h with|zero=>exact⟨a.c0,c.t8 (a.dY 0 a.c0) .zero⟩| @step b o w h d e=>obtain⟨h1,h2⟩:=e;have h3:=a.dn b h1 w (by rw[h2];exact d);exact⟨h3,c.t8 (a.dY _ h3) (.step h d)⟩
theorem Zy{b:Nat}{w:Int×List bI}(a:w∈cU g b (os.getD b [])):w.1.toNat∈wW g os b:=aeX a
theorem EP{b:Nat}{o:List bI}{w:Int×List bI}(a:w∈cU g b o){x:bI}(c:x∈w.2):x∈o\/x.1=b/\(be g b).aA.op=67:=by
 simp only[cU]at a;split at a
 .rename_i d;simp only[aer,aeS,or_false]at a;rcases a with rfl|rfl;·simp only[aeu,aaN]at c;exact c.imp id λh=>⟨by rw[h],d⟩
  simp only[aeu,aaN]at c;exact c.imp id λh=>⟨by rw[h],d⟩
 split at a
 .split at a;·rw[aaN]at a;subst a;exact .inl (af1 c)
  cases a
 obtain⟨e,_,rfl⟩:=aeK.1 a;exact .inl c
theorem fy.Zz(c:ff g)(d:dq g come os){b:Nat}{o:List bI}(h:fy g b o):∀x∈o,∃t:Nat,x.1=t/\come.getD t false=true/\(be g t).aA.op=67:=by
 induction h with
 |zero=>intro x a;cases a
 | @step b o w h e f=>
  intro x a;rcases EP e a with h1|⟨h1,h2⟩;·exact f x h1
  exact⟨b,h1,(d.qJ c h).1,h2⟩
theorem iA.lw(i:ff g)(f:dq g come os){d b:Nat}(h:iA (wW g os) d b):come.getD b false=true/\∀x∈os.getD b [],x.1≠(d:Int):=by
 induction h with
 |zero h=>refine⟨f.c0,λx c=>?_⟩;rw[(f.qJ i .zero).2]at c;cases c
 | @step a x h c m l=>
  obtain⟨h1,h2⟩:=l;refine⟨f.kG h1 c,λy j=>?_⟩;simp only[wW,kf,aeK]at c;obtain⟨w,k,rfl⟩:=c;have hl:=f.dY a h1;rw[(f.qJ i (.step hl k)).2]at j;rcases EP k j with h3|⟨h3,_⟩;·exact h2 y h3
  rw[h3];exact λe=>h.ne ab
theorem ZA(a:ff g)(c:dq g come os){b t:Nat}{k:Nat}(h:(((t:Int),k):bI)∈os.getD b []):dZ (wW g os) t b:=λd=>(d.lw a c).2 _ h rfl
theorem ZB{aB:List Nat}(i:pz g come os aB){ch a:List Nat}{t:Nat}(e:aB=ch++t::a):∀(n x:Nat),ch[n]?=some x->iA (wW g os) t x:=by
 have c:=i.nd;have d:∀x∈ch,x≠t:=λx b h=>by rw[e]at c;exact(afa.1 c).2.2 x b t (acm ..) h
 intro n;induction n using Nat.strongRecOn with
 |ind n k=>
  intro x b;obtain⟨j,b⟩:=ae7.1 b;have f:=d x (by rw[<-b];exact acI j);have l:aB=ch.take n++x::(ch.drop (n+1)++t::a):=by
   rw[e];conv=>lhs;rw[<-afI n ch,aeE j,b]
   simp
  rcases i.aM _ _ _ l with h|⟨y,o,p⟩;·rw[h];exact .zero ab
  obtain⟨m,q,rfl⟩:=aeB o;rw[aeP]at q;refine .step (k m ab _ ?_) p f;rw[List.getElem_take,afo ab]
theorem ZC(d:ff g)(c:dq g come os){aB:List Nat}(f:pz g come os aB){b t:Nat}{k:Nat}(hb:come.getD b false=true)(h:(((t:Int),k):bI)∈os.getD b []):t≠b:=by
 rintro rfl;obtain⟨ch,n,e⟩:=List.append_of_mem ((f.mem t).2 hb);rcases f.aM _ _ _ e with h0|⟨y,o,a⟩;·subst h0;rw[(c.qJ d .zero).2]at h;cases h
 obtain⟨m,p,rfl⟩:=aeB o;have j:=ZB f e m _ (afo p);obtain⟨h1,h2⟩:=j.lw d c;simp only[wW,kf,aeK]at a;obtain⟨w,a,q⟩:=a;have l:=(c.qJ d (.step (c.dY _ h1) a)).2;rw[q]at l;rw[l]at h;rcases EP a h with i|⟨i,_⟩;·exact h2 _ i rfl
 exact j.ne (by simp only at i;omega)
theorem pz.rk{aB:List Nat}(a:pz g come os aB)(n:Nat)(c:∀b∈aB,b<n):Rk (wW g os) aB ((afD n).map λb=>aB.idxOf b):=by refine⟨a.nd,a.hd,a.aM,λi h=>?_⟩;have hi:=c _ (acI h);rw[bm (by simpa using hi)];simp only[afw,List.getElem_range];exact a.nd.idxOf_getElem i h
theorem dZ.ZD(h:dq g come os){aB:List Nat}(e:pz g come os aB){a b:Nat}(i:come.getD a false=true)(hb:come.getD b false=true)(h1:dZ (wW g os) a b)(h2:dZ (wW g os) b a):a=b:=by have f:=e.rk g.aj.length λb hb=>h.lt ((e.mem b).1 hb);have c:=(e.mem a).2 i;have d:=(e.mem b).2 hb;exact f.inj c d (Nat.le_antisymm (f.dU _ b rfl d h1) (f.dU _ a rfl c h2))
abbrev ue(g:G.aY)(v:Int):Int:=((fS g).getD v.toNat (-1, -1)).1
def ZE(g:G.aY)(come:List Bool)(os:List (List bI))(b:Nat)(v:Int):Prop:=0<=v/\v<g.aW/\(v<g.i4\/∃s:Nat,ue g v=s/\s≠b/\come.getD s false=true/\dZ (wW g os) s b)
theorem EQ(h:0<=g.aW):((fS g).length:Int)=g.aW:=by rw[fS,Bh];omega
theorem ml.jf(a:ml g){v:Int}(h0:g.i4<=v)(h1:v<g.aW):∃i p,i<g.aj.length/\(v,p)∈cD (be g i)/\(fS g).getD v.toNat (-1, -1)=((i:Int),p):=by obtain⟨i,p,hi,b⟩:=a.all v h0 h1;exact⟨i,p,hi,b,a.at hi b⟩
theorem Bi(h:ff g)(c:dq g come os){b:Nat}{t:Int}(hb:come.getD b false=true)(k:kH g (os.getD b [])=some t):∃u:Nat,(((u:Int),0):bI)∈os.getD b []/\come.getD u false=true/\t.toNat∈wW g os u/\come.getD t.toNat false=true/\0<=t:=by
 obtain⟨x,i,d,rfl⟩:=Zw k;obtain⟨u,hu,a,e⟩:=(c.dY b hb).Zz h c x i;have f:x=((u:Int),0):=by rw[<-hu,<-d]
 rw[hu,aeA];have j:(((be g u).aA.go.getD 1 default).block,os.getD u []++[((u:Int),1)])∈cU g u (os.getD u []):=by simp only[cU];rw[aH e];simp
 have h2:=Zy j;refine⟨u,by rw[<-f];exact i,a,h2,c.kG a h2,(h.Ew (c.dY u a) _ j).1⟩
theorem Lv.sW(o:ff g)(c:dq g come os)(F:pD g come os)(q:ml g){aB:List Nat}(D:pz g come os aB){b:Nat}{v:Int}(h:Lv g os b v):come.getD b false=true->ZE g come os b v:=by
 induction h with
 | @mL b v bt h k=>
  intro hb;obtain⟨t,l,G,r⟩:=F.rd b hb _ h;simp only at l;subst l;have d:(t:Int)<g.aW:=by have:=EQ q.v0;omega
  refine⟨ab,d,?_⟩;rcases r with r|⟨h1,h2⟩|⟨s,h1,h2,h3,a⟩;·exact .inl r
  .by_cases x:(t:Int)<g.i4;·exact .inl x
   obtain⟨i,p,hi,m,he⟩:=q.jf (v:=(t:Int)) ab d;rw[aeA]at he;rw[he]at h1 h2;simp only at h1 h2;have:i=b:=ab;subst this;have:=k p m;omega
  exact .inr ⟨s,by rw[ue,aeA];exact h1,h2,h3,a⟩
 | @kG b w v E h k y=>
  intro hb;obtain⟨h0,h1,h2⟩:=y (c.kG hb E);by_cases x:v<g.i4;·exact⟨h0,h1,.inl x⟩
  refine⟨h0,h1,h2.imp id λ⟨s,h3,a,z,n⟩=>⟨s,h3,λe=>?_,z,n.ch E a⟩⟩;subst e;obtain⟨i,p,hi,m,he⟩:=q.jf ab h1;rw[ue,he]at h3;simp only at h3;have:i=s:=ab;subst this;have I:=k p m;have J:=KY m;omega
 | @qI b t v l h k y=>intro hb;obtain⟨u,hu,A,f,B,H⟩:=Bi o c hb l;obtain⟨h0,h1,h2⟩:=y B;have C:=ZC o c D hb hu;have j:=ZA o c hu;refine⟨h0,h1,h2.imp id λ⟨s,h3,a,z,n⟩=>⟨s,h3,λe=>?_,z,(n.ch f a).trans j⟩⟩;subst e;exact C (dZ.ZD c D A hb j (n.ch f a))
end
def Lo:ai->List Int->List AV->Prop:=λH l cs=>∃v,cs=[v]/\fx H l v
abbrev wI(H:ai)(a:List (List Int))(v:AV):Prop:=cK 1 Lo H a v
theorem b8.Bq:b8 Lo:=λhg⟨v,h1,h2⟩=>⟨v,h1,hg.sl h2⟩
structure iG(lv:List (List Int))(vsl:List AV)(F:List Th):Prop where
 len:vsl.length=lv.length
 mem:∀b,b<lv.length->tR 1 ((lv.getD b []).map aI) (lv.getD b []).length (vsl.getD b .ct)∈F
theorem iG.sl{c:List (List Int)}{a:List AV}{F:List Th}(h:iG c a F){A H:ai}{d:List Th}(U:al A H d)(i:Nat)(hi:d[i]?=some (tZ F)){v:AV}(hs:Sl H 1 a a.length v):wI H c v:=by have hl:=h.len;refine⟨a,by rw[<-hl];exact hs,λb hb=>?_⟩;obtain⟨f,e,_⟩:=U.mi i hi (h.mem b hb);refine⟨a.getD b .ct,?_,by rw[<-bm hb []];exact e⟩;rw[af0,aeE ab,bm ab];rfl
theorem ju{L:Kn}{c b cs r:List AV}{off size:Nat}{x:aK}{v:AV}{a:List (Nat×Nat×aK)}(d:aT L x=v)(hd:v.bq=true)(e:v.cells=cs)(hs:cs.length=size)(hl:ny c off cs=some b)(f:mc L b a=some r):mc L c ((off,size,x)::a)=some r:=by simp only[mc,d,hd,e,hs,decide_true,agq,bc,hl,f]
theorem Z5{size:Nat}{j p:List AV}{n m:Nat}{nv v:AV}(b:∀H,Sl H size j n nv->Sl H size p m v){H:ai}{f:List af}(h:(tR size j n nv).P H f):(tR size p m v).P H f:=by
 obtain⟨h1,h2,h3⟩:=h;refine⟨b H h1,λi o m c e w=>?_,h3⟩;apply aeW;intro hi;have x:Sl (H.set i .none) size j n nv:=by
  rcases h1 with h|⟨k,q,cap,ex,r,s,t,d,aM,fz,a,g,u⟩;·exact .inl h
  have l:k≠i:=λe=>hi (e▸h2 _ _ _ _ _ a);exact .inr ⟨k,q,cap,ex,r,s,t,d,aM,fz,a,by rw[ai.aJ,ap l];exact g,u⟩
 have a:=b _ x;subst w;rcases a with⟨h,_⟩|⟨k,q,cap,ex,r,s,t,d,aM,fz,a,g,u⟩;·cases h
 injection a with a;subst a;rw[ai.aJ,aH rfl]at g;cases g
section
variable{ac:Nat->aX}
section
def lN(g:G.aY)(x:Int):Int:=((be g (x.toNat/2)).aA.go.getD 2 default).block
def gj(g:G.aY)(b:Nat)(o:List Int):List (Int×List Int):=
 if(be g b).aA.op=67 then[(((be g b).aA.go.getD 0 default).block,o++[2*(b:Int)]),(((be g b).aA.go.getD 1 default).block,o++[2*(b:Int)+1])]
 else if(be g b).aA.op=68 then(if o.length=0 then[]else[(lN g (o.getD (o.length - 1) 0),o.take (o.length - 1))])
 else(be g b).aA.go.map λe=>(e.block,o)
def oE(g:G.aY)(o:List Int):Prop:=∀x∈o,0<=x/\x.toNat/2<g.aj.length/\(be g (x.toNat/2)).aA.go.length=3
def mq(w:List (Int×List Int))(a:Nat->AV):List AV:=(afD w.length).flatMap λk=>[aI (w.getD k (0,[])).1,a k]
def Z6(o:List Int)(c:AV)(w:List (Int×List Int))(a:Nat->AV)(F:List Th):Prop:=∀k,k<w.length->tR 1 ((w.getD k (0,[])).2.map aI) (w.getD k (0,[])).2.length (a k)∈F\/∀b,Sl b 1 (o.map aI) o.length c->Sl b 1 ((w.getD k (0,[])).2.map aI) (w.getD k (0,[])).2.length (a k)
theorem yU{b c:Type}{f g:b->List c}:∀{l:List b},(∀x∈l,f x=g x)->l.flatMap f=l.flatMap g|[],_=>rfl|a::l,h=>by rw[afp,afp,h a (acm ..),yU λx d=>h x (aen _ d)]
theorem Z7{w:List (Int×List Int)}{x:Int×List Int}{a:Nat->AV}:mq (w++[x]) a=mq w a++[aI x.1,a w.length]:=by
 unfold mq;rw[aex,ae8,afV,ae9,afl];congr 1;·refine yU λk b=>?_;rw[afR]at b;simp[aeM b]
 simp
theorem _root_.Go.ak.al.Lq{A H:ai}{t:Th}{a:List Th}(U:al A H (t::a)):al A H (tZ [t]::a):=(U.px.cH (afA t (tZ []) a)).kF
section
variable{g:G.aY}{H:ai}{cs:List AV}
theorem Lr(T:Tb ac)(hg:dS H g cs)(hB:G.Sm g){b:Nat}(hb:b<g.aj.length)(l:(be g b).aA.op=67->(be g b).aA.go.length=3){o:List Int}{a:AV}(q:fx H o a)(cx:o.length<=1000)(hO:oE g o){K:KT}(h:∀H' wv vs F,Z6 o a (gj g b o) vs F->al H H' [tZ F,tS rL 2 (mq (gj g b o) vs) (gj g b o).length true wv]->K wv H'):YN ac UI [.agg cs,aN b,a] H K:=by
 have ca:=hg.one;obtain⟨vb,rfl,bH⟩:=hg;have⟨cy,_,_,cR⟩:=bH.all;have⟨Y,c9,Z,c'⟩:=q.all;have dm:=hB.nb;have ag:=acI hb;have dr:=hB.bl _ ag;have i:be g b=g.aj[b]:=by rw[be,bm hb]
 rw[i]at l;refine YF.code T.Wu aC ?_;refine ah ?_;refine RO.cG (al.bY H) λH1 q3 U=>?_;refine ah ?_;refine RO.bW U.gr bH (λq1 o1 c1 av m aw hat hrd=>?_) (j:=b);unfold gj at h;rw[i]at h;generalize ds:g.aj[b]=B at*;obtain⟨vp,dv,jc,rfl,dx,dy,va,vk,vg,rfl,ax,ay,c⟩:=m;have⟨dz,_,_,d0⟩:=c.all;have⟨d1,d2,_,_⟩:=ax.all;have⟨d3,d4,_,_⟩:=ay.all;have d5:=c.db;have cd:=Eu (k:=2) (m:=5) hrd bK;refine ah ?_;refine RO.lF U 2 λH2 v8 U=>?_;have⟨d6,_,_,_⟩:=(U.sl 0 rfl).all;refine RO.eR U λH3 q7 U=>?_;have U:al H H3 [tB mf q7 [aU B.aA.op,va,.str B.aA.i7,vk,vg],tS rL 2 [] 0 true v8,tB cX q3 [.str g.i7,aI g.i4,aI g.aW,vb]]:=U;refine ah ?_;refine Ru.cond (λE=>?_) (λE=>?_)
 .have l:=l E;rw[aH E]at h;have s:eT .mul 3 (.ofNat 2) (.ofNat b)=some (aI (2*(b:Int))):=by simp only[eT];rw[show(afq 2*afq b:Int)=2*(b:Int)from rfl,ma ab ab]
  refine ah ?_;refine RO.lF U 1 λH4 d7 U=>?_;have⟨d',_,_,_⟩:=(U.sl 0 rfl).all;refine ah ?_;refine RO.me U 0 (U.gr.sl q) (λH5 ea U=>?_) (h1:=mJ _);have⟨eb,_,_,_⟩:=(U.sl 0 rfl).all;refine ah ?_;refine RO.arith ?_ (hv:=s);refine RO.push U 0 (λw1 H6 v9 U=>?_) (ws:=[aI (2*(b:Int))]);have⟨a1,ec,a2,_⟩:=(U.sl 0 rfl).all;refine ah ?_;refine RO.lF U 1 λH7 ei U=>?_;have⟨ej,_,_,_⟩:=(U.sl 0 rfl).all;refine ah ?_;refine RO.me U 0 (U.gr.sl q) (λH8 ek U=>?_) (h1:=mJ _);have⟨el,_,_,_⟩:=(U.sl 0 rfl).all;refine ah ?_;refine RO.arith ?_ (hv:=s);refine RO.add ?_ (a:=2*(b:Int)) (b:=1);refine RO.push U 0 (λw1 H9 n U=>?_) (ws:=[aI (2*(b:Int)+1)]);have⟨C,cf,D,_⟩:=(U.sl 0 rfl).all;refine ah ?_;refine RO.bW U.gr c (λO P c8 a6 d t hat hrd=>?_) (j:=0);obtain⟨Q,rfl,_⟩:=d;refine ah ?_;refine RO.build (vs:=[aI B.aA.go[0].block,v9]) ?_ (hl:=ju rfl rfl rfl rfl rfl (ju rfl a1 a2 rfl rfl rfl));refine ah ?_;refine RO.bW U.gr c (λO P c8 cn d t hat hrd=>?_) (j:=1);obtain⟨Q,rfl,_⟩:=d;refine ah ?_;refine RO.build (vs:=[aI B.aA.go[1].block,n]) ?_ (hl:=ju rfl rfl rfl rfl rfl (ju rfl C D rfl rfl rfl));refine RO.j9 U 2 (ws:=[aI B.aA.go[0].block,v9,aI B.aA.go[1].block,n]) (n:=2) (λHA a8 U=>?_) (hl:=ju rfl rfl rfl rfl rfl (ju rfl rfl rfl rfl rfl rfl));refine RO.me U 4 (U.sl 0 rfl) (λR p U=>?_);have⟨a',_,_,_⟩:=(U.sl 4 rfl).all;refine ah ?_;have e1:∀x:Int,[]++o.map aI++[aI x]=(o++[x]).map aI:=λx=>by simp
  have e2:∀x:Int,0+o.length+1=(o++[x]).length:=λx=>by simp
  have ba:=((U.sub (.cons _ (.cons_cons _ (.cons_cons _ (.cons _ (.cons_cons _ (.cons _ .slnil))))))).as 0 rfl λfp S=>tS.lh S).as 1 rfl λfp S=>tS.lh S;have u:=((((ba.cH (afA _ _ _)).Lq).cH (afA _ _ _)).kF);rw[e1,e1,e2 (2*(b:Int))]at u;have V:B.aA.go.getD 0 default=B.aA.go[0]:=bm ab _;have bb:B.aA.go.getD 1 default=B.aA.go[1]:=bm ab _;rw[V,bb]at h;refine Ru.aP (h R p (λk=>if k=0 then v9 else n) _ (λk r=>.inl ?_) u);match k,r with|0,_=>simp|1,_=>simp
 rw[ap E]at h;refine ah ?_;refine Ru.cond (λW=>?_) (λW=>?_)
 .rw[aH W]at h;refine ah ?_;refine Ru.cond (λX=>?_) (λX=>?_);·rw[aH X]at h;refine ah ?_;exact Ru.aP (h _ v8 (λ_=>.aG) [] (λk r=>absurd r aC) (U.sub (.cons _ (.cons_cons _ (.cons _ .slnil)))).px)
  rw[ap X]at h;have f:o.length - 1<o.length:=ab;refine ah ?_;refine RO.arith (v:=aN (o.length - 1)) ?_ (hv:=pj (k:=o.length) ab ab);refine RO.kZ U.gr q (λO P hj et=>?_) (j:=o.length - 1);have v:=hO _ (acI f);have bd:o.getD (o.length - 1) 0=o[o.length - 1]:=bm f _;rw[bd]at h;generalize o[o.length - 1]=x at*;obtain⟨x,rfl⟩:∃y:Nat,x=y:=⟨x.toNat,ab⟩;rw[lN,aeA]at h;rw[aeA]at v;obtain⟨_,bv,z⟩:=v;have hq:eT .quo 3 (x:Int) (.ofNat 2)=some (aN (x/2)):=by simp only[eT];rw[ap bK,show((x:Int).tdiv (afq 2))=((x/2:Nat):Int)from by rw[aev,Int.tdiv_eq_ediv_of_nonneg ab];simp,ma ab ab];rfl
  refine ah ?_;refine RO.arith ?_ (hv:=hq);refine RO.bW U.gr bH (λq1 o1 c1 av m aw hat hrd=>?_) (j:=x/2);rw[be,bm bv]at z h;generalize g.aj[x/2]=I at*;obtain⟨ew,cp,e0,rfl,_,_,e3,e4,b0,rfl,_,_,j⟩:=m;have⟨cv,_,_,_⟩:=j.all;refine ah ?_;refine RO.bk (v:=b0) ?_ (hc:=hat 6 _ rfl);refine RO.bW U.gr j (λO P c8 a6 d t hat hrd=>?_) (j:=2);obtain⟨Q,rfl,_⟩:=d;refine ah ?_;refine RO.arith (v:=aN (o.length - 1)) ?_ (hv:=pj (k:=o.length) ab ab);refine RO.mS (U.gr.sl q) (b:=o.length - 1) ?_;have A:=λJ(hs:Sl J 1 (o.map aI) o.length a)=>A8 hs (b:=o.length - 1) ab;have⟨b3,_,b4,_⟩:=(A _ q).all;refine RO.build (vs:=[aI I.aA.go[2].block,mS a (o.length - 1)]) ?_ (hl:=ju rfl rfl rfl rfl rfl (ju rfl b3 b4 rfl rfl rfl));refine RO.j9 U 2 (ws:=[aI I.aA.go[2].block,mS a (o.length - 1)]) (n:=1) (λHA a8 U=>?_) (hl:=ju rfl rfl rfl rfl rfl rfl);refine RO.me U 2 (U.sl 0 rfl) (λR p U=>?_);have⟨a',_,_,_⟩:=(U.sl 2 rfl).all;refine ah ?_;have V:I.aA.go.getD 2 default=I.aA.go[2]:=bm ab _;rw[V]at h;refine Ru.aP (h R p (λk=>mS a (o.length - 1)) [] (λk r=>.inr λJ hs=>?_) (U.sub (.cons _ (.cons _ (.cons_cons _ (.cons _ .slnil))))).px);have b6:k=0:=by simpa using r
  subst b6;have:=A J hs;rw[af0,<-List.map_take]at this;simpa using this
 rw[ap W]at h;refine ah ?_;refine Ru.nm λS0 M hS hM=>?_;refine Ru.bM hM (up (P:=λk=>∀L w,al H L [tB mf q7 [aU B.aA.op,va,.str B.aA.i7,vk,vg],tS rL 2 (mq ((B.aA.go.take k).map λe=>(e.block,o)) λ_=>a) k true w,tB cX q3 [.str g.i7,aI g.i4,aI g.aW,vb]]->Ru ac _ S0 ([(iS,aN k),(p8,w)]++pk M [p2,p7]) L) B.aA.go.length (λk r N L w U=>?_) 0 ab _ _ U);subst hS;subst hM;have⟨e5,_,_,_⟩:=(U.sl 1 rfl).all;refine Ru.loop ?_;refine ah ?_;refine Ru.cond (λf=>?_) (λf=>?_);·have N:=N (k+1) ab ab;rw[(aeO f).symm,aeZ,List.map_singleton,Z7]at N;refine ah ?_;refine RO.bW U.gr c (λq9 o9 e' e6 b7 e7 hat hrd=>?_) (j:=k);generalize B.aA.go[k]=e at*;obtain⟨Q,rfl,e8⟩:=b7;refine ah ?_;refine RO.build (vs:=[aI e.block,a]) ?_ (hl:=ju rfl rfl rfl rfl rfl (ju rfl Y Z rfl rfl rfl));refine RO.push U 1 (λw0 H5 v2 U=>?_) (ws:=[aI e.block,a]);have⟨e9,_,_,_⟩:=(U.sl 1 rfl).all;refine ah ?_;exact Ru.wk (N _ v2 U)
 refine Ru.exitTo ?_;rw[aeI ab]at U;have b':k=(B.aA.go.map λe=>(e.block,o)).length:=by rw[aeR];omega
 refine ah ?_;refine Ru.aP (h L w (λ_=>a) [] (λx hx=>.inr λJ hs=>?_) ?_)
 .have z:x<B.aA.go.length:=by simpa using hx
  have e:((B.aA.go.map λe=>(e.block,o)).getD x (0,[])).2=o:=by rw[bm hx,afw]
  rw[e];exact hs
 rw[<-b'];exact(U.sub (.cons _ (.cons_cons _ (.cons _ .slnil)))).px
end
end
section
theorem RO.Z8{A H:ai}{o:List Th}{c:Cx}{s:List SI}{L:Kn}{d:Option af}{l:List bu}{e n k cap:Nat}{b ex:Bool}{q:af}{p:Type}{f:p->AV}{zs:List p}(U:al A H o)(i:Nat)(z:p)(r:zs.length=n){a x:aK}{re:List fU}(h:∀j,al A j (o.set i (tS e 1 ((zs.set k z).map f) n b (.slice q 0 n cap ex)))->(∀aa,Le (bj L d .agx) aa->dl aa j re=true)/\RO ac c l s (bj L d .agx) j)(t:aT L a=.aD q (0+k*1):=by exact cw)(u:aT L x=f z:=by exact cw)(hi:o[i]?=some (tS e 1 (zs.map f) n b (.slice q 0 n cap ex)):=by rfl)(v:k<zs.length:=by first|omega|assumption)(w:(f z).db=true:=by first|rfl|assumption)(y:(f z).cells=[f z]:=by first|rfl|assumption)(hd:(f z).bq=true:=by first|rfl|assumption):RO ac c (⟨d,.store 1 a x,none,[],re⟩::l) s L H:=by subst r;obtain⟨E,B,_,hu⟩:=U.iu i hi;obtain⟨j,h1,h2,h3⟩:=I9.set (k:=k) B v z w;have:=hu (t':=tS e 1 ((zs.set k z).map f) (zs.set k z).length b (.slice q 0 (zs.set k z).length cap ex)) h2 h3;rw[afQ]at this;obtain⟨C,D⟩:=h j this;refine RO.AB (λ_ _ h=>by cases h) (λ_ h=>by cases h) (λaa m=>⟨j,?_,rfl⟩) C D;simp only[cS,aE,m.gv t rfl,m.gv u hd,y,ae8,bc,h1]
theorem Br(T:Tb ac){H:ai}{l m:List Int}{v w:AV}(j:fx H l v)(n:fx H m w)(hl:l.length<=1000000){K:KT}(h1:l=m->K (.bool true) H)(h2:l≠m->K (.bool false) H):YN ac Jy [v,w] H K:=by
 have⟨t,u,x,y⟩:=j.all;have⟨z,A,B,C⟩:=n.all;refine YF.code T.V1 aC ?_;refine ah ?_;refine Ru.cond (λa=>?_) (λa=>?_);·refine ah ?_;exact Ru.aP (h2 λe=>a (by rw[e]))
 have a:l.length=m.length:=ab;refine ah ?_;refine Ru.nm λS M q o=>?_;refine Ru.bM o (up (P:=λk=>(∀i(h:i<l.length)(b:i<m.length),i<k->l[i]=m[i])->Ru ac _ S ([(p5,aN k)]++pk M [p0,p1]) H) l.length (λk D r p=>?_) 0 ab (λi _ _ hi=>by omega));subst q;subst o;refine Ru.loop ?_;refine ah ?_;refine Ru.cond (λd=>?_) (λd=>?_)
 .refine ah ?_;refine RO.kZ (aZ.refl H) j (λs o1 hj f=>?_) (j:=k);refine ah ?_;refine RO.kZ (aZ.refl H) n (λs o1 hj f=>?_) (j:=k);refine ah ?_;refine Ru.cond (λc=>?_) (λc=>?_);·refine ah ?_;exact Ru.aP (h2 λe=>c (by subst e;rfl))
  refine ah ?_;refine Ru.wk (r (k+1) ab ab λi h b hi=>?_);by_cases e:i=k;·subst e;exact afP.1 c
  exact p i h b ab
 refine Ru.exitTo ?_;refine ah ?_;exact Ru.aP (h1 (agb a λi h b=>p i h b ab))
structure ja(g:G.aY):Prop where
 ne:0<g.aj.length
 t3:∀b,b<g.aj.length->(be g b).aA.op=67->(be g b).aA.go.length=3
 rg:∀b,b<g.aj.length->∀e∈(be g b).aA.go,1<=e.block/\e.block<=(g.aj.length:Int) - 1
theorem eE.sh{g:G.aY}(h:eE g):ja g:=by
 have hb:∀b,b<g.aj.length->lM g (be g b).aA:=λb hb=>by rw[be,bm hb];exact h.wG _ (acI hb)
 refine⟨h.ne,λb c d=>?_,λb c e he=>?_⟩;·have:=(hb b c).ae;generalize(be g b).aA.go.length=n at*;generalize(be g b).aA.args.length=a at*;cases this<;>simp_all
 obtain⟨i,hi,rfl⟩:=aeB he;have:=(hb b c).yS i hi;exact⟨this.lo,this.hi⟩
inductive gk(g:G.aY)(wo:Int):Nat->List Int->Prop
 |zero(h:wo≠0):gk g wo 0 []
 |step{b:Nat}{o:List Int}{w:Int×List Int}(h:gk g wo b o)(hw:w∈gj g b o)(hn:w.1≠wo):gk g wo w.1.toNat w.2
section
variable{g:G.aY}{wo:Int}
theorem oE.mN{o:List Int}{x:Int}(h:oE g o)(b:0<=x/\x.toNat/2<g.aj.length/\(be g (x.toNat/2)).aA.go.length=3):oE g (o++[x]):=λy a=>by
 rcases aeu.1 a with a|a;·exact h y a
 rw[aaN]at a;subst a;exact b
theorem pF(d:ja g){b:Nat}(hb:b<g.aj.length){o:List Int}(c:oE g o):∀w∈gj g b o,(1<=w.1/\w.1<=(g.aj.length:Int) - 1)/\oE g w.2/\w.2.length<=o.length+1:=by
 intro w a;unfold gj at a;split at a
 .rename_i f;have h3:=d.t3 b hb f;have h:=d.rg b hb;have i:(2*(b:Int)).toNat/2=b:=ab;have j:(2*(b:Int)+1).toNat/2=b:=ab;simp only[aer,aeS,or_false]at a;rcases a with rfl|rfl;·refine⟨h _ (by rw[bm ab];exact acI _),c.mN ⟨ab,by rw[i];exact hb,by rw[i];exact h3⟩,aC⟩
  refine⟨h _ (by rw[bm ab];exact acI _),c.mN ⟨ab,by rw[j];exact hb,by rw[j];exact h3⟩,aC⟩
 split at a
 .split at a;·cases a
  rename_i h0;rw[aaN]at a;subst a;have k:=acI (l:=o) (n:=o.length - 1) ab;obtain⟨_,h2,h3⟩:=c _ k;refine⟨?_,λx l=>c x (af1 l),by rw[aeP];omega⟩;show 1<=lN g _/\_;rw[bm ab,lN];exact d.rg _ h2 _ (by rw[bm ab];exact acI _)
 obtain⟨e,he,rfl⟩:=aeK.1 a;exact⟨d.rg b hb e he,c,aC⟩
theorem gk.ok(a:ja g){b:Nat}{o:List Int}(h:gk g wo b o):b<g.aj.length/\oE g o:=by induction h with|zero _=>exact⟨a.ne,λx d=>by cases d⟩|step _ e _ c=>obtain⟨⟨h1,h2⟩,h3,_⟩:=pF a c.1 c.2 _ e;exact⟨ab,h3⟩
structure jv(g:G.aY)(wo:Int)(come:List Bool)(aq:List (List Int)):Prop where
 lc:come.length=g.aj.length
 lo:aq.length=g.aj.length
 c0:wo≠0->come.getD 0 false=true
 EY:∀b,come.getD b false=false->aq.getD b []=[]
 snd:∀b,come.getD b false=true->gk g wo b (aq.getD b [])
 iF:∀b,come.getD b false=true->(aq.getD b []).length+gS come<g.aj.length
structure pG(g:G.aY)(wo:Int)(come:List Bool)(aq:List (List Int))(oth:Bool):Prop extends toFlI:jv g wo come aq where
 EZ:oth=true->∃b o o',gk g wo b o/\gk g wo b o'/\o≠o'
def wJ(wo:Int)(a:List Bool)(aq:List (List Int))(b:Bool)(w:Int×List Int):Prop:=w.1=wo\/a.getD w.1.toNat false=true/\(b=false->aq.getD w.1.toNat []=w.2)
def iH(g:G.aY)(wo:Int)(a:List Bool)(aq:List (List Int))(c:Bool)(b:Nat):Prop:=a.getD b false=true->∀w∈gj g b (aq.getD b []),wJ wo a aq c w
theorem jv.add(k:ja g){a:List Bool}{aq:List (List Int)}(h:jv g wo a aq){b:Nat}{w:Int×List Int}(hb:a.getD b false=true)(l:w∈gj g b (aq.getD b []))(m:w.1≠wo)(n:a.getD w.1.toNat false=false):jv g wo (a.set w.1.toNat true) (aq.set w.1.toNat w.2):=by
 have d:=h.lc;have f:=h.lo;obtain⟨j,o⟩:=(h.snd b hb).ok k;obtain⟨⟨h1,h2⟩,h3,q⟩:=pF k j o _ l;have i:w.1.toNat<g.aj.length:=ab;have r:=h.iF b hb;have p:=ou (by rw[d];exact i) n;refine⟨by simpa using d,by simpa using f,λh0=>?_,λx c=>?_,λx c=>?_,λx c=>?_⟩
 .rw[dk (by rw[d];exact i)];split;·rfl
  exact h.c0 h0
 .rw[dk (by rw[d];exact i)]at c;rw[dk (by rw[f];exact i)];split;·rename_i e;rw[aH e]at c;cases c
  rename_i e;rw[ap e]at c;exact h.EY x c
 .rw[dk (by rw[d];exact i)]at c;rw[dk (by rw[f];exact i)];split;·rename_i e;subst e;exact .step (h.snd b hb) l m
  rename_i e;rw[ap e]at c;exact h.snd x c
 rw[dk (by rw[d];exact i)]at c;rw[dk (by rw[f];exact i)];split;·omega
 rename_i e;rw[ap e]at c;have:=h.iF x c;omega
end
end
end
end Go.ak.R
namespace Go.ak
section
variable{ac:Nat->aX}{c:Cx}{s:List SI}{L:Kn}{A B H H':ai}{d:Option af}{l:List bu}{ts us:List Th}{q r:af}{e n m o k i cap size bytes:Nat}{vs ws:List AV}{v w sv yv:AV}{full ex:Bool}
theorem RO.Mc{x:aK}{g is:List af}(y:du H q o m=some vs)(t:q∉is)(h:∀i,(∀j,i.get j=H.get j)->i.next=H.next->RO ac c l s (bj L d (.agg vs)) i)(z:aT L x=.aD q o:=by exact cw)(C:pA L g=is.map some:=by exact cw):RO ac c (⟨d,.fL m x,none,g,[]⟩::l) s L H:=λaa b=>by
 obtain⟨h1,h2,h3⟩:=wE b (H:=H) C;generalize D:cS aa H g=a at h1 h2 h3;obtain⟨E,F⟩:=h3 a.1;have f:∀j,(cB a.1 a.2).get j=H.get j:=λj=>by
  rw[F];split;·rfl
  rename_i p;exact h2 j p
 obtain⟨n,p⟩:=h _ f (E.trans h1) _ (b.set d _);refine⟨n+1,?_⟩;have u:du a.1 q o m=some vs:=by simp only[du,h2 q t];exact y
 have he:aE (.fL m x) aa a.1=some (.agg vs,a.1):=by simp only[aE,b.gv z rfl,gz,u,bc,aeT]
 simp only[Xo,Go.ak.aq,dc,bc,D,he,dl];exact p
theorem Sl.aaY{a:ai}{is:List af}(h:Sl H size vs n v)(hg:∀j,j∉is->a.get j=H.get j)(f:a.next=H.next)(g:∀q o m c e,v=.slice q o m c e->q∉is):Sl a size vs n v:=by
 rcases h with h|⟨i,o,cap,ex,p,m,e,b,aM,fz,h1,h2,h3⟩;·exact .inl h
 refine .inr ⟨i,o,cap,ex,p,m,e,b,aM,fz,h1,by rw[hg i (g _ _ _ _ _ h1)];exact h2,?_⟩;rw[f];exact h3
theorem RO.BA(U:al A H (tS e size vs n true sv::ts)){x y:aK}{zs:List AV}{O is:List af}{re:List fU}(hs:Sl H size ws k yv)(T:∀q o m c e,yv=.slice q o m c e->q∉is)(dB:∀j∈is,∃(m:Nat)(t:Th),ts[m]?=some t/\∀Hx f,t.P Hx f->j∈f)(h:∀Q v,al A Q (tS e size (vs++ws) (n+k) true v::ts)->(∀aa,Le (bj L d v) aa->dl aa Q re=true)/\RO ac c l s (bj L d v) Q)(h1:cE ws=true:=by repeat first|rfl|assumption|(refine ao ?_ ?_))(R:pA L O=is.map some:=by exact cw)(hx:aT L x=sv:=by exact cw)(hy:aT L y=yv:=by exact cw)(hb:(n+k)*bytes<=70368744177664:=by omega)(z:n+k<=70368744177664:=by omega):RO ac c (⟨d,.append e bytes size zs false x y,none,O,re⟩::l) s L H:=λaa g=>by
 obtain⟨K,M,g3⟩:=wE g (H:=H) R;generalize hh:cS aa H O=b at K M g3;obtain⟨hG,fs,hF⟩:=U;match fs,hF with
  |N::fs,⟨q1,q2,q3,S⟩=>
   have E:∀j∈is,∃f∈fs,j∈f:=λj hj=>by obtain⟨m,t,hm,ht⟩:=dB j hj;obtain⟨f,C,R⟩:=S.at hm;exact⟨f,List.mem_of_getElem? C,ht _ _ R⟩
   have F:∀j∈is,j∉N:=λj hj V=>by obtain⟨f,C,p⟩:=E j hj;exact q3 j V f C p
   have W:∀j∈is,j.az<H.next.az:=λj hj=>by obtain⟨f,C,p⟩:=E j hj;exact S.lt f C j p
   have ho:cI b.1 N e size vs n true sv:=cI.frame q1 (by rw[K];exact aeq _) λj hj=>M j λz=>F j z hj;have X:Sl b.1 size ws k yv:=hs.aaY M K T;obtain⟨a,D,u,a1,a2,a3,a4,a5⟩:=ho.append (bytes:=bytes) hs.length h1 hb z;rw[K]at a3 a4 a5;obtain⟨g4,g5⟩:=g3 D;have I:∀j∈u,j∉is:=λj hj G=>by
    rcases a4 j hj with h|h;·exact F j G h
    have:=W j G;omega
   have J:cI (cB D b.2) u e size (vs++ws) (n+k) true a:=cI.frame a2 (by rw[g4];exact aeq _) λj hj=>by rw[g5,ap (I j hj)]
   have i:kB N u H (cB D b.2):=⟨by rw[g4];exact a3,λj hj=>(a4 j hj).imp id λh=>h.1,λj hj Y=>by
    rw[g5];split;·rfl
    rename_i z;rw[a5 j hj Y,M j z]⟩;obtain⟨Z,ag,_⟩:=Fs.iu (t':=tS e size (vs++ws) (n+k) true a) hG i (fs:=N::fs) (ts:=tS e size vs n true sv::ts) (i:=0) ⟨q1,q2,q3,S⟩ rfl rfl J;have av:al A (cB D b.2) (tS e size (vs++ws) (n+k) true a::ts):=⟨i.bZ hG q2,Z,ag⟩;obtain⟨h4,h5⟩:=h _ a av;obtain⟨n',aw⟩:=h5 _ (g.set d a);have he:aE (.append e bytes size zs false x y) aa b.1=some (a,D):=by simp only[aE,abu,bA,g.gv hx ho.sl.bq,g.gv hy hs.bq,X.fB,a1]
   refine⟨n'+1,?_⟩;simp only[Xo,Go.ak.aq,dc,bc,hh,he,h4 _ (g.set d a)];exact aw
theorem RO.RK{x y:aK}{a:Int}(h:RO ac c l s (bj L d (.bool false)) H)(b:aT L x=.int k a:=by exact cw)(f:aT L y=.int k a:=by exact cw):RO ac c (⟨d,.arith .neq k x y,none,[],[]⟩::l) s L H:=RO.neq (a:=a) (b:=a) (by rw[show decide (a≠a)=false by simp];exact h) b f
theorem RO.RL{x y:aK}{a:List Nat}(h:RO ac c l s (bj L d (.bool false)) H)(b:aT L x=.str a:=by exact cw)(f:aT L y=.str a:=by exact cw):RO ac c (⟨d,.km .neq x y,none,[],[]⟩::l) s L H:=RO.km (v:=.bool false) h b rfl f rfl (by simp[uw,R.jp])
theorem Md:∀{t:List Nat},(∀c∈t,c<256)->sE (t.map λn=>AV.int 4 (.ofNat n))=some t|[],_=>rfl|a::t,h=>by have h1:ae0 a 256=true:=agu afs (h a (acm ..));simp only[aez,sE,BR,h1,bc,Md λc b=>h c (aen _ b)]
theorem RO.nf{x:aK}{t:List Nat}(hs:Sl H 1 (t.map λn=>.int 4 (.ofNat n)) t.length sv)(hb:∀c∈t,c<256)(h:RO ac c l s (bj L d (.str t)) H)(g:aT L x=sv:=by exact cw):RO ac c (⟨d,.nf x,none,[],[]⟩::l) s L H:=by
 refine RO.op (λaa f=>?_) h;have hd:=hs.bq;simp only[aE,f.gv g hd];have a:=hs.fB;cases sv with
 |aG=>
  have:t=[]:=by
   rcases hs with⟨_,h,_⟩|⟨_,_,_,_,_,_,_,_,_,_,h,_⟩;·exact aeQ h
   cases h
  subst this;rfl
 |slice i o n cap ex=>simp only[fB]at a;rw[af0]at a;cases b:du H i o n with|none=>rw[b]at a;cases a|some j=>rw[b]at a;simp only[aas,acn]at a;obtain⟨_,rfl⟩:=a;simp only[b,Md hb,aeT]
 |str p=>rcases hs with⟨h,_⟩|⟨_,_,_,_,_,_,_,_,_,_,h,_⟩<;>cases h
 |_=>simp[fB]at a
theorem RO.uk{g:Type}{R:ai->g->List AV->Prop}{f:List g}(hg:aZ B H){x y:aK}{j kd:Nat}(hs:cK size R B f sv)(h:∀q o cs(hj:j<f.length),R B f[j] cs->cs.length=size->(∀{H'},aZ B H'->(∀t v,cs[t]?=some v->bx H' q (o+t)=some v)/\du H' q o size=some cs)->RO ac c l s (bj L d (.aD q o)) H)(p:aT L x=sv:=by exact cw)(u:aT L y=.int kd (.ofNat j):=by exact cw)(hj:j<f.length:=by first|assumption|omega):RO ac c (⟨d,.dO size x y,none,[],[]⟩::l) s L H:=by
 obtain⟨q,o,cap,ex,cs,rfl,h1,h2,h3,z⟩:=hs.at hj;have a:q.az<B.next.az:=by
  obtain⟨vs,C,_⟩:=hs;rcases C with⟨h,_⟩|⟨i,_,_,_,_,_,_,_,_,_,h,_,_,_,_,hi,_⟩;·cases h
  injection h with h;subst h;exact hi
 exact RO.dO (h q (o+j*size) cs hj h1 h2 λb=>⟨λt v e=>by rw[b.bx a];exact h3 t v e,by simp only[du,b.cM q a];exact z⟩) p u hj
theorem RO.aaZ{g:Type}{R:ai->g->List AV->Prop}{f:List g}(hg:aZ B H){x y:aK}{j kd:Nat}(hs:cK size R B f sv)(h:∀q o cs(hj:j<f.length),R B f[j] cs->cs.length=size->q.az<B.next.az->(∀{H'},aZ B H'->(∀t v,cs[t]?=some v->bx H' q (o+t)=some v)/\du H' q o size=some cs)->RO ac c l s (bj L d (.aD q o)) H)(p:aT L x=sv:=by exact cw)(u:aT L y=.int kd (.ofNat j):=by exact cw)(hj:j<f.length:=by first|assumption|omega):RO ac c (⟨d,.dO size x y,none,[],[]⟩::l) s L H:=by
 obtain⟨q,o,cap,ex,cs,rfl,h1,h2,h3,z⟩:=hs.at hj;have a:q.az<B.next.az:=by
  obtain⟨vs,C,_⟩:=hs;rcases C with⟨h,_⟩|⟨i,_,_,_,_,_,_,_,_,_,h,_,_,_,_,hi,_⟩;·cases h
  injection h with h;subst h;exact hi
 exact RO.dO (h q (o+j*size) cs hj h1 h2 a λb=>⟨λt v e=>by rw[b.bx a];exact h3 t v e,by simp only[du,b.cM q a];exact z⟩) p u hj
theorem aa0(l:List Bool):cE (l.map AV.bool)=true:=AA.2 λv a=>by obtain⟨x,_,rfl⟩:=aeK.1 a;rfl
end
end Go.ak
namespace Go.ak.R
section
variable{ac:Nat->aX}
section
def m8(l:List Bool):Nat->List Int
 |0=>[]
 |k+1=>m8 l k++if l.getD k false then[(k:Int)]else[]
def lQ(l:List Bool):List Int:=m8 l l.length
theorem Fp{l:List Bool}{x:Int}:∀{k:Nat},x∈m8 l k↔∃v:Nat,x=v/\v<k/\l.getD v false=true
 |0=>by simp[m8]
 |k+1=>by
  rw[m8,aeu,Fp];constructor
  .rintro(⟨v,h1,h2,h3⟩|h);·exact⟨v,h1,ab,h3⟩
   split at h;·rename_i a;rw[aaN]at h;exact⟨k,h,ab,a⟩
   cases h
  rintro⟨v,h1,h2,h3⟩;by_cases e:v=k;·subst e;right;rw[aH h3,h1];exact aaN.2 rfl
  exact .inl ⟨v,h1,ab,h3⟩
theorem aa1{l:List Bool}{x:Int}:x∈lQ l↔∃v:Nat,x=v/\l.getD v false=true:=by rw[lQ,Fp];exact⟨λ⟨v,h1,_,h2⟩=>⟨v,h1,h2⟩,λ⟨v,h1,h2⟩=>⟨v,h1,yL h2 aC,h2⟩⟩
theorem Me{l:List Bool}:∀k,(m8 l k).Pairwise (·<·)
 |0=>agv
 |k+1=>by
  rw[m8,List.pairwise_append];refine⟨Me k,?_,λa c b hb=>?_⟩
  .split;·exact List.pairwise_singleton ..
   exact agv
  obtain⟨v,h1,h2,_⟩:=Fp.1 c;split at hb;·rw[aaN]at hb;omega
  cases hb
theorem aa2(l:List Bool):(lQ l).Pairwise (·<·):=Me _
theorem Mf{l:List Bool}:∀k,(m8 l k).length<=k|0=>aeq _|k+1=>by have:=Mf (l:=l) k;rw[m8,aex];split<;>simp<;>omega
theorem Mg:∀{a b:List Int},a.Pairwise (·<·)->b.Pairwise (·<·)->(∀x,x∈a↔x∈b)->a=b
 |[],[],_,_,_=>rfl
 |[],y::b,_,_,h=>by have:=(h y).2 (acm ..);cases this
 |x::a,[],_,_,h=>by have:=(h x).1 (acm ..);cases this
 |x::a,y::b,i,hb,h=>by
  obtain⟨f,j⟩:=afW.1 i;obtain⟨b1,b2⟩:=afW.1 hb;have d:x=y:=by
   rcases aer.1 ((h x).1 (acm ..))with e|h1;·exact e
   rcases aer.1 ((h y).2 (acm ..))with e|h2;·exact e.symm
   have:=b1 x h1;have:=f y h2;omega
  subst d;rw[Mg j b2 λz=>?_];constructor
  .intro c;rcases aer.1 ((h z).1 (aen _ c))with e|h1;·have:=f z c;omega
   exact h1
  intro c;rcases aer.1 ((h z).2 (aen _ c))with e|h1;·have:=b1 z c;omega
  exact h1
theorem RO.aa3{c:Cx}{s:List SI}{L:Kn}{H:ai}{d:Option af}{l:List bu}{a b:Nat}{x y:aK}(h:RO ac c l s (bj L d (aN (a % b))) H)(f:aT L x=.int 3 (.ofNat a):=by exact cw)(i:aT L y=.int 3 (.ofNat b):=by exact cw)(hb:b≠0:=by omega):RO ac c (⟨d,.arith .rem 3 x y,none,[],[]⟩::l) s L H:=RO.arith (v:=aN (a % b)) (a:=.ofNat a) (b:=.ofNat b) h f i (by show(if afq b=0 then none else some (AV.int 3 ((afq a).tmod (afq b))))=_;rw[ap (by intro e;exact hb (Int.ofNat.inj e))];rfl)
theorem mZ{l:List Bool}{k n:Nat}(h1:l.length=n)(h2:k<n):(l.map AV.bool)[0+k*1]?=some (.bool (l.getD k false)):=by rw[show 0+k*1=k by omega,ae5,getElem?_pos l k ab,bm ab];rfl
section
variable{H:ai}
theorem aa4(T:Tb ac){l:List Bool}{m:AV}(hs:Sl H 1 (l.map .bool) l.length m)(hl:l.length<=6000){K:KT}(h:∀e v,al H e [tS 3 1 ((lQ l).map aI) (lQ l).length true v]->K v e):YN ac Uu [m] H K:=by
 have⟨s,_,_,t⟩:=hs.all;refine YF.code T.Wc aC ?_;refine ah ?_;refine RO.lF (al.bY H) 1 λB v5 U=>?_;have⟨u,_,_,_⟩:=(U.sl 0 rfl).all;refine ah ?_;refine Ru.nm λn p i c=>?_;refine Ru.bM c (up (P:=λk=>∀f b,al H f [tS 3 1 ((m8 l k).map aI) (m8 l k).length true b]->Ru ac _ n ([(p4,aN k),(p3,b)]++pk p [p0]) f) l.length (λk C a f b U=>?_) 0 ab _ _ U);subst i;subst c;have⟨x,_,_,y⟩:=(U.sl 0 rfl).all;have z:=Mf (l:=l) k;refine Ru.loop ?_;refine ah ?_;refine Ru.cond (λd=>?_) (λd=>?_)
 .have a:=a (k+1) ab ab;rw[m8,bm d]at a;refine ah ?_;refine RO.iE U.gr hs (λq o hj j=>?_) (j:=k);refine RO.bk ?_ (hc:=j);refine ah ?_;refine Ru.eh (λhb=>?_) (λhb=>?_);·rw[aH hb]at a;refine ah ?_;refine RO.push U 0 (λw e r U=>?_) (ws:=[aN k]);have⟨A,_,_,_⟩:=(U.sl 0 rfl).all;refine ah ?_;exact Ru.wk (a _ r (by rw[aeZ,aex];exact U))
  rw[ap (by rw[hb];simp),afu]at a;refine ah ?_;exact Ru.wk (a _ b U)
 refine Ru.exitTo ?_;obtain rfl:k=l.length:=ab;refine ah ?_;exact Ru.aP (h _ b U)
def lR(g:G.aY)(o:List Int):Option Int:=(o.reverse.find? λx=>x % 2==0).map λx=>((be g (x.toNat/2)).aA.go.getD 1 default).block
theorem aa5{g:G.aY}{o:List Int}(h:∀x∈o,x % 2≠0):lR g o=none:=by
 unfold lR;rw[List.find?_eq_none.2];·rfl
 intro x a;simpa using h x (aga.1 a)
theorem aa6{g:G.aY}{o:List Int}{k:Nat}(a:k<o.length)(h:∀j(hj:j<o.length),k<j->o[j]% 2≠0)(h0:o[k]% 2=0):lR g o=some ((be g (o[k].toNat/2)).aA.go.getD 1 default).block:=by
 unfold lR;rw[(List.find?_eq_some_iff_getElem (b:=o[k])).2];·rfl
 refine⟨by simpa using h0,o.length - 1 - k,by simp;omega,by rw[List.getElem_reverse];congr 1;omega,λj hj=>?_⟩;rw[List.getElem_reverse];simpa using h (o.length - 1 - j) ab ab
variable{g:G.aY}{cs:List AV}
theorem aa7(T:Tb ac)(hg:dS H g cs)(N:G.Sm g){o:List Int}{D:AV}(r:fx H o D)(X:o.length<=1000)(O:oE g o){K:KT}(h:∀E,aZ H E->K (aI (match lR g o with|some t=>t|none=> -1)) E):YN ac UJ [.agg cs,D] H K:=by
 have J:=hg.one;obtain⟨vb,rfl,bH⟩:=hg;have⟨Y,_,_,Z⟩:=bH.all;have⟨ag,_,_,av⟩:=r.all;have aw:=N.nb;refine YF.code T.Wv aC ?_;refine ah ?_;refine RO.cG (al.bY H) λP q U=>?_;refine ah ?_;refine RO.sub (a:=(o.length:Int)) (b:=1) ?_;refine ah ?_;refine Ru.nm λQ R w b=>?_;refine Ru.bM b (up (P:=λk=>(∀j(hj:j<o.length),o.length - k<=j->o[j]% 2≠0)->Ru ac _ Q ([(p5,aI ((o.length:Int) - 1 - k))]++pk R [p1,p2]) P) o.length (λk hk s u=>?_) 0 ab (λj hj c=>by omega)) (by simp;exact⟨rfl,trivial⟩);subst w;subst b;refine Ru.loop ?_;refine ah ?_;refine Ru.cond (λ(z:(0:Int)<=(o.length:Int) - 1 - k)=>?_) (λ(z:¬(0:Int)<=(o.length:Int) - 1 - k)=>?_)
 .have s:=s (k+1) ab ab;obtain⟨t,S⟩:∃t:Nat,(o.length:Int) - 1 - k=(t:Int):=⟨o.length - 1 - k,ab⟩;have ax:t=o.length - 1 - k:=ab;have d:t<o.length:=ab;rw[S];refine ah ?_;refine RO.kZ U.gr r (λF I f i=>?_) (j:=t);refine ah ?_;have v:=O _ (acI d);have l:=λh1 h2=>aa6 (g:=g) (o:=o) (k:=t) d h1 h2;generalize m:o[t]=x at*;obtain⟨x,rfl⟩:∃y:Nat,x=y:=⟨x.toNat,ab⟩;obtain⟨_,n,p⟩:=v;rw[aeA]at n p l;have V:eT .quo 3 (x:Int) (.ofNat 2)=some (aN (x/2)):=by simp only[eT];rw[ap bK,show((x:Int).tdiv (afq 2))=((x/2:Nat):Int)from by rw[aev,Int.tdiv_eq_ediv_of_nonneg ab];simp,ma ab ab];rfl
  refine ah ?_;refine RO.aa3 (a:=x) (b:=2) ?_;refine ah ?_;refine Ru.cond (λ(h0:x % 2=0)=>?_) (λ(h0:¬x % 2=0)=>?_);·rw[l (λj hj c=>u j hj ab) ab]at h;rw[be,bm n]at p h;refine ah ?_;refine RO.kZ U.gr r (λF I f i=>?_) (j:=t);rw[m]at i;refine ah ?_;refine RO.arith ?_ (hv:=V);refine RO.bW U.gr bH (λq1 o1 c1 ay A a1 hat hrd=>?_) (j:=x/2);generalize g.aj[x/2]=B2 at*;obtain⟨a2,L,a6,rfl,_,_,a8,a',B,rfl,_,_,a⟩:=A;have⟨M,_,_,_⟩:=a.all;refine ah ?_;refine RO.bk (v:=B) ?_ (hc:=hat 6 _ rfl);refine RO.bW U.gr a (λF I c8 f C ba hat hrd=>?_) (j:=1);obtain⟨ve,rfl,_⟩:=C;rw[bm ab]at h;refine ah ?_;exact Ru.aP (h _ U.gr)
  refine ah ?_;refine RO.sub (a:=(t:Int)) (b:=1) ?_;refine ah ?_;rw[show((t:Int) - 1)=(o.length:Int) - 1 - (k+1:Nat)by omega];exact Ru.wk (s λj hj c=>by
   by_cases e:j=t;·subst e;rw[m];omega
   exact u j hj ab)
 refine Ru.exitTo ?_;have W:lR g o=none:=aa5 λx v=>by obtain⟨j,hj,rfl⟩:=aeB v;exact u j hj ab
 rw[W]at h;refine ah ?_;exact Ru.aP (h _ U.gr)
end
theorem aa8(T:Tb ac){H:ai}{a b:List (List Int)}{v w:AV}(y:wI H a v)(z:wI H b w)(hl:a.length<=1000000)(q:∀x∈a,x.length<=1000000){K:KT}(h:a=b->K (.bool true) H)(h2:a≠b->K (.bool false) H):YN ac Uh [v,w] H K:=by
 have⟨M,_,_,N⟩:=y.all;have⟨O,_,_,P⟩:=z.all;refine YF.code T.VZ aC ?_;refine ah ?_;refine Ru.cond (λd=>?_) (λd=>?_);·refine ah ?_;exact Ru.aP (h2 λe=>d (by rw[e]))
 have d:a.length=b.length:=afP.1 d;refine ah ?_;refine Ru.nm λE F r f=>?_;refine Ru.bM f (up (P:=λk=>(∀j(hj:j<a.length)(c:j<b.length),j<k->a[j]=b[j])->Ru ac _ E ([(p5,aN k)]++pk F [p0,p1]) H) a.length (λk V o A=>?_) 0 ab (λj hj c Q=>by omega));subst r;subst f;refine Ru.loop ?_;refine ah ?_;refine Ru.cond (λi=>?_) (λi=>?_)
 .have o:=o (k+1) ab ab;have s:=q _ (acI i);refine ah ?_;refine RO.bW (aZ.refl _) y (λG I J R t u hat hrd=>?_) (j:=k);obtain⟨v9,rfl,l⟩:=t;have⟨B,_,_,_⟩:=l.all;refine RO.bk (v:=v9) ?_ (hc:=hat 0 _ rfl);refine ah ?_;refine RO.bW (aZ.refl _) z (λG I J C n u hat hrd=>?_) (j:=k);obtain⟨L,rfl,m⟩:=n;have⟨D,_,_,_⟩:=m.all;refine RO.bk (v:=L) ?_ (hc:=hat 0 _ rfl);refine RO.cl (Br T l m s (λe=>?_) (λe=>?_))
  .refine ah ?_;exact Ru.wk (o λj hj c S=>by
    by_cases p:j=k;·subst p;exact e
    exact A j hj c ab)
  refine ah ?_;exact Ru.aP (h2 λp=>e (by simp only[p]))
 refine Ru.exitTo ?_;refine ah ?_;exact Ru.aP (h (agb d λj hj c=>A j hj c ab))
end
section
theorem _root_.Go.ak.al.Z9{A H:ai}{F G:List Th}{b:List Th}(U:al A H (tZ F::tZ G::b)):al A H (tZ (F++G)::b):=by
 refine U.kF.as 0 rfl λk a=>⟨λu hu=>?_,a.2⟩;rcases aeu.1 hu with hu|hu;·obtain⟨f,c,d⟩:=a.1 _ (acm ..);obtain⟨e,h,i⟩:=d.1 u hu;exact⟨e,λj hj=>c j (h j hj),i⟩
 exact a.1 u (aen _ hu)
theorem _root_.Go.ak.al.Z'{A H:ai}{F G:List Th}{b:List Th}(U:al A H (tZ F::b))(h:∀t∈G,∃t0∈F,∀c f,t0.P c f->t.P c f):al A H (tZ (G++F)::b):=by
 refine U.as 0 rfl λi a=>⟨λu hu=>?_,a.2⟩;rcases aeu.1 hu with hu|hu;·obtain⟨t0,h0,h1⟩:=h u hu;obtain⟨f,d,e⟩:=a.1 _ h0;exact⟨f,d,h1 _ _ e⟩
 exact a.1 u hu
theorem iG.Ey{c:List (List Int)}{a:List AV}{F G:List Th}(h:iG c a F)(hs:∀t∈F,t∈G):iG c a G:=⟨h.len,λb hb=>hs _ (h.mem b hb)⟩
theorem iG.set{c:List (List Int)}{a:List AV}{F:List Th}(h:iG c a F){t:Nat}(d:t<c.length){l:List Int}{v:AV}(f:tR 1 (l.map aI) l.length v∈F):iG (c.set t l) (a.set t v) F:=by
 have hl:=h.len;refine⟨by simpa using hl,λb hb=>?_⟩;rw[afQ]at hb;rw[dk d,dk ab];by_cases e:b=t;·rw[aH e,aH e];exact f
 rw[ap e,ap e];exact h.mem b hb
theorem E0{w:List (Int×List Int)}{vs:Nat->AV}:∀n,((afD n).flatMap λk=>[aI (w.getD k (0,[])).1,vs k]).length=n*2|0=>rfl|n+1=>by rw[afV,ae9,aex,E0 n];simp;omega
theorem Ls{w:List (Int×List Int)}{vs:Nat->AV}{k:Nat}(a:k<w.length):(mq w vs)[0+k*2]?=some (aI (w.getD k (0,[])).1)/\(mq w vs)[0+k*2+1]?=some (vs k):=by
 unfold mq;obtain⟨d,hd⟩:∃d,w.length=k+1+d:=⟨w.length - (k+1),ab⟩;rw[hd,aeL];clear hd a;induction d with
 |zero=>
  rw[agl,afV,ae9,afl];have hl:=E0 (w:=w) (vs:=vs) k;constructor;·rw[afn ab,hl,Nat.sub_self];rfl
  rw[afn ab,hl];simp
 |succ d b=>have hl:=E0 (w:=w) (vs:=vs) (k+1+d);rw[<-afU,afV,ae9,aeM ab,aeM ab];exact b
def ug(f h i d e:af)(g:G.aY)(j:AV)(F:List Th)(a:List Bool)(b:List AV)(c:Bool):List Th:=[tZ F,tB lG f [.slice d 0 g.aj.length g.aj.length true,.slice e 0 g.aj.length g.aj.length true,.bool c],tS vT 1 b g.aj.length true (.slice e 0 g.aj.length g.aj.length true),tS 4 1 (a.map .bool) g.aj.length true (.slice d 0 g.aj.length g.aj.length true),tB lG h [.aG,.aG,.bool false],tB cX i [.str g.i7,aI g.i4,aI g.aW,j]]
section
variable{g:G.aY}{wo:Int}{H:ai}{cs:List AV}
theorem jv.zero(i:ja g):jv g wo (if wo≠0 then(aeo g.aj.length false).set 0 true else aeo g.aj.length false) (aeo g.aj.length []):=by
 have a:=i.ne;have c:∀b,(aeo g.aj.length ([]:List Int)).getD b []=[]:=λb=>by simp only[aeD,afb];split<;>rfl
 have d:∀b,(aeo g.aj.length false).getD b false=false:=λb=>by simp only[aeD,afb];split<;>rfl
 by_cases h:wo≠0
 .rw[aH h];have j:∀b,((aeo g.aj.length false).set 0 true).getD b false=true->b=0:=λb hb=>by
   rw[dk (by simpa using a)]at hb;by_cases e:b=0;·exact e
   rw[ap e,d]at hb;cases hb
  have f:=ou (come:=aeo g.aj.length false) (k:=0) (by simpa using a) (d 0);rw[wC]at f;refine⟨aC,aC,λ_=>by rw[dk (by simpa using a),aH rfl],λb _=>c b,λb hb=>?_,λb hb=>?_⟩;·rw[c,j b hb];exact .zero h
  rw[c];simp only[List.length_nil];omega
 rw[ap h];exact⟨aC,aC,λh0=>absurd h0 h,λb _=>c b,λb hb=>(by rw[d]at hb;cases hb),λb hb=>(by rw[d]at hb;cases hb)⟩
theorem yV(T:Tb ac)(hg:dS H g cs)(hB:G.Sm g)(hS:ja g)(d':g.aj.length<=40){K:KT}(h:∀H' P N n F c aq p,pG g wo c aq p->(∀b,iH g wo c aq p b)->iG aq n F->al H H' [tZ F,tS vT 1 n g.aj.length true (.slice N 0 g.aj.length g.aj.length true),tS 4 1 (c.map .bool) g.aj.length true (.slice P 0 g.aj.length g.aj.length true)]->K (.agg [.slice P 0 g.aj.length g.aj.length true,.slice N 0 g.aj.length g.aj.length true,.bool p]) H'):YN ac Ur [.agg cs,aI wo] H K:=by
 have ea:=hg.one;have cv:=hg;obtain⟨vb,rfl,bH⟩:=hg;have⟨ek,_,_,el⟩:=bH.all;have cx:=hS.ne;refine YF.code T.V' aC ?_;refine au ?_;refine RO.cG (al.bY H) λH1 X U=>?_;refine RO.dM U λH2 S U=>?_;refine ah ?_;refine RO.jn U (n:=g.aj.length) (λH3 P U=>?_) (hz:=by rw[eS];simp);refine ah ?_;refine RO.jn U (n:=g.aj.length) (λH4 N U=>?_) (hz:=by rw[eS];simp);refine ah ?_;refine RO.eR U λH5 V U=>?_;have U:=U.qp 3 1;have U:=(U.as 0 rfl λfp hp=>tS.lh hp).Lq;rw[eS,eS]at U;have U:al H H5 (ug V S X P N g vb [tR 1 [] 0 .aG] (aeo g.aj.length false) (aeo g.aj.length .aG) false):=by unfold ug;rw[afS];exact U
 have f:iG (aeo g.aj.length []) (aeo g.aj.length .aG) [tR 1 [] 0 .aG]:=⟨aC,λb hb=>by rw[afB]at hb;rw[bm (by simpa using hb),bm (by simpa using hb),List.getElem_replicate,List.getElem_replicate];exact acm ..⟩;refine RO.nil ?_;refine Ru.seq ?_;refine Ru.se (P:=λM H'=>M=[(p1,aI wo),(p2,.aD X 0),(p4,.aD S 0),(p5,aN g.aj.length),(p6,.aD V 0)]/\al H H' (ug V S X P N g vb [tR 1 [] 0 .aG] (if wo≠0 then(aeo g.aj.length false).set 0 true else aeo g.aj.length false) (aeo g.aj.length .aG) false)) (λM H6⟨hM,U⟩=>?_) (λs' q=>?_);rotate_left
 .refine ah ?_;refine Ru.cond (λu=>?_) (λu=>?_);·have u:wo≠0:=u;rw[aH u]at q;refine ah ?_;refine RO.gF (f:=AV.bool) (zs:=aeo g.aj.length false) U 3 true (n:=g.aj.length) (afB ..) (λH6 U=>?_) (k:=0) (ho:=by simpa using cx);refine ah ?_;exact q _ _ _ ⟨rfl,U⟩ eg
  have u:¬wo≠0:=u;rw[ap u]at q;refine ah ?_;exact q _ _ _ ⟨rfl,U⟩ eg
 subst hM;have r:=jv.zero (wo:=wo) hS;generalize(if wo≠0 then(aeo g.aj.length false).set 0 true else aeo g.aj.length false)=d6 at*;generalize [tR 1 [] 0 .aG]=F0 at*;generalize aeo g.aj.length AV.aG=eb at*;generalize aeo g.aj.length ([]:List Int)=ec at*;refine ah ?_;refine Ru.nm λS0 M cy hM=>?_;refine Ru.bM hM (dn (P:=λm=>∀B c aq n F p C,(if C=true then gS c+1 else 0)=m->pG g wo c aq p->iG aq n F->(C=false->∀b,iH g wo c aq p b)->al H B (ug V S X P N g vb F c n p)->Ru ac _ S0 ([(p7,.bool C)]++pk M [p1,p2,p4,p5,p6]) B) (λm ih B c aq n F p C cR r f z U=>?_) _ _ _ _ _ _ false true rfl ⟨r,λh=>by cases h⟩ f (λh=>by cases h) U);subst cy;subst hM;refine Ru.loop ?_;refine ah ?_;refine Ru.eh (λax=>?_) (λax=>?_)
 .subst ax;simp only[bc]at cR;refine ah ?_;refine Ru.nm λS1 M1 c9 a'=>?_;refine Ru.bM a' (up (P:=λk=>∀B c aq n F p C,(C=true->gS c+1<m)->gS c+1<=m->pG g wo c aq p->iG aq n F->(C=false->∀b,b<k->iH g wo c aq p b)->al H B (ug V S X P N g vb F c n p)->Ru ac _ S1 ([(p8,aN k),(p7,.bool C)]++pk M1 [p1,p2,p4,p5,p6]) B) g.aj.length (λb hb ay B c aq n F p C A E r f z U=>?_) 0 ab _ c aq n F p false (λh=>by cases h) ab r f (λ_ b hb=>by omega) U);subst c9;subst a';refine Ru.loop ?_;refine ah ?_;refine Ru.cond (λba=>?_) (λba=>?_)
  .have bb:=r.lc;have bd:=r.lo;have bv:=f.len;refine ah ?_;refine RO.lF U 2 λH6 v9 U=>?_;have⟨et,_,_,ew⟩:=(U.sl 0 rfl).all;refine RO.bw ?_;refine RO.nil ?_;refine Ru.seq ?_;refine Ru.se (P:=λM H'=>∃w vs F' wv,M=[(p9,wv),(p1,aI wo),(p2,.aD X 0),(p4,.aD S 0),(p5,aN g.aj.length),(p6,.aD V 0),(p7,.bool C),(p8,aN b)]/\(c.getD b false=true->w=gj g b (aq.getD b []))/\(c.getD b false=false->w=[])/\w.length<=12/\(∀k,k<w.length->tR 1 ((w.getD k (0,[])).2.map aI) (w.getD k (0,[])).2.length (vs k)∈F')/\iG aq n F'/\al H H' (tS rL 2 (mq w vs) w.length true wv::ug V S X P N g vb F' c n p)) (λM H7⟨w,vs,F',wv,hM,b0,c',ei,dm,f,U⟩=>?_) (λs' q=>?_);rotate_left
   .have dr:(c.map AV.bool)[0+b*1]?=some (.bool (c.getD b false)):=by rw[show 0+b*1=b by omega,ae5,getElem?_pos c b ab,bm ab];rfl
    refine ah ?_;refine RO.dh U 4 (hv:=dr) ?_;refine ah ?_;refine Ru.eh (λu=>?_) (λu=>?_)
    .have ds:n[0+b*1]?=some (n.getD b .ct):=by rw[show 0+b*1=b by omega,getElem?_pos n b ab,bm ab]
     have hF:=f.mem b ab;obtain⟨_,b3,_,_⟩:=U.mi 1 rfl hF;have⟨e0,_,_,_⟩:=b3.all;obtain⟨I,a1⟩:=(r.snd b u).ok hS;have cp:=r.iF b u;refine ah ?_;refine RO.cr U 6 ?_;refine ah ?_;refine RO.dh U 3 (hv:=ds) ?_;refine RO.cl (Lr T (b8.fY U.gr cv) hB I (hS.t3 b I) b3 ab a1 λH7 wv vs Fw dv hl=>?_);have U:=U.eK hl;have W:=(hl.sl 1 rfl).all.1;refine ah ?_;have dx:=((U.sub (.cons_cons _ (.cons_cons _ (.cons _ (afG _))))).cH (afL _ (afA _ _ _))).Z9;have dy:(gj g b (aq.getD b [])).length<=12:=by
      have:=(hB.bl _ (acI I)).2.2.2.2.1;unfold gj;split;·simp
      split;·split<;>simp
      rw[aeR,be,bm I];omega
     generalize gj g b (aq.getD b [])=w at*;have dz:=(dx.Z' (G:=(afD w.length).map λk=>tR 1 ((w.getD k (0,[])).2.map aI) (w.getD k (0,[])).2.length (vs k)) λt L=>by
      obtain⟨k,hk,rfl⟩:=aeK.1 L;rw[afR]at hk;rcases dv k hk with h9|h9;·exact⟨_,aeN _ h9,λ_ _ h=>h⟩
      exact⟨_,aeU _ hF,λ_ _ h=>Z5 h9 h⟩).cH (afA _ _ _);exact q _ _ _ ⟨w,vs,_,wv,rfl,λ_=>rfl,λh=>(by rw[u]at h;cases h),dy,λk hk=>aeN _ (aeK.2 ⟨k,afR.2 hk,rfl⟩),f.Ey λt L=>aeU _ (aeU _ L),dz⟩ eg
    refine ah ?_;exact q _ _ _ ⟨[],λ_=>.aG,F,v9,rfl,λh=>(by rw[u]at h;cases h),λ_=>rfl,aC,λk hk=>absurd hk aC,f,U⟩ eg
   subst hM;have ej:b<g.aj.length:=ba;refine ah ?_;have ay:=ay (b+1) ab ab;refine Ru.nm λS2 M2 d0 b4=>?_;refine Ru.bM b4 (up (P:=λj=>∀B a d o l y,(y=true->gS a+1<m)->gS a+1<=m->pG g wo a d l->iG d o F'->(c.getD b false=true->a.getD b false=true/\d.getD b []=aq.getD b [])->(y=false->a.getD b false=c.getD b false/\(∀Q,Q<b->iH g wo a d l Q)/\∀i,i<w.length->i<j->wJ wo a d l (w.getD i (0,[])))->al H B (tS rL 2 (mq w vs) w.length true wv::ug V S X P N g vb F' a o l)->Ru ac _ S2 ([(gf,aN j),(p7,.bool y)]++pk M2 [p1,p2,p4,p5,p6,p8,p9]) B) w.length (λj hj J B a d o l y A E r f O z U=>?_) 0 ab _ c aq n p C A E r f (λh=>⟨h,rfl⟩) (λh=>⟨rfl,z h,λi _ hi=>by omega⟩) U);subst d0;subst b4;have W:=(U.sl 0 rfl).all;have e1:=W.2.2.2;have W:=W.1;have bb:=r.lc;have bd:=r.lo;have bv:=f.len;refine Ru.loop ?_;refine ah ?_;refine Ru.cond (λs=>?_) (λs=>?_)
   .have b6:c.getD b false=true:=by cases R:c.getD b false with|true=>rfl|false=>rw[c' R]at s;simp at s
    obtain⟨v,Y⟩:=O b6;have a2:w.getD j (0,[])∈gj g b (d.getD b []):=by rw[Y,<-b0 b6,bm s];exact acI s
    obtain⟨I,a1⟩:=(r.snd b v).ok hS;obtain⟨⟨e2,e3⟩,e4,e5⟩:=pF hS I a1 _ a2;have cp:=r.iF b v;have hF:=dm j s;have J:=J (j+1) ab ab;have Z:y=false->wJ wo a d l (w.getD j (0,[]))->a.getD b false=c.getD b false/\(∀Q,Q<b->iH g wo a d l Q)/\∀i,i<w.length->i<j+1->wJ wo a d l (w.getD i (0,[])):=λh hd=>by
     obtain⟨a6,a8,a3⟩:=z h;refine⟨a6,a8,λi hi d1=>?_⟩;by_cases e:i=j;·subst e;exact hd
     exact a3 i hi ab
    obtain⟨b7,b'⟩:=Ls (vs:=vs) s;generalize d2:w.getD j (0,[])=wj at*;obtain⟨t,L⟩:∃t:Nat,wj.1=t:=⟨wj.1.toNat,ab⟩;rw[L]at b7;have e6:t<g.aj.length:=ab;obtain⟨qw,cap,ex,rfl⟩:=U.md 0 rfl ab;obtain⟨_,ag,_,_⟩:=U.mi 1 rfl hF;have⟨e7,e8,e9,_⟩:=ag.all;refine ah ?_;refine RO.dh U 0 (hv:=b7) ?_;refine ah ?_;refine Ru.cond (λu=>?_) (λu=>?_)
    .have u:wj.1=wo:=by rw[L];exact u
     refine ah ?_;exact Ru.wk (J _ a d o l y A E r f O (λh=>Z h (.inl u)) U)
    have u:wj.1≠wo:=by rw[L];exact u
    have d3:(a.map AV.bool)[0+t*1]?=some (.bool (a.getD t false)):=by rw[show 0+t*1=t by omega,ae5,getElem?_pos a t ab,bm ab];rfl
    refine ah ?_;refine RO.dh U 4 (hv:=d3) ?_;refine ah ?_;refine Ru.eh (λD=>?_) (λD=>?_)
    .have D:a.getD t false=false:=by simpa using D
     have ca:b≠t:=λe=>by rw[<-e,v]at D;cases D
     have e':=ou ab D;refine ah ?_;refine RO.dh U 0 (hv:=b') ?_;refine ah ?_;refine RO.Z8 (f:=AV.bool) (zs:=a) U 4 true bb (k:=t) (λH8 U=>⟨λaa d4=>?_,?_⟩);·obtain⟨_,hp⟩:=U.get 2 rfl;exact gh (i:=V) (o:=1) (v:=.slice N 0 g.aj.length g.aj.length true) d4 (by(conv=>lhs;whnf)<;>rfl) (by(conv=>lhs;whnf)<;>rfl) rfl (by simp[fC,de,af.fo]) (tB.cell hp rfl) rfl
     refine ah ?_;refine RO.A9 U 3 (n:=g.aj.length) (vs:=o) ab (k:=t) (w:=vs j) (λH9 U=>?_);refine ah ?_;have av:=r.add hS v a2 u (by rw[L,aeA];exact D);rw[L,aeA]at av;exact Ru.wk (J _ (a.set t true) (d.set t wj.2) (o.set t (vs j)) l true (λ_=>by omega) ab ⟨av,r.EZ⟩ (f.set ab hF) (λh=>by rw[dk ab,dk ab,ap ca,ap ca];exact⟨v,Y⟩) (λh=>by cases h) U)
    have D:a.getD t false=true:=by simpa using D
    have d5:o[0+t*1]?=some (o.getD t .ct):=by rw[show 0+t*1=t by omega,getElem?_pos o t ab,bm ab]
    obtain⟨_,aw,_,_⟩:=U.mi 1 rfl (f.mem t ab);have⟨fa,_,_,_⟩:=aw.all;have d7:=r.iF t D;refine ah ?_;refine RO.dh U 3 (hv:=d5) ?_;refine ah ?_;refine RO.dh U 0 (hv:=b') ?_;refine RO.cl (Br T aw ag ab (λg3=>?_) (λg3=>?_));·refine ah ?_;exact Ru.wk (J _ a d o l y A E r f O (λh=>Z h (.inr (by rw[L,aeA];exact⟨D,λ_=>g3⟩))) U)
    refine ah ?_;refine RO.eo U 2 (λH8 U=>?_);refine ah ?_;have cd:∀w,wJ wo a d l w->wJ wo a d true w:=λw hw=>hw.imp id λh=>⟨h.1,λh=>by cases h⟩;have cf:=gk.step (r.snd b v) a2 u;rw[L,aeA]at cf;exact Ru.wk (J _ a d o true y A E ⟨r.toFlI,λ_=>⟨t,_,_,r.snd t D,cf,g3⟩⟩ f O (λh=>by
     obtain⟨a6,a8,a3⟩:=z h;refine⟨a6,λQ cn R x hx=>cd _ (a8 Q cn R x hx),λi hi d1=>?_⟩;by_cases e:i=j;·subst e;rw[d2];exact .inr (by rw[L,aeA];exact⟨D,λh=>by cases h⟩)
     exact cd _ (a3 i hi ab)) U)
   refine Ru.exitTo ?_;refine ah ?_;refine Ru.wk (ay B a d o F' l y A E r f (λh Q cn=>?_) U.tail);obtain⟨a6,a8,a3⟩:=z h;by_cases e:Q=b;·subst e;intro R x hx;rw[a6]at R;rw[(O R).2,<-b0 R]at hx;obtain⟨i,hi,rfl⟩:=aeB hx;have:=a3 i hi ab;rw[bm hi]at this;exact this
   exact a8 Q ab
  refine Ru.exitTo ?_;obtain rfl:b=g.aj.length:=ab;refine ah ?_;refine Ru.wk (ih _ ?_ B c aq n F p C rfl r f (λh x=>?_) U);·cases C with|true=>rw[aH rfl];exact A rfl|false=>rw[ap aC];omega
  by_cases hx:x<g.aj.length;·exact z h x hx
  intro R;have:=r.lc;rw[aeD,afH ab]at R;cases R
 subst ax;refine Ru.exitTo ?_;have bd:=r.lo;have bv:=f.len;refine ah ?_;refine RO.cr U 1 ?_;refine RO.eQ U 4 (λH7 U=>?_);refine ah ?_;exact Ru.iT (vs:=[_]) ⟨⟨S,0,rfl,U.agg 4⟩,trivial⟩ (h H7 P N n F c aq p r (z rfl) f (U.sub (.cons_cons _ (.cons _ (.cons_cons _ (.cons_cons _ (.cons _ (.cons _ .slnil))))))))
end
end
end
end Go.ak.R
end
