/- A part. No conditions. -/
import Derived.Test.YtpplokbfajnjhaaGreatDoorA20
set_option linter.all false
set_option maxHeartbeats 16000000
open List renaming replicate->acJ,range->ah7
open Nat renaming blt->aiu
open Int renaming ofNat->aiC
open List.Perm renaming swap->aiK,cons->aiP
open List.Pairwise renaming nil->ajO
open Eq renaming mpr->ajP
noncomputable section
namespace Go.al.R
section
variable{g:G.aP}{come:List Bool}{os:List (List bt)}
abbrev aE(g:G.aP)(b:Nat):G.dK:=g.aj.getD b default
structure nB(g:G.aP):Prop where
 v0:0<=g.aQ
 p0:0<=g.params
 oE:∀b∈g.aj,∀p∈cD b,g.params<=p.1/\p.1<g.aQ
 nd:∀b∈g.aj,((cD b).map (·.1)).Nodup
 one:∀i j,i<g.aj.length->j<g.aj.length->∀v p q,(v,p)∈cD (aE g i)->(v,q)∈cD (aE g j)->i=j
 all:∀v:Int,g.params<=v->v<g.aQ->∃i p,i<g.aj.length/\(v,p)∈cD (aE g i)
theorem kY{b:Nat}(h:b<g.aj.length):aE g b∈g.aj:=by grind
theorem F9{k:Nat}{v:Int}(b:0<=v):∀(l a:List (Int×Int)),(∀p∈l,0<=p.1/\p.1≠v)->(nu k a l).getD v.toNat (-1, -1)=a.getD v.toNat (-1, -1)|[],a,_=>rfl|p::l,a,h=>by have h1:=h p (acI ..);show(nu k (a.set p.1.toNat ((k:Int),p.2)) l).getD _ _=_;rw[F9 b l _ λq c=>h q (adT _ c)];simp only[ah3,List.getElem?_set];rw[an aa]
theorem ME{k:Nat}{v p:Int}:∀(l a:List (Int×Int)),(l.map (·.1)).Nodup->(∀q∈l,0<=q.1/\q.1.toNat<a.length)->(v,p)∈l->(nu k a l).getD v.toNat (-1, -1)=((k:Int),p)
 |[],a,_,_,h=>by cases h
 |q::l,a,c,d,h=>by
  rw[ah2,aiz]at c;have f:=d q (acI ..);show(nu k (a.set q.1.toNat ((k:Int),q.2)) l).getD _ _=_;rcases acT.1 h with rfl|h;·rw[F9 f.1 l _ λr b=>⟨(d r (adT _ b)).1,λe=>c.1 (by rw[<-e];exact aio b)⟩,dD f.2,aG rfl]
  exact ME l _ c.2 (λr b=>by have:=d r (adT _ b);rw[aja];exact this) h
theorem nB.at(h:nB g){i:Nat}{v p:Int}(hi:i<g.aj.length)(c:(v,p)∈cD (aE g i)):(fK g).getD v.toNat (-1, -1)=((i:Int),p):=by
 have f:=h.oE _ (kY hi) _ c;have h0:=h.p0;have key:∀k,k<=g.aj.length->i<k->(kp g g.aQ.toNat k).getD v.toNat (-1, -1)=((i:Int),p):=by
  intro k;induction k with
  |zero=>intro _ h;omega
  |succ k j=>
   intro m l;have a:=kY (g:=g) (b:=k) aa;have d:∀q∈cD (aE g k),0<=q.1/\q.1.toNat<(kp g g.aQ.toNat k).length:=λq b=>by have:=h.oE _ a q b;rw[Cj];simp only at*;omega
   show(nu k _ (cD (aE g k))).getD _ _=_;by_cases e:i=k;·subst e;exact ME _ _ (h.nd _ a) d c
   rw[F9 (by simp only at f;omega) _ _ λq b=>⟨(d q b).1,λe2=>e (h.one i k hi aa v p q.2 c (by rw[<-e2];exact b))⟩];exact j aa aa
 exact key _ (afM _) hi
theorem Ga:∀(l:List G.ee)(i:Nat)(p:Int×Int),p∈gC l i->(i:Int)<=p.2/\p.2<i+l.length
 |[],i,p,h=>by cases h
 |s::l,i,p,h=>by
  simp only[gC,adX]at h;rcases h with h|h;·grind
  have:=Ga l (i+1) p h;grind
theorem MF{b:G.dK}{v p:Int}(h:(v,p)∈cD b):p= -1\/0<=p/\p<b.aA.length:=by
 simp only[cD,adX,aia]at h;rcases h with⟨x,_,h⟩|h;·grind
 have:=Ga _ _ _ h;omega
def my(g:G.aP)(b:Nat)(v bu:Int):Prop:=∀p,(v,p)∈cD (aE g b)->bu<=p
def jU(g:G.aP)(o:List bt):Option Int:=(o.reverse.find? λx=>x.2==0).map λx=>((aE g x.1.toNat).aq.go.getD 1 default).block
inductive Lv(g:G.aP)(os:List (List bt)):Nat->Int->Prop
 |kU{b:Nat}{v bu:Int}(h:(v,bu)∈fD (aE g b))(hn:my g b v bu):Lv g os b v
 |iq{b w:Nat}{v:Int}(hw:w∈wW g os b)(h:Lv g os w v)(hn:my g b v (aE g b).aA.length):Lv g os b v
 |kl{b:Nat}{t v:Int}(ht:jU g (os.getD b [])=some t)(h:Lv g os t.toNat v)(hn:my g b v 0):Lv g os b v
theorem acO{o:List bt}{t:Int}(h:jU g o=some t):∃x∈o,x.2=0/\t=((aE g x.1.toNat).aq.go.getD 1 default).block:=by unfold jU at h;cases h2:o.reverse.find? λx=>x.2==0 with|none=>grind|some x=>grind
theorem iT.ne{W:Nat->List Nat}{d b:Nat}(h:iT W d b):b≠d:=by cases h with|zero h=>omega|step _ _ h=>omega
theorem ep.Gb{W:Nat->List Nat}{d:Nat}:ep W d d:=λh=>h.ne rfl
theorem ep.trans{W:Nat->List Nat}{a b c:Nat}(h1:ep W a b)(h2:ep W b c):ep W a c:=by
 intro h;have key:∀x,iT W a x->iT W a b\/iT W b x:=λx f=>by
  induction f with
  |zero h=>
   by_cases e:0=b;·left;rw[<-e];exact .zero h
   exact .inr (.zero e)
  | @step x y f g i d=>
   rcases d with d|d;·exact .inl d
   by_cases e:y=b;·left;rw[<-e];exact .step f g i
   exact .inr (.step d g e)
 rcases key c h with h|h;all_goals trivial
theorem b9.oF(c:fy g)(a:b9 g come os){b:Nat}{o:List bt}(h:fJ g b o):come.getD b false=true/\os.getD b []=o:=by induction h with|zero=>exact⟨a.c0,c.vc (a.cK 0 a.c0) .zero⟩| @step b o w h d e=>have⟨h1,h2⟩:=e;have h3:=a.dn b h1 w (by rw[h2];exact d);exact⟨h3,c.vc (a.cK _ h3) (.step h d)⟩
theorem Ck{b:Nat}{w:Int×List bt}(a:w∈bU g b (os.getD b [])):w.1.toNat∈wW g os b:=aio a
theorem Gc{b:Nat}{o:List bt}{w:Int×List bt}(a:w∈bU g b o){x:bt}(c:x∈w.2):x∈o\/x.1=b/\(aE g b).aq.op=67:=by simp only[bU]at a;grind
theorem fJ.acP(a:fy g)(c:b9 g come os){b:Nat}{o:List bt}(h:fJ g b o):∀x∈o,∃t:Nat,x.1=t/\come.getD t false=true/\(aE g t).aq.op=67:=by
 induction h with
 |zero=>simp
 | @step b o w h d f=>
  intro x e;rcases Gc d e with h1|⟨h1,h2⟩;·grind
  exact⟨b,h1,(c.oF a h).1,h2⟩
theorem iT.l8(i:fy g)(f:b9 g come os){d b:Nat}(h:iT (wW g os) d b):come.getD b false=true/\∀x∈os.getD b [],x.1≠(d:Int):=by
 induction h with
 |zero h=>refine⟨f.c0,λx c=>?_⟩;rw[(f.oF i .zero).2]at c;cases c
 | @step a x h c m l=>
  have⟨h1,h2⟩:=l;refine⟨f.iq h1 c,λy j=>?_⟩;simp only[wW,kn,aia]at c;obtain⟨w,k,rfl⟩:=c;have hl:=f.cK a h1;rw[(f.oF i (.step hl k)).2]at j;rcases Gc k j with h3|⟨h3,_⟩;·exact h2 y h3
  rw[h3];exact λe=>h.ne aa
theorem MG(a:fy g)(c:b9 g come os){b t:Nat}{k:Nat}(h:(((t:Int),k):bt)∈os.getD b []):ep (wW g os) t b:=λd=>(d.l8 a c).2 _ h rfl
theorem acQ{ap:List Nat}(i:eT g come os ap){cz a:List Nat}{t:Nat}(e:ap=cz++t::a):∀(n x:Nat),cz[n]?=some x->iT (wW g os) t x:=by
 have c:=i.nd;have d:∀x∈cz,x≠t:=λx b h=>by rw[e]at c;exact(aiH.1 c).2.2 x b t (acI ..) h
 intro n;induction n using Nat.strongRecOn with
 |ind n k=>
  intro x b;have⟨j,b⟩:=aiF.1 b;have f:=d x (by rw[<-b];exact acm j);have e2:ap=cz.take n++x::(cz.drop (n+1)++t::a):=by
   rw[e];conv=>lhs;rw[<-ai1 n cz,ah6 j,b]
   simp
  rcases i.aK _ _ _ e2 with h|⟨y,l,o⟩;·rw[h];exact .zero aa
  obtain⟨m,p,rfl⟩:=ah0 l;rw[aiA]at p;refine .step (k m aa _ ?_) o f;rw[List.getElem_take,aiQ aa]
theorem acR(d:fy g)(c:b9 g come os){ap:List Nat}(f:eT g come os ap){b t:Nat}{k:Nat}(hb:come.getD b false=true)(h:(((t:Int),k):bt)∈os.getD b []):t≠b:=by
 rintro rfl;have⟨cz,n,e⟩:=List.append_of_mem ((f.mem t).2 hb);rcases f.aK _ _ _ e with h0|⟨y,o,a⟩;·subst h0;rw[(c.oF d .zero).2]at h;cases h
 obtain⟨m,p,rfl⟩:=ah0 o;have j:=acQ f e m _ (aiQ p);have⟨h1,h2⟩:=j.l8 d c;simp only[wW,kn,aia]at a;have⟨w,a,q⟩:=a;have l:=(c.oF d (.step (c.cK _ h1) a)).2;rw[q]at l;rw[l]at h;rcases Gc a h with i|⟨i,_⟩;·exact h2 _ i rfl
 exact j.ne (by simp only at i;omega)
theorem eT.rk{ap:List Nat}(a:eT g come os ap)(n:Nat)(c:∀b∈ap,b<n):Rk (wW g os) ap ((ah7 n).map λb=>ap.idxOf b):=by refine⟨a.nd,a.hd,a.aK,λi h=>?_⟩;have hi:=c _ (acm h);rw[bf (by grind)];simp only[aiD,aju];exact a.nd.idxOf_getElem i h
theorem ep.acS(h:b9 g come os){ap:List Nat}(e:eT g come os ap){a b:Nat}(i:come.getD a false=true)(hb:come.getD b false=true)(h1:ep (wW g os) a b)(h2:ep (wW g os) b a):a=b:=by have f:=e.rk g.aj.length λb hb=>h.lt ((e.mem b).1 hb);have c:=(e.mem a).2 i;have d:=(e.mem b).2 hb;exact f.inj c d (Nat.le_antisymm (f.d8 _ b rfl d h1) (f.d8 _ a rfl c h2))
abbrev vq(g:G.aP)(v:Int):Int:=((fK g).getD v.toNat (-1, -1)).1
def vr(g:G.aP)(come:List Bool)(os:List (List bt))(b:Nat)(v:Int):Prop:=0<=v/\v<g.aQ/\(v<g.params\/∃s:Nat,vq g v=s/\come.getD s false=true/\ep (wW g os) s b)
def Far(g:G.aP)(come:List Bool)(os:List (List bt))(b:Nat)(v:Int):Prop:=0<=v/\v<g.aQ/\(v<g.params\/∃s:Nat,vq g v=s/\s≠b/\come.getD s false=true/\ep (wW g os) s b)
theorem zX(h:0<=g.aQ):((fK g).length:Int)=g.aQ:=by grind[fK,Cj]
theorem nB.fQ(a:nB g){v:Int}(h0:g.params<=v)(h1:v<g.aQ):∃i p,i<g.aj.length/\(v,p)∈cD (aE g i)/\(fK g).getD v.toNat (-1, -1)=((i:Int),p):=by have⟨i,p,hi,b⟩:=a.all v h0 h1;exact⟨i,p,hi,b,a.at hi b⟩
theorem qG(f:fy g)(c:b9 g come os){b:Nat}{t:Int}(hb:come.getD b false=true)(i:jU g (os.getD b [])=some t):∃u:Nat,(((u:Int),0):bt)∈os.getD b []/\come.getD u false=true/\t.toNat∈wW g os u/\come.getD t.toNat false=true/\0<=t:=by
 obtain⟨x,j,d,rfl⟩:=acO i;have⟨u,hu,a,e⟩:=(c.cK b hb).acP f c x j;have k:x=((u:Int),0):=by rw[<-hu,<-d]
 rw[hu,ahX];have h:(((aE g u).aq.go.getD 1 default).block,os.getD u []++[((u:Int),1)])∈bU g u (os.getD u []):=by simp only[bU];rw[aG e];simp
 have h2:=Ck h;refine⟨u,by grind,a,h2,c.iq a h2,(f.zV (c.cK u a) _ h).1⟩
theorem Lv.zY(n:fy g)(c:b9 g come os)(F:ny g come os)(o:nB g){ap:List Nat}(B:eT g come os ap){b:Nat}{v:Int}(h:Lv g os b v):come.getD b false=true->Far g come os b v:=by
 induction h with
 | @kU b v bu h k=>
  intro hb;have⟨t,q,G,C⟩:=F.rd b hb _ h;subst q;have d:(t:Int)<g.aQ:=by have:=zX o.v0;omega
  refine⟨aC,d,?_⟩;rcases C with C|⟨h1,h2⟩|⟨s,h1,h2,h3,a⟩;·omega
  .by_cases D:(t:Int)<g.params;·omega
   have⟨i,p,hi,l,he⟩:=o.fQ (v:=(t:Int)) aa d;rw[ahX]at he;rw[he]at h1 h2;have:i=b:=aa;subst this;have:=k p l;omega
  exact .inr ⟨s,by grind,h2,h3,a⟩
 | @iq b w v E h k r=>
  intro hb;have⟨h0,h1,h2⟩:=r (c.iq hb E);by_cases D:v<g.params;·exact⟨h0,h1,.inl D⟩
  refine⟨h0,h1,h2.imp id λ⟨s,h3,a,x,m⟩=>⟨s,h3,λe=>?_,x,m.cz E a⟩⟩;subst e;have⟨i,p,hi,l,he⟩:=o.fQ aa h1;rw[vq,he]at h3;have:i=s:=aa;subst this;have I:=k p l;have J:=MF l;omega
 | @kl b t v q h k r=>intro hb;have⟨u,hu,y,f,z,H⟩:=qG n c hb q;have⟨h0,h1,h2⟩:=r z;have A:=acR n c B hb hu;have j:=MG n c hu;refine⟨h0,h1,h2.imp id λ⟨s,h3,a,x,m⟩=>⟨s,h3,λe=>?_,x,(m.cz f a).trans j⟩⟩;subst e;exact A (ep.acS c B y hb j (m.cz f a))
end
def MH:ai->List Int->List AV->Prop:=λH l cs=>∃v,cs=[v]/\eE H l v
abbrev pD(H:ai)(a:List (List Int))(v:AV):Prop:=cQ 1 MH H a v
theorem bX.zZ:bX MH:=λhg⟨v,h1,h2⟩=>⟨v,h1,hg.sl h2⟩
structure fA(lv:List (List Int))(vsl:List AV)(F:List Th):Prop where
 len:vsl.length=lv.length
 mem:∀b,b<lv.length->tR 1 ((lv.getD b []).map aI) (lv.getD b []).length (vsl.getD b .bM)∈F
theorem fA.sl{c:List (List Int)}{a:List AV}{F:List Th}(h:fA c a F){A H:ai}{d:List Th}(U:ak A H d)(i:Nat)(hi:d[i]?=some (tZ F)){v:AV}(hs:Sl H 1 a a.length v):pD H c v:=by have hl:=h.len;refine⟨a,by rw[<-hl];exact hs,λb hb=>?_⟩;have⟨f,e,_⟩:=U.kj i hi (h.mem b hb);refine⟨a.getD b .bM,?_,by rw[<-bf hb []];exact e⟩;rw[ajo,ah6 aa,bf aa];rfl
theorem gT{L:Kn}{c b cs r:List AV}{off size:Nat}{x:aJ}{v:AV}{a:List (Nat×Nat×aJ)}(d:aT L x=v)(hd:v.br=true)(e:v.cells=cs)(hs:cs.length=size)(hl:qU c off cs=some b)(f:nU L b a=some r):nU L c ((off,size,x)::a)=some r:=by simp[d,hd,e,hs,hl,f,nU,decide_true,ajL,bi]
theorem MI{size:Nat}{j p:List AV}{n m:Nat}{nv v:AV}(b:∀H,Sl H size j n nv->Sl H size p m v){H:ai}{f:List ah}(h:(tR size j n nv).P H f):(tR size p m v).P H f:=by
 have⟨h1,h2,h3⟩:=h;refine⟨b H h1,λi o m c e w=>?_,h3⟩;apply ain;intro hi;have x:Sl (H.set i .none) size j n nv:=by
  rcases h1 with h|⟨k,q,cap,ex,r,s,t,d,aK,fz,a,g,u⟩;·exact .inl h
  have l:k≠i:=λe=>hi (e▸h2 _ _ _ _ _ a);exact .inr ⟨k,q,cap,ex,r,s,t,d,aK,fz,a,by rw[ai.aF,an l];exact g,u⟩
 have a:=b _ x;subst w;rcases a with⟨h,_⟩|⟨k,q,cap,ex,r,s,t,d,aK,fz,a,g,u⟩;·cases h
 injection a with a;subst a;rw[ai.aF,aG rfl]at g;cases g
section
variable{ab:Nat->aV}
section
def mz(g:G.aP)(x:Int):Int:=((aE g (x.toNat/2)).aq.go.getD 2 default).block
def fU(g:G.aP)(b:Nat)(o:List Int):List (Int×List Int):=
 if(aE g b).aq.op=67 then[(((aE g b).aq.go.getD 0 default).block,o++[2*(b:Int)]),(((aE g b).aq.go.getD 1 default).block,o++[2*(b:Int)+1])]
 else if(aE g b).aq.op=68 then(if o.length=0 then[]else[(mz g (o.getD (o.length - 1) 0),o.take (o.length - 1))])
 else(aE g b).aq.go.map λe=>(e.block,o)
def pE(g:G.aP)(o:List Int):Prop:=∀x∈o,0<=x/\x.toNat/2<g.aj.length/\(aE g (x.toNat/2)).aq.go.length=3
def lB(w:List (Int×List Int))(a:Nat->AV):List AV:=(ah7 w.length).flatMap λk=>[aI (w.getD k (0,[])).1,a k]
def acU(o:List Int)(c:AV)(w:List (Int×List Int))(a:Nat->AV)(F:List Th):Prop:=∀k,k<w.length->tR 1 ((w.getD k (0,[])).2.map aI) (w.getD k (0,[])).2.length (a k)∈F\/∀b,Sl b 1 (o.map aI) o.length c->Sl b 1 ((w.getD k (0,[])).2.map aI) (w.getD k (0,[])).2.length (a k)
theorem z6{b c:Type}{f g:b->List c}:∀{l:List b},(∀x∈l,f x=g x)->l.flatMap f=l.flatMap g|[],_=>rfl|a::l,h=>by rw[ai9,ai9,h a (acI ..),z6 λx d=>h x (adT _ d)]
theorem acV{w:List (Int×List Int)}{x:Int×List Int}{a:Nat->AV}:lB (w++[x]) a=lB w a++[aI x.1,a w.length]:=by
 unfold lB;rw[ahY,aiv,aiW,aiy,aiN];congr 1;·refine z6 λk b=>?_;rw[aiO]at b;simp[aij b]
 simp
theorem _root_.Go.al.ak.Gd{A H:ai}{t:Th}{a:List Th}(U:ak A H (t::a)):ak A H (tZ [t]::a):=(U.lU.bV (aiK t (tZ []) a)).iC
section
variable{g:G.aP}{H:ai}{cs:List AV}
theorem MJ(T:Tb ab)(hg:dt H g cs)(hB:G.Sm g){b:Nat}(hb:b<g.aj.length)(n:(aE g b).aq.op=67->(aE g b).aq.go.length=3){o:List Int}{a:AV}(q:eE H o a)(c9:o.length<=1000)(hO:pE g o){K:KT}(h:∀H' wv vs F,acU o a (fU g b o) vs F->ak H H' [tZ F,tS jz 2 (lB (fU g b o) vs) (fU g b o).length true wv]->K wv H'):YN ab Xv [.agg cs,aN b,a] H K:=by
 have cp:=hg.one;obtain⟨vb,rfl,bG⟩:=hg;have⟨c',_,_,dm⟩:=bG.all;have⟨Y,dr,Z,ds⟩:=q.all;have dv:=hB.nb;have ag:=acm hb;have dx:=hB.bl _ ag;have l:aE g b=g.aj[b]:=by rw[aE,bf hb]
 rw[l]at n;refine YF.code T.ZH aC (af ?_);refine RO.ct (ak.bN H) λH1 q3 U=>?_;refine af ?_;refine RO.bO U.gr bG (λq1 o1 c1 av p aw hat hrd=>?_) (j:=b);unfold fU at h;rw[l]at h;generalize dy:g.aj[b]=B at*;obtain⟨vp,dz,jc,rfl,d0,d1,va,vk,vg,rfl,ax,ay,c⟩:=p;have⟨d2,_,_,d3⟩:=c.all;have⟨d4,d5,_,_⟩:=ax.all;have⟨d6,d7,_,_⟩:=ay.all;have d':=c.cW;have cv:=FA (k:=2) (m:=5) hrd bx;refine af ?_;refine RO.ji U 2 λH2 N U=>?_;have⟨ea,_,_,_⟩:=(U.sl (e:=jz) (size:=2) (sv:=N) (vs:=[]) (n:=0) (full:=true) 0).all;refine RO.dS U λH3 q7 U=>?_;have U:ak H H3 [tB mi q7 [aU B.aq.op,va,.str B.aq.name,vk,vg],tS jz 2 [] 0 true N,tB cJ q3 [.str g.name,aI g.params,aI g.aQ,vb]]:=U;refine af ?_;refine Ru.cond (λE=>?_) (λE=>?_)
 .have n:=n E;rw[aG E]at h;have s:fG .mul 3 (.ofNat 2) (.ofNat b)=some (aI (2*(b:Int))):=by simp only[fG];rw[show(aiC 2*aiC b:Int)=2*(b:Int)from rfl,m8 aa aa]
  refine af ?_;refine RO.ji U 1 λH4 a1 U=>?_;have⟨eb,_,_,_⟩:=(U.sl (e:=3) (size:=1) (sv:=a1) (vs:=[]) (n:=0) (full:=true) 0).all;refine af ?_;refine RO.ls U 0 (U.gr.sl q) (λH5 a2 U=>?_) (h1:=m9 _);have⟨ec,_,_,_⟩:=(U.sl (e:=3) (size:=1) (sv:=a2) (vs:=[]++o.map aI) (n:=0+o.length) (full:=true) 0).all;refine af ?_;refine RO.arith (RO.push U 0 (λw1 H6 v9 U=>?_) (ws:=[aI (2*(b:Int))])) (hv:=s);have⟨a6,ei,a8,_⟩:=(U.sl (e:=3) (size:=1) (n:=0+o.length+1) (full:=true) (sv:=v9) 0).all;refine af ?_;refine RO.ji U 1 λH7 a' U=>?_;have⟨ej,_,_,_⟩:=(U.sl (e:=3) (size:=1) (sv:=a') (vs:=[]) (n:=0) (full:=true) 0).all;refine af ?_;refine RO.ls U 0 (U.gr.sl q) (λH8 ba U=>?_) (h1:=m9 _);have⟨ek,_,_,_⟩:=(U.sl (e:=3) (size:=1) (sv:=ba) (vs:=[]++o.map aI) (n:=0+o.length) (full:=true) 0).all;refine af ?_;refine RO.arith (RO.add (RO.push U 0 (λw1 H9 j U=>?_) (ws:=[aI (2*(b:Int)+1)])) (a:=2*(b:Int)) (b:=1)) (hv:=s);have⟨C,cx,D,_⟩:=(U.sl (e:=3) (size:=1) (n:=0+o.length+1) (full:=true) (sv:=j) 0).all;refine af ?_;refine RO.bO U.gr c (λO P c8 bb d t hat hrd=>?_) (j:=0);obtain⟨Q,rfl,_⟩:=d;refine af ?_;refine RO.build (vs:=[aI B.aq.go[0].block,v9]) (af ?_) (hl:=gT rfl rfl rfl rfl rfl (gT rfl a6 a8 rfl rfl rfl));refine RO.bO U.gr c (λO P c8 cy d t hat hrd=>?_) (j:=1);obtain⟨Q,rfl,_⟩:=d;refine af ?_;refine RO.build (vs:=[aI B.aq.go[1].block,j]) (RO.i6 U 2 (ws:=[aI B.aq.go[0].block,v9,aI B.aq.go[1].block,j]) (n:=2) (λHA bc U=>RO.ls U 4 (U.sl (e:=jz) (size:=2) (n:=2) (full:=true) 0) (λR f U=>?_)) (hl:=gT rfl rfl rfl rfl rfl (gT rfl rfl rfl rfl rfl rfl))) (hl:=gT rfl rfl rfl rfl rfl (gT rfl C D rfl rfl rfl));have⟨bv,_,_,_⟩:=(U.sl (e:=jz) (size:=2) (n:=0+2) (full:=true) (sv:=f) 4).all;refine af ?_;have e1:∀x:Int,[]++o.map aI++[aI x]=(o++[x]).map aI:=λx=>by simp
  have e2:∀x:Int,0+o.length+1=(o++[x]).length:=λx=>by simp
  have b0:=((U.sub (.cons _ (.cons_cons _ (.cons_cons _ (.cons _ (.cons_cons _ (.cons _ .slnil))))))).as 0 rfl λfp S=>tS.io S).as 1 rfl λfp S=>tS.io S;have u:=((((b0.bV (aiK _ _ _)).Gd).bV (aiK _ _ _)).iC);rw[e1,e1,e2 (2*(b:Int))]at u;have V:B.aq.go.getD 0 default=B.aq.go[0]:=bf aa _;have b3:B.aq.go.getD 1 default=B.aq.go[1]:=bf aa _;rw[V,b3]at h;refine Ru.aL (h R f (λk=>if k=0 then v9 else j) _ (λk r=>.inl ?_) u);match k,r with|0,_=>simp|1,_=>simp
 rw[an E]at h;refine af ?_;refine Ru.cond (λW=>?_) (λW=>?_)
 .rw[aG W]at h;refine af ?_;refine Ru.cond (λX=>?_) (λX=>?_);·rw[aG X]at h;refine af ?_;exact Ru.aL (h _ N (λ_=>.bh) [] (λk r=>absurd r aC) (U.sub (.cons _ (.cons_cons _ (.cons _ .slnil)))).lU)
  rw[an X]at h;have i:o.length - 1<o.length:=aa;refine af ?_;refine RO.arith (v:=aN (o.length - 1)) (RO.jk U.gr q (λO P hj el=>?_) (j:=o.length - 1)) (hv:=mg (k:=o.length) aa aa);have v:=hO _ (acm i);have b4:o.getD (o.length - 1) 0=o[o.length - 1]:=bf i _;rw[b4]at h;generalize o[o.length - 1]=x at*;obtain⟨x,rfl⟩:∃y:Nat,x=y:=⟨x.toNat,aa⟩;rw[mz,ahX]at h;rw[ahX]at v;have⟨_,b6,z⟩:=v;have hq:fG .quo 3 (x:Int) (.ofNat 2)=some (aN (x/2)):=by simp only[fG];rw[an bx,show((x:Int).tdiv (aiC 2))=((x/2:Nat):Int)from by rw[ahU,Int.tdiv_eq_ediv_of_nonneg aa];simp,m8 aa aa];rfl
  refine af ?_;refine RO.arith (RO.bO U.gr bG (λq1 o1 c1 av p aw hat hrd=>?_) (j:=x/2)) (hv:=hq);rw[aE,bf b6]at z h;generalize g.aj[x/2]=B2 at*;obtain⟨et,cE,ew,rfl,_,_,e0,e3,b7,rfl,_,_,m⟩:=p;have⟨cR,_,_,_⟩:=m.all;refine af ?_;refine RO.be (v:=b7) (RO.bO U.gr m (λO P c8 bb d t hat hrd=>?_) (j:=2)) (hc:=hat 6 _ rfl);obtain⟨Q,rfl,_⟩:=d;refine af ?_;refine RO.arith (v:=aN (o.length - 1)) (RO.lV (U.gr.sl q) (b:=o.length - 1) ?_) (hv:=mg (k:=o.length) aa aa);have A:=λI(hs:Sl I 1 (o.map aI) o.length a)=>zO hs (b:=o.length - 1) aa;have⟨b',_,ca,_⟩:=(A _ q).all;refine RO.build (vs:=[aI B2.aq.go[2].block,lV a (o.length - 1)]) (RO.i6 U 2 (ws:=[aI B2.aq.go[2].block,lV a (o.length - 1)]) (n:=1) (λHA bc U=>RO.ls U 2 (U.sl (e:=jz) (size:=2) (n:=1) (full:=true) 0) (λR f U=>?_)) (hl:=gT rfl rfl rfl rfl rfl rfl)) (hl:=gT rfl rfl rfl rfl rfl (gT rfl b' ca rfl rfl rfl));have⟨bv,_,_,_⟩:=(U.sl (e:=jz) (size:=2) (n:=0+1) (full:=true) (sv:=f) 2).all;refine af ?_;have V:B2.aq.go.getD 2 default=B2.aq.go[2]:=bf aa _;rw[V]at h;refine Ru.aL (h R f (λk=>lV a (o.length - 1)) [] (λk r=>.inr λI hs=>?_) (U.sub (.cons _ (.cons _ (.cons_cons _ (.cons _ .slnil))))).lU);have cd:k=0:=by simpa using r
  subst cd;have:=A I hs;rw[ajo,<-List.map_take]at this;simpa using this
 rw[an W]at h;refine af ?_;refine Ru.nm λS0 M hS hM=>Ru.bI hM (up (P:=λk=>∀J w,ak H J [tB mi q7 [aU B.aq.op,va,.str B.aq.name,vk,vg],tS jz 2 (lB ((B.aq.go.take k).map λe=>(e.block,o)) λ_=>a) k true w,tB cJ q3 [.str g.name,aI g.params,aI g.aQ,vb]]->Ru ab _ S0 ([(ib,aN k),(p8,w)]++pk M [p2,p7]) J) B.aq.go.length (λk r L J w U=>?_) 0 aa _ _ U);subst hS;subst hM;have⟨e4,_,_,_⟩:=(U.sl (e:=jz) (size:=2) (sv:=w) (n:=k) (full:=true) 1).all;refine Ru.loop (af ?_);refine Ru.cond (λi=>?_) (λi=>?_);·have L:=L (k+1) aa aa;rw[(ah9 i).symm,ail,List.map_singleton,acV]at L;refine af ?_;refine RO.bO U.gr c (λq9 o9 e9 e5 cf e6 hat hrd=>?_) (j:=k);generalize B.aq.go[k]=e at*;obtain⟨Q,rfl,e7⟩:=cf;refine af ?_;refine RO.build (vs:=[aI e.block,a]) (RO.push U 1 (λw0 H5 v2 U=>?_) (ws:=[aI e.block,a])) (hl:=gT rfl rfl rfl rfl rfl (gT rfl Y Z rfl rfl rfl));have⟨e8,_,_,_⟩:=(U.sl (e:=jz) (size:=2) (n:=k+1) (full:=true) (sv:=v2) 1).all;refine af ?_;exact Ru.wk (L _ v2 U)
 refine Ru.exitTo ?_;rw[aic aa]at U;have cn:k=(B.aq.go.map λe=>(e.block,o)).length:=by rw[aig];omega
 refine af ?_;refine Ru.aL (h J w (λ_=>a) [] (λx hx=>.inr λI hs=>?_) ?_)
 .have z:x<B.aq.go.length:=by simpa using hx
  have e:((B.aq.go.map λe=>(e.block,o)).getD x (0,[])).2=o:=by rw[bf hx,aiD]
  rw[e];exact hs
 rw[<-cn];exact(U.sub (.cons _ (.cons_cons _ (.cons _ .slnil)))).lU
end
end
section
theorem RO.acW{A H:ai}{j:List Th}{c:Cx}{s:List SI}{L:Kn}{d:Option ah}{l:List bD}{e n k cap:Nat}{b ex:Bool}{q:ah}{m:Type}{f:m->AV}{zs:List m}(U:ak A H j)(i:Nat)(z:m)(o:zs.length=n){a x:aJ}{re:List gX}(h:∀H',ak A H' (j.set i (tS e 1 ((zs.set k z).map f) n b (.slice q 0 n cap ex)))->(∀ac,Le (bq L d .ajS) ac->dX ac H' re=true)/\RO ab c l s (bq L d .ajS) H')(p:aT L a=.aD q (0+k*1):=by exact cw)(r:aT L x=f z:=by exact cw)(hi:j[i]?=some (tS e 1 (zs.map f) n b (.slice q 0 n cap ex)):=by rfl)(t:k<zs.length:=by first|omega|assumption)(u:(f z).cW=true:=by first|rfl|assumption)(v:(f z).cells=[f z]:=by first|rfl|assumption)(hd:(f z).br=true:=by first|rfl|assumption):RO ab c (⟨d,.store 1 a x,none,[],re⟩::l) s L H:=by subst o;have⟨C,w,_,hu⟩:=U.iO i hi;have⟨H',h1,h2,h3⟩:=Kh.set (k:=k) w t z u;have:=hu (t':=tS e 1 ((zs.set k z).map f) (zs.set k z).length b (.slice q 0 (zs.set k z).length cap ex)) h2 h3;rw[aja]at this;have⟨y,B⟩:=h H' this;refine RO.BG (λ_ _ h=>by cases h) (λ_ h=>by cases h) (λac g=>⟨H',?_,rfl⟩) y B;simp only[dF,aH,g.gv p rfl,g.gv r hd,v,aiv,bi,h1]
theorem Ge(T:Tb ab){H:ai}{l m:List Int}{v w:AV}(g:eE H l v)(j:eE H m w)(hl:l.length<=1000000){K:KT}(h1:l=m->K (.bool true) H)(h2:l≠m->K (.bool false) H):YN ab KL [v,w] H K:=by
 have⟨s,t,u,x⟩:=g.all;have⟨y,z,A,B⟩:=j.all;refine YF.code T.Y4 aC (af ?_);refine Ru.cond (λa=>?_) (λa=>?_);·refine af ?_;exact Ru.aL (h2 λe=>a (by rw[e]))
 have a:l.length=m.length:=aa;refine af ?_;refine Ru.nm λS M p n=>Ru.bI n (up (P:=λk=>(∀i(h:i<l.length)(b:i<m.length),i<k->l[i]=m[i])->Ru ab _ S ([(p5,aN k)]++pk M [p0,p1]) H) l.length (λk C q o=>?_) 0 aa (λi _ _ hi=>by omega));subst p;subst n;refine Ru.loop (af ?_);refine Ru.cond (λd=>?_) (λd=>?_)
 .refine af ?_;refine RO.jk (aS.refl H) g (λr o1 hj f=>af ?_) (j:=k);refine RO.jk (aS.refl H) j (λr o1 hj f=>af ?_) (j:=k);refine Ru.cond (λc=>?_) (λc=>?_);·refine af ?_;exact Ru.aL (h2 λe=>c (by subst e;rfl))
  refine af ?_;refine Ru.wk (q (k+1) aa aa λi h b hi=>?_);by_cases e:i=k;·subst e;exact ajj.1 c
  exact o i h b aa
 refine Ru.exitTo ?_;refine af ?_;exact Ru.aL (h1 (ai2 a λi h b=>o i h b aa))
structure jC(g:G.aP):Prop where
 ne:0<g.aj.length
 t3:∀b,b<g.aj.length->(aE g b).aq.op=67->(aE g b).aq.go.length=3
 rg:∀b,b<g.aj.length->∀e∈(aE g b).aq.go,1<=e.block/\e.block<=(g.aj.length:Int) - 1
theorem ev.sh{g:G.aP}(h:ev g):jC g:=by
 have hb:∀b,b<g.aj.length->mw g (aE g b).aq:=λb hb=>by rw[aE,bf hb];exact h.xQ _ (acm hb)
 refine⟨h.ne,λb c d=>?_,λb c e he=>?_⟩;·have:=(hb b c).ae;generalize(aE g b).aq.go.length=n at*;generalize(aE g b).aq.args.length=a at*;cases this<;>simp_all
 obtain⟨i,hi,rfl⟩:=ah0 he;have:=(hb b c).zT i hi;exact⟨this.lo,this.hi⟩
inductive gU(g:G.aP)(wo:Int):Nat->List Int->Prop
 |zero(h:wo≠0):gU g wo 0 []
 |step{b:Nat}{o:List Int}{w:Int×List Int}(h:gU g wo b o)(hw:w∈fU g b o)(hn:w.1≠wo):gU g wo w.1.toNat w.2
section
variable{g:G.aP}{wo:Int}
theorem pE.sZ{o:List Int}{x:Int}(h:pE g o)(b:0<=x/\x.toNat/2<g.aj.length/\(aE g (x.toNat/2)).aq.go.length=3):pE g (o++[x]):=λy a=>by
 rcases adX.1 a with a|a;·exact h y a
 rw[abP]at a;subst a;exact b
theorem qH(d:jC g){b:Nat}(hb:b<g.aj.length){o:List Int}(c:pE g o):∀w∈fU g b o,(1<=w.1/\w.1<=(g.aj.length:Int) - 1)/\pE g w.2/\w.2.length<=o.length+1:=by
 intro w a;unfold fU at a;split at a
 .rename_i f;have h3:=d.t3 b hb f;have h:=d.rg b hb;have e1:(2*(b:Int)).toNat/2=b:=aa;have e2:(2*(b:Int)+1).toNat/2=b:=aa;simp only[acT,aie,or_false]at a;rcases a with rfl|rfl;·refine⟨h _ (by rw[bf aa];exact acm _),c.sZ ⟨aa,by rw[e1];exact hb,by rw[e1];exact h3⟩,aC⟩
  refine⟨h _ (by rw[bf aa];exact acm _),c.sZ ⟨aa,by rw[e2];exact hb,by rw[e2];exact h3⟩,aC⟩
 split at a
 .split at a;·cases a
  rename_i h0;rw[abP]at a;subst a;have i:=acm (l:=o) (n:=o.length - 1) aa;have⟨_,h2,h3⟩:=c _ i;refine⟨?_,λx j=>c x (ajt j),by rw[aiA];omega⟩;show 1<=mz g _/\_;rw[bf aa,mz];exact d.rg _ h2 _ (by rw[bf aa];exact acm _)
 obtain⟨e,he,rfl⟩:=aia.1 a;exact⟨d.rg b hb e he,c,aC⟩
theorem gU.ok(a:jC g){b:Nat}{o:List Int}(h:gU g wo b o):b<g.aj.length/\pE g o:=by induction h with|zero _=>exact⟨a.ne,λx d=>by cases d⟩|step _ e _ c=>have⟨⟨h1,h2⟩,h3,_⟩:=qH a c.1 c.2 _ e;exact⟨aa,h3⟩
structure jV(g:G.aP)(wo:Int)(come:List Bool)(aB:List (List Int)):Prop where
 lc:come.length=g.aj.length
 lo:aB.length=g.aj.length
 c0:wo≠0->come.getD 0 false=true
 Gf:∀b,come.getD b false=false->aB.getD b []=[]
 snd:∀b,come.getD b false=true->gU g wo b (aB.getD b [])
 iD:∀b,come.getD b false=true->(aB.getD b []).length+ip come<g.aj.length
structure lC(g:G.aP)(wo:Int)(come:List Bool)(aB:List (List Int))(oth:Bool):Prop extends toFlI:jV g wo come aB where
 Gg:oth=true->∃b o o',gU g wo b o/\gU g wo b o'/\o≠o'
def xR(wo:Int)(a:List Bool)(aB:List (List Int))(b:Bool)(w:Int×List Int):Prop:=w.1=wo\/a.getD w.1.toNat false=true/\(b=false->aB.getD w.1.toNat []=w.2)
def gM(g:G.aP)(wo:Int)(a:List Bool)(aB:List (List Int))(c:Bool)(b:Nat):Prop:=a.getD b false=true->∀w∈fU g b (aB.getD b []),xR wo a aB c w
theorem jV.add(k:jC g){a:List Bool}{aB:List (List Int)}(h:jV g wo a aB){b:Nat}{w:Int×List Int}(hb:a.getD b false=true)(l:w∈fU g b (aB.getD b []))(m:w.1≠wo)(n:a.getD w.1.toNat false=false):jV g wo (a.set w.1.toNat true) (aB.set w.1.toNat w.2):=by
 have d:=h.lc;have f:=h.lo;have⟨j,o⟩:=(h.snd b hb).ok k;have⟨⟨h1,h2⟩,h3,q⟩:=qH k j o _ l;have i:w.1.toNat<g.aj.length:=aa;have r:=h.iD b hb;have p:=pB (by rw[d];exact i) n;refine⟨by simpa using d,by simpa using f,λh0=>?_,λx c=>?_,λx c=>?_,λx c=>?_⟩
 .rw[dD (by rw[d];exact i)];split;·rfl
  exact h.c0 h0
 .rw[dD (by rw[d];exact i)]at c;rw[dD (by rw[f];exact i)];split;·rename_i e;rw[aG e]at c;cases c
  rename_i e;rw[an e]at c;exact h.Gf x c
 .rw[dD (by rw[d];exact i)]at c;rw[dD (by rw[f];exact i)];split;·rename_i e;subst e;exact .step (h.snd b hb) l m
  rename_i e;rw[an e]at c;exact h.snd x c
 rw[dD (by rw[d];exact i)]at c;rw[dD (by rw[f];exact i)];split;·omega
 rename_i e;rw[an e]at c;have:=h.iD x c;omega
end
end
end
end Go.al.R
namespace Go.al
section
variable{ab:Nat->aV}{c:Cx}{s:List SI}{L:Kn}{A B H H':ai}{d:Option ah}{l:List bD}{ts us:List Th}{q r:ah}{e n m o k i cap size bytes:Nat}{vs ws:List AV}{v w sv a:AV}{full ex:Bool}
theorem RO.MK{x:aJ}{g is:List ah}(t:dE H q o m=some vs)(p:q∉is)(h:∀i,(∀j,i.get j=H.get j)->i.next=H.next->RO ab c l s (bq L d (.agg vs)) i)(u:aT L x=.aD q o:=by exact cw)(v:uY L g=is.map some:=by exact cw):RO ab c (⟨d,.eF m x,none,g,[]⟩::l) s L H:=λac e=>by
 have⟨h1,h2,h3⟩:=zP e (H:=H) v;generalize w:dF ac H g=b at h1 h2 h3;have⟨y,z⟩:=h3 b.1;have f:∀j,(di b.1 b.2).get j=H.get j:=λj=>by
  rw[z];split;·rfl
  rename_i k;exact h2 j k
 have⟨n,k⟩:=h _ f (y.trans h1) _ (e.set d _);refine⟨n+1,?_⟩;have r:dE b.1 q o m=some vs:=by simp only[dE,h2 q p];exact t
 have he:aH (.eF m x) ac b.1=some (.agg vs,b.1):=by simp only[aH,e.gv u rfl,gY,r,bi,aip]
 simp[w,he,k,Xo,Go.al.aB,dZ,bi,dX]
theorem Sl.acX{b:ai}{is:List ah}(h:Sl H size vs n v)(hg:∀j,j∉is->b.get j=H.get j)(g:b.next=H.next)(k:∀q o m c e,v=.slice q o m c e->q∉is):Sl b size vs n v:=by
 rcases h with h|⟨i,o,cap,ex,f,m,e,d,aK,fz,h1,h2,h3⟩;·exact .inl h
 refine .inr ⟨i,o,cap,ex,f,m,e,d,aK,fz,h1,by grind,?_⟩;grind
theorem RO.Cl(U:ak A H (tS e size vs n true sv::ts)){x y:aJ}{Z:List AV}{K is:List ah}{re:List gX}(hs:Sl H size ws k a)(Q:∀q o m c e,a=.slice q o m c e->q∉is)(gQ:∀j∈is,∃(m:Nat)(t:Th),ts[m]?=some t/\∀Hx f,t.P Hx f->j∈f)(h:∀M v,ak A M (tS e size (vs++ws) (n+k) true v::ts)->(∀ac,Le (bq L d v) ac->dX ac M re=true)/\RO ab c l s (bq L d v) M)(h1:cU ws=true:=by repeat first|rfl|assumption|(refine ao ?_ ?_))(N:uY L K=is.map some:=by exact cw)(hx:aT L x=sv:=by exact cw)(hy:aT L y=a:=by exact cw)(hb:(n+k)*bytes<=70368744177664:=by omega)(u:n+k<=70368744177664:=by omega):RO ab c (⟨d,.append e bytes size Z false x y,none,K,re⟩::l) s L H:=λac i=>by
 have⟨G,I,g3⟩:=zP i (H:=H) N;generalize hh:dF ac H K=g at G I g3;have⟨hG,fs,hF⟩:=U;match fs,hF with
  |J::fs,⟨q1,q2,q3,O⟩=>
   have z:∀j∈is,∃f∈fs,j∈f:=λj hj=>by have⟨m,t,hm,ht⟩:=gQ j hj;have⟨f,w,N⟩:=O.at hm;exact⟨f,List.mem_of_getElem? w,ht _ _ N⟩
   have C:∀j∈is,j∉J:=λj hj R=>by have⟨f,w,r⟩:=z j hj;exact q3 j R f w r
   have S:∀j∈is,j.am<H.next.am:=λj hj=>by have⟨f,w,r⟩:=z j hj;exact O.lt f w j r
   have ho:cP g.1 J e size vs n true sv:=cP.frame q1 (by rw[G];exact afM _) λj hj=>I j λu=>C j u hj;have T:Sl g.1 size ws k a:=hs.acX I G Q;have⟨b,H1,fp',a1,a2,a3,a4,a5⟩:=ho.append (bytes:=bytes) hs.length h1 hb u;rw[G]at a3 a4 a5;have⟨g4,g5⟩:=g3 H1;have E:∀j∈fp',j∉is:=λj hj D=>by
    rcases a4 j hj with h|h;·exact C j D h
    have:=S j D;omega
   have F:cP (di H1 g.2) fp' e size (vs++ws) (n+k) true b:=cP.frame a2 (by rw[g4];exact afM _) λj hj=>by rw[g5,an (E j hj)]
   have p:lQ J fp' H (di H1 g.2):=⟨by rw[g4];exact a3,λj hj=>(a4 j hj).imp id λh=>h.1,λj hj V=>by
    rw[g5];split;·rfl
    rename_i u;rw[a5 j hj V,I j u]⟩;have⟨W,X,_⟩:=Fs.iO (t':=tS e size (vs++ws) (n+k) true b) hG p (fs:=J::fs) (ts:=tS e size vs n true sv::ts) (i:=0) ⟨q1,q2,q3,O⟩ rfl rfl F;have Y:ak A (di H1 g.2) (tS e size (vs++ws) (n+k) true b::ts):=⟨p.bR hG q2,W,X⟩;have⟨h4,h5⟩:=h _ b Y;have⟨n',ag⟩:=h5 _ (i.set d b);have he:aH (.append e bytes size Z false x y) ac g.1=some (b,H1):=by simp only[aH,acg,bF,i.gv hx ho.sl.br,i.gv hy hs.br,T.fY,a1]
   refine⟨n'+1,?_⟩;simp only[Xo,Go.al.aB,dZ,bi,hh,he,h4 _ (i.set d b)];omega
end
section
variable{ab:Nat->aV}{c:Cx}{s:List SI}{L:Kn}{A B H H':ai}{d:Option ah}{l:List bD}{ts us:List Th}{q r:ah}{e n m o k i cap size bytes:Nat}{vs ws:List AV}{v w sv b:AV}{full ex:Bool}
theorem RO.TM{x y:aJ}{a:Int}(h:RO ab c l s (bq L d (.bool false)) H)(e:aT L x=.int k a:=by exact cw)(f:aT L y=.int k a:=by exact cw):RO ab c (⟨d,.arith .neq k x y,none,[],[]⟩::l) s L H:=RO.neq (a:=a) (b:=a) (by rw[show decide (a≠a)=false by simp];exact h) e f
theorem RO.TN{x y:aJ}{a:List Nat}(h:RO ab c l s (bq L d (.bool false)) H)(e:aT L x=.str a:=by exact cw)(f:aT L y=.str a:=by exact cw):RO ab c (⟨d,.kr .neq x y,none,[],[]⟩::l) s L H:=RO.kr (v:=.bool false) h e rfl f rfl (by simp[vL,R.jS])
theorem ML:∀{t:List Nat},(∀c∈t,c<256)->tV (t.map λn=>AV.int 4 (.ofNat n))=some t|[],_=>rfl|a::t,h=>by have h1:aiu a 256=true:=ajP aiV (h a (acI ..));simp only[ah2,tV,CW,h1,bi,ML λc d=>h c (adT _ d)]
theorem RO.oJ{x:aJ}{t:List Nat}(hs:Sl H 1 (t.map λn=>.int 4 (.ofNat n)) t.length sv)(hb:∀c∈t,c<256)(h:RO ab c l s (bq L d (.str t)) H)(g:aT L x=sv:=by exact cw):RO ab c (⟨d,.oJ x,none,[],[]⟩::l) s L H:=by
 refine RO.op (λac f=>?_) h;have hd:=hs.br;simp only[aH,f.gv g hd];have a:=hs.fY;cases sv with
 |bh=>
  have:t=[]:=by
   rcases hs with⟨_,h,_⟩|⟨_,_,_,_,_,_,_,_,_,_,h,_⟩;·exact aih h
   cases h
  subst this;rfl
 |slice i o n cap ex=>simp only[fY]at a;rw[ajo]at a;cases e:dE H i o n with|none=>rw[e]at a;cases a|some j=>rw[e]at a;simp only[abv,ahW]at a;obtain⟨_,rfl⟩:=a;simp only[e,ML hb,aip]
 |str t'=>rcases hs with⟨h,_⟩|⟨_,_,_,_,_,_,_,_,_,_,h,_⟩<;>cases h
 |_=>simp[fY]at a
theorem RO.nC{k:Type}{R:ai->k->List AV->Prop}{g:List k}(hg:aS B H){x y:aJ}{j kd:Nat}(hs:cQ size R B g sv)(h:∀q o cs(hj:j<g.length),R B g[j] cs->cs.length=size->(∀{H'},aS B H'->(∀t v,cs[t]?=some v->aY H' q (o+t)=some v)/\dE H' q o size=some cs)->RO ab c l s (bq L d (.aD q o)) H)(m:aT L x=sv:=by exact cw)(n:aT L y=.int kd (.ofNat j):=by exact cw)(hj:j<g.length:=by first|assumption|omega):RO ab c (⟨d,.dI size x y,none,[],[]⟩::l) s L H:=by
 obtain⟨q,o,cap,ex,cs,rfl,h1,h2,h3,p⟩:=hs.at hj;have a:q.am<B.next.am:=by
  have⟨vs,r,_⟩:=hs;rcases r with⟨h,_⟩|⟨i,_,_,_,_,_,_,_,_,_,h,_,_,_,_,hi,_⟩;·cases h
  injection h with h;subst h;exact hi
 exact RO.dI (h q (o+j*size) cs hj h1 h2 λf=>⟨λt v e=>by rw[f.aY a];exact h3 t v e,by simp only[dE,f.cM q a];exact p⟩) m n hj
theorem RO.acY{k:Type}{R:ai->k->List AV->Prop}{g:List k}(hg:aS B H){x y:aJ}{j kd:Nat}(hs:cQ size R B g sv)(h:∀q o cs(hj:j<g.length),R B g[j] cs->cs.length=size->q.am<B.next.am->(∀{H'},aS B H'->(∀t v,cs[t]?=some v->aY H' q (o+t)=some v)/\dE H' q o size=some cs)->RO ab c l s (bq L d (.aD q o)) H)(m:aT L x=sv:=by exact cw)(n:aT L y=.int kd (.ofNat j):=by exact cw)(hj:j<g.length:=by first|assumption|omega):RO ab c (⟨d,.dI size x y,none,[],[]⟩::l) s L H:=by
 obtain⟨q,o,cap,ex,cs,rfl,h1,h2,h3,p⟩:=hs.at hj;have a:q.am<B.next.am:=by
  have⟨vs,r,_⟩:=hs;rcases r with⟨h,_⟩|⟨i,_,_,_,_,_,_,_,_,_,h,_,_,_,_,hi,_⟩;·cases h
  injection h with h;subst h;exact hi
 exact RO.dI (h q (o+j*size) cs hj h1 h2 a λf=>⟨λt v e=>by rw[f.aY a];exact h3 t v e,by simp only[dE,f.cM q a];exact p⟩) m n hj
theorem MM(l:List Bool):cU (l.map AV.bool)=true:=zw.2 λv a=>by obtain⟨x,_,rfl⟩:=aia.1 a;rfl
end
end Go.al
namespace Go.al.R
section
variable{ab:Nat->aV}
section
def lY(l:List Bool):Nat->List Int
 |0=>[]
 |k+1=>lY l k++if l.getD k false then[(k:Int)]else[]
def fV(l:List Bool):List Int:=lY l l.length
theorem Gh{l:List Bool}{x:Int}:∀{k:Nat},x∈lY l k↔∃v:Nat,x=v/\v<k/\l.getD v false=true
 |0=>by simp[lY]
 |k+1=>by
  rw[lY,adX,Gh];constructor
  .rintro(⟨v,h1,h2,h3⟩|h);·exact⟨v,h1,aa,h3⟩
   split at h;·rename_i a;rw[abP]at h;exact⟨k,h,aa,a⟩
   cases h
  rintro⟨v,h1,h2,h3⟩;by_cases e:v=k;·subst e;right;rw[aG h3,h1];exact abP.2 rfl
  exact .inl ⟨v,h1,aa,h3⟩
theorem z7{l:List Bool}{x:Int}:x∈fV l↔∃v:Nat,x=v/\l.getD v false=true:=by rw[fV,Gh];exact⟨λ⟨v,h1,_,h2⟩=>⟨v,h1,h2⟩,λ⟨v,h1,h2⟩=>⟨v,h1,tC h2 aC,h2⟩⟩
theorem MN{l:List Bool}:∀k,(lY l k).Pairwise (·<·)
 |0=>ajO
 |k+1=>by
  rw[lY,List.pairwise_append];refine⟨MN k,?_,λa c b hb=>?_⟩;·split;all_goals simp
  grind[Gh,List.mem_singleton]
theorem MO(l:List Bool):(fV l).Pairwise (·<·):=MN _
theorem Gi{l:List Bool}:∀k,(lY l k).length<=k|0=>afM _|k+1=>by have:=Gi (l:=l) k;grind[lY,List.length_append]
theorem MP:∀{a b:List Int},a.Pairwise (·<·)->b.Pairwise (·<·)->(∀x,x∈a↔x∈b)->a=b
 |[],[],_,_,_=>rfl
 |[],y::b,_,_,h=>by have:=(h y).2 (acI ..);cases this
 |x::a,[],_,_,h=>by have:=(h x).1 (acI ..);cases this
 |x::a,y::b,g,hb,h=>by
  have⟨f,i⟩:=ajc.1 g;have⟨b1,b2⟩:=ajc.1 hb;have d:x=y:=by
   rcases acT.1 ((h x).1 (acI ..))with e|h1;·exact e
   rcases acT.1 ((h y).2 (acI ..))with e|h2;·exact e.symm
   have:=b1 x h1;have:=f y h2;omega
  subst d;rw[MP i b2 λz=>?_];constructor
  .intro c;rcases acT.1 ((h z).1 (adT _ c))with e|h1;·have:=f z c;omega
   exact h1
  intro c;rcases acT.1 ((h z).2 (adT _ c))with e|h1;·have:=b1 z c;omega
  exact h1
theorem RO.acZ{c:Cx}{s:List SI}{L:Kn}{H:ai}{d:Option ah}{l:List bD}{a b:Nat}{x y:aJ}(h:RO ab c l s (bq L d (aN (a % b))) H)(e:aT L x=.int 3 (.ofNat a):=by exact cw)(f:aT L y=.int 3 (.ofNat b):=by exact cw)(hb:b≠0:=by omega):RO ab c (⟨d,.arith .rem 3 x y,none,[],[]⟩::l) s L H:=RO.arith (v:=aN (a % b)) (a:=.ofNat a) (b:=.ofNat b) h e f (by show(if aiC b=0 then none else some (AV.int 3 ((aiC a).tmod (aiC b))))=_;grind)
theorem nD{l:List Bool}{k n:Nat}(h1:l.length=n)(h2:k<n):(l.map AV.bool)[0+k*1]?=some (.bool (l.getD k false)):=by grind
section
variable{H:ai}
theorem Gj(T:Tb ab){l:List Bool}{sv:AV}(hs:Sl H 1 (l.map .bool) l.length sv)(hl:l.length<=6000){K:KT}(h:∀H' v,ak H H' [tS 3 1 ((fV l).map aI) (fV l).length true v]->K v H'):YN ab W1 [sv] H K:=by
 have⟨n,_,_,p⟩:=hs.all;refine YF.code T.Ze aC (af ?_);refine RO.ji (ak.bN H) 1 λy v5 U=>?_;have⟨r,_,_,_⟩:=(U.sl (e:=3) (size:=1) (sv:=v5) (vs:=[]) (n:=0) (full:=true) 0).all;refine af ?_;refine Ru.nm λj m f c=>Ru.bI c (up (P:=λk=>∀e b,ak H e [tS 3 1 ((lY l k).map aI) (lY l k).length true b]->Ru ab _ j ([(p4,aN k),(p3,b)]++pk m [p0]) e) l.length (λk z a e b U=>?_) 0 aa _ _ U);subst f;subst c;have⟨s,_,_,t⟩:=(U.sl (e:=3) (size:=1) (sv:=b) (vs:=(lY l k).map aI) (n:=(lY l k).length) (full:=true) 0).all;have u:=Gi (l:=l) k;refine Ru.loop (af ?_);refine Ru.cond (λd=>?_) (λd=>?_)
 .have a:=a (k+1) aa aa;rw[lY,bf d]at a;refine af ?_;refine RO.iQ U.gr hs (λq o hj g=>RO.be (af ?_) (hc:=g)) (j:=k);refine Ru.eC (λhb=>?_) (λhb=>?_);·rw[aG hb]at a;refine af ?_;refine RO.push U 0 (λw H' i U=>?_) (ws:=[aN k]);have⟨x,_,_,_⟩:=(U.sl (e:=3) (size:=1) (n:=(lY l k).length+1) (full:=true) (sv:=i) 0).all;refine af ?_;exact Ru.wk (a _ i (by rw[ail,ahY];exact U))
  rw[an (by rw[hb];simp),aiS]at a;refine af ?_;exact Ru.wk (a _ b U)
 refine Ru.exitTo ?_;obtain rfl:k=l.length:=aa;refine af ?_;exact Ru.aL (h _ b U)
def mA(g:G.aP)(o:List Int):Option Int:=(o.reverse.find? λx=>x % 2==0).map λx=>((aE g (x.toNat/2)).aq.go.getD 1 default).block
theorem ac0{g:G.aP}{o:List Int}(h:∀x∈o,x % 2≠0):mA g o=none:=by simp_all[mA,List.find?_eq_none,List.mem_reverse]
theorem ac1{g:G.aP}{o:List Int}{k:Nat}(a:k<o.length)(h:∀j(hj:j<o.length),k<j->o[j]% 2≠0)(h0:o[k]% 2=0):mA g o=some ((aE g (o[k].toNat/2)).aq.go.getD 1 default).block:=by
 unfold mA;rw[(List.find?_eq_some_iff_getElem (b:=o[k])).2];·rfl
 refine⟨by grind,o.length - 1 - k,by grind,by grind,λj hj=>?_⟩;grind
variable{g:G.aP}{cs:List AV}
theorem ac2(T:Tb ab)(hg:dt H g cs)(L:G.Sm g){o:List Int}{D:AV}(r:eE H o D)(S:o.length<=1000)(M:pE g o){K:KT}(h:∀H',aS H H'->K (aI (match mA g o with|some t=>t|none=> -1)) H'):YN ab XH [.agg cs,D] H K:=by
 obtain⟨vb,rfl,bG⟩:=hg;have⟨V,_,_,W⟩:=bG.all;have⟨X,_,_,Y⟩:=r.all;have Z:=L.nb;refine YF.code T.ZV aC (af ?_);refine RO.ct (ak.bN H) λH1 q U=>af ?_;refine RO.sub (a:=(o.length:Int)) (b:=1) (af ?_);refine Ru.nm λN O w b=>?_;refine Ru.bI b (up (P:=λk=>(∀j(hj:j<o.length),o.length - k<=j->o[j]% 2≠0)->Ru ab _ N ([(p5,aI ((o.length:Int) - 1 - k))]++pk O [p1,p2]) H1) o.length (λk hk s u=>?_) 0 aa (λj hj c=>by omega)) (by simp;exact⟨rfl,trivial⟩);subst w;subst b;refine Ru.loop (af ?_);refine Ru.cond (λ(z:(0:Int)<=(o.length:Int) - 1 - k)=>?_) (λ(z:¬(0:Int)<=(o.length:Int) - 1 - k)=>?_)
 .have s:=s (k+1) aa aa;obtain⟨t,P⟩:∃t:Nat,(o.length:Int) - 1 - k=(t:Int):=⟨o.length - 1 - k,aa⟩;have ag:t=o.length - 1 - k:=aa;have d:t<o.length:=aa;rw[P];refine af ?_;refine RO.jk U.gr r (λE F f i=>af ?_) (j:=t);have v:=M _ (acm d);have l:=λh1 h2=>ac1 (g:=g) (o:=o) (k:=t) d h1 h2;generalize m:o[t]=x at*;obtain⟨x,rfl⟩:∃y:Nat,x=y:=⟨x.toNat,aa⟩;have⟨_,n,p⟩:=v;rw[ahX]at n p l;have Q:fG .quo 3 (x:Int) (.ofNat 2)=some (aN (x/2)):=by simp only[fG];rw[an bx,show((x:Int).tdiv (aiC 2))=((x/2:Nat):Int)from by rw[ahU,Int.tdiv_eq_ediv_of_nonneg aa];simp,m8 aa aa];rfl
  refine af ?_;refine RO.acZ (a:=x) (b:=2) (af ?_);refine Ru.cond (λ(h0:x % 2=0)=>?_) (λ(h0:¬x % 2=0)=>?_);·rw[l (λj hj c=>u j hj aa) aa]at h;rw[aE,bf n]at p h;refine af ?_;refine RO.jk U.gr r (λE F f i=>?_) (j:=t);rw[m]at i;refine af ?_;refine RO.arith (RO.bO U.gr bG (λq1 o1 c1 av A aw hat hrd=>?_) (j:=x/2)) (hv:=Q);generalize g.aj[x/2]=B2 at*;obtain⟨ax,I,ay,rfl,_,_,a1,a2,B,rfl,_,_,a⟩:=A;have⟨J,_,_,_⟩:=a.all;refine af ?_;refine RO.be (v:=B) (RO.bO U.gr a (λE F c8 f C a6 hat hrd=>?_) (j:=1)) (hc:=hat 6 _ rfl);obtain⟨ve,rfl,_⟩:=C;rw[bf aa]at h;refine af ?_;exact Ru.aL (h _ U.gr)
  refine af ?_;refine RO.sub (a:=(t:Int)) (b:=1) (af ?_);rw[show((t:Int) - 1)=(o.length:Int) - 1 - (k+1:Nat)by omega];exact Ru.wk (s λj hj c=>by
   by_cases e:j=t;·subst e;rw[m];omega
   exact u j hj aa)
 refine Ru.exitTo ?_;have R:mA g o=none:=ac0 λx v=>by obtain⟨j,hj,rfl⟩:=ah0 v;exact u j hj aa
 rw[R]at h;refine af ?_;exact Ru.aL (h _ U.gr)
end
theorem ac3(T:Tb ab){H:ai}{a b:List (List Int)}{v w:AV}(t:pD H a v)(u:pD H b w)(hl:a.length<=1000000)(o:∀x∈a,x.length<=1000000){K:KT}(h:a=b->K (.bool true) H)(h2:a≠b->K (.bool false) H):YN ab WP [v,w] H K:=by
 have⟨J,_,_,L⟩:=t.all;have⟨M,_,_,N⟩:=u.all;refine YF.code T.Y2 aC (af ?_);refine Ru.cond (λd=>?_) (λd=>?_);·refine af ?_;exact Ru.aL (h2 λe=>d (by rw[e]))
 have d:a.length=b.length:=ajj.1 d;refine af ?_;refine Ru.nm λC D p f=>Ru.bI f (up (P:=λk=>(∀j(hj:j<a.length)(c:j<b.length),j<k->a[j]=b[j])->Ru ab _ C ([(p5,aN k)]++pk D [p0,p1]) H) a.length (λk R n y=>?_) 0 aa (λj hj c O=>by omega));subst p;subst f;refine Ru.loop (af ?_);refine Ru.cond (λg=>?_) (λg=>?_)
 .have n:=n (k+1) aa aa;have q:=o _ (acm g);refine af ?_;refine RO.bO (aS.refl _) t (λE F G P r s hat hrd=>?_) (j:=k);obtain⟨v9,rfl,i⟩:=r;have⟨z,_,_,_⟩:=i.all;refine RO.be (v:=v9) (af ?_) (hc:=hat 0 _ rfl);refine RO.bO (aS.refl _) u (λE F G A m s hat hrd=>?_) (j:=k);obtain⟨I,rfl,l⟩:=m;have⟨B,_,_,_⟩:=l.all;refine RO.be (v:=I) (RO.cl (Ge T i l q (λe=>?_) (λe=>?_))) (hc:=hat 0 _ rfl)
  .refine af ?_;exact Ru.wk (n λj hj c Q=>by
    by_cases e2:j=k;·subst e2;exact e
    exact y j hj c aa)
  refine af ?_;exact Ru.aL (h2 λe2=>e (by simp only[e2]))
 refine Ru.exitTo ?_;refine af ?_;exact Ru.aL (h (ai2 d λj hj c=>y j hj c aa))
end
section
theorem _root_.Go.al.ak.ac4{A H:ai}{F G:List Th}{b:List Th}(U:ak A H (tZ F::tZ G::b)):ak A H (tZ (F++G)::b):=by
 refine U.iC.as 0 rfl λi a=>⟨λu hu=>?_,a.2⟩;rcases adX.1 hu with hu|hu;·have⟨f,c,d⟩:=a.1 _ (acI ..);have⟨e,g,h⟩:=d.1 u hu;exact⟨e,λj hj=>c j (g j hj),h⟩
 exact a.1 u (adT _ hu)
theorem _root_.Go.al.ak.ac5{A H:ai}{F G:List Th}{b:List Th}(U:ak A H (tZ F::b))(h:∀t∈G,∃t0∈F,∀c f,t0.P c f->t.P c f):ak A H (tZ (G++F)::b):=by
 refine U.as 0 rfl λg a=>⟨λu hu=>?_,a.2⟩;rcases adX.1 hu with hu|hu;·have⟨t0,h0,h1⟩:=h u hu;have⟨f,d,e⟩:=a.1 _ h0;exact⟨f,d,h1 _ _ e⟩
 exact a.1 u hu
theorem fA.Cd{c:List (List Int)}{a:List AV}{F G:List Th}(h:fA c a F)(hs:∀t∈F,t∈G):fA c a G:=⟨h.len,λb hb=>hs _ (h.mem b hb)⟩
theorem fA.set{c:List (List Int)}{a:List AV}{F:List Th}(h:fA c a F){t:Nat}(d:t<c.length){l:List Int}{v:AV}(f:tR 1 (l.map aI) l.length v∈F):fA (c.set t l) (a.set t v) F:=by
 have hl:=h.len;refine⟨by simpa using hl,λb hb=>?_⟩;rw[aja]at hb;rw[dD d,dD aa];by_cases e:b=t;·rw[aG e,aG e];exact f
 rw[an e,an e];exact h.mem b hb
theorem Gk{w:List (Int×List Int)}{vs:Nat->AV}:∀n,((ah7 n).flatMap λk=>[aI (w.getD k (0,[])).1,vs k]).length=n*2|0=>rfl|n+1=>by rw[aiW,aiy,ahY,Gk n];simp;omega
theorem MQ{w:List (Int×List Int)}{vs:Nat->AV}{k:Nat}(a:k<w.length):(lB w vs)[0+k*2]?=some (aI (w.getD k (0,[])).1)/\(lB w vs)[0+k*2+1]?=some (vs k):=by
 unfold lB;obtain⟨d,hd⟩:∃d,w.length=k+1+d:=⟨w.length - (k+1),aa⟩;rw[hd,aif];clear hd a;induction d with
 |zero=>
  rw[ajC,aiW,aiy,aiN];have hl:=Gk (w:=w) (vs:=vs) k;constructor;·rw[ajb aa,hl,Nat.sub_self];rfl
  rw[ajb aa,hl];simp
 |succ d b=>have hl:=Gk (w:=w) (vs:=vs) (k+1+d);rw[<-ajn,aiW,aiy,aij aa,aij aa];exact b
def vt(f h i d e:ah)(g:G.aP)(j:AV)(F:List Th)(a:List Bool)(b:List AV)(c:Bool):List Th:=[tZ F,tB nZ f [.slice d 0 g.aj.length g.aj.length true,.slice e 0 g.aj.length g.aj.length true,.bool c],tS uJ 1 b g.aj.length true (.slice e 0 g.aj.length g.aj.length true),tS 4 1 (a.map .bool) g.aj.length true (.slice d 0 g.aj.length g.aj.length true),tB nZ h [.bh,.bh,.bool false],tB cJ i [.str g.name,aI g.params,aI g.aQ,j]]
section
variable{g:G.aP}{wo:Int}{H:ai}{cs:List AV}
theorem jV.zero(i:jC g):jV g wo (if wo≠0 then(acJ g.aj.length false).set 0 true else acJ g.aj.length false) (acJ g.aj.length []):=by
 have a:=i.ne;have c:∀b,(acJ g.aj.length ([]:List Int)).getD b []=[]:=λb=>by simp only[ah3,aiI];split<;>rfl
 have d:∀b,(acJ g.aj.length false).getD b false=false:=λb=>by simp only[ah3,aiI];split<;>rfl
 by_cases h:wo≠0
 .rw[aG h];have j:∀b,((acJ g.aj.length false).set 0 true).getD b false=true->b=0:=λb hb=>by
   rw[dD (by simpa using a)]at hb;by_cases e:b=0;·exact e
   rw[an e,d]at hb;cases hb
  have f:=pB (come:=acJ g.aj.length false) (k:=0) (by simpa using a) (d 0);rw[xN]at f;refine⟨aC,aC,λ_=>by rw[dD (by simpa using a),aG rfl],λb _=>c b,λb hb=>?_,λb hb=>?_⟩;·rw[c,j b hb];exact .zero h
  rw[c];simp only[List.length_nil];omega
 rw[an h];exact⟨aC,aC,λh0=>absurd h0 h,λb _=>c b,λb hb=>(by rw[d]at hb;cases hb),λb hb=>(by rw[d]at hb;cases hb)⟩
theorem z8(T:Tb ab)(hg:dt H g cs)(hB:G.Sm g)(hS:jC g)(d7:g.aj.length<=30){K:KT}(h:∀H' P N n F c aB p,lC g wo c aB p->(∀b,gM g wo c aB p b)->fA aB n F->ak H H' [tZ F,tS uJ 1 n g.aj.length true (.slice N 0 g.aj.length g.aj.length true),tS 4 1 (c.map .bool) g.aj.length true (.slice P 0 g.aj.length g.aj.length true)]->K (.agg [.slice P 0 g.aj.length g.aj.length true,.slice N 0 g.aj.length g.aj.length true,.bool p]) H'):YN ab W9 [.agg cs,aI wo] H K:=by
 have d':=hg.one;have cx:=hg;obtain⟨vb,rfl,bG⟩:=hg;have⟨ej,_,_,ek⟩:=bG.all;have cy:=hS.ne;refine YF.code T.Zn aC (au ?_);refine RO.ct (ak.bN H) λH1 Y U=>?_;refine RO.dN U λH2 S U=>?_;refine af ?_;refine RO.jy U (n:=g.aj.length) (λH3 P U=>?_) (hz:=by rw[eK];simp);refine af ?_;refine RO.jy U (n:=g.aj.length) (λH4 N U=>?_) (hz:=by rw[eK];simp);refine af ?_;refine RO.dS U λH5 V U=>?_;have U:=U.mh 3 1;have U:=(U.as 0 rfl λfp hp=>tS.io hp).Gd;rw[eK,eK]at U;have U:ak H H5 (vt V S Y P N g vb [tR 1 [] 0 .bh] (acJ g.aj.length false) (acJ g.aj.length .bh) false):=by unfold vt;rw[ajd];exact U
 have f:fA (acJ g.aj.length []) (acJ g.aj.length .bh) [tR 1 [] 0 .bh]:=⟨aC,λb hb=>by rw[aiZ]at hb;rw[bf (by simpa using hb),bf (by simpa using hb),List.getElem_replicate,List.getElem_replicate];exact acI ..⟩;refine RO.nil (Ru.seq (Ru.pA (P:=λM H'=>M=[(p1,aI wo),(p2,.aD Y 0),(p4,.aD S 0),(p5,aN g.aj.length),(p6,.aD V 0)]/\ak H H' (vt V S Y P N g vb [tR 1 [] 0 .bh] (if wo≠0 then(acJ g.aj.length false).set 0 true else acJ g.aj.length false) (acJ g.aj.length .bh) false)) (λM H6⟨hM,U⟩=>?_) (λs' q=>?_)));rotate_left
 .refine af ?_;refine Ru.cond (λu=>?_) (λu=>?_);·have u:wo≠0:=u;rw[aG u]at q;refine af ?_;refine RO.gk (f:=AV.bool) (zs:=acJ g.aj.length false) U 3 true (n:=g.aj.length) (aiZ ..) (λH6 U=>af ?_) (k:=0) (ho:=by simpa using cy);exact q _ _ _ ⟨rfl,U⟩ dC
  have u:¬wo≠0:=u;rw[an u]at q;refine af ?_;exact q _ _ _ ⟨rfl,U⟩ dC
 subst hM;have r:=jV.zero (wo:=wo) hS;generalize(if wo≠0 then(acJ g.aj.length false).set 0 true else acJ g.aj.length false)=d5 at*;generalize [tR 1 [] 0 .bh]=F0 at*;generalize acJ g.aj.length AV.bh=ea at*;generalize acJ g.aj.length ([]:List Int)=eb at*;refine af ?_;refine Ru.nm λS0 M cE hM=>Ru.bI hM (dn (P:=λm=>∀B c aB n F p C,(if C=true then ip c+1 else 0)=m->lC g wo c aB p->fA aB n F->(C=false->∀b,gM g wo c aB p b)->ak H B (vt V S Y P N g vb F c n p)->Ru ab _ S0 ([(p7,.bool C)]++pk M [p1,p2,p4,p5,p6]) B) (λm ih B c aB n F p C cR r f z U=>?_) _ _ _ _ _ _ false true rfl ⟨r,λh=>by cases h⟩ f (λh=>by cases h) U);subst cE;subst hM;refine Ru.loop (af ?_);refine Ru.eC (λay=>?_) (λay=>?_)
 .subst ay;simp only[bi]at cR;refine af ?_;refine Ru.nm λS1 M1 c8 ba=>Ru.bI ba (up (P:=λk=>∀B c aB n F p C,(C=true->ip c+1<m)->ip c+1<=m->lC g wo c aB p->fA aB n F->(C=false->∀b,b<k->gM g wo c aB p b)->ak H B (vt V S Y P N g vb F c n p)->Ru ab _ S1 ([(p8,aN k),(p7,.bool C)]++pk M1 [p1,p2,p4,p5,p6]) B) g.aj.length (λb hb a1 B c aB n F p C A E r f z U=>?_) 0 aa _ c aB n F p false (λh=>by cases h) aa r f (λ_ b hb=>by omega) U);subst c8;subst ba;refine Ru.loop (af ?_);refine Ru.cond (λbb=>?_) (λbb=>?_)
  .have bc:=r.lc;have bv:=r.lo;have b0:=f.len;refine af ?_;refine RO.ji U 2 λH6 v9 U=>?_;have⟨el,_,_,et⟩:=(U.sl (e:=jz) (size:=2) (sv:=v9) (vs:=[]) (n:=0) (full:=true) 0).all;refine RO.bg (RO.nil (Ru.seq (Ru.pA (P:=λM H'=>∃w vs F' W,M=[(p9,W),(p1,aI wo),(p2,.aD Y 0),(p4,.aD S 0),(p5,aN g.aj.length),(p6,.aD V 0),(p7,.bool C),(p8,aN b)]/\(c.getD b false=true->w=fU g b (aB.getD b []))/\(c.getD b false=false->w=[])/\w.length<=12/\(∀k,k<w.length->tR 1 ((w.getD k (0,[])).2.map aI) (w.getD k (0,[])).2.length (vs k)∈F')/\fA aB n F'/\ak H H' (tS jz 2 (lB w vs) w.length true W::vt V S Y P N g vb F' c n p)) (λM H7⟨w,vs,F',W,hM,b3,c9,ec,c',f,U⟩=>?_) (λs' q=>?_))));rotate_left
   .have dm:(c.map AV.bool)[0+b*1]?=some (.bool (c.getD b false)):=by rw[show 0+b*1=b by omega,aiw,getElem?_pos c b aa,bf aa];rfl
    refine af ?_;refine RO.cZ U 4 (hv:=dm) (af ?_);refine Ru.eC (λu=>?_) (λu=>?_)
    .have dr:n[0+b*1]?=some (n.getD b .bM):=by rw[show 0+b*1=b by omega,getElem?_pos n b aa,bf aa]
     have hF:=f.mem b aa;obtain⟨_,b4,_,_⟩:=U.kj 1 rfl hF;have⟨ew,_,_,_⟩:=b4.all;obtain⟨I,a2⟩:=(r.snd b u).ok hS;have cv:=r.iD b u;refine af ?_;refine RO.co U 6 (af ?_);refine RO.cZ U 3 (hv:=dr) (RO.cl (MJ T (bX.fS U.gr cx) hB I (hS.t3 b I) b4 aa a2 λH7 W vs Fw ds hl=>?_));have U:=U.dq hl;have X:=(hl.sl (e:=jz) (size:=2) (sv:=W) (full:=true) (vs:=lB (fU g b (aB.getD b [])) vs) (n:=(fU g b (aB.getD b [])).length) 1).all.1;refine af ?_;have dv:=((U.sub (.cons_cons _ (.cons_cons _ (.cons _ (aiE _))))).bV (aiP _ (aiK _ _ _))).ac4;have dx:(fU g b (aB.getD b [])).length<=12:=by
      have:=(hB.bl _ (acm I)).2.2.2.2.1;unfold fU;split;·simp
      split;·split<;>simp
      rw[aig,aE,bf I];omega
     generalize fU g b (aB.getD b [])=w at*;have dy:=(dv.ac5 (G:=(ah7 w.length).map λk=>tR 1 ((w.getD k (0,[])).2.map aI) (w.getD k (0,[])).2.length (vs k)) λt L=>by
      obtain⟨k,hk,rfl⟩:=aia.1 L;rw[aiO]at hk;rcases ds k hk with h9|h9;·exact⟨_,ah1 _ h9,λ_ _ h=>h⟩
      exact⟨_,aid _ hF,λ_ _ h=>MI h9 h⟩).bV (aiK _ _ _);exact q _ _ _ ⟨w,vs,_,W,rfl,λ_=>rfl,λh=>(by rw[u]at h;cases h),dx,λk hk=>ah1 _ (aia.2 ⟨k,aiO.2 hk,rfl⟩),f.Cd λt L=>aid _ (aid _ L),dy⟩ dC
    refine af ?_;exact q _ _ _ ⟨[],λ_=>.bh,F,v9,rfl,λh=>(by rw[u]at h;cases h),λ_=>rfl,aC,λk hk=>absurd hk aC,f,U⟩ dC
   subst hM;have ei:b<g.aj.length:=bb;refine af ?_;have a1:=a1 (b+1) aa aa;refine Ru.nm λS2 M2 dz b6=>Ru.bI b6 (up (P:=λj=>∀B a d o l y,(y=true->ip a+1<m)->ip a+1<=m->lC g wo a d l->fA d o F'->(c.getD b false=true->a.getD b false=true/\d.getD b []=aB.getD b [])->(y=false->a.getD b false=c.getD b false/\(∀Q,Q<b->gM g wo a d l Q)/\∀i,i<w.length->i<j->xR wo a d l (w.getD i (0,[])))->ak H B (tS jz 2 (lB w vs) w.length true W::vt V S Y P N g vb F' a o l)->Ru ab _ S2 ([(eM,aN j),(p7,.bool y)]++pk M2 [p1,p2,p4,p5,p6,p8,p9]) B) w.length (λj hj J B a d o l y A E r f O z U=>?_) 0 aa _ c aB n p C A E r f (λh=>⟨h,rfl⟩) (λh=>⟨rfl,z h,λi _ hi=>by omega⟩) U);subst dz;subst b6;have X:=(U.sl (e:=jz) (size:=2) (sv:=W) (full:=true) (vs:=lB w vs) (n:=w.length) 0).all;have e0:=X.2.2.2;have X:=X.1;have bc:=r.lc;have bv:=r.lo;have b0:=f.len;refine Ru.loop (af ?_);refine Ru.cond (λs=>?_) (λs=>?_)
   .have b7:c.getD b false=true:=by cases R:c.getD b false with|true=>rfl|false=>rw[c9 R]at s;simp at s
    obtain⟨v,Z⟩:=O b7;have a6:w.getD j (0,[])∈fU g b (d.getD b []):=by rw[Z,<-b3 b7,bf s];exact acm s
    obtain⟨I,a2⟩:=(r.snd b v).ok hS;obtain⟨⟨e1,e2⟩,e3,e4⟩:=qH hS I a2 _ a6;have cv:=r.iD b v;have hF:=c' j s;have J:=J (j+1) aa aa;have ag:y=false->xR wo a d l (w.getD j (0,[]))->a.getD b false=c.getD b false/\(∀Q,Q<b->gM g wo a d l Q)/\∀i,i<w.length->i<j+1->xR wo a d l (w.getD i (0,[])):=λh hd=>by
     obtain⟨a8,a',a3⟩:=z h;refine⟨a8,a',λi hi d0=>?_⟩;by_cases e:i=j;·subst e;exact hd
     exact a3 i hi aa
    obtain⟨b',ca⟩:=MQ (vs:=vs) s;generalize d1:w.getD j (0,[])=wj at*;obtain⟨t,L⟩:∃t:Nat,wj.1=t:=⟨wj.1.toNat,aa⟩;rw[L]at b';have e5:t<g.aj.length:=aa;obtain⟨qw,cap,ex,rfl⟩:=U.jO (e:=jz) (size:=2) (n:=w.length) (full:=true) (sv:=W) 0 rfl aa;obtain⟨_,av,_,_⟩:=U.kj 1 rfl hF;have⟨e6,e7,e8,_⟩:=av.all;refine af ?_;refine RO.cZ U 0 (hv:=b') (af ?_);refine Ru.cond (λu=>?_) (λu=>?_)
    .have u:wj.1=wo:=by rw[L];exact u
     refine af ?_;exact Ru.wk (J _ a d o l y A E r f O (λh=>ag h (.inl u)) U)
    have u:wj.1≠wo:=by rw[L];exact u
    have d2:(a.map AV.bool)[0+t*1]?=some (.bool (a.getD t false)):=by rw[show 0+t*1=t by omega,aiw,getElem?_pos a t aa,bf aa];rfl
    refine af ?_;refine RO.cZ U 4 (hv:=d2) (af ?_);refine Ru.eC (λD=>?_) (λD=>?_)
    .have D:a.getD t false=false:=by simpa using D
     have cd:b≠t:=λe=>by rw[<-e,v]at D;cases D
     have e9:=pB aa D;refine af ?_;refine RO.cZ U 0 (hv:=ca) (af ?_);refine RO.acW (f:=AV.bool) (zs:=a) U 4 true bc (k:=t) (λH8 U=>⟨λac d3=>?_,?_⟩);·obtain⟨_,hp⟩:=U.get 2 rfl;exact eo (i:=V) (o:=1) (v:=.slice N 0 g.aj.length g.aj.length true) d3 (by(conv=>lhs;whnf)<;>rfl) (by(conv=>lhs;whnf)<;>rfl) rfl (by simp[eV,cC,ah.fg]) (tB.cell hp rfl) rfl
     refine af ?_;refine RO.uX U 3 (n:=g.aj.length) (vs:=o) aa (k:=t) (w:=vs j) (λH9 U=>af ?_);have aw:=r.add hS v a6 u (by rw[L,ahX];exact D);rw[L,ahX]at aw;exact Ru.wk (J _ (a.set t true) (d.set t wj.2) (o.set t (vs j)) l true (λ_=>by omega) aa ⟨aw,r.Gg⟩ (f.set aa hF) (λh=>by rw[dD aa,dD aa,an cd,an cd];exact⟨v,Z⟩) (λh=>by cases h) U)
    have D:a.getD t false=true:=by simpa using D
    have d4:o[0+t*1]?=some (o.getD t .bM):=by rw[show 0+t*1=t by omega,getElem?_pos o t aa,bf aa]
    obtain⟨_,ax,_,_⟩:=U.kj 1 rfl (f.mem t aa);have⟨e',_,_,_⟩:=ax.all;have d6:=r.iD t D;refine af ?_;refine RO.cZ U 3 (hv:=d4) (af ?_);refine RO.cZ U 0 (hv:=ca) (RO.cl (Ge T ax av aa (λg3=>?_) (λg3=>?_)));·refine af ?_;exact Ru.wk (J _ a d o l y A E r f O (λh=>ag h (.inr (by rw[L,ahX];exact⟨D,λ_=>g3⟩))) U)
    refine af ?_;refine RO.dJ U 2 (λH8 U=>af ?_);have cf:∀w,xR wo a d l w->xR wo a d true w:=λw hw=>hw.imp id λh=>⟨h.1,λh=>by cases h⟩;have cn:=gU.step (r.snd b v) a6 u;rw[L,ahX]at cn;exact Ru.wk (J _ a d o true y A E ⟨r.toFlI,λ_=>⟨t,_,_,r.snd t D,cn,g3⟩⟩ f O (λh=>by
     obtain⟨a8,a',a3⟩:=z h;refine⟨a8,λQ cp R x hx=>cf _ (a' Q cp R x hx),λi hi d0=>?_⟩;by_cases e:i=j;·subst e;rw[d1];exact .inr (by rw[L,ahX];exact⟨D,λh=>by cases h⟩)
     exact cf _ (a3 i hi aa)) U)
   refine Ru.exitTo ?_;refine af ?_;refine Ru.wk (a1 B a d o F' l y A E r f (λh Q cp=>?_) U.tail);obtain⟨a8,a',a3⟩:=z h;by_cases e:Q=b;·subst e;intro R x hx;rw[a8]at R;rw[(O R).2,<-b3 R]at hx;obtain⟨i,hi,rfl⟩:=ah0 hx;have:=a3 i hi aa;rw[bf hi]at this;exact this
   exact a' Q aa
  refine Ru.exitTo ?_;obtain rfl:b=g.aj.length:=aa;refine af ?_;refine Ru.wk (ih _ ?_ B c aB n F p C rfl r f (λh x=>?_) U);·cases C with|true=>rw[aG rfl];exact A rfl|false=>rw[an aC];omega
  by_cases hx:x<g.aj.length;·exact z h x hx
  intro R;have:=r.lc;rw[ah3,aiJ aa]at R;cases R
 subst ay;refine Ru.exitTo ?_;have bv:=r.lo;have b0:=f.len;refine af ?_;refine RO.co U 1 ?_;refine RO.eY U 4 (λH7 U=>?_);refine af ?_;exact Ru.i9 (vs:=[_]) ⟨⟨S,0,rfl,U.agg 4⟩,trivial⟩ (h H7 P N n F c aB p r (z rfl) f (U.sub (.cons_cons _ (.cons _ (.cons_cons _ (.cons_cons _ (.cons _ (.cons _ .slnil))))))))
end
end
end
end Go.al.R
end
