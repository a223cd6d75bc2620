/- A part. No conditions. -/
import Derived.Test.YtodnahjlheaolaaGreatDoorA20
set_option linter.all false
set_option maxHeartbeats 16000000
open List renaming replicate->ab7,range->ahq
open Nat renaming blt->ahO
open Int renaming ofNat->ah0
open List.Perm renaming swap->ah5,cons->ah6
open List.Pairwise renaming nil->ai4
open Eq renaming mpr->ai5
noncomputable section
namespace Go.al.R
variable{B:List Bool}{N a b k:Nat}{A:List Nat}{n v:Int}{P:Nat->List Nat}{X:List bp}{e:Int×List bp}{D g:List AV}{I V:ai}{J f:AV}{H:List (List Int)}{O:Kn}{L W:List Th}{Q S:aJ}{p:List ah}{o q:List Int}{w:List (Int×List Int)}{Y:G.aM}{c:KT}{m y:Type}{d:Int×List Int}{vs:Nat->AV}{C:Option ah}{E:List SI}{F:List bD}{M:Cx}{Z z:Bool}{h:ah}{t:List gN}
section
variable{g:G.aM}{os:List (List bp)}
abbrev aE(g:G.aM)(b:Nat):G.dI:=g.aj.getD b default
structure nu(g:G.aM):Prop where
 v0:0<=g.aO
 p0:0<=g.i4
 oD:∀b∈g.aj,∀p∈cB b,g.i4<=p.1/\p.1<g.aO
 nd:∀b∈g.aj,((cB b).map (·.1)).Nodup
 one:∀i j,i<g.aj.length->j<g.aj.length->∀v p q,(v,p)∈cB (aE g i)->(v,q)∈cB (aE g j)->i=j
 all:∀v:Int,g.i4<=v->v<g.aO->∃i p,i<g.aj.length/\(v,p)∈cB (aE g i)
theorem kq(h:b<g.aj.length):aE g b∈g.aj:=by grind
theorem F9(c:0<=v):∀(l a:List (Int×Int)),(∀p∈l,0<=p.1/\p.1≠v)->(nk b a l).getD v.toNat (-1, -1)=a.getD v.toNat (-1, -1)|[],a,_=>rfl|p::l,a,h=>by have h1:=h p (acj ..);show(nk b (a.set p.1.toNat ((b:Int),p.2)) l).getD _ _=_;rw[F9 c l _ λq d=>h q (ab8 _ d)];simp only[ahi,List.getElem?_set];rw[an aa]
theorem Ma:∀(l a:List (Int×Int)),(l.map (·.1)).Nodup->(∀q∈l,0<=q.1/\q.1.toNat<a.length)->(v,n)∈l->(nk b a l).getD v.toNat (-1, -1)=((b:Int),n)
 |[],a,_,_,h=>by cases h
 |q::l,a,d,f,h=>by
  rw[ahk,ahT]at d;have i:=f q (acj ..);show(nk b (a.set q.1.toNat ((b:Int),q.2)) l).getD _ _=_;rcases ac2.1 h with rfl|h;·rw[F9 i.1 l _ λr c=>⟨(f r (ab8 _ c)).1,λe=>d.1 (by rw[<-e];exact ahG c)⟩,dA i.2,aF rfl]
  exact Ma l _ d.2 (λr c=>by have:=f r (ab8 _ c);rw[air];exact this) h
theorem nu.at(h:nu g){p:Int}(hi:k<g.aj.length)(c:(v,p)∈cB (aE g k)):(gM g).getD v.toNat (-1, -1)=((k:Int),p):=by
 have f:=h.oD _ (kq hi) _ c;have h0:=h.p0;have key:∀o,o<=g.aj.length->k<o->(kp g g.aO.toNat o).getD v.toNat (-1, -1)=((k:Int),p):=by
  intro o;induction o with
  |zero=>intro _ h;omega
  |succ o j=>
   intro n m;have a:=kq (g:=g) (b:=o) aa;have d:∀q∈cB (aE g o),0<=q.1/\q.1.toNat<(kp g g.aO.toNat o).length:=λq b=>by have:=h.oD _ a q b;rw[Cf];simp only at*;omega
   show(nk o _ (cB (aE g o))).getD _ _=_;by_cases e:k=o;·subst e;exact Ma _ _ (h.nd _ a) d c
   rw[F9 (by simp only at f;omega) _ _ λq b=>⟨(d q b).1,λl=>e (h.one k o hi aa v p q.2 c (by rw[<-l];exact b))⟩];exact j aa aa
 exact key _ (aeE _) hi
theorem Ga:∀(l:List G.dY)(i:Nat)(p:Int×Int),p∈fF l i->(i:Int)<=p.2/\p.2<i+l.length
 |[],i,p,h=>by cases h
 |s::l,i,p,h=>by
  simp only[fF,ac6]at h;rcases h with h|h;·grind
  have:=Ga l (i+1) p h;grind
theorem Mb{b:G.dI}(h:(n,v)∈cB b):v= -1\/0<=v/\v<b.aB.length:=by
 simp only[cB,ac6,ahm]at h;rcases h with⟨x,_,h⟩|h;·grind
 have:=Ga _ _ _ h;omega
def mr(g:G.aM)(b:Nat)(v bq:Int):Prop:=∀p,(v,p)∈cB (aE g b)->bq<=p
def jV(g:G.aM)(o:List bp):Option Int:=(o.reverse.find? λx=>x.2==0).map λx=>((aE g x.1.toNat).aq.go.getD 1 default).block
inductive Lv(g:G.aM)(os:List (List bp)):Nat->Int->Prop
 |kl{b:Nat}{v bq:Int}(h:(v,bq)∈fL (aE g b))(hn:mr g b v bq):Lv g os b v
 |il{b w:Nat}{v:Int}(hw:w∈wW g os b)(h:Lv g os w v)(hn:mr g b v (aE g b).aB.length):Lv g os b v
 |kr{b:Nat}{t v:Int}(ht:jV g (os.getD b [])=some t)(h:Lv g os t.toNat v)(hn:mr g b v 0):Lv g os b v
theorem ace(h:jV g X=some v):∃x∈X,x.2=0/\v=((aE g x.1.toNat).aq.go.getD 1 default).block:=by unfold jV at h;cases h2:X.reverse.find? λx=>x.2==0 with|none=>grind|some x=>grind
theorem iV.ne(h:iV P b k):k≠b:=by cases h with|zero h=>omega|step _ _ h=>omega
theorem ey.Gb:ey P b b:=λh=>h.ne rfl
theorem ey.trans(h1:ey P k b)(h2:ey P b N):ey P k N:=by
 intro h;have key:∀x,iV P k x->iV P k b\/iV P b x:=λx c=>by
  induction c with
  |zero h=>
   by_cases e:0=b;·left;rw[<-e];exact .zero h
   exact .inr (.zero e)
  | @step x y c d f a=>
   rcases a with a|a;·exact .inl a
   by_cases e:y=b;·left;rw[<-e];exact .step c d f
   exact .inr (.step a d e)
 rcases key N h with h|h;all_goals trivial
theorem b8.oE(c:fE g)(a:b8 g B os)(h:fQ g b X):B.getD b false=true/\os.getD b []=X:=by induction h with|zero=>exact⟨a.c0,c.pO (a.cG 0 a.c0) .zero⟩| @step b X w h d e=>have⟨h1,h2⟩:=e;have h3:=a.dn b h1 w (by rw[h2];exact d);exact⟨h3,c.pO (a.cG _ h3) (.step h d)⟩
theorem Cg(a:e∈bX g b (os.getD b [])):e.1.toNat∈wW g os b:=ahG a
theorem Gc(a:e∈bX g b X){x:bp}(c:x∈e.2):x∈X\/x.1=b/\(aE g b).aq.op=67:=by simp only[bX]at a;grind
theorem fQ.acf(a:fE g)(c:b8 g B os)(h:fQ g b X):∀x∈X,∃t:Nat,x.1=t/\B.getD t false=true/\(aE g t).aq.op=67:=by
 induction h with
 |zero=>simp
 | @step b X w h d f=>
  intro x e;rcases Gc d e with h1|⟨h1,h2⟩;·grind
  exact⟨b,h1,(c.oE a h).1,h2⟩
theorem iV.l6(f:fE g)(d:b8 g B os)(h:iV (wW g os) k b):B.getD b false=true/\∀x∈os.getD b [],x.1≠(k:Int):=by
 induction h with
 |zero h=>refine⟨d.c0,λx c=>?_⟩;rw[(d.oE f .zero).2]at c;cases c
 | @step a x h c m l=>
  have⟨h1,h2⟩:=l;refine⟨d.il h1 c,λy i=>?_⟩;simp only[wW,jU,ahm]at c;obtain⟨w,j,rfl⟩:=c;have hl:=d.cG a h1;rw[(d.oE f (.step hl j)).2]at i;rcases Gc j i with h3|⟨h3,_⟩;·exact h2 y h3
  rw[h3];exact λe=>h.ne aa
theorem Mc(a:fE g)(c:b8 g B os)(h:(((k:Int),N):bp)∈os.getD b []):ey (wW g os) k b:=λd=>(d.l6 a c).2 _ h rfl
theorem acg{am:List Nat}(j:eF g B os am){a:List Nat}(e:am=A++b::a):∀(n x:Nat),A[n]?=some x->iV (wW g os) b x:=by
 have d:=j.nd;have f:∀x∈A,x≠b:=λx c h=>by rw[e]at d;exact(ahZ.1 d).2.2 x c b (acj ..) h
 intro n;induction n using Nat.strongRecOn with
 |ind n l=>
  intro x c;have⟨k,c⟩:=ahY.1 c;have i:=f x (by rw[<-c];exact abO k);have o:am=A.take n++x::(A.drop (n+1)++b::a):=by
   rw[e];conv=>lhs;rw[<-aig n A,ahp k,c]
   simp
  rcases j.aK _ _ _ o with h|⟨y,p,q⟩;·rw[h];exact .zero aa
  obtain⟨m,r,rfl⟩:=ahd p;rw[ahU]at r;refine .step (l m aa _ ?_) q i;rw[List.getElem_take,ah7 aa]
theorem ach(d:fE g)(c:b8 g B os)(f:eF g B os A)(hb:B.getD b false=true)(h:(((k:Int),N):bp)∈os.getD b []):k≠b:=by
 rintro rfl;have⟨bY,n,e⟩:=List.append_of_mem ((f.mem k).2 hb);rcases f.aK _ _ _ e with h0|⟨y,o,a⟩;·subst h0;rw[(c.oE d .zero).2]at h;cases h
 obtain⟨m,p,rfl⟩:=ahd o;have j:=acg f e m _ (ah7 p);have⟨h1,h2⟩:=j.l6 d c;simp only[wW,jU,ahm]at a;have⟨w,a,q⟩:=a;have l:=(c.oE d (.step (c.cG _ h1) a)).2;rw[q]at l;rw[l]at h;rcases Gc a h with i|⟨i,_⟩;·exact h2 _ i rfl
 exact j.ne (by simp only at i;omega)
theorem eF.rk(a:eF g B os A)(n:Nat)(c:∀b∈A,b<n):Rk (wW g os) A ((ahq n).map λb=>A.idxOf b):=by refine⟨a.nd,a.hd,a.aK,λi h=>?_⟩;have hi:=c _ (abO h);rw[aZ (by grind)];simp only[ahP,aiH];exact a.nd.idxOf_getElem i h
theorem ey.aci(f:b8 g B os)(d:eF g B os A)(h:B.getD k false=true)(hb:B.getD b false=true)(h1:ey (wW g os) k b)(h2:ey (wW g os) b k):k=b:=by have e:=d.rk g.aj.length λb hb=>f.lt ((d.mem b).1 hb);have a:=(d.mem k).2 h;have c:=(d.mem b).2 hb;exact e.inj a c (Nat.le_antisymm (e.ef _ b rfl c h1) (e.ef _ k rfl a h2))
abbrev yn(g:G.aM)(v:Int):Int:=((gM g).getD v.toNat (-1, -1)).1
def vE(g:G.aM)(B:List Bool)(os:List (List bp))(b:Nat)(v:Int):Prop:=0<=v/\v<g.aO/\(v<g.i4\/∃s:Nat,yn g v=s/\B.getD s false=true/\ey (wW g os) s b)
def Far(g:G.aM)(B:List Bool)(os:List (List bp))(b:Nat)(v:Int):Prop:=0<=v/\v<g.aO/\(v<g.i4\/∃s:Nat,yn g v=s/\s≠b/\B.getD s false=true/\ey (wW g os) s b)
theorem Ai(h:0<=g.aO):((gM g).length:Int)=g.aO:=by grind[gM,Cf]
theorem nu.fI(a:nu g)(h0:g.i4<=v)(h1:v<g.aO):∃i p,i<g.aj.length/\(v,p)∈cB (aE g i)/\(gM g).getD v.toNat (-1, -1)=((i:Int),p):=by have⟨i,p,hi,b⟩:=a.all v h0 h1;exact⟨i,p,hi,b,a.at hi b⟩
theorem qS(f:fE g)(c:b8 g B os)(hb:B.getD b false=true)(i:jV g (os.getD b [])=some v):∃u:Nat,(((u:Int),0):bp)∈os.getD b []/\B.getD u false=true/\v.toNat∈wW g os u/\B.getD v.toNat false=true/\0<=v:=by
 obtain⟨x,j,d,rfl⟩:=ace i;have⟨u,hu,a,e⟩:=(c.cG b hb).acf f c x j;have k:x=((u:Int),0):=by rw[<-hu,<-d]
 rw[hu,aeY];have h:(((aE g u).aq.go.getD 1 default).block,os.getD u []++[((u:Int),1)])∈bX g u (os.getD u []):=by simp only[bX];rw[aF e];simp
 have h2:=Cg h;refine⟨u,by grind,a,h2,c.il a h2,(f.Af (c.cG u a) _ h).1⟩
theorem Lv.Aj(n:fE g)(c:b8 g B os)(H:nq g B os)(o:nu g)(D:eF g B os A)(h:Lv g os b v):B.getD b false=true->Far g B os b v:=by
 induction h with
 | @kl b v bq h k=>
  intro hb;have⟨t,q,I,E⟩:=H.rd b hb _ h;subst q;have d:(t:Int)<g.aO:=by have:=Ai o.v0;omega
  refine⟨aC,d,?_⟩;rcases E with E|⟨h1,h2⟩|⟨s,h1,h2,h3,a⟩;·omega
  .by_cases F:(t:Int)<g.i4;·omega
   have⟨i,p,hi,l,he⟩:=o.fI (v:=(t:Int)) aa d;rw[aeY]at he;rw[he]at h1 h2;have:i=b:=aa;subst this;have:=k p l;omega
  exact .inr ⟨s,by grind,h2,h3,a⟩
 | @il b w v G h k r=>
  intro hb;have⟨h0,h1,h2⟩:=r (c.il hb G);by_cases F:v<g.i4;·exact⟨h0,h1,.inl F⟩
  refine⟨h0,h1,h2.imp id λ⟨s,h3,a,x,m⟩=>⟨s,h3,λe=>?_,x,m.bY G a⟩⟩;subst e;have⟨i,p,hi,l,he⟩:=o.fI aa h1;rw[yn,he]at h3;have:i=s:=aa;subst this;have K:=k p l;have L:=Mb l;omega
 | @kr b t v q h k r=>intro hb;have⟨u,hu,y,f,z,J⟩:=qS n c hb q;have⟨h0,h1,h2⟩:=r z;have C:=ach n c D hb hu;have j:=Mc n c hu;refine⟨h0,h1,h2.imp id λ⟨s,h3,a,x,m⟩=>⟨s,h3,λe=>?_,x,(m.bY f a).trans j⟩⟩;subst e;exact C (ey.aci c D y hb j (m.bY f a))
end
def MA:ai->List Int->List AV->Prop:=λH l cs=>∃v,cs=[v]/\dh H l v
abbrev vI(H:ai)(a:List (List Int))(v:AV):Prop:=cQ 1 MA H a v
theorem bV.acJ:bV MA:=λhg⟨v,h1,h2⟩=>⟨v,h1,hg.sl h2⟩
structure fG(lv:List (List Int))(vsl:List AV)(F:List Th):Prop where
 len:vsl.length=lv.length
 mem:∀b,b<lv.length->tR 1 ((lv.getD b []).map aI) (lv.getD b []).length (vsl.getD b .bQ)∈F
theorem fG.sl(h:fG H D L)(U:ak V I W)(i:Nat)(hi:W[i]?=some (tZ L))(hs:Sl I 1 D D.length J):vI I H J:=by have hl:=h.len;refine⟨D,by rw[<-hl];exact hs,λb hb=>?_⟩;have⟨f,a,_⟩:=U.jr i hi (h.mem b hb);refine⟨D.getD b .bQ,?_,by rw[<-aZ hb []];exact a⟩;rw[aiE,ahp aa,aZ aa];rfl
theorem im{c r:List AV}{a:List (Nat×Nat×aJ)}(d:aT O Q=J)(hd:J.bk=true)(e:J.cells=D)(hs:D.length=k)(hl:rj g b D=some c)(f:nW O c a=some r):nW O g ((b,k,Q)::a)=some r:=by simp[d,hd,e,hs,hl,f,nW,decide_true,ai1,bg]
theorem MB(d:∀I,Sl I b D k J->Sl I b g N f)(h:(tR b D k J).P I p):(tR b g N f).P I p:=by
 have⟨h1,h2,h3⟩:=h;refine⟨d I h1,λi o N c e v=>?_,h3⟩;apply ahF;intro hi;have w:Sl (I.set i .none) b D k J:=by
  rcases h1 with h|⟨m,q,cap,ex,r,s,t,j,aK,fz,a,l,u⟩;·exact .inl h
  have n:m≠i:=λe=>hi (e▸h2 _ _ _ _ _ a);exact .inr ⟨m,q,cap,ex,r,s,t,j,aK,fz,a,by rw[ai.aG,an n];exact l,u⟩
 have a:=d _ w;subst v;rcases a with⟨h,_⟩|⟨m,q,cap,ex,r,s,t,j,aK,fz,a,l,u⟩;·cases h
 injection a with a;subst a;rw[ai.aG,aF rfl]at l;cases l
section
variable{ac:Nat->aX}
def my(g:G.aM)(x:Int):Int:=((aE g (x.toNat/2)).aq.go.getD 2 default).block
def fU(g:G.aM)(b:Nat)(o:List Int):List (Int×List Int):=
 if(aE g b).aq.op=67 then[(((aE g b).aq.go.getD 0 default).block,o++[2*(b:Int)]),(((aE g b).aq.go.getD 1 default).block,o++[2*(b:Int)+1])]
 else if(aE g b).aq.op=68 then(if o.length=0 then[]else[(my g (o.getD (o.length - 1) 0),o.take (o.length - 1))])
 else(aE g b).aq.go.map λe=>(e.block,o)
def pS(g:G.aM)(o:List Int):Prop:=∀x∈o,0<=x/\x.toNat/2<g.aj.length/\(aE g (x.toNat/2)).aq.go.length=3
def lz(w:List (Int×List Int))(a:Nat->AV):List AV:=(ahq w.length).flatMap λk=>[aI (w.getD k (0,[])).1,a k]
def acK(o:List Int)(c:AV)(w:List (Int×List Int))(a:Nat->AV)(F:List Th):Prop:=∀k,k<w.length->tR 1 ((w.getD k (0,[])).2.map aI) (w.getD k (0,[])).2.length (a k)∈F\/∀b,Sl b 1 (o.map aI) o.length c->Sl b 1 ((w.getD k (0,[])).2.map aI) (w.getD k (0,[])).2.length (a k)
theorem yq{f g:m->List y}:∀{l:List m},(∀x∈l,f x=g x)->l.flatMap f=l.flatMap g|[],_=>rfl|a::l,h=>by rw[aim,aim,h a (acj ..),yq λx b=>h x (ab8 _ b)]
theorem acL:lz (w++[d]) vs=lz w vs++[aI d.1,vs w.length]:=by
 unfold lz;rw[ae8,ahJ,ah9,ahH,ahW];congr 1;·refine yq λk a=>?_;rw[ahR]at a;simp[ahE a]
 simp
theorem _root_.Go.al.ak.Gk{t:Th}(U:ak I V (t::L)):ak I V (tZ [t]::L):=(U.lQ.bO (ah5 t (tZ []) L)).ie
theorem Gl(T:Tb ac)(hg:dc I Y D)(hB:G.Sm Y)(hb:b<Y.aj.length)(l:(aE Y b).aq.op=67->(aE Y b).aq.go.length=3)(q:dh I o J)(cE:o.length<=1000)(hO:pS Y o)(h:∀H' wv vs F,acK o J (fU Y b o) vs F->ak I H' [tZ F,tS pG 2 (lz (fU Y b o) vs) (fU Y b o).length true wv]->c wv H'):YN ac WG [.agg D,aN b,J] I c:=by
 have cf:=hg.one;obtain⟨vb,rfl,bz⟩:=hg;have⟨cR,_,_,c9⟩:=bz.all;have⟨ag,c',av,dm⟩:=q.all;have dr:=hB.nb;have aw:=abO hb;have ds:=hB.bl _ aw;have i:aE Y b=Y.aj[b]:=by rw[aE,aZ hb]
 rw[i]at l;refine YF.code T.Y4 aC (ab ?_);refine RO.bZ (ak.bM I) λH1 q3 U=>?_;refine ab ?_;refine RO.bL U.gr bz (λq1 o1 c1 ax m ay hat hrd=>?_) (j:=b);unfold fU at h;rw[i]at h;generalize dv:Y.aj[b]=B at*;obtain⟨vp,dx,jc,rfl,dy,dz,va,vk,vg,rfl,a1,a2,a⟩:=m;have⟨d0,_,_,d1⟩:=a.all;have⟨d2,d3,_,_⟩:=a1.all;have⟨d4,d5,_,_⟩:=a2.all;have d6:=a.cY;have cn:=FE (k:=2) (m:=5) hrd bt;refine ab ?_;refine RO.ir U 2 λH2 v8 U=>?_;have⟨d7,_,_,_⟩:=(U.sl 0 rfl).all;refine RO.dD U λH3 q7 U=>?_;have U:ak I H3 [tB mg q7 [aU B.aq.op,va,.str B.aq.i7,vk,vg],tS pG 2 [] 0 true v8,tB cA q3 [.str Y.i7,aI Y.i4,aI Y.aO,vb]]:=U;refine ab ?_;refine Ru.cond (λL=>?_) (λL=>?_)
 .have l:=l L;rw[aF L]at h;have s:fO .mul 3 (.ofNat 2) (.ofNat b)=some (aI (2*(b:Int))):=by simp only[fO];rw[show(ah0 2*ah0 b:Int)=2*(b:Int)from rfl,mY aa aa]
  refine ab ?_;refine RO.ir U 1 λH4 d' U=>?_;have⟨ea,_,_,_⟩:=(U.sl 0 rfl).all;refine ab ?_;refine RO.kI U 0 (U.gr.sl q) (λH5 eb U=>?_) (h1:=md _);have⟨ec,_,_,_⟩:=(U.sl 0 rfl).all;refine ab ?_;refine RO.arith (RO.push U 0 (λw1 H6 v9 U=>?_) (ws:=[aI (2*(b:Int))])) (hv:=s);have⟨a6,ei,a8,_⟩:=(U.sl 0 rfl).all;refine ab ?_;refine RO.ir U 1 λH7 ej U=>?_;have⟨ek,_,_,_⟩:=(U.sl 0 rfl).all;refine ab ?_;refine RO.kI U 0 (U.gr.sl q) (λH8 el U=>?_) (h1:=md _);have⟨et,_,_,_⟩:=(U.sl 0 rfl).all;refine ab ?_;refine RO.arith (RO.add (RO.push U 0 (λw1 H9 n U=>?_) (ws:=[aI (2*(b:Int)+1)])) (a:=2*(b:Int)) (b:=1)) (hv:=s);have⟨C,cp,E,_⟩:=(U.sl 0 rfl).all;refine ab ?_;refine RO.bL U.gr a (λR S c8 a' d t hat hrd=>?_) (j:=0);obtain⟨V,rfl,_⟩:=d;refine ab ?_;refine RO.build (vs:=[aI B.aq.go[0].block,v9]) (ab ?_) (hl:=im rfl rfl rfl rfl rfl (im rfl a6 a8 rfl rfl rfl));refine RO.bL U.gr a (λR S c8 cv d t hat hrd=>?_) (j:=1);obtain⟨V,rfl,_⟩:=d;refine ab ?_;refine RO.build (vs:=[aI B.aq.go[1].block,n]) (RO.iE U 2 (ws:=[aI B.aq.go[0].block,v9,aI B.aq.go[1].block,n]) (n:=2) (λHA ba U=>RO.kI U 4 (U.sl 0 rfl) (λW p U=>?_)) (hl:=im rfl rfl rfl rfl rfl (im rfl rfl rfl rfl rfl rfl))) (hl:=im rfl rfl rfl rfl rfl (im rfl C E rfl rfl rfl));have⟨bb,_,_,_⟩:=(U.sl 4 rfl).all;refine ab ?_;have e1:∀x:Int,[]++o.map aI++[aI x]=(o++[x]).map aI:=λx=>by simp
  have e2:∀x:Int,0+o.length+1=(o++[x]).length:=λx=>by simp
  have bc:=((U.sub (.cons _ (.cons_cons _ (.cons_cons _ (.cons _ (.cons_cons _ (.cons _ .slnil))))))).as 0 rfl λfp X=>tS.iu X).as 1 rfl λfp X=>tS.iu X;have u:=((((bc.bO (ah5 _ _ _)).Gk).bO (ah5 _ _ _)).ie);rw[e1,e1,e2 (2*(b:Int))]at u;have Z:B.aq.go.getD 0 default=B.aq.go[0]:=aZ aa _;have bv:B.aq.go.getD 1 default=B.aq.go[1]:=aZ aa _;rw[Z,bv]at h;refine Ru.aL (h W p (λk=>if k=0 then v9 else n) _ (λk r=>.inl ?_) u);match k,r with|0,_=>simp|1,_=>simp
 rw[an L]at h;refine ab ?_;refine Ru.cond (λg2=>?_) (λg2=>?_)
 .rw[aF g2]at h;refine ab ?_;refine Ru.cond (λg3=>?_) (λg3=>?_);·rw[aF g3]at h;refine ab ?_;exact Ru.aL (h _ v8 (λ_=>.bj) [] (λk r=>absurd r aC) (U.sub (.cons _ (.cons_cons _ (.cons _ .slnil)))).lQ)
  rw[an g3]at h;have f:o.length - 1<o.length:=aa;refine ab ?_;refine RO.arith (v:=aN (o.length - 1)) (RO.fA U.gr q (λR S hj ew=>?_) (j:=o.length - 1)) (hv:=me (k:=o.length) aa aa);have v:=hO _ (abO f);have b0:o.getD (o.length - 1) 0=o[o.length - 1]:=aZ f _;rw[b0]at h;generalize o[o.length - 1]=x at*;obtain⟨x,rfl⟩:∃y:Nat,x=y:=⟨x.toNat,aa⟩;rw[my,aeY]at h;rw[aeY]at v;have⟨_,b3,z⟩:=v;have hq:fO .quo 3 (x:Int) (.ofNat 2)=some (aN (x/2)):=by simp only[fO];rw[an bt,show((x:Int).tdiv (ah0 2))=((x/2:Nat):Int)from by rw[ag0,Int.tdiv_eq_ediv_of_nonneg aa];simp,mY aa aa];rfl
  refine ab ?_;refine RO.arith (RO.bL U.gr bz (λq1 o1 c1 ax m ay hat hrd=>?_) (j:=x/2)) (hv:=hq);rw[aE,aZ b3]at z h;generalize Y.aj[x/2]=N at*;obtain⟨e0,cx,e3,rfl,_,_,e4,e5,b4,rfl,_,_,j⟩:=m;have⟨cy,_,_,_⟩:=j.all;refine ab ?_;refine RO.aW (v:=b4) (RO.bL U.gr j (λR S c8 a' d t hat hrd=>?_) (j:=2)) (hc:=hat 6 _ rfl);obtain⟨V,rfl,_⟩:=d;refine ab ?_;refine RO.arith (v:=aN (o.length - 1)) (RO.lR (U.gr.sl q) (b:=o.length - 1) ?_) (hv:=me (k:=o.length) aa aa);have A:=λO(hs:Sl O 1 (o.map aI) o.length J)=>Ae hs (b:=o.length - 1) aa;have⟨b6,_,b7,_⟩:=(A _ q).all;refine RO.build (vs:=[aI N.aq.go[2].block,lR J (o.length - 1)]) (RO.iE U 2 (ws:=[aI N.aq.go[2].block,lR J (o.length - 1)]) (n:=1) (λHA ba U=>RO.kI U 2 (U.sl 0 rfl) (λW p U=>?_)) (hl:=im rfl rfl rfl rfl rfl rfl)) (hl:=im rfl rfl rfl rfl rfl (im rfl b6 b7 rfl rfl rfl));have⟨bb,_,_,_⟩:=(U.sl 2 rfl).all;refine ab ?_;have Z:N.aq.go.getD 2 default=N.aq.go[2]:=aZ aa _;rw[Z]at h;refine Ru.aL (h W p (λk=>lR J (o.length - 1)) [] (λk r=>.inr λO hs=>?_) (U.sub (.cons _ (.cons _ (.cons_cons _ (.cons _ .slnil))))).lQ);have b':k=0:=by simpa using r
  subst b';have:=A O hs;rw[aiE,<-List.map_take]at this;simpa using this
 rw[an g2]at h;refine ab ?_;refine Ru.nm λS0 M hS hM=>Ru.bH hM (up (P:=λk=>∀P w,ak I P [tB mg q7 [aU B.aq.op,va,.str B.aq.i7,vk,vg],tS pG 2 (lz ((B.aq.go.take k).map λe=>(e.block,o)) λ_=>J) k true w,tB cA q3 [.str Y.i7,aI Y.i4,aI Y.aO,vb]]->Ru ac _ S0 ([(gQ,aN k),(p8,w)]++pk M [p2,p7]) P) B.aq.go.length (λk r Q P w U=>?_) 0 aa _ _ U);subst hS;subst hM;have⟨e6,_,_,_⟩:=(U.sl 1 rfl).all;refine Ru.loop (ab ?_);refine Ru.cond (λf=>?_) (λf=>?_);·have Q:=Q (k+1) aa aa;rw[(ahb f).symm,ahx,List.map_singleton,acL]at Q;refine ab ?_;refine RO.bL U.gr a (λq9 o9 fa e7 ca e8 hat hrd=>?_) (j:=k);generalize B.aq.go[k]=e at*;obtain⟨V,rfl,e9⟩:=ca;refine ab ?_;refine RO.build (vs:=[aI e.block,J]) (RO.push U 1 (λw0 H5 v2 U=>?_) (ws:=[aI e.block,J])) (hl:=im rfl rfl rfl rfl rfl (im rfl ag av rfl rfl rfl));have⟨e',_,_,_⟩:=(U.sl 1 rfl).all;refine ab ?_;exact Ru.wk (Q _ v2 U)
 refine Ru.exitTo ?_;rw[aho aa]at U;have cd:k=(B.aq.go.map λe=>(e.block,o)).length:=by rw[ahs];omega
 refine ab ?_;refine Ru.aL (h P w (λ_=>J) [] (λx hx=>.inr λO hs=>?_) ?_)
 .have z:x<B.aq.go.length:=by simpa using hx
  have e:((B.aq.go.map λe=>(e.block,o)).getD x (0,[])).2=o:=by rw[aZ hx,ahP]
  rw[e];exact hs
 rw[<-cd];exact(U.sub (.cons _ (.cons_cons _ (.cons _ .slnil)))).lQ
section
theorem RO.acM{f:m->AV}{zs:List m}(U:ak I V L)(i:Nat)(v:m)(e:zs.length=b)(w:∀c,ak I c (L.set i (tS N 1 ((zs.set k v).map f) b Z (.slice h 0 b a z)))->(∀af,Le (bo O C .ai8) af->dQ af c t=true)/\RO ac M F E (bo O C .ai8) c)(j:aT O Q=.aD h (0+k*1):=by exact cw)(l:aT O S=f v:=by exact cw)(hi:L[i]?=some (tS N 1 (zs.map f) b Z (.slice h 0 b a z)):=by rfl)(n:k<zs.length:=by first|omega|assumption)(o:(f v).cY=true:=by first|rfl|assumption)(p:(f v).cells=[f v]:=by first|rfl|assumption)(hd:(f v).bk=true:=by first|rfl|assumption):RO ac M (⟨C,.store 1 Q S,none,[],t⟩::F) E O V:=by subst e;have⟨u,q,_,hu⟩:=U.iQ i hi;have⟨c,h1,h2,h3⟩:=Kc.set (k:=k) q n v o;have:=hu (t':=tS N 1 ((zs.set k v).map f) (zs.set k v).length Z (.slice h 0 (zs.set k v).length a z)) h2 h3;rw[air]at this;have⟨r,s⟩:=w c this;refine RO.BN (λ_ _ w=>by cases w) (λ_ w=>by cases w) (λaf d=>⟨c,?_,rfl⟩) r s;simp only[dF,aH,d.gv j rfl,d.gv l hd,p,ahJ,bg,h1]
theorem Ar(T:Tb ac)(m:dh I o J)(n:dh I q f)(hl:o.length<=1000000)(h1:o=q->c (.bool true) I)(h2:o≠q->c (.bool false) I):YN ac KC [J,f] I c:=by
 have⟨v,w,x,y⟩:=m.all;have⟨z,A,B,C⟩:=n.all;refine YF.code T.Yt aC (ab ?_);refine Ru.cond (λa=>?_) (λa=>?_);·refine ab ?_;exact Ru.aL (h2 λe=>a (by rw[e]))
 have a:o.length=q.length:=aa;refine ab ?_;refine Ru.nm λS M s p=>Ru.bH p (up (P:=λk=>(∀i(h:i<o.length)(b:i<q.length),i<k->o[i]=q[i])->Ru ac _ S ([(p5,aN k)]++pk M [p0,p1]) I) o.length (λk D t r=>?_) 0 aa (λi _ _ hi=>by omega));subst s;subst p;refine Ru.loop (ab ?_);refine Ru.cond (λj=>?_) (λj=>?_)
 .refine ab ?_;refine RO.fA (aR.refl I) m (λu o1 hj l=>ab ?_) (j:=k);refine RO.fA (aR.refl I) n (λu o1 hj l=>ab ?_) (j:=k);refine Ru.cond (λd=>?_) (λd=>?_);·refine ab ?_;exact Ru.aL (h2 λe=>d (by subst e;rfl))
  refine ab ?_;refine Ru.wk (t (k+1) aa aa λi h b hi=>?_);by_cases e:i=k;·subst e;exact aix.1 d
  exact r i h b aa
 refine Ru.exitTo ?_;refine ab ?_;exact Ru.aL (h1 (ain a λi h b=>r i h b aa))
structure jh(g:G.aM):Prop where
 ne:0<g.aj.length
 t3:∀b,b<g.aj.length->(aE g b).aq.op=67->(aE g b).aq.go.length=3
 rg:∀b,b<g.aj.length->∀e∈(aE g b).aq.go,1<=e.block/\e.block<=(g.aj.length:Int) - 1
theorem dT.sh(h:dT Y):jh Y:=by
 have hb:∀b,b<Y.aj.length->mw Y (aE Y b).aq:=λb hb=>by rw[aE,aZ hb];exact h.yo _ (abO hb)
 refine⟨h.ne,λb c d=>?_,λb c e he=>?_⟩;·have:=(hb b c).ae;generalize(aE Y b).aq.go.length=n at*;generalize(aE Y b).aq.args.length=a at*;cases this<;>simp_all
 obtain⟨i,hi,rfl⟩:=ahd he;have:=(hb b c).Ap i hi;exact⟨this.lo,this.hi⟩
inductive gT(g:G.aM)(wo:Int):Nat->List Int->Prop
 |zero(h:wo≠0):gT g wo 0 []
 |step{b:Nat}{o:List Int}{w:Int×List Int}(h:gT g wo b o)(hw:w∈fU g b o)(hn:w.1≠wo):gT g wo w.1.toNat w.2
section
variable{g:G.aM}{wo:Int}
theorem pS.n6(h:pS g o)(b:0<=v/\v.toNat/2<g.aj.length/\(aE g (v.toNat/2)).aq.go.length=3):pS g (o++[v]):=λy a=>by
 rcases ac6.1 a with a|a;·exact h y a
 rw[abt]at a;subst a;exact b
theorem oK(d:jh g)(hb:b<g.aj.length)(c:pS g o):∀w∈fU g b o,(1<=w.1/\w.1<=(g.aj.length:Int) - 1)/\pS g w.2/\w.2.length<=o.length+1:=by
 intro w a;unfold fU at a;split at a
 .rename_i f;have h3:=d.t3 b hb f;have h:=d.rg b hb;have i:(2*(b:Int)).toNat/2=b:=aa;have j:(2*(b:Int)+1).toNat/2=b:=aa;simp only[ac2,ahv,or_false]at a;rcases a with rfl|rfl;·refine⟨h _ (by rw[aZ aa];exact abO _),c.n6 ⟨aa,by rw[i];exact hb,by rw[i];exact h3⟩,aC⟩
  refine⟨h _ (by rw[aZ aa];exact abO _),c.n6 ⟨aa,by rw[j];exact hb,by rw[j];exact h3⟩,aC⟩
 split at a
 .split at a;·cases a
  rename_i h0;rw[abt]at a;subst a;have k:=abO (l:=o) (n:=o.length - 1) aa;have⟨_,h2,h3⟩:=c _ k;refine⟨?_,λx l=>c x (aiK l),by rw[ahU];omega⟩;show 1<=my g _/\_;rw[aZ aa,my];exact d.rg _ h2 _ (by rw[aZ aa];exact abO _)
 obtain⟨e,he,rfl⟩:=ahm.1 a;exact⟨d.rg b hb e he,c,aC⟩
theorem gT.ok(a:jh g)(h:gT g wo b o):b<g.aj.length/\pS g o:=by induction h with|zero _=>exact⟨a.ne,λx d=>by cases d⟩|step _ e _ c=>have⟨⟨h1,h2⟩,h3,_⟩:=oK a c.1 c.2 _ e;exact⟨aa,h3⟩
structure jw(g:G.aM)(wo:Int)(come:List Bool)(aA:List (List Int)):Prop where
 lc:come.length=g.aj.length
 lo:aA.length=g.aj.length
 c0:wo≠0->come.getD 0 false=true
 Gm:∀b,come.getD b false=false->aA.getD b []=[]
 snd:∀b,come.getD b false=true->gT g wo b (aA.getD b [])
 iw:∀b,come.getD b false=true->(aA.getD b []).length+fX come<g.aj.length
structure jx(g:G.aM)(wo:Int)(come:List Bool)(aA:List (List Int))(oth:Bool):Prop extends toFlI:jw g wo come aA where
 Gn:oth=true->∃b o o',gT g wo b o/\gT g wo b o'/\o≠o'
def yr(wo:Int)(a:List Bool)(aA:List (List Int))(b:Bool)(w:Int×List Int):Prop:=w.1=wo\/a.getD w.1.toNat false=true/\(b=false->aA.getD w.1.toNat []=w.2)
def fc(g:G.aM)(wo:Int)(a:List Bool)(aA:List (List Int))(c:Bool)(b:Nat):Prop:=a.getD b false=true->∀w∈fU g b (aA.getD b []),yr wo a aA c w
theorem jw.add(k:jh g)(h:jw g wo B H)(hb:B.getD b false=true)(l:d∈fU g b (H.getD b []))(m:d.1≠wo)(n:B.getD d.1.toNat false=false):jw g wo (B.set d.1.toNat true) (H.set d.1.toNat d.2):=by
 have c:=h.lc;have f:=h.lo;have⟨j,o⟩:=(h.snd b hb).ok k;have⟨⟨h1,h2⟩,h3,q⟩:=oK k j o _ l;have i:d.1.toNat<g.aj.length:=aa;have r:=h.iw b hb;have p:=nj (by rw[c];exact i) n;refine⟨by simpa using c,by simpa using f,λh0=>?_,λx a=>?_,λx a=>?_,λx a=>?_⟩
 .rw[dA (by rw[c];exact i)];split;·rfl
  exact h.c0 h0
 .rw[dA (by rw[c];exact i)]at a;rw[dA (by rw[f];exact i)];split;·rename_i e;rw[aF e]at a;cases a
  rename_i e;rw[an e]at a;exact h.Gm x a
 .rw[dA (by rw[c];exact i)]at a;rw[dA (by rw[f];exact i)];split;·rename_i e;subst e;exact .step (h.snd b hb) l m
  rename_i e;rw[an e]at a;exact h.snd x a
 rw[dA (by rw[c];exact i)]at a;rw[dA (by rw[f];exact i)];split;·omega
 rename_i e;rw[an e]at a;have:=h.iw x a;omega
end
end
end
end Go.al.R
namespace Go.al
variable{N a b bytes k r x:Nat}{C:Option ah}{D g:List AV}{E:List SI}{F:List bD}{I V u:ai}{J f:AV}{M:Cx}{O:Kn}{Q S:aJ}{Z:Bool}{h:ah}{p:List ah}{t:List gN}{ts:List Th}{A:List Nat}{m:Type}
section
variable{ac:Nat->aX}{H:ai}{m o:Nat}{vs:List AV}{yv:AV}
theorem RO.NP{is:List ah}(y:dE H h o m=some vs)(u:h∉is)(K:∀i,(∀j,i.get j=H.get j)->i.next=H.next->RO ac M F E (bo O C (.agg vs)) i)(z:aT O Q=.aD h o:=by exact cw)(D:vu O p=is.map some:=by exact cw):RO ac M (⟨C,.ee m Q,none,p,[]⟩::F) E O H:=λaf f=>by
 have⟨h1,h2,h3⟩:=Ag f (H:=H) D;generalize G:dF af H p=a at h1 h2 h3;have⟨I,J⟩:=h3 a.1;have g:∀j,(dj a.1 a.2).get j=H.get j:=λj=>by
  rw[J];split;·rfl
  rename_i t;exact h2 j t
 have⟨b,t⟩:=K _ g (I.trans h1) _ (f.set C _);refine⟨b+1,?_⟩;have x:dE a.1 h o m=some vs:=by simp only[dE,h2 h u];exact y
 have he:aH (.ee m Q) af a.1=some (.agg vs,a.1):=by simp only[aH,f.gv z rfl,gW,x,bg,ahQ]
 simp[G,he,t,Xo,Go.al.aA,d8,bg,dQ]
theorem Sl.ad7(x:Sl H r vs k J)(hg:∀j,j∉p->I.get j=H.get j)(t:I.next=H.next)(u:∀h o m M b,J=.slice h o m M b->h∉p):Sl I r vs k J:=by
 rcases x with x|⟨N,o,a,Z,g,m,b,f,aK,fz,h1,h2,h3⟩;·exact .inl x
 refine .inr ⟨N,o,a,Z,g,m,b,f,aK,fz,h1,by grind,?_⟩;grind
theorem RO.CG(U:ak I H (tS b N vs a true f::ts)){is:List ah}(hs:Sl H N D r yv)(ag:∀h o m M b,yv=.slice h o m M b->h∉is)(gZ:∀j∈is,∃(m:Nat)(bv:Th),ts[m]?=some bv/\∀Hx bb,bv.P Hx bb->j∈bb)(bc:∀HU J,ak I HU (tS b N (vs++D) (a+r) true J::ts)->(∀af,Le (bo O C J) af->dQ af HU t=true)/\RO ac M F E (bo O C J) HU)(h1:cU D=true:=by repeat first|rfl|assumption|(refine ao ?_ ?_))(hp:vu O p=is.map some:=by exact cw)(hx:aT O Q=f:=by exact cw)(hy:aT O S=yv:=by exact cw)(hb:(a+r)*bytes<=70368744177664:=by omega)(K:a+r<=70368744177664:=by omega):RO ac M (⟨C,.append b bytes N g false Q S,none,p,t⟩::F) E O H:=λaf x=>by
 have⟨g1,g2,g3⟩:=Ag x (H:=H) hp;generalize hh:dF af H p=u at g1 g2 g3;have⟨hG,fs,hF⟩:=U;match fs,hF with
  |f0::fs,⟨q1,q2,q3,q4⟩=>
   have V:∀j∈is,∃bb∈fs,j∈bb:=λj hj=>by have⟨m,bv,hm,ht⟩:=gZ j hj;have⟨bb,R,hp⟩:=q4.at hm;exact⟨bb,List.mem_of_getElem? R,ht _ _ hp⟩
   have W:∀j∈is,j∉f0:=λj hj av=>by have⟨bb,R,z⟩:=V j hj;exact q3 j av bb R z
   have aw:∀j∈is,j.ap<H.next.ap:=λj hj=>by have⟨bb,R,z⟩:=V j hj;exact q4.lt bb R j z
   have ho:cO u.1 f0 b N vs a true f:=cO.frame q1 (by rw[g1];exact aeE _) λj hj=>g2 j λK=>W j K hj;have ax:Sl u.1 N D r yv:=hs.ad7 g2 g1 ag;have⟨i,T,G,a8,a',a3,a4,a5⟩:=ho.append (bytes:=bytes) hs.length h1 hb K;rw[g1]at a3 a4 a5;have⟨g4,g5⟩:=g3 T;have Y:∀j∈G,j∉is:=λj hj X=>by
    rcases a4 j hj with bc|bc;·exact W j X bc
    have:=aw j X;omega
   have Z:cO (dj T u.2) G b N (vs++D) (a+r) true i:=cO.frame a' (by rw[g4];exact aeE _) λj hj=>by rw[g5,an (Y j hj)]
   have y:lM f0 G H (dj T u.2):=⟨by rw[g4];exact a3,λj hj=>(a4 j hj).imp id λbc=>bc.1,λj hj ay=>by
    rw[g5];split;·rfl
    rename_i K;rw[a5 j hj ay,g2 j K]⟩;have⟨a1,a2,_⟩:=Fs.iQ (t':=tS b N (vs++D) (a+r) true i) hG y (fs:=f0::fs) (ts:=tS b N vs a true f::ts) (i:=0) ⟨q1,q2,q3,q4⟩ rfl rfl Z;have a6:ak I (dj T u.2) (tS b N (vs++D) (a+r) true i::ts):=⟨y.bN hG q2,a1,a2⟩;have⟨h4,h5⟩:=bc _ i a6;have⟨n',ba⟩:=h5 _ (x.set C i);have he:aH (.append b bytes N g false Q S) af u.1=some (i,T):=by simp only[aH,abH,bF,x.gv hx ho.sl.bk,x.gv hy hs.bk,ax.gh,a8]
   refine⟨n'+1,?_⟩;simp only[Xo,Go.al.aA,d8,bg,hh,he,h4 _ (x.set C i)];omega
end
section
variable{ac:Nat->aX}
theorem RO.SU{a:Int}(h:RO ac M F E (bo O C (.bool false)) I)(b:aT O Q=.int N a:=by exact cw)(f:aT O S=.int N a:=by exact cw):RO ac M (⟨C,.arith .neq N Q S,none,[],[]⟩::F) E O I:=RO.neq (a:=a) (b:=a) (by rw[show decide (a≠a)=false by simp];exact h) b f
theorem RO.SV(h:RO ac M F E (bo O C (.bool false)) I)(a:aT O Q=.str A:=by exact cw)(b:aT O S=.str A:=by exact cw):RO ac M (⟨C,.kw .neq Q S,none,[],[]⟩::F) E O I:=RO.kw (v:=.bool false) h a rfl b rfl (by simp[vY,R.jT])
theorem NQ:∀{t:List Nat},(∀M∈t,M<256)->ud (t.map λb=>AV.int 4 (.ofNat b))=some t|[],_=>rfl|a::t,h=>by have h1:ahO a 256=true:=ai5 aib (h a (acj ..));simp only[ahk,ud,CV,h1,bg,NQ λM f=>h M (ab8 _ f)]
theorem RO.oX(hs:Sl I 1 (A.map λb=>.int 4 (.ofNat b)) A.length J)(hb:∀M∈A,M<256)(h:RO ac M F E (bo O C (.str A)) I)(p:aT O Q=J:=by exact cw):RO ac M (⟨C,.oX Q,none,[],[]⟩::F) E O I:=by
 refine RO.op (λaf j=>?_) h;have hd:=hs.bk;simp only[aH,j.gv p hd];have f:=hs.gh;cases J with
 |bj=>
  have:A=[]:=by
   rcases hs with⟨_,h,_⟩|⟨_,_,_,_,_,_,_,_,_,_,h,_⟩;·exact ahz h
   cases h
  subst this;rfl
 |slice N k b a Z=>simp only[gh]at f;rw[aiE]at f;cases g:dE I N k b with|none=>rw[g]at f;cases f|some t=>rw[g]at f;simp only[aa9,afm]at f;obtain⟨_,rfl⟩:=f;simp only[g,NQ hb,ahQ]
 |str u=>rcases hs with⟨h,_⟩|⟨_,_,_,_,_,_,_,_,_,_,h,_⟩<;>cases h
 |_=>simp[gh]at f
theorem RO.nE{R:ai->m->List AV->Prop}{y:List m}(hg:aR I u){j:Nat}(hs:cQ k R I y f)(T:∀h b cs(hj:j<y.length),R I y[j] cs->cs.length=k->(∀{V},aR I V->(∀t J,cs[t]?=some J->aY V h (b+t)=some J)/\dE V h b k=some cs)->RO ac M F E (bo O C (.aD h b)) u)(z:aT O Q=f:=by exact cw)(G:aT O S=.int a (.ofNat j):=by exact cw)(hj:j<y.length:=by first|assumption|omega):RO ac M (⟨C,.dH k Q S,none,[],[]⟩::F) E O u:=by
 obtain⟨h,b,x,Z,cs,rfl,h1,h2,h3,K⟩:=hs.at hj;have g:h.ap<I.next.ap:=by
  have⟨D,P,_⟩:=hs;rcases P with⟨T,_⟩|⟨r,_,_,_,_,_,_,_,_,_,T,_,_,_,_,hi,_⟩;·cases T
  injection T with T;subst T;exact hi
 exact RO.dH (T h (b+j*k) cs hj h1 h2 λp=>⟨λt J N=>by rw[p.aY g];exact h3 t J N,by simp only[dE,p.cI h g];exact K⟩) z G hj
theorem RO.ad8{R:ai->m->List AV->Prop}{y:List m}(hg:aR I u){j:Nat}(hs:cQ k R I y f)(T:∀h b cs(hj:j<y.length),R I y[j] cs->cs.length=k->h.ap<I.next.ap->(∀{V},aR I V->(∀t J,cs[t]?=some J->aY V h (b+t)=some J)/\dE V h b k=some cs)->RO ac M F E (bo O C (.aD h b)) u)(z:aT O Q=f:=by exact cw)(G:aT O S=.int a (.ofNat j):=by exact cw)(hj:j<y.length:=by first|assumption|omega):RO ac M (⟨C,.dH k Q S,none,[],[]⟩::F) E O u:=by
 obtain⟨h,b,x,Z,cs,rfl,h1,h2,h3,K⟩:=hs.at hj;have g:h.ap<I.next.ap:=by
  have⟨D,P,_⟩:=hs;rcases P with⟨T,_⟩|⟨r,_,_,_,_,_,_,_,_,_,T,_,_,_,_,hi,_⟩;·cases T
  injection T with T;subst T;exact hi
 exact RO.dH (T h (b+j*k) cs hj h1 h2 g λp=>⟨λt J N=>by rw[p.aY g];exact h3 t J N,by simp only[dE,p.cI h g];exact K⟩) z G hj
theorem NR(l:List Bool):cU (l.map AV.bool)=true:=xB.2 λJ a=>by obtain⟨x,_,rfl⟩:=ahm.1 a;rfl
end
end Go.al
namespace Go.al.R
section
variable{ac:Nat->aX}
end
variable{B l:List Bool}{a b k:Nat}{C:Option ah}{D:List AV}{E:List SI}{F:List bD}{I V:ai}{o:List Int}{J:AV}{v wo:Int}{M:Cx}{O:Kn}{Q S:aJ}{Y:G.aM}{c:KT}{H:List (List Int)}{w:List (Int×List Int)}{L W s:List Th}{vs:Nat->AV}
section
variable{ac:Nat->aX}
def oS(l:List Bool):Nat->List Int
 |0=>[]
 |k+1=>oS l k++if l.getD k false then[(k:Int)]else[]
def fY(l:List Bool):List Int:=oS l l.length
theorem GU:∀{k:Nat},v∈oS B k↔∃b:Nat,v=b/\b<k/\B.getD b false=true
 |0=>by simp[oS]
 |k+1=>by
  rw[oS,ac6,GU];constructor
  .rintro(⟨b,h1,h2,h3⟩|h);·exact⟨b,h1,aa,h3⟩
   split at h;·rename_i a;rw[abt]at h;exact⟨k,h,aa,a⟩
   cases h
  rintro⟨b,h1,h2,h3⟩;by_cases e:b=k;·subst e;right;rw[aF h3,h1];exact abt.2 rfl
  exact .inl ⟨b,h1,aa,h3⟩
theorem AC:v∈fY B↔∃a:Nat,v=a/\B.getD a false=true:=by rw[fY,GU];exact⟨λ⟨a,h1,_,h2⟩=>⟨a,h1,h2⟩,λ⟨a,h1,h2⟩=>⟨a,h1,tL h2 aC,h2⟩⟩
theorem NS:∀k,(oS B k).Pairwise (·<·)
 |0=>ai4
 |k+1=>by
  rw[oS,List.pairwise_append];refine⟨NS k,?_,λa c b hb=>?_⟩;·split;all_goals simp
  grind[GU,List.mem_singleton]
theorem NT(l:List Bool):(fY l).Pairwise (·<·):=NS _
theorem GV{l:List Bool}:∀k,(oS l k).length<=k|0=>aeE _|k+1=>by have:=GV (l:=l) k;grind[oS,List.length_append]
theorem RO.ad9(h:RO ac M F E (bo O C (aN (a % b))) I)(c:aT O Q=.int 3 (.ofNat a):=by exact cw)(d:aT O S=.int 3 (.ofNat b):=by exact cw)(hb:b≠0:=by omega):RO ac M (⟨C,.arith .rem 3 Q S,none,[],[]⟩::F) E O I:=RO.arith (v:=aN (a % b)) (a:=.ofNat a) (b:=.ofNat b) h c d (by show(if ah0 b=0 then none else some (AV.int 3 ((ah0 a).tmod (ah0 b))))=_;grind)
theorem nC(h1:l.length=b)(h2:k<b):(l.map AV.bool)[0+k*1]?=some (.bool (l.getD k false)):=by grind
section
theorem GW(T:Tb ac)(hs:Sl I 1 (l.map .bool) l.length J)(hl:l.length<=6000)(h:∀f v,ak I f [tS 3 1 ((fY l).map aI) (fY l).length true v]->c v f):YN ac WE [J] I c:=by
 have⟨s,_,_,t⟩:=hs.all;refine YF.code T.Y2 aC (ab ?_);refine RO.ir (ak.bM I) 1 λB v5 U=>?_;have⟨u,_,_,_⟩:=(U.sl 0 rfl).all;refine ab ?_;refine Ru.nm λn p j d=>Ru.bH d (up (P:=λk=>∀i b,ak I i [tS 3 1 ((oS l k).map aI) (oS l k).length true b]->Ru ac _ n ([(p4,aN k),(p3,b)]++pk p [p0]) i) l.length (λk C a i b U=>?_) 0 aa _ _ U);subst j;subst d;have⟨x,_,_,y⟩:=(U.sl 0 rfl).all;have z:=GV (l:=l) k;refine Ru.loop (ab ?_);refine Ru.cond (λe=>?_) (λe=>?_)
 .have a:=a (k+1) aa aa;rw[oS,aZ e]at a;refine ab ?_;refine RO.ic U.gr hs (λq o hj m=>RO.aW (ab ?_) (hc:=m)) (j:=k);refine Ru.d9 (λhb=>?_) (λhb=>?_);·rw[aF hb]at a;refine ab ?_;refine RO.push U 0 (λw f r U=>?_) (ws:=[aN k]);have⟨A,_,_,_⟩:=(U.sl 0 rfl).all;refine ab ?_;exact Ru.wk (a _ r (by rw[ahx,ae8];exact U))
  rw[an (by rw[hb];simp),ah8]at a;refine ab ?_;exact Ru.wk (a _ b U)
 refine Ru.exitTo ?_;obtain rfl:k=l.length:=aa;refine ab ?_;exact Ru.aL (h _ b U)
def mD(g:G.aM)(o:List Int):Option Int:=(o.reverse.find? λx=>x % 2==0).map λx=>((aE g (x.toNat/2)).aq.go.getD 1 default).block
theorem aea(h:∀x∈o,x % 2≠0):mD Y o=none:=by simp_all[mD,List.find?_eq_none,List.mem_reverse]
theorem aeb{g:G.aM}(a:k<o.length)(h:∀j(hj:j<o.length),k<j->o[j]% 2≠0)(h0:o[k]% 2=0):mD g o=some ((aE g (o[k].toNat/2)).aq.go.getD 1 default).block:=by
 unfold mD;rw[(List.find?_eq_some_iff_getElem (b:=o[k])).2];·rfl
 refine⟨by grind,o.length - 1 - k,by grind,by grind,λj hj=>?_⟩;grind
variable{g:G.aM}
theorem aec(T:Tb ac)(hg:dc I g D)(P:G.Sm g)(s:dh I o J)(Z:o.length<=1000)(Q:pS g o)(h:∀F,aR I F->c (aI (match mD g o with|some t=>t|none=> -1)) F):YN ac Xl [.agg D,J] I c:=by
 obtain⟨vb,rfl,bz⟩:=hg;have⟨ag,_,_,av⟩:=bz.all;have⟨aw,_,_,ax⟩:=s.all;have ay:=P.nb;refine YF.code T.ZR aC (ab ?_);refine RO.bZ (ak.bM I) λR q U=>ab ?_;refine RO.sub (a:=(o.length:Int)) (b:=1) (ab ?_);refine Ru.nm λS V z b=>?_;refine Ru.bH b (up (P:=λk=>(∀j(hj:j<o.length),o.length - k<=j->o[j]% 2≠0)->Ru ac _ S ([(p5,aI ((o.length:Int) - 1 - k))]++pk V [p1,p2]) R) o.length (λk hk u v=>?_) 0 aa (λj hj d=>by omega)) (by simp;exact⟨rfl,trivial⟩);subst z;subst b;refine Ru.loop (ab ?_);refine Ru.cond (λ(A:(0:Int)<=(o.length:Int) - 1 - k)=>?_) (λ(A:¬(0:Int)<=(o.length:Int) - 1 - k)=>?_)
 .have u:=u (k+1) aa aa;obtain⟨t,W⟩:∃t:Nat,(o.length:Int) - 1 - k=(t:Int):=⟨o.length - 1 - k,aa⟩;have a1:t=o.length - 1 - k:=aa;have f:t<o.length:=aa;rw[W];refine ab ?_;refine RO.fA U.gr s (λL M i l=>ab ?_) (j:=t);have w:=Q _ (abO f);have m:=λh1 h2=>aeb (g:=g) (o:=o) (k:=t) f h1 h2;generalize n:o[t]=x at*;obtain⟨x,rfl⟩:∃y:Nat,x=y:=⟨x.toNat,aa⟩;have⟨_,p,r⟩:=w;rw[aeY]at p r m;have X:fO .quo 3 (x:Int) (.ofNat 2)=some (aN (x/2)):=by simp only[fO];rw[an bt,show((x:Int).tdiv (ah0 2))=((x/2:Nat):Int)from by rw[ag0,Int.tdiv_eq_ediv_of_nonneg aa];simp,mY aa aa];rfl
  refine ab ?_;refine RO.ad9 (a:=x) (b:=2) (ab ?_);refine Ru.cond (λ(h0:x % 2=0)=>?_) (λ(h0:¬x % 2=0)=>?_);·rw[m (λj hj d=>v j hj aa) aa]at h;rw[aE,aZ p]at r h;refine ab ?_;refine RO.fA U.gr s (λL M i l=>?_) (j:=t);rw[n]at l;refine ab ?_;refine RO.arith (RO.bL U.gr bz (λq1 o1 c1 a2 B a6 hat hrd=>?_) (j:=x/2)) (hv:=X);generalize g.aj[x/2]=B2 at*;obtain⟨a8,N,a',rfl,_,_,ba,bb,C,rfl,_,_,a⟩:=B;have⟨O,_,_,_⟩:=a.all;refine ab ?_;refine RO.aW (v:=C) (RO.bL U.gr a (λL M c8 i E bc hat hrd=>?_) (j:=1)) (hc:=hat 6 _ rfl);obtain⟨ve,rfl,_⟩:=E;rw[aZ aa]at h;refine ab ?_;exact Ru.aL (h _ U.gr)
  refine ab ?_;refine RO.sub (a:=(t:Int)) (b:=1) (ab ?_);rw[show((t:Int) - 1)=(o.length:Int) - 1 - (k+1:Nat)by omega];exact Ru.wk (u λj hj d=>by
   by_cases e:j=t;·subst e;rw[n];omega
   exact v j hj aa)
 refine Ru.exitTo ?_;have Y:mD g o=none:=aea λx w=>by obtain⟨j,hj,rfl⟩:=ahd w;exact v j hj aa
 rw[Y]at h;refine ab ?_;exact Ru.aL (h _ U.gr)
end
end
section
variable{ac:Nat->aX}
theorem _root_.Go.al.ak.acN(U:ak I V (tZ L::tZ W::s)):ak I V (tZ (L++W)::s):=by
 refine U.ie.as 0 rfl λi a=>⟨λu hu=>?_,a.2⟩;rcases ac6.1 hu with hu|hu;·have⟨f,b,c⟩:=a.1 _ (acj ..);have⟨d,e,h⟩:=c.1 u hu;exact⟨d,λj hj=>b j (e j hj),h⟩
 exact a.1 u (ab8 _ hu)
theorem _root_.Go.al.ak.acO{G:List Th}(U:ak I V (tZ L::W))(h:∀t∈G,∃t0∈L,∀b f,t0.P b f->t.P b f):ak I V (tZ (G++L)::W):=by
 refine U.as 0 rfl λe a=>⟨λu hu=>?_,a.2⟩;rcases ac6.1 hu with hu|hu;·have⟨t0,h0,h1⟩:=h u hu;have⟨f,c,d⟩:=a.1 _ h0;exact⟨f,c,h1 _ _ d⟩
 exact a.1 u hu
theorem fG.Ca(h:fG H D L)(hs:∀t∈L,t∈W):fG H D W:=⟨h.len,λb hb=>hs _ (h.mem b hb)⟩
theorem fG.set(h:fG H D L)(a:b<H.length){l:List Int}(c:tR 1 (l.map aI) l.length J∈L):fG (H.set b l) (D.set b J) L:=by
 have hl:=h.len;refine⟨by simpa using hl,λd hb=>?_⟩;rw[air]at hb;rw[dA a,dA aa];by_cases e:d=b;·rw[aF e,aF e];exact c
 rw[an e,an e];exact h.mem d hb
theorem Gp:∀n,((ahq n).flatMap λk=>[aI (w.getD k (0,[])).1,vs k]).length=n*2|0=>rfl|n+1=>by rw[ah9,ahH,ae8,Gp n];simp;omega
theorem Gq(a:b<w.length):(lz w vs)[0+b*2]?=some (aI (w.getD b (0,[])).1)/\(lz w vs)[0+b*2+1]?=some (vs b):=by
 unfold lz;obtain⟨d,hd⟩:∃d,w.length=b+1+d:=⟨w.length - (b+1),aa⟩;rw[hd,ahw];clear hd a;induction d with
 |zero=>
  rw[aiV,ah9,ahH,ahW];have hl:=Gp (w:=w) (vs:=vs) b;constructor;·rw[ais aa,hl,Nat.sub_self];rfl
  rw[ais aa,hl];simp
 |succ d c=>have hl:=Gp (w:=w) (vs:=vs) (b+1+d);rw[<-aiD,ah9,ahH,ahE aa,ahE aa];exact c
def vJ(f h i d e:ah)(g:G.aM)(j:AV)(F:List Th)(a:List Bool)(b:List AV)(c:Bool):List Th:=[tZ F,tB mh f [.slice d 0 g.aj.length g.aj.length true,.slice e 0 g.aj.length g.aj.length true,.bool c],tS xE 1 b g.aj.length true (.slice e 0 g.aj.length g.aj.length true),tS 4 1 (a.map .bool) g.aj.length true (.slice d 0 g.aj.length g.aj.length true),tB mh h [.bj,.bj,.bool false],tB cA i [.str g.i7,aI g.i4,aI g.aO,j]]
theorem jw.zero(i:jh Y):jw Y wo (if wo≠0 then(ab7 Y.aj.length false).set 0 true else ab7 Y.aj.length false) (ab7 Y.aj.length []):=by
 have a:=i.ne;have c:∀b,(ab7 Y.aj.length ([]:List Int)).getD b []=[]:=λb=>by simp only[ahi,ahX];split<;>rfl
 have d:∀b,(ab7 Y.aj.length false).getD b false=false:=λb=>by simp only[ahi,ahX];split<;>rfl
 by_cases h:wo≠0
 .rw[aF h];have j:∀b,((ab7 Y.aj.length false).set 0 true).getD b false=true->b=0:=λb hb=>by
   rw[dA (by simpa using a)]at hb;by_cases e:b=0;·exact e
   rw[an e,d]at hb;cases hb
  have f:=nj (come:=ab7 Y.aj.length false) (k:=0) (by simpa using a) (d 0);rw[vt]at f;refine⟨aC,aC,λ_=>by rw[dA (by simpa using a),aF rfl],λb _=>c b,λb hb=>?_,λb hb=>?_⟩;·rw[c,j b hb];exact .zero h
  rw[c];simp only[List.length_nil];omega
 rw[an h];exact⟨aC,aC,λh0=>absurd h0 h,λb _=>c b,λb hb=>(by rw[d]at hb;cases hb),λb hb=>(by rw[d]at hb;cases hb)⟩
theorem vK(T:Tb ac)(hg:dc I Y D)(hB:G.Sm Y)(hS:jh Y)(ea:Y.aj.length<=30)(h:∀H' S Q o F d aA q,jx Y wo d aA q->(∀b,fc Y wo d aA q b)->fG aA o F->ak I H' [tZ F,tS xE 1 o Y.aj.length true (.slice Q 0 Y.aj.length Y.aj.length true),tS 4 1 (d.map .bool) Y.aj.length true (.slice S 0 Y.aj.length Y.aj.length true)]->c (.agg [.slice S 0 Y.aj.length Y.aj.length true,.slice Q 0 Y.aj.length Y.aj.length true,.bool q]) H'):YN ac Wl [.agg D,aI wo] I c:=by
 have eb:=hg.one;have cE:=hg;obtain⟨vb,rfl,bz⟩:=hg;have⟨el,_,_,et⟩:=bz.all;have cR:=hS.ne;refine YF.code T.YJ aC (au ?_);refine RO.bZ (ak.bM I) λH1 q2 U=>?_;refine RO.dL U λH2 X U=>?_;refine ab ?_;refine RO.jq U (n:=Y.aj.length) (λH3 S U=>?_) (hz:=by rw[eE];simp);refine ab ?_;refine RO.jq U (n:=Y.aj.length) (λH4 Q U=>?_) (hz:=by rw[eE];simp);refine ab ?_;refine RO.dD U λH5 Z U=>?_;have U:=U.mZ 3 1;have U:=(U.as 0 rfl λfp hp=>tS.iu hp).Gk;rw[eE,eE]at U;have U:ak I H5 (vJ Z X q2 S Q Y vb [tR 1 [] 0 .bj] (ab7 Y.aj.length false) (ab7 Y.aj.length .bj) false):=by unfold vJ;rw[aio];exact U
 have l:fG (ab7 Y.aj.length []) (ab7 Y.aj.length .bj) [tR 1 [] 0 .bj]:=⟨aC,λb hb=>by rw[aif]at hb;rw[aZ (by simpa using hb),aZ (by simpa using hb),List.getElem_replicate,List.getElem_replicate];exact acj ..⟩;refine RO.nil (Ru.seq (Ru.oJ (P:=λM H'=>M=[(p1,aI wo),(p2,.aD q2 0),(p4,.aD X 0),(p5,aN Y.aj.length),(p6,.aD Z 0)]/\ak I H' (vJ Z X q2 S Q Y vb [tR 1 [] 0 .bj] (if wo≠0 then(ab7 Y.aj.length false).set 0 true else ab7 Y.aj.length false) (ab7 Y.aj.length .bj) false)) (λM H6⟨hM,U⟩=>?_) (λs' r=>?_)));rotate_left
 .refine ab ?_;refine Ru.cond (λv=>?_) (λv=>?_);·have v:wo≠0:=v;rw[aF v]at r;refine ab ?_;refine RO.fD (f:=AV.bool) (zs:=ab7 Y.aj.length false) U 3 true (n:=Y.aj.length) (aif ..) (λH6 U=>ab ?_) (k:=0) (ho:=by simpa using cR);exact r _ _ _ ⟨rfl,U⟩ dw
  have v:¬wo≠0:=v;rw[an v]at r;refine ab ?_;exact r _ _ _ ⟨rfl,U⟩ dw
 subst hM;have s:=jw.zero (wo:=wo) hS;generalize(if wo≠0 then(ab7 Y.aj.length false).set 0 true else ab7 Y.aj.length false)=d7 at*;generalize [tR 1 [] 0 .bj]=F0 at*;generalize ab7 Y.aj.length AV.bj=ec at*;generalize ab7 Y.aj.length ([]:List Int)=ei at*;refine ab ?_;refine Ru.nm λS0 M c8 hM=>Ru.bH hM (dn (P:=λm=>∀C d aA o F q E,(if E=true then fX d+1 else 0)=m->jx Y wo d aA q->fG aA o F->(E=false->∀b,fc Y wo d aA q b)->ak I C (vJ Z X q2 S Q Y vb F d o q)->Ru ac _ S0 ([(p7,.bool E)]++pk M [p1,p2,p4,p5,p6]) C) (λm ih C d aA o F q E c9 s l A U=>?_) _ _ _ _ _ _ false true rfl ⟨s,λh=>by cases h⟩ l (λh=>by cases h) U);subst c8;subst hM;refine Ru.loop (ab ?_);refine Ru.d9 (λa2=>?_) (λa2=>?_)
 .subst a2;simp only[bg]at c9;refine ab ?_;refine Ru.nm λS1 M1 c' bc=>Ru.bH bc (up (P:=λk=>∀C d aA o F q E,(E=true->fX d+1<m)->fX d+1<=m->jx Y wo d aA q->fG aA o F->(E=false->∀b,b<k->fc Y wo d aA q b)->ak I C (vJ Z X q2 S Q Y vb F d o q)->Ru ac _ S1 ([(p8,aN k),(p7,.bool E)]++pk M1 [p1,p2,p4,p5,p6]) C) Y.aj.length (λb hb a6 C d aA o F q E B L s l A U=>?_) 0 aa _ d aA o F q false (λh=>by cases h) aa s l (λ_ b hb=>by omega) U);subst c';subst bc;refine Ru.loop (ab ?_);refine Ru.cond (λbv=>?_) (λbv=>?_)
  .have b0:=s.lc;have b3:=s.lo;have b4:=l.len;refine ab ?_;refine RO.ir U 2 λH6 v9 U=>?_;have⟨ew,_,_,e0⟩:=(U.sl 0 rfl).all;refine RO.bf (RO.nil (Ru.seq (Ru.oJ (P:=λM H'=>∃w vs F' wv,M=[(p9,wv),(p1,aI wo),(p2,.aD q2 0),(p4,.aD X 0),(p5,aN Y.aj.length),(p6,.aD Z 0),(p7,.bool E),(p8,aN b)]/\(d.getD b false=true->w=fU Y b (aA.getD b []))/\(d.getD b false=false->w=[])/\w.length<=12/\(∀k,k<w.length->tR 1 ((w.getD k (0,[])).2.map aI) (w.getD k (0,[])).2.length (vs k)∈F')/\fG aA o F'/\ak I H' (tS pG 2 (lz w vs) w.length true wv::vJ Z X q2 S Q Y vb F' d o q)) (λM H7⟨w,vs,F',wv,hM,b6,dm,ej,dr,l,U⟩=>?_) (λs' r=>?_))));rotate_left
   .have ds:(d.map AV.bool)[0+b*1]?=some (.bool (d.getD b false)):=by rw[show 0+b*1=b by omega,ahB,getElem?_pos d b aa,aZ aa];rfl
    refine ab ?_;refine RO.cJ U 4 (hv:=ds) (ab ?_);refine Ru.d9 (λv=>?_) (λv=>?_)
    .have dv:o[0+b*1]?=some (o.getD b .bQ):=by rw[show 0+b*1=b by omega,getElem?_pos o b aa,aZ aa]
     have hF:=l.mem b aa;obtain⟨_,b7,_,_⟩:=U.jr 1 rfl hF;have⟨e1,_,_,_⟩:=b7.all;obtain⟨N,a8⟩:=(s.snd b v).ok hS;have cy:=s.iw b v;refine ab ?_;refine RO.bT U 6 (ab ?_);refine RO.cJ U 3 (hv:=dv) (RO.cl (Gl T (bV.eY U.gr cE) hB N (hS.t3 b N) b7 aa a8 λH7 wv vs Fw dx hl=>?_));have U:=U.cH hl;have ag:=(hl.sl 1 rfl).all.1;refine ab ?_;have dy:=((U.sub (.cons_cons _ (.cons_cons _ (.cons _ (ahM _))))).bO (ah6 _ (ah5 _ _ _))).acN;have dz:(fU Y b (aA.getD b [])).length<=12:=by
      have:=(hB.bl _ (abO N)).2.2.2.2.1;unfold fU;split;·simp
      split;·split<;>simp
      rw[ahs,aE,aZ N];omega
     generalize fU Y b (aA.getD b [])=w at*;have d0:=(dy.acO (G:=(ahq w.length).map λk=>tR 1 ((w.getD k (0,[])).2.map aI) (w.getD k (0,[])).2.length (vs k)) λt P=>by
      obtain⟨k,hk,rfl⟩:=ahm.1 P;rw[ahR]at hk;rcases dx k hk with h9|h9;·exact⟨_,ahj _ h9,λ_ _ h=>h⟩
      exact⟨_,ahu _ hF,λ_ _ h=>MB h9 h⟩).bO (ah5 _ _ _);exact r _ _ _ ⟨w,vs,_,wv,rfl,λ_=>rfl,λh=>(by rw[v]at h;cases h),dz,λk hk=>ahj _ (ahm.2 ⟨k,ahR.2 hk,rfl⟩),l.Ca λt P=>ahu _ (ahu _ P),d0⟩ dw
    refine ab ?_;exact r _ _ _ ⟨[],λ_=>.bj,F,v9,rfl,λh=>(by rw[v]at h;cases h),λ_=>rfl,aC,λk hk=>absurd hk aC,l,U⟩ dw
   subst hM;have ek:b<Y.aj.length:=bv;refine ab ?_;have a6:=a6 (b+1) aa aa;refine Ru.nm λS2 M2 d1 b'=>Ru.bH b' (up (P:=λj=>∀C a f p n z,(z=true->fX a+1<m)->fX a+1<=m->jx Y wo a f n->fG f p F'->(d.getD b false=true->a.getD b false=true/\f.getD b []=aA.getD b [])->(z=false->a.getD b false=d.getD b false/\(∀V,V<b->fc Y wo a f n V)/\∀i,i<w.length->i<j->yr wo a f n (w.getD i (0,[])))->ak I C (tS pG 2 (lz w vs) w.length true wv::vJ Z X q2 S Q Y vb F' a p n)->Ru ac _ S2 ([(dS,aN j),(p7,.bool z)]++pk M2 [p1,p2,p4,p5,p6,p8,p9]) C) w.length (λj hj O C a f p n z B L s l R A U=>?_) 0 aa _ d aA o q E B L s l (λh=>⟨h,rfl⟩) (λh=>⟨rfl,A h,λi _ hi=>by omega⟩) U);subst d1;subst b';have ag:=(U.sl 0 rfl).all;have e2:=ag.2.2.2;have ag:=ag.1;have b0:=s.lc;have b3:=s.lo;have b4:=l.len;refine Ru.loop (ab ?_);refine Ru.cond (λu=>?_) (λu=>?_)
   .have ca:d.getD b false=true:=by cases W:d.getD b false with|true=>rfl|false=>rw[dm W]at u;simp at u
    obtain⟨y,av⟩:=R ca;have a':w.getD j (0,[])∈fU Y b (f.getD b []):=by rw[av,<-b6 ca,aZ u];exact abO u
    obtain⟨N,a8⟩:=(s.snd b y).ok hS;obtain⟨⟨e3,e4⟩,e5,e6⟩:=oK hS N a8 _ a';have cy:=s.iw b y;have hF:=dr j u;have O:=O (j+1) aa aa;have aw:z=false->yr wo a f n (w.getD j (0,[]))->a.getD b false=d.getD b false/\(∀V,V<b->fc Y wo a f n V)/\∀i,i<w.length->i<j+1->yr wo a f n (w.getD i (0,[])):=λh hd=>by
     obtain⟨ba,bb,a3⟩:=A h;refine⟨ba,bb,λi hi d2=>?_⟩;by_cases e:i=j;·subst e;exact hd
     exact a3 i hi aa
    obtain⟨cd,cf⟩:=Gq (vs:=vs) u;generalize d3:w.getD j (0,[])=wj at*;obtain⟨t,P⟩:∃t:Nat,wj.1=t:=⟨wj.1.toNat,aa⟩;rw[P]at cd;have e7:t<Y.aj.length:=aa;obtain⟨qw,cap,ex,rfl⟩:=U.jp 0 rfl aa;obtain⟨_,ax,_,_⟩:=U.jr 1 rfl hF;have⟨e8,e9,e',_⟩:=ax.all;refine ab ?_;refine RO.cJ U 0 (hv:=cd) (ab ?_);refine Ru.cond (λv=>?_) (λv=>?_)
    .have v:wj.1=wo:=by rw[P];exact v
     refine ab ?_;exact Ru.wk (O _ a f p n z B L s l R (λh=>aw h (.inl v)) U)
    have v:wj.1≠wo:=by rw[P];exact v
    have d4:(a.map AV.bool)[0+t*1]?=some (.bool (a.getD t false)):=by rw[show 0+t*1=t by omega,ahB,getElem?_pos a t aa,aZ aa];rfl
    refine ab ?_;refine RO.cJ U 4 (hv:=d4) (ab ?_);refine Ru.d9 (λJ=>?_) (λJ=>?_)
    .have J:a.getD t false=false:=by simpa using J
     have cn:b≠t:=λe=>by rw[<-e,y]at J;cases J
     have fa:=nj aa J;refine ab ?_;refine RO.cJ U 0 (hv:=cf) (ab ?_);refine RO.acM (f:=AV.bool) (zs:=a) U 4 true b0 (k:=t) (λH8 U=>⟨λaf d5=>?_,?_⟩);·obtain⟨_,hp⟩:=U.get 2 rfl;exact ev (i:=Z) (o:=1) (v:=.slice Q 0 Y.aj.length Y.aj.length true) d5 (by(conv=>lhs;whnf)<;>rfl) (by(conv=>lhs;whnf)<;>rfl) rfl (by simp[eV,cD,ah.ft]) (tB.cell hp rfl) rfl
     refine ab ?_;refine RO.vr U 3 (n:=Y.aj.length) (vs:=p) aa (k:=t) (w:=vs j) (λH9 U=>ab ?_);have ay:=s.add hS y a' v (by rw[P,aeY];exact J);rw[P,aeY]at ay;exact Ru.wk (O _ (a.set t true) (f.set t wj.2) (p.set t (vs j)) n true (λ_=>by omega) aa ⟨ay,s.Gn⟩ (l.set aa hF) (λh=>by rw[dA aa,dA aa,an cn,an cn];exact⟨y,av⟩) (λh=>by cases h) U)
    have J:a.getD t false=true:=by simpa using J
    have d6:p[0+t*1]?=some (p.getD t .bQ):=by rw[show 0+t*1=t by omega,getElem?_pos p t aa,aZ aa]
    obtain⟨_,a1,_,_⟩:=U.jr 1 rfl (l.mem t aa);have⟨fb,_,_,_⟩:=a1.all;have d':=s.iw t J;refine ab ?_;refine RO.cJ U 3 (hv:=d6) (ab ?_);refine RO.cJ U 0 (hv:=cf) (RO.cl (Ar T a1 ax aa (λg3=>?_) (λg3=>?_)));·refine ab ?_;exact Ru.wk (O _ a f p n z B L s l R (λh=>aw h (.inr (by rw[P,aeY];exact⟨J,λ_=>g3⟩))) U)
    refine ab ?_;refine RO.dO U 2 (λH8 U=>ab ?_);have cp:∀w,yr wo a f n w->yr wo a f true w:=λw hw=>hw.imp id λh=>⟨h.1,λh=>by cases h⟩;have cv:=gT.step (s.snd b y) a' v;rw[P,aeY]at cv;exact Ru.wk (O _ a f p true z B L ⟨s.toFlI,λ_=>⟨t,_,_,s.snd t J,cv,g3⟩⟩ l R (λh=>by
     obtain⟨ba,bb,a3⟩:=A h;refine⟨ba,λV cx W x hx=>cp _ (bb V cx W x hx),λi hi d2=>?_⟩;by_cases e:i=j;·subst e;rw[d3];exact .inr (by rw[P,aeY];exact⟨J,λh=>by cases h⟩)
     exact cp _ (a3 i hi aa)) U)
   refine Ru.exitTo ?_;refine ab ?_;refine Ru.wk (a6 C a f p F' n z B L s l (λh V cx=>?_) U.tail);obtain⟨ba,bb,a3⟩:=A h;by_cases e:V=b;·subst e;intro W x hx;rw[ba]at W;rw[(R W).2,<-b6 W]at hx;obtain⟨i,hi,rfl⟩:=ahd hx;have:=a3 i hi aa;rw[aZ hi]at this;exact this
   exact bb V aa
  refine Ru.exitTo ?_;obtain rfl:b=Y.aj.length:=aa;refine ab ?_;refine Ru.wk (ih _ ?_ C d aA o F q E rfl s l (λh x=>?_) U);·cases E with|true=>rw[aF rfl];exact B rfl|false=>rw[an aC];omega
  by_cases hx:x<Y.aj.length;·exact A h x hx
  intro W;have:=s.lc;rw[ahi,ah1 aa]at W;cases W
 subst a2;refine Ru.exitTo ?_;have b3:=s.lo;have b4:=l.len;refine ab ?_;refine RO.bT U 1 ?_;refine RO.eT U 4 (λH7 U=>?_);refine ab ?_;exact Ru.je (vs:=[_]) ⟨⟨X,0,rfl,U.agg 4⟩,trivial⟩ (h H7 S Q o F d aA q s (A rfl) l (U.sub (.cons_cons _ (.cons _ (.cons_cons _ (.cons_cons _ (.cons _ (.cons _ .slnil))))))))
end
end Go.al.R
end
