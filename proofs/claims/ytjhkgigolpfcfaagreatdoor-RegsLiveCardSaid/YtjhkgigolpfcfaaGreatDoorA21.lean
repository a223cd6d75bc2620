/- A part of the proof. No conditions. -/
import Derived.Test.YtjhkgigolpfcfaaGreatDoorA20
set_option linter.all false
set_option maxHeartbeats 16000000
open Option.some renaming injEq->adG
open List renaming mem_singleton->aep,mem_cons_of_mem->aey,mem_cons_self->aeU,replicate->ahr,range->ake,length_map->akg,getElem?_append_left->akw,nodup_cons->akz,length_singleton->akC,length_take->akF,nodup_append->akI,range_succ->alb,pairwise_cons->alq
open Nat renaming le_of_ble_eq_true->akc,blt->akv,blt_eq->akY,add_assoc->alo
open Int renaming ofNat->ak1
open List.Perm renaming cons->akO,swap->akS
open Eq renaming mpr->alN
open List.Pairwise renaming nil->alQ
noncomputable section
namespace Go.am.R
section
variable{g:G.bu}{come:List Bool}{os:List (List bV)}
abbrev aH(g:G.bu)(b:Nat):G.gV:=g.al.getD b default
structure vC(g:G.bu):Prop where
 v0:0<=g.bp
 p0:0<=g.params
 qA:∀b∈g.al,∀p∈dC b,g.params<=p.1/\p.1<g.bp
 nd:∀b∈g.al,((dC b).map (·.1)).Nodup
 one:∀i j,i<g.al.length->j<g.al.length->∀v p q,(v,p)∈dC (aH g i)->(v,q)∈dC (aH g j)->i=j
 all:∀v:Int,g.params<=v->v<g.bp->∃i p,i<g.al.length/\(v,p)∈dC (aH g i)
theorem oC{b:Nat}(h:b<g.al.length):aH g b∈g.al:=by grind
theorem JD{k:Nat}{v:Int}(b:0<=v):∀(l a:List (Int×Int)),(∀p∈l,0<=p.1/\p.1≠v)->(qz k a l).getD v.toNat (-1, -1)=a.getD v.toNat (-1, -1)|[],a,_=>rfl|p::l,a,h=>by have h1:=h p (aeU ..);show(qz k (a.set p.1.toNat ((k:Int),p.2)) l).getD _ _=_;rw[JD b l _ λq c=>h q (aey _ c)];simp only[akm,List.getElem?_set];rw[aq af]
theorem PF{k:Nat}{v p:Int}:∀(l a:List (Int×Int)),(l.map (·.1)).Nodup->(∀q∈l,0<=q.1/\q.1.toNat<a.length)->(v,p)∈l->(qz k a l).getD v.toNat (-1, -1)=((k:Int),p)
 |[],a,_,_,h=>by cases h
 |q::l,a,c,d,h=>by
  rw[aj7,akz]at c;have f:=d q (aeU ..);show(qz k (a.set q.1.toNat ((k:Int),q.2)) l).getD _ _=_;rcases aeV.1 h with rfl|h;·rw[JD f.1 l _ λr b=>⟨(d r (aey _ b)).1,λe=>c.1 (by rw[<-e];exact akp b)⟩,fu f.2,aK rfl]
  exact PF l _ c.2 (λr b=>by have:=d r (aey _ b);rw[ak4];exact this) h
theorem vC.at(h:vC g){i:Nat}{v p:Int}(hi:i<g.al.length)(c:(v,p)∈dC (aH g i)):(jZ g).getD v.toNat (-1, -1)=((i:Int),p):=by
 have f:=h.qA _ (oC hi) _ c;have h0:=h.p0;have key:∀k,k<=g.al.length->i<k->(mj g g.bp.toNat k).getD v.toNat (-1, -1)=((i:Int),p):=by
  intro k;induction k with
  |zero=>intro _ h;omega
  |succ k j=>
   intro m l;have a:=oC (g:=g) (b:=k) af;have d:∀q∈dC (aH g k),0<=q.1/\q.1.toNat<(mj g g.bp.toNat k).length:=λq b=>by have:=h.qA _ a q b;rw[E8];simp only at*;omega
   show(qz k _ (dC (aH g k))).getD _ _=_;by_cases e:i=k;·subst e;exact PF _ _ (h.nd _ a) d c
   rw[JD (by simp only at f;omega) _ _ λq b=>⟨(d q b).1,λe2=>e (h.one i k hi af v p q.2 c (by rw[<-e2];exact b))⟩];exact j af af
 exact key _ (afb _) hi
theorem PG:∀(l:List G.ic)(i:Nat)(p:Int×Int),p∈ja l i->(i:Int)<=p.2/\p.2<i+l.length
 |[],i,p,h=>by cases h
 |s::l,i,p,h=>by
  simp only[ja,ahp]at h;rcases h with h|h;·grind
  have:=PG l (i+1) p h;grind
theorem aeZ{b:G.gV}{v p:Int}(h:(v,p)∈dC b):p= -1\/0<=p/\p<b.aD.length:=by
 simp only[dC,ahp,akk]at h;rcases h with⟨x,_,h⟩|h;·grind
 have:=PG _ _ _ h;omega
def rq(g:G.bu)(b:Nat)(v bH:Int):Prop:=∀p,(v,p)∈dC (aH g b)->bH<=p
def oD(g:G.bu)(o:List bV):Option Int:=(o.reverse.find? λx=>x.2==0).map λx=>((aH g x.1.toNat).aA.go.getD 1 default).block
inductive Lv(g:G.bu)(os:List (List bV)):Nat->Int->Prop
 |qQ{b:Nat}{v bH:Int}(h:(v,bH)∈kF (aH g b))(hn:rq g b v bH):Lv g os b v
 |ls{b w:Nat}{v:Int}(hw:w∈wW g os b)(h:Lv g os w v)(hn:rq g b v (aH g b).aD.length):Lv g os b v
 |sC{b:Nat}{t v:Int}(ht:oD g (os.getD b [])=some t)(h:Lv g os t.toNat v)(hn:rq g b v 0):Lv g os b v
theorem ae0{o:List bV}{t:Int}(h:oD g o=some t):∃x∈o,x.2=0/\t=((aH g x.1.toNat).aA.go.getD 1 default).block:=by unfold oD at h;cases h2:o.reverse.find? λx=>x.2==0 with|none=>grind|some x=>grind
theorem pI.ne{W:Nat->List Nat}{d b:Nat}(h:pI W d b):b≠d:=by cases h with|zero h=>omega|step _ _ h=>omega
theorem gO.JE{W:Nat->List Nat}{d:Nat}:gO W d d:=λh=>h.ne rfl
theorem gO.trans{W:Nat->List Nat}{a b c:Nat}(h1:gO W a b)(h2:gO W b c):gO W a c:=by
 intro h;have key:∀x,pI W a x->pI W a b\/pI W b x:=λx f=>by
  induction f with
  |zero h=>
   by_cases e:0=b;·left;rw[<-e];exact .zero h
   exact .inr (.zero e)
  | @step x y f g i d=>
   rcases d with d|d;·exact .inl d
   by_cases e:y=b;·left;rw[<-e];exact .step f g i
   exact .inr (.step d g e)
 rcases key c h with h|h;all_goals trivial
theorem cX.sF(c:jm g)(a:cX g come os){b:Nat}{o:List bV}(h:lN g b o):come.getD b false=true/\os.getD b []=o:=by induction h with|zero=>exact⟨a.c0,c.E1 (a.dO 0 a.c0) .zero⟩| @step b o w h d e=>obtain⟨h1,h2⟩:=e;have h3:=a.dn b h1 w (by rw[h2];exact d);exact⟨h3,c.E1 (a.dO _ h3) (.step h d)⟩
theorem E9{b:Nat}{w:Int×List bV}(a:w∈cS g b (os.getD b [])):w.1.toNat∈wW g os b:=akp a
theorem JF{b:Nat}{o:List bV}{w:Int×List bV}(a:w∈cS g b o){x:bV}(c:x∈w.2):x∈o\/x.1=b/\(aH g b).aA.op=67:=by simp only[cS]at a;grind
theorem lN.ae1(a:jm g)(c:cX g come os){b:Nat}{o:List bV}(h:lN g b o):∀x∈o,∃t:Nat,x.1=t/\come.getD t false=true/\(aH g t).aA.op=67:=by
 induction h with
 |zero=>simp
 | @step b o w h d f=>
  intro x e;rcases JF d e with h1|⟨h1,h2⟩;·grind
  exact⟨b,h1,(c.sF a h).1,h2⟩
theorem pI.xx(i:jm g)(f:cX g come os){d b:Nat}(h:pI (wW g os) d b):come.getD b false=true/\∀x∈os.getD b [],x.1≠(d:Int):=by
 induction h with
 |zero h=>refine⟨f.c0,λx c=>?_⟩;rw[(f.sF i .zero).2]at c;cases c
 | @step a x h c m l=>
  obtain⟨h1,h2⟩:=l;refine⟨f.ls h1 c,λy j=>?_⟩;simp only[wW,mK,akk]at c;obtain⟨w,k,rfl⟩:=c;have hl:=f.dO a h1;rw[(f.sF i (.step hl k)).2]at j;rcases JF k j with h3|⟨h3,_⟩;·exact h2 y h3
  rw[h3];exact λe=>h.ne af
theorem PH(a:jm g)(c:cX g come os){b t:Nat}{k:Nat}(h:(((t:Int),k):bV)∈os.getD b []):gO (wW g os) t b:=λd=>(d.xx a c).2 _ h rfl
theorem ae2{ak:List Nat}(i:e9 g come os ak){cO a:List Nat}{t:Nat}(e:ak=cO++t::a):∀(n x:Nat),cO[n]?=some x->pI (wW g os) t x:=by
 have c:=i.nd;have d:∀x∈cO,x≠t:=λx b h=>by rw[e]at c;exact(akI.1 c).2.2 x b t (aeU ..) h
 intro n;induction n using Nat.strongRecOn with
 |ind n k=>
  intro x b;obtain⟨j,b⟩:=akR.1 b;have f:=d x (by rw[<-b];exact agB j);have e2:ak=cO.take n++x::(cO.drop (n+1)++t::a):=by
   rw[e];conv=>lhs;rw[<-ala n cO,aj9 j,b]
   simp
  rcases i.aM _ _ _ e2 with h|⟨y,l,o⟩;·rw[h];exact .zero af
  obtain⟨m,p,rfl⟩:=aka l;rw[akF]at p;refine .step (k m af _ ?_) o f;rw[List.getElem_take,akP af]
theorem ae3(d:jm g)(c:cX g come os){ak:List Nat}(f:e9 g come os ak){b t:Nat}{k:Nat}(hb:come.getD b false=true)(h:(((t:Int),k):bV)∈os.getD b []):t≠b:=by
 rintro rfl;obtain⟨cO,n,e⟩:=List.append_of_mem ((f.mem t).2 hb);rcases f.aM _ _ _ e with h0|⟨y,o,a⟩;·subst h0;rw[(c.sF d .zero).2]at h;cases h
 obtain⟨m,p,rfl⟩:=aka o;have j:=ae2 f e m _ (akP p);obtain⟨h1,h2⟩:=j.xx d c;simp only[wW,mK,akk]at a;obtain⟨w,a,q⟩:=a;have l:=(c.sF d (.step (c.dO _ h1) a)).2;rw[q]at l;rw[l]at h;rcases JF a h with i|⟨i,_⟩;·exact h2 _ i rfl
 exact j.ne (by simp only at i;omega)
theorem e9.rk{ak:List Nat}(a:e9 g come os ak)(n:Nat)(c:∀b∈ak,b<n):Rk (wW g os) ak ((ake n).map λb=>ak.idxOf b):=by refine⟨a.nd,a.hd,a.aM,λi h=>?_⟩;have hi:=c _ (agB h);rw[bF (by grind)];simp only[akN,alA];exact a.nd.idxOf_getElem i h
theorem gO.ae4(h:cX g come os){ak:List Nat}(e:e9 g come os ak){a b:Nat}(i:come.getD a false=true)(hb:come.getD b false=true)(h1:gO (wW g os) a b)(h2:gO (wW g os) b a):a=b:=by have f:=e.rk g.al.length λb hb=>h.lt ((e.mem b).1 hb);have c:=(e.mem a).2 i;have d:=(e.mem b).2 hb;exact f.inj c d (Nat.le_antisymm (f.fH _ b rfl d h1) (f.fH _ a rfl c h2))
abbrev AY(g:G.bu)(v:Int):Int:=((jZ g).getD v.toNat (-1, -1)).1
def Far(g:G.bu)(come:List Bool)(os:List (List bV))(b:Nat)(v:Int):Prop:=0<=v/\v<g.bp/\(v<g.params\/∃s:Nat,AY g v=s/\s≠b/\come.getD s false=true/\gO (wW g os) s b)
theorem E'(h:0<=g.bp):((jZ g).length:Int)=g.bp:=by grind[jZ,E8]
theorem vC.kq(a:vC g){v:Int}(h0:g.params<=v)(h1:v<g.bp):∃i p,i<g.al.length/\(v,p)∈dC (aH g i)/\(jZ g).getD v.toNat (-1, -1)=((i:Int),p):=by obtain⟨i,p,hi,b⟩:=a.all v h0 h1;exact⟨i,p,hi,b,a.at hi b⟩
theorem vD(f:jm g)(c:cX g come os){b:Nat}{t:Int}(hb:come.getD b false=true)(i:oD g (os.getD b [])=some t):∃u:Nat,(((u:Int),0):bV)∈os.getD b []/\come.getD u false=true/\t.toNat∈wW g os u/\come.getD t.toNat false=true/\0<=t:=by
 obtain⟨x,j,d,rfl⟩:=ae0 i;obtain⟨u,hu,a,e⟩:=(c.dO b hb).ae1 f c x j;have k:x=((u:Int),0):=by rw[<-hu,<-d]
 rw[hu,aj3];have h:(((aH g u).aA.go.getD 1 default).block,os.getD u []++[((u:Int),1)])∈cS g u (os.getD u []):=by simp only[cS];rw[aK e];simp
 have h2:=E9 h;refine⟨u,by grind,a,h2,c.ls a h2,(f.CP (c.dO u a) _ h).1⟩
theorem Lv.CS(n:jm g)(c:cX g come os)(F:yT g come os)(o:vC g){ak:List Nat}(B:e9 g come os ak){b:Nat}{v:Int}(h:Lv g os b v):come.getD b false=true->Far g come os b v:=by
 induction h with
 | @qQ b v bH h k=>
  intro hb;obtain⟨t,q,G,C⟩:=F.rd b hb _ h;subst q;have d:(t:Int)<g.bp:=by have:=E' o.v0;omega
  refine⟨aB,d,?_⟩;rcases C with C|⟨h1,h2⟩|⟨s,h1,h2,h3,a⟩;·omega
  .by_cases D:(t:Int)<g.params;·omega
   obtain⟨i,p,hi,l,he⟩:=o.kq (v:=(t:Int)) af d;rw[aj3]at he;rw[he]at h1 h2;have:i=b:=af;subst this;have:=k p l;omega
  exact .inr ⟨s,by grind,h2,h3,a⟩
 | @ls b w v E h k r=>
  intro hb;obtain⟨h0,h1,h2⟩:=r (c.ls hb E);by_cases D:v<g.params;·exact⟨h0,h1,.inl D⟩
  refine⟨h0,h1,h2.imp id λ⟨s,h3,a,x,m⟩=>⟨s,h3,λe=>?_,x,m.cO E a⟩⟩;subst e;obtain⟨i,p,hi,l,he⟩:=o.kq af h1;rw[AY,he]at h3;have:i=s:=af;subst this;have I:=k p l;have J:=aeZ l;omega
 | @sC b t v q h k r=>intro hb;obtain⟨u,hu,y,f,z,H⟩:=vD n c hb q;obtain⟨h0,h1,h2⟩:=r z;have A:=ae3 n c B hb hu;have j:=PH n c hu;refine⟨h0,h1,h2.imp id λ⟨s,h3,a,x,m⟩=>⟨s,h3,λe=>?_,x,(m.cO f a).trans j⟩⟩;subst e;exact A (gO.ae4 c B y hb j (m.cO f a))
end
def P4:ai->List Int->List AV->Prop:=λH l cs=>∃v,cs=[v]/\fZ H l v
abbrev CX(H:ai)(a:List (List Int))(v:AV):Prop:=dV 1 P4 H a v
theorem dQ.P5:dQ P4:=λhg⟨v,h1,h2⟩=>⟨v,h1,hg.sl h2⟩
structure lQ(lv:List (List Int))(vsl:List AV)(F:List Th):Prop where
 len:vsl.length=lv.length
 mem:∀b,b<lv.length->tR 1 ((lv.getD b []).map aI) (lv.getD b []).length (vsl.getD b .co)∈F
theorem lQ.sl{c:List (List Int)}{a:List AV}{F:List Th}(h:lQ c a F){A H:ai}{d:List Th}(U:aj A H d)(i:Nat)(hi:d[i]?=some (tZ F)){v:AV}(hs:Sl H 1 a a.length v):CX H c v:=by have hl:=h.len;refine⟨a,by rw[<-hl];exact hs,λb hb=>?_⟩;obtain⟨f,e,_⟩:=U.mf i hi (h.mem b hb);refine⟨a.getD b .co,?_,by rw[<-bF hb []];exact e⟩;rw[alt,aj9 af,bF af];rfl
theorem kG{L:Kn}{c b cs r:List AV}{off size:Nat}{x:aJ}{v:AV}{a:List (Nat×Nat×aJ)}(d:bf L x=v)(hd:v.bB=true)(e:v.cells=cs)(hs:cs.length=size)(hl:uq c off cs=some b)(f:qO L b a=some r):qO L c ((off,size,x)::a)=some r:=by simp only[qO,d,hd,e,hs,decide_true,alK,bq,hl,f]
theorem Qe{size:Nat}{j p:List AV}{n m:Nat}{nv v:AV}(b:∀H,Sl H size j n nv->Sl H size p m v){H:ai}{f:List ab}(h:(tR size j n nv).P H f):(tR size p m v).P H f:=by
 obtain⟨h1,h2,h3⟩:=h;refine⟨b H h1,λi o m c e w=>?_,h3⟩;apply akx;intro hi;have x:Sl (H.set i .none) size j n nv:=by
  rcases h1 with h|⟨k,q,cap,ex,r,s,t,d,aM,fz,a,g,u⟩;·exact .inl h
  have l:k≠i:=λe=>hi (e▸h2 _ _ _ _ _ a);exact .inr ⟨k,q,cap,ex,r,s,t,d,aM,fz,a,by rw[ai.aF,aq l];exact g,u⟩
 have a:=b _ x;subst w;rcases a with⟨h,_⟩|⟨k,q,cap,ex,r,s,t,d,aM,fz,a,g,u⟩;·cases h
 injection a with a;subst a;rw[ai.aF,aK rfl]at g;cases g
section
variable{ac:Nat->aG}
section
def ru(g:G.bu)(x:Int):Int:=((aH g (x.toNat/2)).aA.go.getD 2 default).block
def lu(g:G.bu)(b:Nat)(o:List Int):List (Int×List Int):=
 if(aH g b).aA.op=67 then[(((aH g b).aA.go.getD 0 default).block,o++[2*(b:Int)]),(((aH g b).aA.go.getD 1 default).block,o++[2*(b:Int)+1])]
 else if(aH g b).aA.op=68 then(if o.length=0 then[]else[(ru g (o.getD (o.length - 1) 0),o.take (o.length - 1))])
 else(aH g b).aA.go.map λe=>(e.block,o)
def wX(g:G.bu)(o:List Int):Prop:=∀x∈o,0<=x/\x.toNat/2<g.al.length/\(aH g (x.toNat/2)).aA.go.length=3
def rA(w:List (Int×List Int))(a:Nat->AV):List AV:=(ake w.length).flatMap λk=>[aI (w.getD k (0,[])).1,a k]
def afC(o:List Int)(c:AV)(w:List (Int×List Int))(a:Nat->AV)(F:List Th):Prop:=∀k,k<w.length->tR 1 ((w.getD k (0,[])).2.map aI) (w.getD k (0,[])).2.length (a k)∈F\/∀b,Sl b 1 (o.map aI) o.length c->Sl b 1 ((w.getD k (0,[])).2.map aI) (w.getD k (0,[])).2.length (a k)
theorem CY{b c:Type}{f g:b->List c}:∀{l:List b},(∀x∈l,f x=g x)->l.flatMap f=l.flatMap g|[],_=>rfl|a::l,h=>by rw[alp,alp,h a (aeU ..),CY λx d=>h x (aey _ d)]
theorem afD{w:List (Int×List Int)}{x:Int×List Int}{a:Nat->AV}:rA (w++[x]) a=rA w a++[aI x.1,a w.length]:=by
 unfold rA;rw[aj8,akC,alb,akD,akK];congr 1;·refine CY λk b=>?_;rw[ak3]at b;simp[akw b]
 simp
theorem _root_.Go.am.aj.Qg{A H:ai}{t:Th}{a:List Th}(U:aj A H (t::a)):aj A H (tZ [t]::a):=(U.rl.cM (akS t (tZ []) a)).lq
section
variable{g:G.bu}{H:ai}{cs:List AV}
theorem afE(T:Tb ac)(hg:iG H g cs)(hB:G.Sm g){b:Nat}(hb:b<g.al.length)(n:(aH g b).aA.op=67->(aH g b).aA.go.length=3){o:List Int}{a:AV}(q:fZ H o a)(cv:o.length<=1000)(hO:wX g o){K:KT}(h:∀H' wv vs F,afC o a (lu g b o) vs F->aj H H' [tZ F,tS nO 2 (rA (lu g b o) vs) (lu g b o).length true wv]->K wv H'):YN ac WN [.agg cs,aN b,a] H K:=by
 have b':=hg.one;obtain⟨vb,rfl,cA⟩:=hg;have⟨cx,_,_,cy⟩:=cA.all;have⟨Z,cE,ag,c3⟩:=q.all;have c5:=hB.nb;have av:=agB hb;have c9:=hB.bl _ av;have l:aH g b=g.al[b]:=by rw[aH,bF hb]
 rw[l]at n;refine YF.code T.abB aB ?_;refine ah ?_;refine RO.dL (aj.dc H) λH1 q3 U=>?_;refine ah ?_;refine RO.cZ U.gr cA (λq1 o1 c1 aw p ax hat hrd=>?_) (j:=b);unfold lu at h;rw[l]at h;generalize c':g.al[b]=B at*;obtain⟨vp,dm,jc,rfl,dr,ds,va,vk,vg,rfl,ay,a0,c⟩:=p;have⟨dv,_,_,dx⟩:=c.all;have⟨dy,dz,_,_⟩:=ay.all;have⟨d0,d1,_,_⟩:=a0.all;have d2:=c.ee;have ca:=I' (k:=2) (m:=5) hrd bA;refine ah ?_;refine RO.qS U 2 λH2 O U=>?_;have⟨d3,_,_,_⟩:=(U.sl (e:=nO) (size:=2) (sv:=O) (vs:=[]) (n:=0) (full:=true) 0).all;refine RO.fx U λH3 q7 U=>?_;have U:aj H H3 [tB tx q7 [aU B.aA.op,va,.str B.aA.name,vk,vg],tS nO 2 [] 0 true O,tB fI q3 [.str g.name,aI g.params,aI g.bp,vb]]:=U;refine ah ?_;refine Ru.cond (λE=>?_) (λE=>?_)
 .have n:=n E;rw[aK E]at h;have s:iK .mul 3 (.ofNat 2) (.ofNat b)=some (aI (2*(b:Int))):=by simp only[iK];rw[show(ak1 2*ak1 b:Int)=2*(b:Int)from rfl,pY af af]
  refine ah ?_;refine RO.qS U 1 λH4 a1 U=>?_;have⟨d4,_,_,_⟩:=(U.sl (e:=3) (size:=1) (sv:=a1) (vs:=[]) (n:=0) (full:=true) 0).all;refine ah ?_;refine RO.pZ U 0 (U.gr.sl q) (λH5 a2 U=>?_) (h1:=qP _);have⟨d5,_,_,_⟩:=(U.sl (e:=3) (size:=1) (sv:=a2) (vs:=[]++o.map aI) (n:=0+o.length) (full:=true) 0).all;refine ah ?_;refine RO.arith ?_ (hv:=s);refine RO.push U 0 (λw1 H6 I U=>?_) (ws:=[aI (2*(b:Int))]);have⟨a3,d6,a4,_⟩:=(U.sl (e:=3) (size:=1) (n:=0+o.length+1) (full:=true) (sv:=I) 0).all;refine ah ?_;refine RO.qS U 1 λH7 a5 U=>?_;have⟨d7,_,_,_⟩:=(U.sl (e:=3) (size:=1) (sv:=a5) (vs:=[]) (n:=0) (full:=true) 0).all;refine ah ?_;refine RO.pZ U 0 (U.gr.sl q) (λH8 a6 U=>?_) (h1:=qP _);have⟨d8,_,_,_⟩:=(U.sl (e:=3) (size:=1) (sv:=a6) (vs:=[]++o.map aI) (n:=0+o.length) (full:=true) 0).all;refine ah ?_;refine RO.arith ?_ (hv:=s);refine RO.add ?_ (a:=2*(b:Int)) (b:=1);refine RO.push U 0 (λw1 H9 j U=>?_) (ws:=[aI (2*(b:Int)+1)]);have⟨C,cd,D,_⟩:=(U.sl (e:=3) (size:=1) (n:=0+o.length+1) (full:=true) (sv:=j) 0).all;refine ah ?_;refine RO.cZ U.gr c (λP Q c8 a8 d t hat hrd=>?_) (j:=0);obtain⟨R,rfl,_⟩:=d;refine ah ?_;refine RO.build (vs:=[aI B.aA.go[0].block,I]) ?_ (hl:=kG rfl rfl rfl rfl rfl (kG rfl a3 a4 rfl rfl rfl));refine ah ?_;refine RO.cZ U.gr c (λP Q c8 cf d t hat hrd=>?_) (j:=1);obtain⟨R,rfl,_⟩:=d;refine ah ?_;refine RO.build (vs:=[aI B.aA.go[1].block,j]) ?_ (hl:=kG rfl rfl rfl rfl rfl (kG rfl C D rfl rfl rfl));refine RO.lf U 2 (ws:=[aI B.aA.go[0].block,I,aI B.aA.go[1].block,j]) (n:=2) (λHA a9 U=>?_) (hl:=kG rfl rfl rfl rfl rfl (kG rfl rfl rfl rfl rfl rfl));refine RO.pZ U 4 (U.sl (e:=nO) (size:=2) (n:=2) (full:=true) 0) (λS f U=>?_);have⟨a',_,_,_⟩:=(U.sl (e:=nO) (size:=2) (n:=0+2) (full:=true) (sv:=f) 4).all;refine ah ?_;have e1:∀x:Int,[]++o.map aI++[aI x]=(o++[x]).map aI:=λx=>by simp
  have e2:∀x:Int,0+o.length+1=(o++[x]).length:=λx=>by simp
  have ba:=((U.sub (.cons _ (.cons_cons _ (.cons_cons _ (.cons _ (.cons_cons _ (.cons _ .slnil))))))).as 0 rfl λfp V=>tS.mg V).as 1 rfl λfp V=>tS.mg V;have u:=((((ba.cM (akS _ _ _)).Qg).cM (akS _ _ _)).lq);rw[e1,e1,e2 (2*(b:Int))]at u;have W:B.aA.go.getD 0 default=B.aA.go[0]:=bF af _;have bb:B.aA.go.getD 1 default=B.aA.go[1]:=bF af _;rw[W,bb]at h;refine Ru.aV (h S f (λk=>if k=0 then I else j) _ (λk r=>.inl ?_) u);match k,r with|0,_=>simp|1,_=>simp
 rw[aq E]at h;refine ah ?_;refine Ru.cond (λX=>?_) (λX=>?_)
 .rw[aK X]at h;refine ah ?_;refine Ru.cond (λY=>?_) (λY=>?_);·rw[aK Y]at h;refine ah ?_;exact Ru.aV (h _ O (λ_=>.aS) [] (λk r=>absurd r aB) (U.sub (.cons _ (.cons_cons _ (.cons _ .slnil)))).rl)
  rw[aq Y]at h;have i:o.length - 1<o.length:=af;refine ah ?_;refine RO.arith (v:=aN (o.length - 1)) ?_ (hv:=px (k:=o.length) af af);refine RO.kz U.gr q (λP Q hj d'=>?_) (j:=o.length - 1);have v:=hO _ (agB i);have bc:o.getD (o.length - 1) 0=o[o.length - 1]:=bF i _;rw[bc]at h;generalize o[o.length - 1]=x at*;obtain⟨x,rfl⟩:∃y:Nat,x=y:=⟨x.toNat,af⟩;rw[ru,aj3]at h;rw[aj3]at v;obtain⟨_,bd,z⟩:=v;have hq:iK .quo 3 (x:Int) (.ofNat 2)=some (aN (x/2)):=by simp only[iK];rw[aq bA,show((x:Int).tdiv (ak1 2))=((x/2:Nat):Int)from by rw[aj5,Int.tdiv_eq_ediv_of_nonneg af];simp,pY af af];rfl
  refine ah ?_;refine RO.arith ?_ (hv:=hq);refine RO.cZ U.gr cA (λq1 o1 c1 aw p ax hat hrd=>?_) (j:=x/2);rw[aH,bF bd]at z h;generalize g.al[x/2]=B2 at*;obtain⟨ea,cn,eb,rfl,_,_,ec,ei,bv,rfl,_,_,m⟩:=p;have⟨cp,_,_,_⟩:=m.all;refine ah ?_;refine RO.aW (v:=bv) ?_ (hc:=hat 6 _ rfl);refine RO.cZ U.gr m (λP Q c8 a8 d t hat hrd=>?_) (j:=2);obtain⟨R,rfl,_⟩:=d;refine ah ?_;refine RO.arith (v:=aN (o.length - 1)) ?_ (hv:=px (k:=o.length) af af);refine RO.pc (U.gr.sl q) (b:=o.length - 1) ?_;have A:=λJ(hs:Sl J 1 (o.map aI) o.length a)=>CF hs (b:=o.length - 1) af;have⟨b0,_,b3,_⟩:=(A _ q).all;refine RO.build (vs:=[aI B2.aA.go[2].block,pc a (o.length - 1)]) ?_ (hl:=kG rfl rfl rfl rfl rfl (kG rfl b0 b3 rfl rfl rfl));refine RO.lf U 2 (ws:=[aI B2.aA.go[2].block,pc a (o.length - 1)]) (n:=1) (λHA a9 U=>?_) (hl:=kG rfl rfl rfl rfl rfl rfl);refine RO.pZ U 2 (U.sl (e:=nO) (size:=2) (n:=1) (full:=true) 0) (λS f U=>?_);have⟨a',_,_,_⟩:=(U.sl (e:=nO) (size:=2) (n:=0+1) (full:=true) (sv:=f) 2).all;refine ah ?_;have W:B2.aA.go.getD 2 default=B2.aA.go[2]:=bF af _;rw[W]at h;refine Ru.aV (h S f (λk=>pc a (o.length - 1)) [] (λk r=>.inr λJ hs=>?_) (U.sub (.cons _ (.cons _ (.cons_cons _ (.cons _ .slnil))))).rl);have b4:k=0:=by simpa using r
  subst b4;have:=A J hs;rw[alt,<-List.map_take]at this;simpa using this
 rw[aq X]at h;refine ah ?_;refine Ru.nm λS0 M hS hM=>?_;refine Ru.cC hM (up (P:=λk=>∀L w,aj H L [tB tx q7 [aU B.aA.op,va,.str B.aA.name,vk,vg],tS nO 2 (rA ((B.aA.go.take k).map λe=>(e.block,o)) λ_=>a) k true w,tB fI q3 [.str g.name,aI g.params,aI g.bp,vb]]->Ru ac _ S0 ([(aY,aN k),(p8,w)]++pk M [p2,p7]) L) B.aA.go.length (λk r N L w U=>?_) 0 af _ _ U);subst hS;subst hM;have⟨ej,_,_,_⟩:=(U.sl (e:=nO) (size:=2) (sv:=w) (n:=k) (full:=true) 1).all;refine Ru.loop ?_;refine ah ?_;refine Ru.cond (λi=>?_) (λi=>?_);·have N:=N (k+1) af af;rw[(akd i).symm,akE,List.map_singleton,afD]at N;refine ah ?_;refine RO.cZ U.gr c (λq9 o9 eY ek b5 el hat hrd=>?_) (j:=k);generalize B.aA.go[k]=e at*;obtain⟨R,rfl,et⟩:=b5;refine ah ?_;refine RO.build (vs:=[aI e.block,a]) ?_ (hl:=kG rfl rfl rfl rfl rfl (kG rfl Z ag rfl rfl rfl));refine RO.push U 1 (λw0 H5 v2 U=>?_) (ws:=[aI e.block,a]);have⟨ew,_,_,_⟩:=(U.sl (e:=nO) (size:=2) (n:=k+1) (full:=true) (sv:=v2) 1).all;refine ah ?_;exact Ru.wk (N _ v2 U)
 refine Ru.exitTo ?_;rw[akl af]at U;have b6:k=(B.aA.go.map λe=>(e.block,o)).length:=by rw[akg];omega
 refine ah ?_;refine Ru.aV (h L w (λ_=>a) [] (λx hx=>.inr λJ hs=>?_) ?_)
 .have z:x<B.aA.go.length:=by simpa using hx
  have e:((B.aA.go.map λe=>(e.block,o)).getD x (0,[])).2=o:=by rw[bF hx,akN]
  rw[e];exact hs
 rw[<-b6];exact(U.sub (.cons _ (.cons_cons _ (.cons _ .slnil)))).rl
end
end
section
theorem RO.afF{A H:ai}{m:List Th}{c:Cx}{s:List SI}{L:Kn}{d:Option ab}{l:List be}{e n k cap:Nat}{b ex:Bool}{q:ab}{o:Type}{f:o->AV}{zs:List o}(U:aj A H m)(i:Nat)(z:o)(p:zs.length=n){a x:aJ}{re:List jo}(h:∀g,aj A g (m.set i (tS e 1 ((zs.set k z).map f) n b (.slice q 0 n cap ex)))->(∀aa,Le (bC L d .alR) aa->fG aa g re=true)/\RO ac c l s (bC L d .alR) g)(r:bf L a=.az q (0+k*1):=by exact cw)(t:bf L x=f z:=by exact cw)(hi:m[i]?=some (tS e 1 (zs.map f) n b (.slice q 0 n cap ex)):=by rfl)(u:k<zs.length:=by first|omega|assumption)(v:(f z).ee=true:=by first|rfl|assumption)(w:(f z).cells=[f z]:=by first|rfl|assumption)(hd:(f z).bB=true:=by first|rfl|assumption):RO ac c (⟨d,.store 1 a x,none,[],re⟩::l) s L H:=by subst p;obtain⟨D,y,_,hu⟩:=U.ki i hi;obtain⟨g,h1,h2,h3⟩:=NC.set (k:=k) y u z v;have:=hu (t':=tS e 1 ((zs.set k z).map f) (zs.set k z).length b (.slice q 0 (zs.set k z).length cap ex)) h2 h3;rw[ak4]at this;obtain⟨B,C⟩:=h g this;refine RO.Ei (λ_ _ h=>by cases h) (λ_ h=>by cases h) (λaa j=>⟨g,?_,rfl⟩) B C;simp only[eV,aE,j.gv r rfl,j.gv t hd,w,akC,bq,h1]
theorem afG(T:Tb ac){H:ai}{l m:List Int}{v w:AV}(g:fZ H l v)(j:fZ H m w)(hl:l.length<=1000000){K:KT}(h1:l=m->K (.bool true) H)(h2:l≠m->K (.bool false) H):YN ac Wk [v,w] H K:=by
 have⟨s,t,u,x⟩:=g.all;have⟨y,z,A,B⟩:=j.all;refine YF.code T.aa4 aB ?_;refine ah ?_;refine Ru.cond (λa=>?_) (λa=>?_);·refine ah ?_;exact Ru.aV (h2 λe=>a (by rw[e]))
 have a:l.length=m.length:=af;refine ah ?_;refine Ru.nm λS M p n=>?_;refine Ru.cC n (up (P:=λk=>(∀i(h:i<l.length)(b:i<m.length),i<k->l[i]=m[i])->Ru ac _ S ([(p5,aN k)]++pk M [p0,p1]) H) l.length (λk C q o=>?_) 0 af (λi _ _ hi=>by omega));subst p;subst n;refine Ru.loop ?_;refine ah ?_;refine Ru.cond (λd=>?_) (λd=>?_)
 .refine ah ?_;refine RO.kz (bm.refl H) g (λr o1 hj f=>?_) (j:=k);refine ah ?_;refine RO.kz (bm.refl H) j (λr o1 hj f=>?_) (j:=k);refine ah ?_;refine Ru.cond (λc=>?_) (λc=>?_);·refine ah ?_;exact Ru.aV (h2 λe=>c (by subst e;rfl))
  refine ah ?_;refine Ru.wk (q (k+1) af af λi h b hi=>?_);by_cases e:i=k;·subst e;exact Classical.not_not.1 c
  exact o i h b af
 refine Ru.exitTo ?_;refine ah ?_;exact Ru.aV (h1 (alg a λi h b=>o i h b af))
structure mL(g:G.bu):Prop where
 ne:0<g.al.length
 t3:∀b,b<g.al.length->(aH g b).aA.op=67->(aH g b).aA.go.length=3
 rg:∀b,b<g.al.length->∀e∈(aH g b).aA.go,1<=e.block/\e.block<=(g.al.length:Int) - 1
theorem sD.sh{g:G.bu}(h:sD g):mL g:=by
 have hb:∀b,b<g.al.length->yO g (aH g b).aA:=λb hb=>by rw[aH,bF hb];exact h.CD _ (agB hb)
 refine⟨h.ne,λb c d=>?_,λb c e he=>?_⟩;·have:=(hb b c).ae;generalize(aH g b).aA.go.length=n at*;generalize(aH g b).aA.args.length=a at*;cases this<;>simp_all
 obtain⟨i,hi,rfl⟩:=aka he;have:=(hb b c).E0 i hi;exact⟨this.lo,this.hi⟩
inductive lR(g:G.bu)(wo:Int):Nat->List Int->Prop
 |zero(h:wo≠0):lR g wo 0 []
 |step{b:Nat}{o:List Int}{w:Int×List Int}(h:lR g wo b o)(hw:w∈lu g b o)(hn:w.1≠wo):lR g wo w.1.toNat w.2
section
variable{g:G.bu}{wo:Int}
theorem wX.wz{o:List Int}{x:Int}(h:wX g o)(b:0<=x/\x.toNat/2<g.al.length/\(aH g (x.toNat/2)).aA.go.length=3):wX g (o++[x]):=λy a=>by
 rcases ahp.1 a with a|a;·exact h y a
 rw[aep]at a;subst a;exact b
theorem vE(d:mL g){b:Nat}(hb:b<g.al.length){o:List Int}(c:wX g o):∀w∈lu g b o,(1<=w.1/\w.1<=(g.al.length:Int) - 1)/\wX g w.2/\w.2.length<=o.length+1:=by
 intro w a;unfold lu at a;split at a
 .rename_i f;have h3:=d.t3 b hb f;have h:=d.rg b hb;have e1:(2*(b:Int)).toNat/2=b:=af;have e2:(2*(b:Int)+1).toNat/2=b:=af;simp only[aeV,aki,or_false]at a;rcases a with rfl|rfl;·refine⟨h _ (by rw[bF af];exact agB _),c.wz ⟨af,by rw[e1];exact hb,by rw[e1];exact h3⟩,aB⟩
  refine⟨h _ (by rw[bF af];exact agB _),c.wz ⟨af,by rw[e2];exact hb,by rw[e2];exact h3⟩,aB⟩
 split at a
 .split at a;·cases a
  rename_i h0;rw[aep]at a;subst a;have i:=agB (l:=o) (n:=o.length - 1) af;obtain⟨_,h2,h3⟩:=c _ i;refine⟨?_,λx j=>c x (List.mem_of_mem_take j),by rw[akF];omega⟩;show 1<=ru g _/\_;rw[bF af,ru];exact d.rg _ h2 _ (by rw[bF af];exact agB _)
 obtain⟨e,he,rfl⟩:=akk.1 a;exact⟨d.rg b hb e he,c,aB⟩
theorem lR.ok(a:mL g){b:Nat}{o:List Int}(h:lR g wo b o):b<g.al.length/\wX g o:=by induction h with|zero _=>exact⟨a.ne,λx d=>by cases d⟩|step _ e _ c=>obtain⟨⟨h1,h2⟩,h3,_⟩:=vE a c.1 c.2 _ e;exact⟨af,h3⟩
structure lw(g:G.bu)(wo:Int)(come:List Bool)(aC:List (List Int)):Prop where
 lc:come.length=g.al.length
 lo:aC.length=g.al.length
 c0:wo≠0->come.getD 0 false=true
 JN:∀b,come.getD b false=false->aC.getD b []=[]
 snd:∀b,come.getD b false=true->lR g wo b (aC.getD b [])
 jx:∀b,come.getD b false=true->(aC.getD b []).length+lr come<g.al.length
structure fN(g:G.bu)(wo:Int)(come:List Bool)(aC:List (List Int))(oth:Bool):Prop extends toFlI:lw g wo come aC where
 FA:oth=true->∃b o o',lR g wo b o/\lR g wo b o'/\o≠o'
def A3(wo:Int)(a:List Bool)(aC:List (List Int))(b:Bool)(w:Int×List Int):Prop:=w.1=wo\/a.getD w.1.toNat false=true/\(b=false->aC.getD w.1.toNat []=w.2)
def oF(g:G.bu)(wo:Int)(a:List Bool)(aC:List (List Int))(c:Bool)(b:Nat):Prop:=a.getD b false=true->∀w∈lu g b (aC.getD b []),A3 wo a aC c w
theorem lw.add(k:mL g){a:List Bool}{aC:List (List Int)}(h:lw g wo a aC){b:Nat}{w:Int×List Int}(hb:a.getD b false=true)(l:w∈lu g b (aC.getD b []))(m:w.1≠wo)(n:a.getD w.1.toNat false=false):lw g wo (a.set w.1.toNat true) (aC.set w.1.toNat w.2):=by
 have d:=h.lc;have f:=h.lo;obtain⟨j,o⟩:=(h.snd b hb).ok k;obtain⟨⟨h1,h2⟩,h3,q⟩:=vE k j o _ l;have i:w.1.toNat<g.al.length:=af;have r:=h.jx b hb;have p:=wS (by rw[d];exact i) n;refine⟨by simpa using d,by simpa using f,λh0=>?_,λx c=>?_,λx c=>?_,λx c=>?_⟩
 .rw[fu (by rw[d];exact i)];split;·rfl
  exact h.c0 h0
 .rw[fu (by rw[d];exact i)]at c;rw[fu (by rw[f];exact i)];split;·rename_i e;rw[aK e]at c;cases c
  rename_i e;rw[aq e]at c;exact h.JN x c
 .rw[fu (by rw[d];exact i)]at c;rw[fu (by rw[f];exact i)];split;·rename_i e;subst e;exact .step (h.snd b hb) l m
  rename_i e;rw[aq e]at c;exact h.snd x c
 rw[fu (by rw[d];exact i)]at c;rw[fu (by rw[f];exact i)];split;·omega
 rename_i e;rw[aq e]at c;have:=h.jx x c;omega
end
end
end
end Go.am.R
namespace Go.am
section
variable{ac:Nat->aG}{c:Cx}{s:List SI}{L:Kn}{A B H H':ai}{d:Option ab}{l:List be}{ts us:List Th}{q r:ab}{e n m o k i cap size bytes:Nat}{vs ws:List AV}{v w sv a:AV}{full ex:Bool}
theorem RO.agh{x:aJ}{g is:List ab}(t:fE H q o m=some vs)(p:q∉is)(h:∀i,(∀j,i.get j=H.get j)->i.next=H.next->RO ac c l s (bC L d (.agg vs)) i)(u:bf L x=.az q o:=by exact cw)(v:yL L g=is.map some:=by exact cw):RO ac c (⟨d,.gw m x,none,g,[]⟩::l) s L H:=λaa e=>by
 obtain⟨h1,h2,h3⟩:=CG e (H:=H) v;generalize w:eV aa H g=b at h1 h2 h3;obtain⟨y,z⟩:=h3 b.1;have f:∀j,(eB b.1 b.2).get j=H.get j:=λj=>by
  rw[z];split;·rfl
  rename_i k;exact h2 j k
 obtain⟨n,k⟩:=h _ f (y.trans h1) _ (e.set d _);refine⟨n+1,?_⟩;have r:fE b.1 q o m=some vs:=by simp only[fE,h2 q p];exact t
 have he:aE (.gw m x) aa b.1=some (.agg vs,b.1):=by simp only[aE,e.gv u rfl,jp,r,bq,akt]
 simp[w,he,k,Xo,Go.am.aC,fF,bq,fG]
theorem Sl.agi{b:ai}{is:List ab}(h:Sl H size vs n v)(hg:∀j,j∉is->b.get j=H.get j)(g:b.next=H.next)(k:∀q o m c e,v=.slice q o m c e->q∉is):Sl b size vs n v:=by
 rcases h with h|⟨i,o,cap,ex,f,m,e,d,aM,fz,h1,h2,h3⟩;·exact .inl h
 refine .inr ⟨i,o,cap,ex,f,m,e,d,aM,fz,h1,by grind,?_⟩;grind
theorem RO.Ke(U:aj A H (tS e size vs n true sv::ts)){x y:aJ}{zs:List AV}{K is:List ab}{re:List jo}(hs:Sl H size ws k a)(R:∀q o m c e,a=.slice q o m c e->q∉is)(ji:∀j∈is,∃(m:Nat)(t:Th),ts[m]?=some t/\∀Hx f,t.P Hx f->j∈f)(h:∀M v,aj A M (tS e size (vs++ws) (n+k) true v::ts)->(∀aa,Le (bC L d v) aa->fG aa M re=true)/\RO ac c l s (bC L d v) M)(h1:dS ws=true:=by repeat first|rfl|assumption|(refine ao ?_ ?_))(N:yL L K=is.map some:=by exact cw)(hx:bf L x=sv:=by exact cw)(hy:bf L y=a:=by exact cw)(hb:(n+k)*bytes<=70368744177664:=by omega)(u:n+k<=70368744177664:=by omega):RO ac c (⟨d,.append e bytes size zs false x y,none,K,re⟩::l) s L H:=λaa i=>by
 obtain⟨G,I,g3⟩:=CG i (H:=H) N;generalize hh:eV aa H K=g at G I g3;obtain⟨hG,fs,hF⟩:=U;match fs,hF with
  |J::fs,⟨q1,q2,q3,O⟩=>
   have z:∀j∈is,∃f∈fs,j∈f:=λj hj=>by obtain⟨m,t,hm,ht⟩:=ji j hj;obtain⟨f,w,N⟩:=O.at hm;exact⟨f,List.mem_of_getElem? w,ht _ _ N⟩
   have C:∀j∈is,j∉J:=λj hj S=>by obtain⟨f,w,r⟩:=z j hj;exact q3 j S f w r
   have T:∀j∈is,j.an<H.next.an:=λj hj=>by obtain⟨f,w,r⟩:=z j hj;exact O.lt f w j r
   have ho:dU g.1 J e size vs n true sv:=dU.frame q1 (by rw[G];exact afb _) λj hj=>I j λu=>C j u hj;have V:Sl g.1 size ws k a:=hs.agi I G R;obtain⟨b,H1,fp',a1,a2,a3,Q,a5⟩:=ho.append (bytes:=bytes) hs.length h1 hb u;rw[G]at a3 Q a5;obtain⟨g4,g5⟩:=g3 H1;have E:∀j∈fp',j∉is:=λj hj D=>by
    rcases Q j hj with h|h;·exact C j D h
    have:=T j D;omega
   have F:dU (eB H1 g.2) fp' e size (vs++ws) (n+k) true b:=dU.frame a2 (by rw[g4];exact afb _) λj hj=>by rw[g5,aq (E j hj)]
   have p:oS J fp' H (eB H1 g.2):=⟨by rw[g4];exact a3,λj hj=>(Q j hj).imp id λh=>h.1,λj hj W=>by
    rw[g5];split;·rfl
    rename_i u;rw[a5 j hj W,I j u]⟩;obtain⟨X,Y,_⟩:=Fs.ki (t':=tS e size (vs++ws) (n+k) true b) hG p (fs:=J::fs) (ts:=tS e size vs n true sv::ts) (i:=0) ⟨q1,q2,q3,O⟩ rfl rfl F;have Z:aj A (eB H1 g.2) (tS e size (vs++ws) (n+k) true b::ts):=⟨p.cI hG q2,X,Y⟩;obtain⟨h4,h5⟩:=h _ b Z;obtain⟨n',ag⟩:=h5 _ (i.set d b);have he:aE (.append e bytes size zs false x y) aa g.1=some (b,H1):=by simp only[aE,aes,bP,i.gv hx ho.sl.bB,i.gv hy hs.bB,V.je,a1]
   refine⟨n'+1,?_⟩;simp only[Xo,Go.am.aC,fF,bq,hh,he,h4 _ (i.set d b)];omega
end
section
variable{ac:Nat->aG}{c:Cx}{s:List SI}{L:Kn}{A B H H':ai}{d:Option ab}{l:List be}{ts us:List Th}{q r:ab}{e n m o k i cap size bytes:Nat}{vs ws:List AV}{v w sv b:AV}{full ex:Bool}
theorem RO.X1{x y:aJ}{a:Int}(h:RO ac c l s (bC L d (.bool false)) H)(e:bf L x=.int k a:=by exact cw)(f:bf L y=.int k a:=by exact cw):RO ac c (⟨d,.arith .neq k x y,none,[],[]⟩::l) s L H:=RO.neq (a:=a) (b:=a) (by rw[show decide (a≠a)=false by simp];exact h) e f
theorem RO.X2{x y:aJ}{a:List Nat}(h:RO ac c l s (bC L d (.bool false)) H)(e:bf L x=.str a:=by exact cw)(f:bf L y=.str a:=by exact cw):RO ac c (⟨d,.iE .neq x y,none,[],[]⟩::l) s L H:=RO.iE (v:=.bool false) h e rfl f rfl (by simp[Ba,R.qv])
theorem Ow:∀{t:List Nat},(∀c∈t,c<256)->Bb (t.map λn=>AV.int 4 (.ofNat n))=some t|[],_=>rfl|a::t,h=>by have h1:akv a 256=true:=alN akY (h a (aeU ..));simp only[aj7,Bb,KA,h1,bq,Ow λc d=>h c (aey _ d)]
theorem RO.xg{x:aJ}{t:List Nat}(hs:Sl H 1 (t.map λn=>.int 4 (.ofNat n)) t.length sv)(hb:∀c∈t,c<256)(h:RO ac c l s (bC L d (.str t)) H)(g:bf L x=sv:=by exact cw):RO ac c (⟨d,.xg x,none,[],[]⟩::l) s L H:=by
 refine RO.op (λaa f=>?_) h;have hd:=hs.bB;simp only[aE,f.gv g hd];have a:=hs.je;cases sv with
 |aS=>
  have:t=[]:=by
   rcases hs with⟨_,h,_⟩|⟨_,_,_,_,_,_,_,_,_,_,h,_⟩;·exact akM h
   cases h
  subst this;rfl
 |slice i o n cap ex=>simp only[je]at a;rw[alt]at a;cases e:fE H i o n with|none=>rw[e]at a;cases a|some j=>rw[e]at a;simp only[adG,aj1]at a;obtain⟨_,rfl⟩:=a;simp only[e,Ow hb,akt]
 |str t'=>rcases hs with⟨h,_⟩|⟨_,_,_,_,_,_,_,_,_,_,h,_⟩<;>cases h
 |_=>simp[je]at a
theorem RO.lL{k:Type}{R:ai->k->List AV->Prop}{g:List k}(hg:bm B H){x y:aJ}{j kd:Nat}(hs:dV size R B g sv)(h:∀q o cs(hj:j<g.length),R B g[j] cs->cs.length=size->(∀{H'},bm B H'->(∀t v,cs[t]?=some v->bh H' q (o+t)=some v)/\fE H' q o size=some cs)->RO ac c l s (bC L d (.az q o)) H)(m:bf L x=sv:=by exact cw)(n:bf L y=.int kd (.ofNat j):=by exact cw)(hj:j<g.length:=by first|assumption|omega):RO ac c (⟨d,.dG size x y,none,[],[]⟩::l) s L H:=by
 obtain⟨q,o,cap,ex,cs,rfl,h1,h2,h3,p⟩:=hs.at hj;have a:q.an<B.next.an:=by
  obtain⟨vs,r,_⟩:=hs;rcases r with⟨h,_⟩|⟨i,_,_,_,_,_,_,_,_,_,h,_,_,_,_,hi,_⟩;·cases h
  injection h with h;subst h;exact hi
 exact RO.dG (h q (o+j*size) cs hj h1 h2 λf=>⟨λt v e=>by rw[f.bh a];exact h3 t v e,by simp only[fE,f.dT q a];exact p⟩) m n hj
theorem RO.ZI{k:Type}{R:ai->k->List AV->Prop}{g:List k}(hg:bm B H){x y:aJ}{j kd:Nat}(hs:dV size R B g sv)(h:∀q o cs(hj:j<g.length),R B g[j] cs->cs.length=size->q.an<B.next.an->(∀{H'},bm B H'->(∀t v,cs[t]?=some v->bh H' q (o+t)=some v)/\fE H' q o size=some cs)->RO ac c l s (bC L d (.az q o)) H)(m:bf L x=sv:=by exact cw)(n:bf L y=.int kd (.ofNat j):=by exact cw)(hj:j<g.length:=by first|assumption|omega):RO ac c (⟨d,.dG size x y,none,[],[]⟩::l) s L H:=by
 obtain⟨q,o,cap,ex,cs,rfl,h1,h2,h3,p⟩:=hs.at hj;have a:q.an<B.next.an:=by
  obtain⟨vs,r,_⟩:=hs;rcases r with⟨h,_⟩|⟨i,_,_,_,_,_,_,_,_,_,h,_,_,_,_,hi,_⟩;·cases h
  injection h with h;subst h;exact hi
 exact RO.dG (h q (o+j*size) cs hj h1 h2 a λf=>⟨λt v e=>by rw[f.bh a];exact h3 t v e,by simp only[fE,f.dT q a];exact p⟩) m n hj
theorem O0(l:List Bool):dS (l.map AV.bool)=true:=HS.2 λv a=>by obtain⟨x,_,rfl⟩:=akk.1 a;rfl
end
end Go.am
namespace Go.am.R
section
variable{ac:Nat->aG}
section
def gu(l:List Bool):Nat->List Int
 |0=>[]
 |k+1=>gu l k++if l.getD k false then[(k:Int)]else[]
def ev(l:List Bool):List Int:=gu l l.length
theorem FB{l:List Bool}{x:Int}:∀{k:Nat},x∈gu l k↔∃v:Nat,x=v/\v<k/\l.getD v false=true
 |0=>by simp[gu]
 |k+1=>by
  rw[gu,ahp,FB];constructor
  .rintro(⟨v,h1,h2,h3⟩|h);·exact⟨v,h1,af,h3⟩
   split at h;·rename_i a;rw[aep]at h;exact⟨k,h,af,a⟩
   cases h
  rintro⟨v,h1,h2,h3⟩;by_cases e:v=k;·subst e;right;rw[aK h3,h1];exact aep.2 rfl
  exact .inl ⟨v,h1,af,h3⟩
theorem zb{l:List Bool}{x:Int}:x∈ev l↔∃v:Nat,x=v/\l.getD v false=true:=by rw[ev,FB];exact⟨λ⟨v,h1,_,h2⟩=>⟨v,h1,h2⟩,λ⟨v,h1,h2⟩=>⟨v,h1,E2 h2 aB,h2⟩⟩
theorem O1{l:List Bool}:∀k,(gu l k).Pairwise (·<·)
 |0=>alQ
 |k+1=>by
  rw[gu,List.pairwise_append];refine⟨O1 k,?_,λa c b hb=>?_⟩
  .split;·exact List.pairwise_singleton ..
   exact alQ
  obtain⟨v,h1,h2,_⟩:=FB.1 c;split at hb;·rw[aep]at hb;omega
  cases hb
theorem ZJ(l:List Bool):(ev l).Pairwise (·<·):=O1 _
theorem FC{l:List Bool}:∀k,(gu l k).length<=k|0=>afb _|k+1=>by have:=FC (l:=l) k;rw[gu,aj8];split<;>simp<;>omega
theorem O2:∀{a b:List Int},a.Pairwise (·<·)->b.Pairwise (·<·)->(∀x,x∈a↔x∈b)->a=b
 |[],[],_,_,_=>rfl
 |[],y::b,_,_,h=>by have:=(h y).2 (aeU ..);cases this
 |x::a,[],_,_,h=>by have:=(h x).1 (aeU ..);cases this
 |x::a,y::b,g,hb,h=>by
  obtain⟨f,i⟩:=alq.1 g;obtain⟨b1,b2⟩:=alq.1 hb;have d:x=y:=by
   rcases aeV.1 ((h x).1 (aeU ..))with e|h1;·exact e
   rcases aeV.1 ((h y).2 (aeU ..))with e|h2;·exact e.symm
   have:=b1 x h1;have:=f y h2;omega
  subst d;rw[O2 i b2 λz=>?_];constructor
  .intro c;rcases aeV.1 ((h z).1 (aey _ c))with e|h1;·have:=f z c;omega
   exact h1
  intro c;rcases aeV.1 ((h z).2 (aey _ c))with e|h1;·have:=b1 z c;omega
  exact h1
theorem RO.ZK{c:Cx}{s:List SI}{L:Kn}{H:ai}{d:Option ab}{l:List be}{a b:Nat}{x y:aJ}(h:RO ac c l s (bC L d (aN (a % b))) H)(f:bf L x=.int 3 (.ofNat a):=by exact cw)(g:bf L y=.int 3 (.ofNat b):=by exact cw)(hb:b≠0:=by omega):RO ac c (⟨d,.arith .rem 3 x y,none,[],[]⟩::l) s L H:=RO.arith (v:=aN (a % b)) (a:=.ofNat a) (b:=.ofNat b) h f g (by show(if ak1 b=0 then none else some (AV.int 3 ((ak1 a).tmod (ak1 b))))=_;rw[aq (by intro e;exact hb (Int.ofNat.inj e))];rfl)
theorem iD{l:List Bool}{k n:Nat}(h1:l.length=n)(h2:k<n):(l.map AV.bool)[0+k*1]?=some (.bool (l.getD k false)):=by rw[show 0+k*1=k by omega,aks,getElem?_pos l k af,bF af];rfl
section
variable{H:ai}
theorem O3(T:Tb ac){l:List Bool}{sv:AV}(hs:Sl H 1 (l.map .bool) l.length sv)(hl:l.length<=6000){K:KT}(h:∀e v,aj H e [tS 3 1 ((ev l).map aI) (ev l).length true v]->K v e):YN ac Zc [sv] H K:=by
 have⟨r,_,_,s⟩:=hs.all;refine YF.code T.Zs aB ?_;refine ah ?_;refine RO.qS (aj.dc H) 1 λA m U=>?_;have⟨t,_,_,_⟩:=(U.sl (e:=3) (size:=1) (sv:=m) (vs:=[]) (n:=0) (full:=true) 0).all;refine ah ?_;refine Ru.nm λn p g c=>?_;refine Ru.cC c (up (P:=λk=>∀f b,aj H f [tS 3 1 ((gu l k).map aI) (gu l k).length true b]->Ru ac _ n ([(p4,aN k),(p3,b)]++pk p [p0]) f) l.length (λk B a f b U=>?_) 0 af _ _ U);subst g;subst c;have⟨u,_,_,x⟩:=(U.sl (e:=3) (size:=1) (sv:=b) (vs:=(gu l k).map aI) (n:=(gu l k).length) (full:=true) 0).all;have y:=FC (l:=l) k;refine Ru.loop ?_;refine ah ?_;refine Ru.cond (λd=>?_) (λd=>?_)
 .have a:=a (k+1) af af;rw[gu,bF d]at a;refine ah ?_;refine RO.lg U.gr hs (λq o hj i=>?_) (j:=k);refine RO.aW ?_ (hc:=i);refine ah ?_;refine Ru.kN (λhb=>?_) (λhb=>?_);·rw[aK hb]at a;refine ah ?_;refine RO.push U 0 (λw e j U=>?_) (ws:=[aN k]);have⟨z,_,_,_⟩:=(U.sl (e:=3) (size:=1) (n:=(gu l k).length+1) (full:=true) (sv:=j) 0).all;refine ah ?_;exact Ru.wk (a _ j (by rw[akE,aj8];exact U))
  rw[aq (by rw[hb];simp),akT]at a;refine ah ?_;exact Ru.wk (a _ b U)
 refine Ru.exitTo ?_;obtain rfl:k=l.length:=af;refine ah ?_;exact Ru.aV (h _ b U)
def ig(g:G.bu)(o:List Int):Option Int:=(o.reverse.find? λx=>x % 2==0).map λx=>((aH g (x.toNat/2)).aA.go.getD 1 default).block
theorem ZL{g:G.bu}{o:List Int}(h:∀x∈o,x % 2≠0):ig g o=none:=by
 unfold ig;rw[List.find?_eq_none.2];·rfl
 intro x a;simpa using h x (List.mem_reverse.1 a)
theorem ZM{g:G.bu}{o:List Int}{k:Nat}(a:k<o.length)(h:∀j(hj:j<o.length),k<j->o[j]% 2≠0)(h0:o[k]% 2=0):ig g o=some ((aH g (o[k].toNat/2)).aA.go.getD 1 default).block:=by
 unfold ig;rw[(List.find?_eq_some_iff_getElem (b:=o[k])).2];·rfl
 refine⟨by simpa using h0,o.length - 1 - k,by simp;omega,by rw[List.getElem_reverse];congr 1;omega,λj hj=>?_⟩;rw[List.getElem_reverse];simpa using h (o.length - 1 - j) af af
variable{g:G.bu}{cs:List AV}
theorem ZN(T:Tb ac)(hg:iG H g cs)(N:G.Sm g){o:List Int}{D:AV}(r:fZ H o D)(W:o.length<=1000)(O:wX g o){K:KT}(h:∀E,bm H E->K (aI (match ig g o with|some t=>t|none=> -1)) E):YN ac Zg [.agg cs,D] H K:=by
 have J:=hg.one;obtain⟨vb,rfl,cA⟩:=hg;have⟨X,_,_,Y⟩:=cA.all;have⟨Z,_,_,ag⟩:=r.all;have av:=N.nb;refine YF.code T.Zu aB ?_;refine ah ?_;refine RO.dL (aj.dc H) λH1 q U=>?_;refine ah ?_;refine RO.sub (a:=(o.length:Int)) (b:=1) ?_;refine ah ?_;refine Ru.nm λP Q w b=>?_;refine Ru.cC b (up (P:=λk=>(∀j(hj:j<o.length),o.length - k<=j->o[j]% 2≠0)->Ru ac _ P ([(p5,aI ((o.length:Int) - 1 - k))]++pk Q [p1,p2]) H1) o.length (λk hk s u=>?_) 0 af (λj hj c=>by omega)) (by simp;exact⟨rfl,trivial⟩);subst w;subst b;refine Ru.loop ?_;refine ah ?_;refine Ru.cond (λ(z:(0:Int)<=(o.length:Int) - 1 - k)=>?_) (λ(z:¬(0:Int)<=(o.length:Int) - 1 - k)=>?_)
 .have s:=s (k+1) af af;obtain⟨t,R⟩:∃t:Nat,(o.length:Int) - 1 - k=(t:Int):=⟨o.length - 1 - k,af⟩;have aw:t=o.length - 1 - k:=af;have d:t<o.length:=af;rw[R];refine ah ?_;refine RO.kz U.gr r (λF I f i=>?_) (j:=t);refine ah ?_;have v:=O _ (agB d);have l:=λh1 h2=>ZM (g:=g) (o:=o) (k:=t) d h1 h2;generalize m:o[t]=x at*;obtain⟨x,rfl⟩:∃y:Nat,x=y:=⟨x.toNat,af⟩;obtain⟨_,n,p⟩:=v;rw[aj3]at n p l;have S:iK .quo 3 (x:Int) (.ofNat 2)=some (aN (x/2)):=by simp only[iK];rw[aq bA,show((x:Int).tdiv (ak1 2))=((x/2:Nat):Int)from by rw[aj5,Int.tdiv_eq_ediv_of_nonneg af];simp,pY af af];rfl
  refine ah ?_;refine RO.ZK (a:=x) (b:=2) ?_;refine ah ?_;refine Ru.cond (λ(h0:x % 2=0)=>?_) (λ(h0:¬x % 2=0)=>?_);·rw[l (λj hj c=>u j hj af) af]at h;rw[aH,bF n]at p h;refine ah ?_;refine RO.kz U.gr r (λF I f i=>?_) (j:=t);rw[m]at i;refine ah ?_;refine RO.arith ?_ (hv:=S);refine RO.cZ U.gr cA (λq1 o1 c1 ax A ay hat hrd=>?_) (j:=x/2);generalize g.al[x/2]=B2 at*;obtain⟨a0,L,a1,rfl,_,_,a2,a3,B,rfl,_,_,a⟩:=A;have⟨M,_,_,_⟩:=a.all;refine ah ?_;refine RO.aW (v:=B) ?_ (hc:=hat 6 _ rfl);refine RO.cZ U.gr a (λF I c8 f C a4 hat hrd=>?_) (j:=1);obtain⟨ve,rfl,_⟩:=C;rw[bF af]at h;refine ah ?_;exact Ru.aV (h _ U.gr)
  refine ah ?_;refine RO.sub (a:=(t:Int)) (b:=1) ?_;refine ah ?_;rw[show((t:Int) - 1)=(o.length:Int) - 1 - (k+1:Nat)by omega];exact Ru.wk (s λj hj c=>by
   by_cases e:j=t;·subst e;rw[m];omega
   exact u j hj af)
 refine Ru.exitTo ?_;have V:ig g o=none:=ZL λx v=>by obtain⟨j,hj,rfl⟩:=aka v;exact u j hj af
 rw[V]at h;refine ah ?_;exact Ru.aV (h _ U.gr)
end
theorem zz(T:Tb ac){H:ai}{a b:List (List Int)}{v w:AV}(t:CX H a v)(u:CX H b w)(hl:a.length<=1000000)(o:∀x∈a,x.length<=1000000){K:KT}(h:a=b->K (.bool true) H)(h2:a≠b->K (.bool false) H):YN ac Y' [v,w] H K:=by
 have⟨L,_,_,M⟩:=t.all;have⟨N,_,_,O⟩:=u.all;refine YF.code T.Zo aB ?_;refine ah ?_;refine Ru.cond (λd=>?_) (λd=>?_);·refine ah ?_;exact Ru.aV (h2 λe=>d (by rw[e]))
 have d:a.length=b.length:=Classical.not_not.1 d;refine ah ?_;refine Ru.nm λC D p f=>?_;refine Ru.cC f (up (P:=λk=>(∀j(hj:j<a.length)(c:j<b.length),j<k->a[j]=b[j])->Ru ac _ C ([(p5,aN k)]++pk D [p0,p1]) H) a.length (λk S n y=>?_) 0 af (λj hj c P=>by omega));subst p;subst f;refine Ru.loop ?_;refine ah ?_;refine Ru.cond (λg=>?_) (λg=>?_)
 .have n:=n (k+1) af af;have q:=o _ (agB g);refine ah ?_;refine RO.cZ (bm.refl _) t (λE F G Q r s hat hrd=>?_) (j:=k);obtain⟨I,rfl,i⟩:=r;have⟨z,_,_,_⟩:=i.all;refine RO.aW (v:=I) ?_ (hc:=hat 0 _ rfl);refine ah ?_;refine RO.cZ (bm.refl _) u (λE F G A m s hat hrd=>?_) (j:=k);obtain⟨J,rfl,l⟩:=m;have⟨B,_,_,_⟩:=l.all;refine RO.aW (v:=J) ?_ (hc:=hat 0 _ rfl);refine RO.cl (afG T i l q (λe=>?_) (λe=>?_))
  .refine ah ?_;exact Ru.wk (n λj hj c R=>by
    by_cases e2:j=k;·subst e2;exact e
    exact y j hj c af)
  refine ah ?_;exact Ru.aV (h2 λe2=>e (by simp only[e2]))
 refine Ru.exitTo ?_;refine ah ?_;exact Ru.aV (h (alg d λj hj c=>y j hj c af))
end
section
theorem _root_.Go.am.aj.afH{A H:ai}{F G:List Th}{b:List Th}(U:aj A H (tZ F::tZ G::b)):aj A H (tZ (F++G)::b):=by
 refine U.lq.as 0 rfl λi a=>⟨λu hu=>?_,a.2⟩;rcases ahp.1 hu with hu|hu;·obtain⟨f,c,d⟩:=a.1 _ (aeU ..);obtain⟨e,g,h⟩:=d.1 u hu;exact⟨e,λj hj=>c j (g j hj),h⟩
 exact a.1 u (aey _ hu)
theorem _root_.Go.am.aj.afI{A H:ai}{F G:List Th}{b:List Th}(U:aj A H (tZ F::b))(h:∀t∈G,∃t0∈F,∀c f,t0.P c f->t.P c f):aj A H (tZ (G++F)::b):=by
 refine U.as 0 rfl λg a=>⟨λu hu=>?_,a.2⟩;rcases ahp.1 hu with hu|hu;·obtain⟨t0,h0,h1⟩:=h u hu;obtain⟨f,d,e⟩:=a.1 _ h0;exact⟨f,d,h1 _ _ e⟩
 exact a.1 u hu
theorem lQ.Jo{c:List (List Int)}{a:List AV}{F G:List Th}(h:lQ c a F)(hs:∀t∈F,t∈G):lQ c a G:=⟨h.len,λb hb=>hs _ (h.mem b hb)⟩
theorem lQ.set{c:List (List Int)}{a:List AV}{F:List Th}(h:lQ c a F){t:Nat}(d:t<c.length){l:List Int}{v:AV}(f:tR 1 (l.map aI) l.length v∈F):lQ (c.set t l) (a.set t v) F:=by
 have hl:=h.len;refine⟨by simpa using hl,λb hb=>?_⟩;rw[ak4]at hb;rw[fu d,fu af];by_cases e:b=t;·rw[aK e,aK e];exact f
 rw[aq e,aq e];exact h.mem b hb
theorem JP{w:List (Int×List Int)}{vs:Nat->AV}:∀n,((ake n).flatMap λk=>[aI (w.getD k (0,[])).1,vs k]).length=n*2|0=>rfl|n+1=>by rw[alb,akD,aj8,JP n];simp;omega
theorem afJ{w:List (Int×List Int)}{vs:Nat->AV}{k:Nat}(a:k<w.length):(rA w vs)[0+k*2]?=some (aI (w.getD k (0,[])).1)/\(rA w vs)[0+k*2+1]?=some (vs k):=by
 unfold rA;obtain⟨d,hd⟩:∃d,w.length=k+1+d:=⟨w.length - (k+1),af⟩;rw[hd,akh];clear hd a;induction d with
 |zero=>
  rw[alG,alb,akD,akK];have hl:=JP (w:=w) (vs:=vs) k;constructor;·rw[List.getElem?_append_right af,hl,Nat.sub_self];rfl
  rw[List.getElem?_append_right af,hl];simp
 |succ d b=>have hl:=JP (w:=w) (vs:=vs) (k+1+d);rw[<-alo,alb,akD,akw af,akw af];exact b
def yY(f h i d e:ab)(g:G.bu)(j:AV)(F:List Th)(a:List Bool)(b:List AV)(c:Bool):List Th:=[tZ F,tB Ap f [.slice d 0 g.al.length g.al.length true,.slice e 0 g.al.length g.al.length true,.bool c],tS Il 1 b g.al.length true (.slice e 0 g.al.length g.al.length true),tS 4 1 (a.map .bool) g.al.length true (.slice d 0 g.al.length g.al.length true),tB Ap h [.aS,.aS,.bool false],tB fI i [.str g.name,aI g.params,aI g.bp,j]]
section
variable{g:G.bu}{wo:Int}{H:ai}{cs:List AV}
theorem lw.zero(i:mL g):lw g wo (if wo≠0 then(ahr g.al.length false).set 0 true else ahr g.al.length false) (ahr g.al.length []):=by
 have a:=i.ne;have c:∀b,(ahr g.al.length ([]:List Int)).getD b []=[]:=λb=>by simp only[akm,ak8];split<;>rfl
 have d:∀b,(ahr g.al.length false).getD b false=false:=λb=>by simp only[akm,ak8];split<;>rfl
 by_cases h:wo≠0
 .rw[aK h];have j:∀b,((ahr g.al.length false).set 0 true).getD b false=true->b=0:=λb hb=>by
   rw[fu (by simpa using a)]at hb;by_cases e:b=0;·exact e
   rw[aq e,d]at hb;cases hb
  have f:=wS (come:=ahr g.al.length false) (k:=0) (by simpa using a) (d 0);rw[E3]at f;refine⟨aB,aB,λ_=>by rw[fu (by simpa using a),aK rfl],λb _=>c b,λb hb=>?_,λb hb=>?_⟩;·rw[c,j b hb];exact .zero h
  rw[c];simp only[List.length_nil];omega
 rw[aq h];exact⟨aB,aB,λh0=>absurd h0 h,λb _=>c b,λb hb=>(by rw[d]at hb;cases hb),λb hb=>(by rw[d]at hb;cases hb)⟩
theorem JQ(T:Tb ac)(hg:iG H g cs)(hB:G.Sm g)(hS:mL g)(d1:g.al.length<=30){K:KT}(h:∀H' P N n F c aC p,fN g wo c aC p->(∀b,oF g wo c aC p b)->lQ aC n F->aj H H' [tZ F,tS Il 1 n g.al.length true (.slice N 0 g.al.length g.al.length true),tS 4 1 (c.map .bool) g.al.length true (.slice P 0 g.al.length g.al.length true)]->K (.agg [.slice P 0 g.al.length g.al.length true,.slice N 0 g.al.length g.al.length true,.bool p]) H'):YN ac Wv [.agg cs,aI wo] H K:=by
 have d2:=hg.one;have cd:=hg;obtain⟨vb,rfl,cA⟩:=hg;have⟨d7,_,_,d8⟩:=cA.all;have cf:=hS.ne;refine YF.code T.abf aB ?_;refine au ?_;refine RO.dL (aj.dc H) λH1 Y U=>?_;refine RO.gI U λH2 S U=>?_;refine ah ?_;refine RO.oT U (n:=g.al.length) (λH3 P U=>?_) (hz:=by rw[iZ];simp);refine ah ?_;refine RO.oT U (n:=g.al.length) (λH4 N U=>?_) (hz:=by rw[iZ];simp);refine ah ?_;refine RO.fx U λH5 V U=>?_;have U:=U.py 3 1;have U:=(U.as 0 rfl λfp hp=>tS.mg hp).Qg;rw[iZ,iZ]at U;have U:aj H H5 (yY V S Y P N g vb [tR 1 [] 0 .aS] (ahr g.al.length false) (ahr g.al.length .aS) false):=by unfold yY;rw[alz];exact U
 have f:lQ (ahr g.al.length []) (ahr g.al.length .aS) [tR 1 [] 0 .aS]:=⟨aB,λb hb=>by rw[ak9]at hb;rw[bF (by simpa using hb),bF (by simpa using hb),List.getElem_replicate,List.getElem_replicate];exact aeU ..⟩;refine RO.nil ?_;refine Ru.seq ?_;refine Ru.wP (P:=λM H'=>M=[(p1,aI wo),(p2,.az Y 0),(p4,.az S 0),(p5,aN g.al.length),(p6,.az V 0)]/\aj H H' (yY V S Y P N g vb [tR 1 [] 0 .aS] (if wo≠0 then(ahr g.al.length false).set 0 true else ahr g.al.length false) (ahr g.al.length .aS) false)) (λM H6⟨hM,U⟩=>?_) (λs' q=>?_);rotate_left
 .refine ah ?_;refine Ru.cond (λu=>?_) (λu=>?_);·have u:wo≠0:=u;rw[aK u]at q;refine ah ?_;refine RO.lC (f:=AV.bool) (zs:=ahr g.al.length false) U 3 true (n:=g.al.length) (ak9 ..) (λH6 U=>?_) (k:=0) (ho:=by simpa using cf);refine ah ?_;exact q _ _ _ ⟨rfl,U⟩ fB
  have u:¬wo≠0:=u;rw[aq u]at q;refine ah ?_;exact q _ _ _ ⟨rfl,U⟩ fB
 subst hM;have r:=lw.zero (wo:=wo) hS;generalize(if wo≠0 then(ahr g.al.length false).set 0 true else ahr g.al.length false)=dz at*;generalize [tR 1 [] 0 .aS]=F0 at*;generalize ahr g.al.length AV.aS=d3 at*;generalize ahr g.al.length ([]:List Int)=d4 at*;refine ah ?_;refine Ru.nm λS0 M cn hM=>?_;refine Ru.cC hM (dn (P:=λm=>∀B c aC n F p C,(if C=true then lr c+1 else 0)=m->fN g wo c aC p->lQ aC n F->(C=false->∀b,oF g wo c aC p b)->aj H B (yY V S Y P N g vb F c n p)->Ru ac _ S0 ([(p7,.bool C)]++pk M [p1,p2,p4,p5,p6]) B) (λm ih B c aC n F p C cp r f z U=>?_) _ _ _ _ _ _ false true rfl ⟨r,λh=>by cases h⟩ f (λh=>by cases h) U);subst cn;subst hM;refine Ru.loop ?_;refine ah ?_;refine Ru.kN (λay=>?_) (λay=>?_)
 .subst ay;simp only[bq]at cp;refine ah ?_;refine Ru.nm λS1 M1 cv a6=>?_;refine Ru.cC a6 (up (P:=λk=>∀B c aC n F p C,(C=true->lr c+1<m)->lr c+1<=m->fN g wo c aC p->lQ aC n F->(C=false->∀b,b<k->oF g wo c aC p b)->aj H B (yY V S Y P N g vb F c n p)->Ru ac _ S1 ([(p8,aN k),(p7,.bool C)]++pk M1 [p1,p2,p4,p5,p6]) B) g.al.length (λb hb a0 B c aC n F p C A E r f z U=>?_) 0 af _ c aC n F p false (λh=>by cases h) af r f (λ_ b hb=>by omega) U);subst cv;subst a6;refine Ru.loop ?_;refine ah ?_;refine Ru.cond (λa8=>?_) (λa8=>?_)
  .have a9:=r.lc;have a':=r.lo;have ba:=f.len;refine ah ?_;refine RO.qS U 2 λH6 v9 U=>?_;have⟨d',_,_,ea⟩:=(U.sl (e:=nO) (size:=2) (sv:=v9) (vs:=[]) (n:=0) (full:=true) 0).all;refine RO.bg ?_;refine RO.nil ?_;refine Ru.seq ?_;refine Ru.wP (P:=λM H'=>∃w vs F' W,M=[(p9,W),(p1,aI wo),(p2,.az Y 0),(p4,.az S 0),(p5,aN g.al.length),(p6,.az V 0),(p7,.bool C),(p8,aN b)]/\(c.getD b false=true->w=lu g b (aC.getD b []))/\(c.getD b false=false->w=[])/\w.length<=12/\(∀k,k<w.length->tR 1 ((w.getD k (0,[])).2.map aI) (w.getD k (0,[])).2.length (vs k)∈F')/\lQ aC n F'/\aj H H' (tS nO 2 (rA w vs) w.length true W::yY V S Y P N g vb F' c n p)) (λM H7⟨w,vs,F',W,hM,bb,cx,d5,cy,f,U⟩=>?_) (λs' q=>?_);rotate_left
   .have cE:(c.map AV.bool)[0+b*1]?=some (.bool (c.getD b false)):=by rw[show 0+b*1=b by omega,aks,getElem?_pos c b af,bF af];rfl
    refine ah ?_;refine RO.fD U 4 (hv:=cE) ?_;refine ah ?_;refine Ru.kN (λu=>?_) (λu=>?_)
    .have c3:n[0+b*1]?=some (n.getD b .co):=by rw[show 0+b*1=b by omega,getElem?_pos n b af,bF af]
     have hF:=f.mem b af;obtain⟨_,bc,_,_⟩:=U.mf 1 rfl hF;have⟨eb,_,_,_⟩:=bc.all;obtain⟨I,a1⟩:=(r.snd b u).ok hS;have ca:=r.jx b u;refine ah ?_;refine RO.eQ U 6 ?_;refine ah ?_;refine RO.fD U 3 (hv:=c3) ?_;refine RO.cl (afE T (dQ.nM U.gr cd) hB I (hS.t3 b I) bc af a1 λH7 W vs Fw c5 hl=>?_);have U:=U.fC hl;have X:=(hl.sl (e:=nO) (size:=2) (sv:=W) (full:=true) (vs:=rA (lu g b (aC.getD b [])) vs) (n:=(lu g b (aC.getD b [])).length) 1).all.1;refine ah ?_;have c8:=((U.sub (.cons_cons _ (.cons_cons _ (.cons _ (akL _))))).cM (akO _ (akS _ _ _))).afH;have c9:(lu g b (aC.getD b [])).length<=12:=by
      have:=(hB.bl _ (agB I)).2.2.2.2.1;unfold lu;split;·simp
      split;·split<;>simp
      rw[akg,aH,bF I];omega
     generalize lu g b (aC.getD b [])=w at*;have c':=(c8.afI (G:=(ake w.length).map λk=>tR 1 ((w.getD k (0,[])).2.map aI) (w.getD k (0,[])).2.length (vs k)) λt L=>by
      obtain⟨k,hk,rfl⟩:=akk.1 L;rw[ak3]at hk;rcases c5 k hk with h9|h9;·exact⟨_,akf _ h9,λ_ _ h=>h⟩
      exact⟨_,akq _ hF,λ_ _ h=>Qe h9 h⟩).cM (akS _ _ _);exact q _ _ _ ⟨w,vs,_,W,rfl,λ_=>rfl,λh=>(by rw[u]at h;cases h),c9,λk hk=>akf _ (akk.2 ⟨k,ak3.2 hk,rfl⟩),f.Jo λt L=>akq _ (akq _ L),c'⟩ fB
    refine ah ?_;exact q _ _ _ ⟨[],λ_=>.aS,F,v9,rfl,λh=>(by rw[u]at h;cases h),λ_=>rfl,aB,λk hk=>absurd hk aB,f,U⟩ fB
   subst hM;have d6:b<g.al.length:=a8;refine ah ?_;have a0:=a0 (b+1) af af;refine Ru.nm λS2 M2 dm bd=>?_;refine Ru.cC bd (up (P:=λj=>∀B a d o l y,(y=true->lr a+1<m)->lr a+1<=m->fN g wo a d l->lQ d o F'->(c.getD b false=true->a.getD b false=true/\d.getD b []=aC.getD b [])->(y=false->a.getD b false=c.getD b false/\(∀Q,Q<b->oF g wo a d l Q)/\∀i,i<w.length->i<j->A3 wo a d l (w.getD i (0,[])))->aj H B (tS nO 2 (rA w vs) w.length true W::yY V S Y P N g vb F' a o l)->Ru ac _ S2 ([(aO,aN j),(p7,.bool y)]++pk M2 [p1,p2,p4,p5,p6,p8,p9]) B) w.length (λj hj J B a d o l y A E r f O z U=>?_) 0 af _ c aC n p C A E r f (λh=>⟨h,rfl⟩) (λh=>⟨rfl,z h,λi _ hi=>by omega⟩) U);subst dm;subst bd;have X:=(U.sl (e:=nO) (size:=2) (sv:=W) (full:=true) (vs:=rA w vs) (n:=w.length) 0).all;have ec:=X.2.2.2;have X:=X.1;have a9:=r.lc;have a':=r.lo;have ba:=f.len;refine Ru.loop ?_;refine ah ?_;refine Ru.cond (λs=>?_) (λs=>?_)
   .have bv:c.getD b false=true:=by cases R:c.getD b false with|true=>rfl|false=>rw[cx R]at s;simp at s
    obtain⟨v,Z⟩:=O bv;have a2:w.getD j (0,[])∈lu g b (d.getD b []):=by rw[Z,<-bb bv,bF s];exact agB s
    obtain⟨I,a1⟩:=(r.snd b v).ok hS;obtain⟨⟨ei,ej⟩,ek,el⟩:=vE hS I a1 _ a2;have ca:=r.jx b v;have hF:=cy j s;have J:=J (j+1) af af;have ag:y=false->A3 wo a d l (w.getD j (0,[]))->a.getD b false=c.getD b false/\(∀Q,Q<b->oF g wo a d l Q)/\∀i,i<w.length->i<j+1->A3 wo a d l (w.getD i (0,[])):=λh hd=>by
     obtain⟨a3,a4,a5⟩:=z h;refine⟨a3,a4,λi hi dr=>?_⟩;by_cases e:i=j;·subst e;exact hd
     exact a5 i hi af
    obtain⟨b0,b3⟩:=afJ (vs:=vs) s;generalize ds:w.getD j (0,[])=wj at*;obtain⟨t,L⟩:∃t:Nat,wj.1=t:=⟨wj.1.toNat,af⟩;rw[L]at b0;have et:t<g.al.length:=af;obtain⟨qw,cap,ex,rfl⟩:=U.uT (e:=nO) (size:=2) (n:=w.length) (full:=true) (sv:=W) 0 rfl af;obtain⟨_,av,_,_⟩:=U.mf 1 rfl hF;have⟨ew,eY,e0,_⟩:=av.all;refine ah ?_;refine RO.fD U 0 (hv:=b0) ?_;refine ah ?_;refine Ru.cond (λu=>?_) (λu=>?_)
    .have u:wj.1=wo:=by rw[L];exact u
     refine ah ?_;exact Ru.wk (J _ a d o l y A E r f O (λh=>ag h (.inl u)) U)
    have u:wj.1≠wo:=by rw[L];exact u
    have dv:(a.map AV.bool)[0+t*1]?=some (.bool (a.getD t false)):=by rw[show 0+t*1=t by omega,aks,getElem?_pos a t af,bF af];rfl
    refine ah ?_;refine RO.fD U 4 (hv:=dv) ?_;refine ah ?_;refine Ru.kN (λD=>?_) (λD=>?_)
    .have D:a.getD t false=false:=by simpa using D
     have b4:b≠t:=λe=>by rw[<-e,v]at D;cases D
     have e1:=wS af D;refine ah ?_;refine RO.fD U 0 (hv:=b3) ?_;refine ah ?_;refine RO.afF (f:=AV.bool) (zs:=a) U 4 true a9 (k:=t) (λH8 U=>⟨λaa dx=>?_,?_⟩);·obtain⟨_,hp⟩:=U.get 2 rfl;exact il (i:=V) (o:=1) (v:=.slice N 0 g.al.length g.al.length true) dx (by(conv=>lhs;whnf)<;>rfl) (by(conv=>lhs;whnf)<;>rfl) rfl (by simp[iy,gz,ab.ip]) (tB.cell hp rfl) rfl
     refine ah ?_;refine RO.yK U 3 (n:=g.al.length) (vs:=o) af (k:=t) (w:=vs j) (λH9 U=>?_);refine ah ?_;have aw:=r.add hS v a2 u (by rw[L,aj3];exact D);rw[L,aj3]at aw;exact Ru.wk (J _ (a.set t true) (d.set t wj.2) (o.set t (vs j)) l true (λ_=>by omega) af ⟨aw,r.FA⟩ (f.set af hF) (λh=>by rw[fu af,fu af,aq b4,aq b4];exact⟨v,Z⟩) (λh=>by cases h) U)
    have D:a.getD t false=true:=by simpa using D
    have dy:o[0+t*1]?=some (o.getD t .co):=by rw[show 0+t*1=t by omega,getElem?_pos o t af,bF af]
    obtain⟨_,ax,_,_⟩:=U.mf 1 rfl (f.mem t af);have⟨e2,_,_,_⟩:=ax.all;have d0:=r.jx t D;refine ah ?_;refine RO.fD U 3 (hv:=dy) ?_;refine ah ?_;refine RO.fD U 0 (hv:=b3) ?_;refine RO.cl (afG T ax av af (λg3=>?_) (λg3=>?_));·refine ah ?_;exact Ru.wk (J _ a d o l y A E r f O (λh=>ag h (.inr (by rw[L,aj3];exact⟨D,λ_=>g3⟩))) U)
    refine ah ?_;refine RO.gG U 2 (λH8 U=>?_);refine ah ?_;have b5:∀w,A3 wo a d l w->A3 wo a d true w:=λw hw=>hw.imp id λh=>⟨h.1,λh=>by cases h⟩;have b6:=lR.step (r.snd b v) a2 u;rw[L,aj3]at b6;exact Ru.wk (J _ a d o true y A E ⟨r.toFlI,λ_=>⟨t,_,_,r.snd t D,b6,g3⟩⟩ f O (λh=>by
     obtain⟨a3,a4,a5⟩:=z h;refine⟨a3,λQ b' R x hx=>b5 _ (a4 Q b' R x hx),λi hi dr=>?_⟩;by_cases e:i=j;·subst e;rw[ds];exact .inr (by rw[L,aj3];exact⟨D,λh=>by cases h⟩)
     exact b5 _ (a5 i hi af)) U)
   refine Ru.exitTo ?_;refine ah ?_;refine Ru.wk (a0 B a d o F' l y A E r f (λh Q b'=>?_) U.tail);obtain⟨a3,a4,a5⟩:=z h;by_cases e:Q=b;·subst e;intro R x hx;rw[a3]at R;rw[(O R).2,<-bb R]at hx;obtain⟨i,hi,rfl⟩:=aka hx;have:=a5 i hi af;rw[bF hi]at this;exact this
   exact a4 Q af
  refine Ru.exitTo ?_;obtain rfl:b=g.al.length:=af;refine ah ?_;refine Ru.wk (ih _ ?_ B c aC n F p C rfl r f (λh x=>?_) U);·cases C with|true=>rw[aK rfl];exact A rfl|false=>rw[aq aB];omega
  by_cases hx:x<g.al.length;·exact z h x hx
  intro R;have:=r.lc;rw[akm,List.getElem?_eq_none af]at R;cases R
 subst ay;refine Ru.exitTo ?_;have a':=r.lo;have ba:=f.len;refine ah ?_;refine RO.eQ U 1 ?_;refine RO.iT U 4 (λH7 U=>?_);refine ah ?_;exact Ru.lM (vs:=[_]) ⟨⟨S,0,rfl,U.agg 4⟩,trivial⟩ (h H7 P N n F c aC p r (z rfl) f (U.sub (.cons_cons _ (.cons _ (.cons_cons _ (.cons_cons _ (.cons _ (.cons _ .slnil))))))))
end
end
end
end Go.am.R
end
