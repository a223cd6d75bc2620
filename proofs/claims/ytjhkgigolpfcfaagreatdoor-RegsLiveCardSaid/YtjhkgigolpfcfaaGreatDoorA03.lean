/- A part of the proof. No conditions. -/
import Derived.Test.YtjhkgigolpfcfaaGreatDoorA02
import Derived.Test.YtjhkgigolpfcfaaGreatDoorA01
import Derived.Sort.Grow
import Derived.Sort.Row
set_option linter.all false
open Option.some renaming injEq->adG
open Option renaming bind_eq_some_iff->aed,pure_def->ajB
open List renaming mem_singleton->aep,mem_cons_of_mem->aey,mem_cons_self->aeU,range->ake,getElem?_append_left->akw,nodup_cons->akz,length_cons->akA,length_singleton->akC,nodup_append->akI,pairwise_cons->alq,nodup_nil->alD
open Nat renaming eq_of_beq_eq_true->aj4,beq->akb,le_of_ble_eq_true->akc,blt->akv,ble_eq_true_of_le->akB,blt_eq->akY,ble->ak2,le_trans->alj
open Int renaming ofNat->ak1
open Array renaming getD_eq_getD_getElem?->akJ,getElem?_eq_none->akX,replicate->alH
open List.Perm renaming swap->akS
open Eq renaming mpr->alN
open Prod renaming fst->alO
open List.Pairwise renaming nil->alQ
noncomputable section
namespace Go.am
section
variable[Ov]
section
variable{P:Program}{nt:Nat}{aC:Array Oper}{l:List be}{ak:List Nat}
theorem sZ(aa:ap AV)(d:Option ab)(v:AV)(t:ab):(aQ aa d v).get .alR t=if d=some t then v else aa.get .alR t:=by cases d with|none=>rfl|some d=>simp only[aQ,ap.aF];grind
theorem G7{aa a:ap AV}{x:be}(b:∀t∈x.lY,aa.get .alR t=a.get .alR t):fF aa x.guard=fF a x.guard:=by grind[be.lY,fF]
theorem Ml{aa a:ap AV}{x:be}(b:∀t∈x.lY,aa.get .alR t=a.get .alR t):lX aa x.guard=lX a x.guard:=by grind[be.lY,lX]
theorem zO{x:be}{t:ab}(a:t∈x.op.cQ):t∈x.lY:=by simp[a,be.lY]
structure mQ(P:Program)(nt:Nat)(aC:Array Oper)(l:List be)(ak:List Nat):Prop where
 hl:aC.toList.mapM (sP P nt aC)=some l
 he:Bp aC=true
 eZ:∀i,i<aC.size->i∈ak
 ia:zt l (Region.before aC) ak=true
theorem Mm{d c:Type}{f:d->Option c}:∀{as:List d}{bs:List c},as.mapM f=some bs->∀(i:Nat)(b:c),bs[i]?=some b->∃a,as[i]?=some a/\f a=some b|[],bs,l,i,b,hb=>by grind|a::as,bs,l,i,b,hb=>by simp only[alw,ae5,aed,ajB,adG]at l;obtain⟨k,h0,j,h1,rfl⟩:=l;cases i with|zero=>grind|succ i=>simpa using Mm h1 i b hb
theorem mQ.op(b:mQ P nt aC l ak){i:Nat}{x:be}(a:l[i]?=some x):∃o,aC[i]?=some o/\sP P nt aC o=some x:=by obtain⟨o,h1,h2⟩:=Mm b.hl i x a;grind
def G8(l:List be)(c:Array Nat)(seen:List Nat)(e aa:ap AV)(H:ai)(i:Nat):Prop:=
 ∃(x:be)(b cO:List Nat)(ex:ap AV),l[i]?=some x/\seen=b++i::cO/\
  (∀t,(∃k∈cO,gM l k t)->ex.get .alR t=aa.get .alR t)/\(∀t,(∀k∈cO,¬gM l k t)->ex.get .alR t=e.get .alR t)/\
  ((fF ex x.guard=false/\lX ex x.guard=true/\∀d,x.dst=some d->aa.get .alR d=.alR)\/
   (fF ex x.guard=true/\∃v,(∀d,x.dst=some d->aa.get .alR d=v)/\
    ((x.op.mO=false/\∀a:ai,aE x.op ex a=some (v,a))\/
    (x.op.kp=true/\(∀j,x.op.target ex=some j->H.get j≠.none/\∀k∈seen,Mk l aa k j->kw c i k)/\∀a:ai,(∀j,x.op.target ex=some j->a.get j=H.get j)->aE x.op ex a=some (v,a))\/
    (x.op.mO=true/\∃(nv:mu)(eF:cq)(j:ab),eF.mw/\v=nv.of j/\H.get j=eF/\∀a:ai,aE x.op ex a=some (nv.of a.next,a.new eF)))))
structure Dr(P:Program)(Wr:cU)(nt:Nat)(aC:Array Oper)(l:List be)(ak:List Nat)(ac:Nat->aG)(K:Fr->ai->Prop)(bI:List ab)(bG:Option ab)(env0:ap AV)
  (L:Array Bool)(seen rest:List Nat)(n:Nat)(aa:ap AV)(H:ai)(epi:ap AV)(pn:List ab)(ρ:aP)(w:World)(tmps:Array Value):Prop where
 iN:seen.reverse++rest=ak
 size:L.size=aC.size
 sub:∀i,In L i->i∈seen
 qI:∀i,In L i->∀j,my aC i j->In L j
 G9:∀i∈seen,Ch l i->In L i
 run:Go.am.aC False dK ac n (sQ l (Region.before aC) seen rest) ⟨aa,bI,bG⟩ H K
 uL:∀t,(∀i∈seen,¬gM l i t)->aa.get .alR t=env0.get .alR t
 vU:∀t,(∀i∈seen,¬In L i->¬gM l i t)->epi.get .alR t=aa.get .alR t
 BH:∀t i,i∈seen->¬In L i->gM l i t->epi.get .alR t=env0.get .alR t
 rV:∀j,j∈pn↔∃i∈seen,¬In L i/\Mk l aa i j
 lY:∀i i' j,i∈seen->i'∈seen->Mk l aa i j->Mk l aa i' j->i=i'
 s9:∀i j,i∈seen->Mk l aa i j->j.an<H.next.an/\(j∈pn\/ρ j≠none)
 mw:∀i j,i∈seen->Mk l aa i j->(∀c∈seen,Ch l c->¬kw (Region.before aC) c i)->(H.get j).mw
 cB:∀i∈seen,¬In L i->G8 l (Region.before aC) seen env0 aa H i
 fc:∀j∈pn,ρ j=none/\¬Wr.un j/\∀k,j∉(H.get k).aM
 E:jg ρ nt epi tmps
 kq:bz P Wr ρ (H.gh pn) w
section
variable{h:cU}{ac:Nat->aG}{K:Fr->ai->Prop}{bI:List ab}{bG:Option ab}{e:ap AV}{L:Array Bool}{seen rest:List Nat}{n:Nat}{aa:ap AV}{H:ai}{g:ap AV}{m:List ab}{ρ:aP}{w:World}{tmps:Array Value}
theorem BI(a:mQ P nt aC l ak)(b:seen.reverse++rest=ak):seen.Pairwise (λj i=>uy l (Region.before aC) i j=true)/\(∀i∈seen,∀j∈rest,uy l (Region.before aC) i j=true):=by have:=(BG a.ia).1;grind
theorem qJ(a:seen.reverse++rest=ak){i:Nat}(hi:i∈seen):i∈ak:=by grind
theorem xG(a:seen.reverse++rest=ak){i:Nat}(hi:i∈rest):i∈ak:=by grind
theorem vV(a:mQ P nt aC l ak){i:Nat}(hi:i∈ak):∃x,l[i]?=some x/\uz x=true:=(BG a.ia).2 i hi
theorem BJ(a:mQ P nt aC l ak)(b:seen.reverse++rest=ak){i:Nat}(hi:i∈rest):i∉seen:=by intro hs;obtain⟨x,c,_⟩:=vV a (xG b hi);exact(rU ((BI a b).2 i hs i hi) c c).1 rfl
theorem Mn(b:mQ P nt aC l ak)(c:seen.reverse++rest=ak){a cO:List Nat}{i:Nat}(hs:seen=a++i::cO):(∀k∈cO,uy l (Region.before aC) k i=true)/\(∀k∈a,uy l (Region.before aC) i k=true):=by have:=(BI b c).1;grind
theorem Dr.Ly(J:mQ P nt aC l ak)(d:Dr P h nt aC l ak ac K bI bG e L seen rest n aa H g m ρ w tmps){i:Nat}(hi:¬In L i)(hd:∀j,my aC i j->In L j){x:be}{D cO:List Nat}{ex:ap AV}(I:l[i]?=some x)(hs:seen=D++i::cO)(h1:∀t,(∃k∈cO,gM l k t)->ex.get .alR t=aa.get .alR t)(h2:∀t,(∀k∈cO,¬gM l k t)->ex.get .alR t=e.get .alR t):∀t∈x.lY,g.get .alR t=ex.get .alR t:=by
 intro t M;have E:=vT d.qI i hd;obtain⟨q,A⟩:=Mn J d.iN hs;have inj:∀{a b:Nat},a∈seen->b∈seen->gM l a t->gM l b t->a=b:=λO hb=>gM.inj J.ia (qJ d.iN O) (qJ d.iN hb);by_cases B:∃k∈seen,gM l k t
 .obtain⟨k,o,s⟩:=B;have C:=o;rw[hs,ahp,aeV]at C;obtain⟨y,p,r⟩:=s;rcases C with F|rfl|F;·have G:=((rU (A k F) I p).2.2.2.1 t r M).1;have u:¬In L k:=λv=>hi (vT d.qI k (d.qI k v) i G);rw[d.BH t k o u ⟨y,p,r⟩];refine(h2 t λN f c=>?_).symm;have:=inj o (by rw[hs];simp[f]) ⟨y,p,r⟩ c;subst this;exact(rU (q k f) p I).2.1 G
  .rw[d.BH t k o hi ⟨y,p,r⟩];refine(h2 t λN f c=>?_).symm;have:=inj o (by rw[hs];simp[f]) ⟨y,p,r⟩ c;subst this;exact(rU (q k f) p p).1 rfl
  have G:=((rU (q k F) p I).2.2.1 t r).2 M;have v:=E k G;rw[h1 t ⟨k,F,y,p,r⟩];refine d.vU t λN f u c=>?_;have:=inj o f ⟨y,p,r⟩ c;subst this;exact u v
 have z:∀k∈seen,¬gM l k t:=λk o s=>B ⟨k,o,s⟩;rw[d.vU t λk o _=>z k o,d.uL t z];exact(h2 t λk o=>z k (by rw[hs];simp[o])).symm
theorem Dr.TU(c:mQ P nt aC l ak)(d:Dr P h nt aC l ak ac K bI bG e L seen rest n aa H g m ρ w tmps){i:Nat}(f:i∈rest)(hd:∀j,my aC i j->In L j){x:be}(o:l[i]?=some x):∀t∈x.lY,g.get .alR t=aa.get .alR t:=by intro t p;refine d.vU t λk q a b=>?_;obtain⟨y,r,s⟩:=b;exact a (vT d.qI i hd k (((rU ((BI c d.iN).2 k q i f) r o).2.2.1 t s).2 p))
end
theorem Hc{o:Oper}{x:be}(c:sP P nt aC o=some x){aa:ap AV}{H:ai}{r:AV×ai}(a:aE x.op aa H=some r):bU P nt o=some x.op:=by
 obtain⟨_,_,_,b,_⟩:=BD c;rw[b]at a;rw[b];split at a;·trivial
 rename_i d;rw[aq d];cases f:bU P nt o with|none=>simp_all[aE]|some q=>rfl
theorem DR{o:Oper}{op:bW}{i:Nat}{is:List Nat}{b:Frame}{a:Act}{k:List Item}{cs:List Frame}{w n:World}{c:Value}(f:aC[i]?=some o)(p:bU P nt o=some op)(hg:Region.wanted o (yielded aC a.tmps)=true)(j:(execOp a.eval o).run P w=.ok (.value c) n\/((execOp a.eval o).run P w=.ok .skip n/\c=undef)):Steps P (lone (b.atR a (.inRegion aC (i::is)::k)) cs w) (lone (b.atR (a.put o.dst c) (.inRegion aC is::k)) cs n):=by
 have l:(b.atR a (.inRegion aC (i::is)::k)).finish c=b.atR (a.put o.dst c) (.inRegion aC is::k):=by rw[Frame.finish_atR,f];rfl
 have d:=stepGR_op (P:=P) (b:=b) (a:=a) (k:=k) (cs:=cs) (w:=w) (rest:=is) f hg;rw[Oper.semAt_eq _ _ _ (BE p)]at d;refine .one (step_lone_go ?_);rw[d,<-l];rcases j with q|⟨q,rfl⟩;all_goals grind[DK,GU]
theorem Mo{o:Oper}{i:Nat}{is:List Nat}{b:Frame}{a:Act}{k:List Item}{cs:List Frame}{w:World}(c:aC[i]?=some o)(hg:Region.wanted o (yielded aC a.tmps)=false):Steps P (lone (b.atR a (.inRegion aC (i::is)::k)) cs w) (lone (b.atR (a.put o.dst undef) (.inRegion aC is::k)) cs w):=by have eh:=stepR_op_skip (P:=P) (b:=b) (a:=a) (k:=k) (cs:=cs) (w:=w) (ops:=aC) (i:=i) (rest:=is) (by simp[c,hg]);rw[c]at eh;exact .one eh
theorem Mp{ρ:aP}{aa:ap AV}{tmps:Array Value}(c:jg ρ nt aa tmps){o:Oper}{x:be}(b:sP P nt aC o=some x)(a:lX aa x.guard=true):Region.wanted o (yielded aC tmps)=fF aa x.guard:=LX (a:=⟨tmps,[]⟩) (fr:=⟨aa,[],none⟩) (ro:=none) ⟨c,trivial,trivial⟩ b a
theorem BK(a:Act)(d:Option Tmp)(c:Value):(a.put d c).defers=a.defers:=by cases d<;>rfl
theorem jg.put{ρ:aP}{aa:ap AV}{a:Act}(f:jg ρ nt aa a.tmps){v:AV}{c:Value}(b:VR ρ v c)(d:Option Tmp):jg ρ nt (aQ aa (d.map ab.dF) v) (a.put d c).tmps:=by cases d with|none=>exact f|some d=>exact f.set b
end
section
variable{P:Program}{nt:Nat}{aC:Array Oper}{l:List be}{ak:List Nat}
variable{h:cU}{ac:Nat->aG}{K:Fr->ai->Prop}{bI:List ab}{bG:Option ab}{m:ap AV}{L:Array Bool}{seen rest:List Nat}{n:Nat}{aa:ap AV}{H:ai}{g:ap AV}{f:List ab}{ρ:aP}{w:World}{tmps:Array Value}
theorem Dr.mark(G:mQ P nt aC l ak)(d:Dr P h nt aC l ak ac K bI bG m L seen rest n aa H g f ρ w tmps){i:Nat}(ji:i∈seen)(D:i<aC.size)(B:∀j,my aC i j->In L j){c:ap AV}{s:List ab}{o:aP}{E:World}{r:Array Value}(C:cL ρ o)(p:∀t,(gM l i t->c.get .alR t=aa.get .alR t)/\(¬gM l i t->c.get .alR t=g.get .alR t))(u:∀j,j∈s↔j∈f/\¬Mk l aa i j)(v:∀j,Mk l aa i j->o j≠none)(y:∀j∈s,o j=none)(I:jg o nt c r)(J:bz P h o (H.gh s) E):Dr P h nt aC l ak ac K bI bG m (L.setIfInBounds i true) seen rest n aa H c s o E r:=by
 have b:∀j,In (L.setIfInBounds i true) j↔j=i\/In L j:=G6 (by rw[d.size];exact D);have q:∀j,¬In (L.setIfInBounds i true) j->j≠i/\¬In L j:=λj hj=>⟨λe=>hj ((b j).2 (.inl e)),λe=>hj ((b j).2 (.inr e))⟩;refine⟨d.iN,by rw[Array.size_setIfInBounds];exact d.size,?_,?_,λk a M=>(b k).2 (.inr (d.G9 k a M)),d.run,d.uL,?_,?_,?_,d.lY,?_,d.mw,λk a z=>d.cB k a (q k z).2,?_,I,J⟩
 .intro j hj;rcases(b j).1 hj with e|e;·rw[e];exact ji
  exact d.sub j e
 .intro j hj k a;rcases(b j).1 hj with e|e;·rw[e]at a;exact(b k).2 (.inr (B k a))
  exact(b k).2 (.inr (d.qI j e k a))
 .intro t N;by_cases hd:gM l i t;·exact(p t).1 hd
  rw[(p t).2 hd];refine d.vU t λk a z=>?_;by_cases e:k=i;·rw[e];exact hd
  exact N k a λS=>(b k).1 S|>.elim e z
 .intro t k a z A;obtain⟨h1,h2⟩:=q k z;rw[(p t).2 λhd=>h1 (gM.inj G.ia (qJ d.iN a) (qJ d.iN ji) A hd)];exact d.BH t k a h2 A
 .intro j;rw[u,d.rV];constructor;·rintro⟨⟨k,a,h1,h2⟩,h3⟩;exact⟨k,a,λS=>(b k).1 S|>.elim (λe=>h3 (e▸h2)) h1,h2⟩
  rintro⟨k,a,h1,h2⟩;obtain⟨O,Q⟩:=q k h1;exact⟨⟨k,a,Q,h2⟩,λh3=>O (d.lY k i j a ji h2 h3)⟩
 .intro k j a R;obtain⟨h1,h2⟩:=d.s9 k j a R;refine⟨h1,?_⟩;rcases h2 with h2|h2
  .by_cases hi:Mk l aa i j;·exact .inr (v j hi)
   exact .inl ((u j).2 ⟨h2,hi⟩)
  right;intro e;cases F:ρ j with|none=>exact h2 F|some x=>rw[(C _ _ F).1]at e;cases e
 intro j hj;exact⟨y j hj,(d.fc j ((u j).1 hj).1).2⟩
theorem mu.zP{n:mu}{i:ab}{c:Value}(k:VR ρ (n.of i) c):ρ i≠none:=by
 cases n with
 |az=>obtain⟨b,x,e,_⟩:=VR.oO k;grind
 |slice a b e=>
  simp only[mu.of]at k;cases c with
  |slice ad d j=>cases ad with|none=>trivial|some ad=>grind[VR]
  |_=>trivial
 |map=>obtain⟨b,e,_⟩:=VR.po k;grind
theorem lZ(H:ai)(f:List ab)(j:ab):(H.gh f).get j=if j∈f then .none else H.get j:=ai.xy f H j
theorem Dr.TV(hR:mQ P nt aC l ak)(d:Dr P h nt aC l ak ac K bI bG m L seen rest n aa H g f ρ w tmps){i:Nat}(ji:i∈seen)(hi:¬In L i)(B:∀j,my aC i j->In L j){b:Frame}{a:Act}(ha:a.tmps=tmps)(is:List Nat)(k:List Item)(cs:List Frame):∃(u:aP)(N:World)(a':Act)(T:ap AV)(F:List ab),cL ρ u/\eC h w N/\a'.defers=a.defers/\Steps P (lone (b.atR a (.inRegion aC (i::is)::k)) cs w) (lone (b.atR a' (.inRegion aC is::k)) cs N)/\Dr P h nt aC l ak ac K bI bG m (L.setIfInBounds i true) seen rest n aa H T F u N a'.tmps:=by
 subst ha;obtain⟨x,b4,cO,ex,hx,hs,h1,h2,z⟩:=d.cB i ji hi;obtain⟨o,R,aw⟩:=hR.op hx;obtain⟨xd,_⟩:=BD aw;have a2:i<aC.size:=by
  rcases akW i aC.size with q|q;·exact q
  rw[akX q]at R;cases R
 have a3:=d.Ly hR hi B hx hs h1 h2;have bv:lX ex x.guard=true:=by
  rcases z with⟨_,b6,_⟩|⟨b6,_⟩;·exact b6
  exact G0 b6
 have a4:Region.wanted o (yielded aC a.tmps)=fF ex x.guard:=by rw[Mp d.E aw (by rw[Ml a3];exact bv)];exact G7 a3
 have V:∀H',aE x.op g H'=aE x.op ex H':=λH'=>G3 (λp hp=>a3 p (zO hp)) H';have W:∀{v:AV},(∀t,x.dst=some t->aa.get .alR t=v)->∀t,(gM l i t->(aQ g x.dst v).get .alR t=aa.get .alR t)/\(¬gM l i t->(aQ g x.dst v).get .alR t=g.get .alR t):=by
  intro v O t;rw[sZ];refine⟨λ⟨y,Q,dy⟩=>?_,λhn=>?_⟩;·rw[hx]at Q;injection Q with Q;subst Q;rw[aK dy,O t dy]
  rw[aq λe=>hn ⟨x,hx,e⟩]
 have J:∀j,Mk l aa i j->x.op.mO=true/\∃t,x.dst=some t/\jq (aa.get .alR t)=some j:=by rintro j⟨y,t,Q,g1,g2,g3⟩;rw[hx]at Q;injection Q with Q;subst Q;exact⟨g1,t,g2,g3⟩
 have G:∀j∈f,j.an<H.next.an:=λj hj=>by obtain⟨k',a5,_,M⟩:=(d.rV j).1 hj;exact(d.s9 k' j a5 M).1
 have X:∀j∈f,∀k,j∉((H.gh f).get k).aM:=λj hj k hk=>by
  rw[lZ]at hk;split at hk;·cases hk
  exact(d.fc j hj).2.2 k hk
 have I:(H.gh f).next=H.next:=ai.kf _ _;have Z:∀{v:AV},x.op.mO=false->aE x.op g (H.gh f)=some (v,H.gh f)->(∀t,x.dst=some t->aa.get .alR t=v)->fF ex x.guard=true->∃(u:aP)(N:World)(a':Act)(T:ap AV)(F:List ab),cL ρ u/\eC h w N/\a'.defers=a.defers/\Steps P (lone (b.atR a (.inRegion aC (i::is)::k)) cs w) (lone (b.atR a' (.inRegion aC is::k)) cs N)/\Dr P h nt aC l ak ac K bI bG m (L.setIfInBounds i true) seen rest n aa H T F u N a'.tmps:=by intro v M A O hg;have a6:=d.kq.ku (hl:=λ_=>False) (dd:=λj=>j∈f) (λ_ b6=>b6.elim) (λj hj=>⟨by rw[lZ,aK hj],(d.fc j hj).1,by rw[I];exact G j hj,X j hj⟩) rfl (λ_=>.inl rfl) (λ_ b6=>b6.elim);have C:=Hc aw A;obtain⟨c,N,Y,u,s,ax,S,hK⟩:=BC (ef.mk d.E a6) C A;obtain⟨u1,u2⟩:=d.kq.G5 (hl:=λ_=>False) (λ_ b6=>b6.elim) s S hK (H2:=H.gh f) rfl (λ_ b6=>b6.elim) (λ_ _=>rfl);refine⟨u,N,a.put o.dst c,aQ g x.dst v,f,s,u2,BK ..,DR R C (by rw[a4];exact hg) Y,?_⟩;refine d.mark hR ji a2 B s (W O) (λj=>⟨λhj=>⟨hj,λb6=>by rw[M]at J;have:=(J j b6).1;cases this⟩,λhj=>hj.1⟩) (λj b6=>by rw[M]at J;have:=(J j b6).1;cases this) (λj hj=>(S.fc j (.inr hj)).2) ?_ u1;rw[xd];exact(d.E.mono s).put ax o.dst
 rcases z with⟨hg,_,O⟩|⟨hg,v,O,z⟩
 .refine⟨ρ,w,a.put o.dst undef,aQ g x.dst .alR,f,cL.refl ρ,eC.refl h w,BK ..,Mo R (by rw[a4];exact hg),?_⟩;have a9:∀j,¬Mk l aa i j:=λj b6=>by obtain⟨_,t,g1,g2⟩:=J j b6;rw[O t g1]at g2;simp[AV.alR,jq]at g2
  refine d.mark hR ji a2 B (cL.refl ρ) (W O) (λj=>⟨λhj=>⟨hj,a9 j⟩,λhj=>hj.1⟩) (λj b6=>absurd b6 (a9 j)) (λj hj=>(d.fc j hj).1) ?_ d.kq;rw[xd];exact d.E.put (VR.alR ρ) o.dst
 rcases z with⟨M,A⟩|⟨hr,b0,A⟩|⟨M,nv,eF,D,Q,rfl,bb,A⟩;·exact Z (v:=v) M (by rw[V];exact A (H.gh f)) O hg
 .refine Z (v:=v) (zN hr).2.1 ?_ O hg;rw[V];refine A (H.gh f) λj hj=>?_;rw[lZ,aq];intro b3;obtain⟨k',a5,hn,bc⟩:=(d.rV j).1 b3;exact hn (vT d.qI i B k' ((b0 j hj).2 k' a5 bc))
 obtain⟨x',ay,bd⟩:=vV hR (qJ d.iN ji);rw[hx]at ay;injection ay with ay;subst ay;obtain⟨t0,a8⟩:∃t,x.dst=some t:=by cases hd:x.dst with|some t=>exact⟨t,rfl⟩|none=>simp[uz,hd,(zM M).1,(zM M).2.2]at bd
 have ag:jq (aa.get .alR t0)=some D:=by rw[O t0 a8];exact mu.name nv D
 have ba:Mk l aa i D:=⟨x,t0,hx,M,a8,ag⟩;have av:∀j,Mk l aa i j->j=D:=by intro j b6;obtain⟨_,t,g1,g2⟩:=J j b6;rw[a8]at g1;injection g1 with g1;subst g1;rw[ag]at g2;injection g2 with g2;exact g2.symm
 have a0:D∈f:=(d.rV D).2 ⟨i,ji,hi,ba⟩;have r:∀j,j∈f.filter (λj=>decide (j≠D))↔j∈f/\j≠D:=λj=>by simp
 generalize b5:f.filter (λj=>decide (j≠D))=F at r;have a6:=d.kq.ku (hl:=λ_=>False) (dd:=λj=>j∈F) (λ_ b6=>b6.elim) (λj hj=>⟨by rw[lZ,aK ((r j).1 hj).1],(d.fc j ((r j).1 hj).1).1,by rw[I];exact G j ((r j).1 hj).1,X j ((r j).1 hj).1⟩) rfl (λ_=>.inl rfl) (λ_ b6=>b6.elim);have a1:∀H':ai,aE x.op g H'=some (nv.of H'.next,H'.new eF):=λH'=>by rw[V];exact A H'
 have C:=Hc aw (a1 H);obtain⟨c,N,Y,u,s,ax,S,hK⟩:=TK a6 d.E C Q a1 (d.fc D a0).1 (by rw[I];exact G D a0) (by
  rintro(b6|b6|b6);·exact(d.fc D a0).2.1 b6
  .exact b6
  exact((r D).1 b6).2 rfl) (X D a0);obtain⟨u1,u2⟩:=d.kq.G5 (hl:=λ_=>False) (λ_ b6=>b6.elim) s S hK (H2:=H.gh F) (by rw[ai.kf,ai.gD,ai.kf]) (λ_ b6=>b6.elim) (λj _=>by
  rw[lZ,ai.aF,lZ];by_cases e:j=D;·subst e;rw[aq λb6=>((r j).1 b6).2 rfl,aK rfl];exact bb
  by_cases e':j∈f;·rw[aK ((r j).2 ⟨e',e⟩),aq e,aK e']
  rw[aq λb6=>e' ((r j).1 b6).1,aq e,aq e']);refine⟨u,N,a.put o.dst c,aQ g x.dst (nv.of D),F,s,u2,BK ..,DR R C (by rw[a4];exact hg) Y,?_⟩;refine d.mark hR ji a2 B s (W O) (λj=>?_) (λj b6=>?_) (λj hj=>(S.fc j (.inr hj)).2) ?_ u1;·rw[r];exact⟨λb6=>⟨b6.1,λM=>b6.2 (av j M)⟩,λb6=>⟨b6.1,λe=>b6.2 (e▸ba)⟩⟩
 .rw[av j b6];exact mu.zP ax
 rw[xd];exact(d.E.mono s).put ax o.dst
end
section
variable{P:Program}{nt:Nat}{aC:Array Oper}{l:List be}{ak:List Nat}
variable{r:cU}{ac:Nat->aG}{K:Fr->ai->Prop}{bI:List ab}{bG:Option ab}{s:ap AV}{L:Array Bool}{seen rest:List Nat}{n:Nat}{aa:ap AV}{H:ai}{p:ap AV}{h:List ab}{ρ:aP}{w:World}{tmps:Array Value}
theorem Mk.Hd{aa a:ap AV}{i:Nat}{j:ab}(c:∀t,gM l i t->a.get .alR t=aa.get .alR t):Mk l a i j↔Mk l aa i j:=by
 constructor;·rintro⟨x,t,b,h1,h2,h3⟩;exact⟨x,t,b,h1,h2,by rw[<-c t ⟨x,b,h2⟩];exact h3⟩
 rintro⟨x,t,b,h1,h2,h3⟩;exact⟨x,t,b,h1,h2,by rw[c t ⟨x,b,h2⟩];exact h3⟩
theorem TW(f:mQ P nt aC l ak){c:Nat}{rest:List Nat}(g:seen.reverse++c::rest=ak){a ex:ap AV}{i:Nat}{y:be}{e cO:List Nat}(q:l[i]?=some y)(u:y.op.kp=true)(hs:seen=e++i::cO)(h1:∀t,(∃k∈cO,gM l k t)->ex.get .alR t=a.get .alR t)(h2:∀t,(∀k∈cO,¬gM l k t)->ex.get .alR t=s.get .alR t)(h0:∀t,(∀k∈c::seen,¬gM l k t)->a.get .alR t=s.get .alR t):∀t∈y.lY,a.get .alR t=ex.get .alR t:=by
 intro t v;by_cases j:∃k∈cO,gM l k t;·grind
 rw[h2 t λk b d=>j ⟨k,b,d⟩];refine h0 t λk b d=>?_;obtain⟨z,m,n⟩:=d;have ji:i∈seen:=by rw[hs];simp
 have after:uy l (Region.before aC) i k=true->False:=λia=>by have:=((rU ia q m).2.2.2.1 t n v).2;rw[u]at this;cases this
 rcases aeV.1 b with rfl|b;·exact after ((BI f g).2 i ji k (aeU ..))
 rw[hs,ahp,aeV]at b;rcases b with b|rfl|b;·grind[Mn]
 .obtain⟨x,w,o⟩:=vV f (qJ g ji);simp_all[uz,zN]
 exact j ⟨k,b,z,m,n⟩
theorem Dr.Mq(hR:mQ P nt aC l ak){c:Nat}(d:Dr P r nt aC l ak ac K bI bG s L seen (c::rest) n aa H p h ρ w tmps){x:be}(hx:l[c]?=some x)(a1:x.op.jf=true)(ag:∀j,my aC c j->In L j){v:AV}{H2:ai}{n':Nat}{J:aP}{w':World}{S:Array Value}(a':cL ρ J)(ha:∀j k,k∈seen->¬kw (Region.before aC) c k->Mk l aa k j->H2.get j=H.get j)(hI:bz P r J (H2.gh h) w')(T:∀j∈h,J j=none/\∀k,j∉(H2.get k).aM)(ba:∀j k,k∈seen->Mk l aa k j->j.an<H2.next.an)(bv:∀i∈seen,¬In L i->∀y,l[i]?=some y->y.op.kp=true->fF (aQ aa x.dst v) y.guard=true->∀t,y.dst=some t->(∀j,H2.get j=H.get j)\/∃H1,aE y.op (aQ aa x.dst v) H2=some ((aQ aa x.dst v).get .alR t,H1))(hE:jg J nt (aQ p x.dst v) S)(bb:Go.am.aC False dK ac n' (sQ l (Region.before aC) (c::seen) rest) ⟨aQ aa x.dst v,bI,bG⟩ H2 K):Dr P r nt aC l ak ac K bI bG s (L.setIfInBounds c true) (c::seen) rest n' (aQ aa x.dst v) H2 (aQ p x.dst v) h J w' S:=by
 obtain⟨o,a2,b'⟩:=hR.op hx;have b0:c<aC.size:=by
  rcases akW c aC.size with q|q;·exact q
  rw[akX q]at a2;cases a2
 have b:∀j,In (L.setIfInBounds c true) j↔j=c\/In L j:=G6 (by rw[d.size];exact b0);have O:∀j,¬In (L.setIfInBounds c true) j->j≠c/\¬In L j:=λj hj=>⟨λe=>hj ((b j).2 (.inl e)),λe=>hj ((b j).2 (.inr e))⟩;have a3:c∈c::rest:=aeU .. ;have Z:c∉seen:=BJ hR d.iN a3;have a4:∀t,gM l c t↔x.dst=some t:=λt=>⟨λ⟨y,m,dy⟩=>by rw[hx]at m;injection m with m;subst m;exact dy,λca=>⟨x,hx,ca⟩⟩;have F:∀i t,i∈seen->gM l i t->x.dst≠some t:=λi t hi hd e=>Z (gM.inj hR.ia (qJ d.iN hi) (xG d.iN a3) hd ((a4 t).2 e)▸hi);have A:∀t,x.dst≠some t->(aQ aa x.dst v).get .alR t=aa.get .alR t:=λt ca=>by rw[sZ,aq ca]
 have av:∀t,x.dst≠some t->(aQ p x.dst v).get .alR t=p.get .alR t:=λt ca=>by rw[sZ,aq ca]
 have B:∀i j,i∈c::seen->(Mk l (aQ aa x.dst v) i j↔i∈seen/\Mk l aa i j):=by
  intro i j hi;rcases aeV.1 hi with e|e;·subst e;refine⟨λca=>?_,λca=>absurd ca.1 Z⟩;obtain⟨y,t,m,I,_⟩:=ca;rw[hx]at m;injection m with m;subst m;rw[(TS a1).1]at I;cases I
  rw[Mk.Hd λt D=>A t (F i t e D)];exact⟨λca=>⟨e,ca⟩,λca=>ca.2⟩
 have h0:∀t,(∀k∈c::seen,¬gM l k t)->(aQ aa x.dst v).get .alR t=s.get .alR t:=by intro t D;rw[A t λe=>D c (aeU ..) ((a4 t).2 e)];exact d.uL t λk a=>D k (aey _ a)
 refine⟨by rw[<-d.iN];simp,by rw[Array.size_setIfInBounds];exact d.size,?_,?_,?_,bb,h0,?_,?_,?_,?_,?_,?_,?_,?_,hE,hI⟩
 .intro j hj;rcases(b j).1 hj with e|e;·rw[e];exact aeU ..
  exact aey _ (d.sub j e)
 .intro j hj k a;rcases(b j).1 hj with e|e;·rw[e]at a;exact(b k).2 (.inr (ag k a))
  exact(b k).2 (.inr (d.qI j e k a))
 .intro j hj hc;rcases aeV.1 hj with e|e;·exact(b j).2 (.inl e)
  exact(b j).2 (.inr (d.G9 j e hc))
 .intro t D;by_cases e:x.dst=some t;·rw[sZ,sZ,aK e,aK e]
  rw[av t e,A t e];refine d.vU t λk a hn=>D k (aey _ a) λca=>?_;rcases(b k).1 ca with e'|e';·exact Z (e'▸a)
  exact hn e'
 .intro t k a hn M;obtain⟨G,E⟩:=O k hn;have a5:k∈seen:=(aeV.1 a).resolve_left G;rw[av t (F k t a5 M)];exact d.BH t k a5 E M
 .intro j;rw[d.rV];constructor;·rintro⟨k,a,G,E⟩;exact⟨k,aey _ a,λca=>(b k).1 ca|>.elim (λe=>Z (e▸a)) G,(B k j (aey _ a)).2 ⟨a,E⟩⟩
  rintro⟨k,a,G,E⟩;obtain⟨g3,g4⟩:=(B k j a).1 E;exact⟨k,g3,(O k G).2,g4⟩
 .intro i i' j hi b3 G E;obtain⟨X,Y⟩:=(B i j hi).1 G;obtain⟨b1,b2⟩:=(B i' j b3).1 E;exact d.lY i i' j X b1 Y b2
 .intro i j hi G;obtain⟨X,Y⟩:=(B i j hi).1 G;refine⟨ba j i X Y,?_⟩;rcases(d.s9 i j X Y).2 with g|g;·exact .inl g
  right;intro e;cases W:ρ j with|none=>exact g W|some z=>rw[(a' _ _ W).1]at e;cases e
 .intro i j hi G E;obtain⟨X,Y⟩:=(B i j hi).1 G;rw[ha j i X (E c (aeU ..) ⟨x,hx,a1⟩) Y];exact d.mw i j X Y λk a=>E k (aey _ a)
 .intro i hi hn;obtain⟨G,E⟩:=O i hn;have ji:i∈seen:=(aeV.1 hi).resolve_left G;obtain⟨y,bc,cO,ex,m,hs,h1,h2,C⟩:=d.cB i ji E;have a6:∀t,(∃k∈cO,gM l k t)->ex.get .alR t=(aQ aa x.dst v).get .alR t:=by rintro t⟨k,a,M⟩;rw[A t (F k t (by rw[hs];simp[a]) M)];exact h1 t ⟨k,a,M⟩
  have Q:∀t,y.dst=some t->(aQ aa x.dst v).get .alR t=aa.get .alR t:=λt D=>A t (F i t ji ⟨y,m,D⟩);refine⟨y,c::bc,cO,ex,m,by rw[hs];rfl,a6,h2,?_⟩;rcases C with⟨hg,b4,hv⟩|⟨hg,u,hv,C⟩;·exact .inl ⟨hg,b4,λt D=>by rw[Q t D];exact hv t D⟩
  refine .inr ⟨hg,u,λt D=>by rw[Q t D];exact hv t D,?_⟩;rcases C with⟨I,N⟩|⟨W,ay,N⟩|⟨I,nv,eF,j0,b5,a8,bd,N⟩;·exact .inl ⟨I,N⟩
  .have a9:=TW hR d.iN m W hs a6 h2 h0;obtain⟨y',f,R⟩:=vV hR (qJ d.iN ji);rw[m]at f;injection f with f;subst f;obtain⟨t0,a0⟩:∃t,y.dst=some t:=by cases hd:y.dst with|some t=>exact⟨t,rfl⟩|none=>simp[uz,hd,(zN W).1,(zN W).2.2]at R
   right;left;have aw:∀j,(∀k∈seen,Mk l aa k j->kw (Region.before aC) i k)->∀k∈c::seen,Mk l (aQ aa x.dst v) k j->kw (Region.before aC) i k:=λj ca k a I=>by obtain⟨X,Y⟩:=(B k j a).1 I;exact ca k X Y
   rcases bv i ji E y m W (by rw[G7 a9];exact hg) t0 a0 with V|⟨H1,ax⟩;·exact⟨W,λj hj=>⟨by rw[V];exact(ay j hj).1,aw j (ay j hj).2⟩,λH' b6=>N H' λj hj=>by rw[b6 j hj,V]⟩
   rw[Q t0 a0,hv t0 a0,G3 (λcd hp=>a9 cd (zO hp))]at ax;obtain⟨_,q2,q3⟩:=Mc W ax;exact⟨W,λj hj=>⟨q2 j hj,aw j (ay j hj).2⟩,q3⟩
  right;right;refine⟨I,nv,eF,j0,b5,a8,?_,N⟩;rw[ha j0 i ji (λhA=>E (vT d.qI c ag i hA)) ?_];·exact bd
  obtain⟨y',f,R⟩:=vV hR (qJ d.iN ji);rw[m]at f;injection f with f;subst f;cases hd:y.dst with|some t=>exact⟨y,t,m,I,hd,by rw[hv t hd,a8];exact mu.name nv j0⟩|none=>simp[uz,hd,(zM I).1,(zM I).2.2]at R
 intro j hj;exact⟨(T j hj).1,(d.fc j hj).2.1,(T j hj).2⟩
theorem Dr.TX(hR:mQ P nt aC l ak)(a9:∀m,m<n->uJ P ac m){c:Nat}(d:Dr P r nt aC l ak ac K bI bG s L seen (c::rest) n aa H p h ρ w tmps)(b4:Ch l c)(N:∀j,my aC c j->In L j){b:Frame}{a:Act}(hat:a.tmps=tmps)(is:List Nat)(k:List Item)(cs:List Frame):∃(D:aP)(R:World)(a':Act)(n':Nat)(env':ap AV)(H':ai)(av:ap AV)(a3:List ab),n'<=n/\cL ρ D/\eC r w R/\a'.defers=a.defers/\Steps P (lone (b.atR a (.inRegion aC (c::is)::k)) cs w) (lone (b.atR a' (.inRegion aC is::k)) cs R)/\Dr P r nt aC l ak ac K bI bG s (L.setIfInBounds c true) (c::seen) rest n' env' H' av a3 D R a'.tmps:=by
 subst hat;obtain⟨x,hx,a4⟩:=b4;obtain⟨o,Z,a5⟩:=hR.op hx;obtain⟨xd,_,_,xo,_⟩:=BD a5;have bc:c∈c::rest:=aeU .. ;have Y:=d.TU hR bc N hx;have J:lX aa x.guard=true->Region.wanted o (yielded aC a.tmps)=fF aa x.guard:=λa6=>by rw[Mp d.E a5 (by rw[Ml Y];exact a6)];exact G7 Y
 have u:=d.run;simp only[sQ,hx]at u;cases n with
 |zero=>simp only[Go.am.aC]at u
 |succ n=>
  have ay:(H.gh h).next=H.next:=ai.kf _ _;have ba:∀j∈h,j.an<H.next.an:=λj hj=>by obtain⟨T,F,_,X⟩:=(d.rV j).1 hj;exact(d.s9 T j F X).1
  simp only[Go.am.aC,Gs,a4,Bool.true_or,bq]at u;cases hg:fF aa x.guard with
  |false=>
   rw[hg]at u J;simp only[aes,bP]at u;split at u;case isFalse=>exact u.elim
   rename_i a6;have J:=J a6;refine⟨ρ,w,a.put o.dst undef,n,aQ aa x.dst .alR,H,aQ p x.dst .alR,h,Nat.le_succ n,cL.refl ρ,eC.refl r w,BK ..,Mo Z J,?_⟩;exact d.Mq hR hx a4 N (cL.refl ρ) (λ_ _ _ _ _=>rfl) d.kq (λj hj=>⟨(d.fc j hj).1,(d.fc j hj).2.2⟩) (λj k hk X=>(d.s9 k j hk X).1) (λ_ _ _ _ _ _ _ _ _=>.inl λ_=>rfl) (by rw[xd];exact d.E.put (VR.alR ρ) o.dst) u
  |true=>
   have J:=J (G0 hg);rw[hg]at u J;simp only[bq]at u;generalize bv:Bo l (Region.before aC) seen c=B at u;have O:=DQ aa B H;have aw:∀j,j∈jO aa B↔∃k∈seen,¬kw (Region.before aC) c k/\Mk l aa k j:=λj=>by rw[<-bv];exact Mi
   have a1:∀j∈h,j∈jO aa B:=λj hj=>by obtain⟨T,F,V,X⟩:=(d.rV j).1 hj;exact(aw j).2 ⟨T,F,λhA=>V (vT d.qI c N T hA),X⟩
   have W:∀i,(i∈jO aa B/\i∉h)->((H.gh h).get i).mw:=by rintro i⟨h1,h2⟩;obtain⟨T,F,V,X⟩:=(aw i).1 h1;rw[lZ,aq h2];refine d.mw T i F X λc' b5⟨z,hz,b6⟩hA=>?_;exact V (((rU ((BI hR d.iN).2 c' b5 c bc) hz hx).2.2.2.2 b6).2 T hA)
   have a8:=d.kq.ku (hl:=λi=>i∈jO aa B/\i∉h) (dd:=λj=>j∈h) W (λj hj=>⟨by rw[lZ,aK hj],(d.fc j hj).1,by rw[ay];exact ba j hj,λk hk=>by
    rw[lZ]at hk;split at hk;·cases hk
    exact(d.fc j hj).2.2 k hk⟩) (H2:=(eV aa H B).1) (by rw[(O .xH).2.1,ay]) (λj=>by
    rw[(O j).1,lZ];by_cases e:j∈jO aa B;·rw[aK e];exact .inr rfl
    rw[aq e,aq λc5=>e (a1 j c5)];exact .inl rfl) (λi hi=>by rw[(O i).1,aK hi.1]);have aA:∀{v:AV}{H1:ai}{cv:Value}{R:World}{D:aP},cL ρ D->VR D v cv->bz P (r.ku ρ (λi=>i∈jO aa B/\i∉h) λj=>j∈h) D H1 R->eC (r.ku ρ (λi=>i∈jO aa B/\i∉h) λj=>j∈h) w R->Steps P (lone (b.atR a (.inRegion aC (c::is)::k)) cs w) (lone (b.atR (a.put o.dst cv) (.inRegion aC is::k)) cs R)->(if fG (aQ aa x.dst v) (eB H1 (eV aa H B).2) (kp l (Region.before aC) seen c)=true then Go.am.aC False dK ac n (sQ l (Region.before aC) (c::seen) rest) ⟨aQ aa x.dst v,bI,bG⟩ (eB H1 (eV aa H B).2) K else False)->∃(D:aP)(R:World)(a':Act)(n':Nat)(env':ap AV)(H':ai)(av:ap AV)(a3:List ab),n'<=n+1/\cL ρ D/\eC r w R/\a'.defers=a.defers/\Steps P (lone (b.atR a (.inRegion aC (c::is)::k)) cs w) (lone (b.atR a' (.inRegion aC is::k)) cs R)/\Dr P r nt aC l ak ac K bI bG s (L.setIfInBounds c true) (c::seen) rest n' env' H' av a3 D R a'.tmps:=by
    intro v H1 cv R D C hv G hK eh a0;split at a0;case isFalse=>exact a0.elim
    rename_i bd;have ag:∀j,(eB H1 (eV aa H B).2).get j=if j∈jO aa B then H.get j else H1.get j:=λj=>((O j).2.2 H1).1;have ax:(eB H1 (eV aa H B).2).next=H1.next:=((O .xH).2.2 H1).2;generalize eB H1 (eV aa H B).2=H2 at a0 bd ag ax;obtain⟨u1,u2⟩:=d.kq.G5 W C G hK (H2:=H2.gh h) (by rw[ai.kf];exact ax) (λi hi=>by rw[lZ,lZ,aq hi.2,aq hi.2,ag,aK hi.1]) (λi hi=>by
     rw[lZ];by_cases e:i∈h;·rw[aK e];exact(G.un i (.inr (.inr e))).1.symm
     rw[aq e,ag,aq λc5=>hi ⟨c5,e⟩]);refine⟨D,R,a.put o.dst cv,n,aQ aa x.dst v,H2,aQ p x.dst v,h,Nat.le_succ n,C,u2,BK ..,eh,?_⟩;refine d.Mq hR hx a4 N (v:=v) C (λj T F V X=>by rw[ag,aK ((aw j).2 ⟨T,F,V,X⟩)]) u1 ?_ ?_ ?_ (by rw[xd];exact(d.E.mono C).put hv o.dst) a0
    .intro j hj;refine⟨(G.fc j (.inr hj)).2,λT F=>?_⟩;rw[ag]at F;split at F;·exact(d.fc j hj).2.2 T F
     exact(G.un j (.inr (.inr hj))).2.2 T F
    .intro j T F X;rw[ax];by_cases e:j∈jO aa B
     .by_cases e':j∈h;·exact(G.un j (.inr (.inr e'))).2.1
      exact(G.un j (.inr (.inl ⟨e,e'⟩))).2.1
     have hl:ρ j≠none:=((d.s9 T j F X).2).resolve_left λc5=>e (a1 j c5);rcases akW j.an H1.next.an with q|q;·exact q
     exfalso;cases hr:ρ j with|none=>exact hl hr|some z=>have:=(G.eo j q).2;rw[(C _ _ hr).1]at this;cases this
    intro i hi V y hy hr b' t ht;right;have X:=TT (l:=l) (anc:=Region.before aC) (i:=c) hi hy hr (λhA=>V (vT d.qI c N i hA)) ht;obtain⟨H3,h3⟩:=Mj bd _ X b';exact⟨H3,h3⟩
   split at u
   .rename_i f args A;have M:bU P nt o=some (.call f args)/\zr o.op=true:=by
     rw[xo]at A;split at A;·cases A
     rename_i V;rw[A]at V;simp only[bW.Bn,Bool.true_and,akU,Bool.not_eq_false]at V;refine⟨?_,V⟩;cases hc:bU P nt o with|none=>rw[hc]at A;cases A|some q=>rw[hc]at A;simp only[akQ]at A;rw[A]
    obtain⟨cc,g,ho,ca,h1,h2⟩:=LY M.2 M.1;have S:=stepGR_op (P:=P) (b:=b) (a:=a) (k:=k) (cs:=cs) (w:=w) (rest:=is) Z J;rw[Oper.semAt_eq _ _ _ (BE M.1)]at S;have b0:execOp a.eval o=pS (a.eval g) (cc.args.map a.eval):=by simp only[execOp,ho,resolve,ca,pS]
    rw[b0]at S;have hf:gv aa f=gv p f:=mr λc3 hp=>(Y c3 (zO (by rw[A];simp[bW.cQ,hp]))).symm;have cd:args.map (gv aa)=args.map (gv p):=DP λc3 hp=>(Y c3 (zO (by rw[A];simp only[bW.cQ,ahp];exact .inr hp))).symm;have bb:bj ρ (args.map (gv p)) (cc.args.map a.eval).toList:=by rw[Array.toList_map];exact zB d.E d.kq h2
    obtain⟨v,H1,c',R,fr1,cx,w1,hK,⟨D,C,hv,G,I⟩,hb,hs⟩:=a9 n (Nat.lt_succ_self n) u (by rw[hf];exact zA h1 d.E d.kq) (by rw[cd];exact bb) a8 (b.atR a (.inRegion aC (c::is)::k)) cs (by simp[sW,Frame.atR]);have b3:(b.atR a (.inRegion aC (c::is)::k)).finish c'=b.atR (a.put o.dst c') (.inRegion aC is::k):=by rw[Frame.finish_atR,Z];rfl
    refine aA C hv G I ?_ hK;rw[<-b3];exact .head (step_lone_go (by rw[S];exact hb)) hs
   .rename_i it A;have Q:bU P nt o=some (.lU it):=by
     rw[xo]at A;split at A;·cases A
     cases hc:bU P nt o with|none=>rw[hc]at A;cases A|some q=>rw[hc]at A;simp only[akQ]at A;rw[A]
    split at u;·rename_i cp cy V;rw[mr (env':=p) (x:=it) λc3 hp=>(Y c3 (zO (by rw[A];simpa[bW.cQ]using hp))).symm]at V;obtain⟨j,cE,hj,cf,cv,R,hr,D,C,hv,G,I⟩:=LR (ef.mk d.E a8) Q V;have u:=u j hj;simp only[cf]at u;exact aA C hv G I (DR Z Q J hr) u
    exact u.elim
   split at u
   .rename_i v H1 cn;have a2:aE x.op p (eV aa H B).1=some (v,H1):=by rw[G3 (λc3 hp=>Y c3 (zO hp))];exact cn
    have Q:=Hc a5 a2;obtain⟨cv,R,hr,D,C,hv,G,I⟩:=BC (ef.mk d.E a8) Q a2;exact aA C hv G I (DR Z Q J hr) u
   exact u.elim
end
section
variable{P:Program}{nt:Nat}{aC:Array Oper}{l:List be}{ak:List Nat}
variable{f:cU}{ac:Nat->aG}{K:Fr->ai->Prop}{bI:List ab}{bG:Option ab}{g:ap AV}{L:Array Bool}{seen rest:List Nat}{n:Nat}{aa:ap AV}{H:ai}{h:ap AV}{a:List ab}{ρ:aP}{w:World}{tmps:Array Value}
theorem Dr.Mr(d:Dr P f nt aC l ak ac K bI bG g L seen rest n aa H h a ρ w tmps){j:ab}(e:H.get j≠.none):j.an<H.next.an:=by
 rcases akW j.an H.next.an with q|q;·omega
 exfalso;have h1:=(d.kq.eo j (by rw[ai.kf];exact q)).1;rw[lZ]at h1;split at h1;·rename_i hj;obtain⟨k,b,_,c⟩:=(d.rV j).1 hj;have:=(d.s9 k j b c).1;omega
 grind
theorem Dr.Mt(hR:mQ P nt aC l ak){i:Nat}(d:Dr P f nt aC l ak ac K bI bG g L seen (i::rest) n aa H h a ρ w tmps){x:be}(hx:l[i]?=some x)(av:x.op.jf=false){v:AV}{I:ai}{n':Nat}{pn':List ab}(C:∀j,H.get j≠.none->I.get j=H.get j)(a3:H.next.an<=I.next.an)(J:∀j,j∈pn'↔j∈a\/Mk l (aQ aa x.dst v) i j)(o:∀j,Mk l (aQ aa x.dst v) i j->H.next.an<=j.an/\j.an<I.next.an/\(I.get j).mw/\ρ j=none/\¬f.un j/\∀k,j∉(I.get k).aM)(hI:bz P f ρ (I.gh pn') w)(gE:∀j∈a,∀k,j∉(I.get k).aM)(hp:G8 l (Region.before aC) (i::seen) g (aQ aa x.dst v) I i)(Z:Go.am.aC False dK ac n' (sQ l (Region.before aC) (i::seen) rest) ⟨aQ aa x.dst v,bI,bG⟩ I K):Dr P f nt aC l ak ac K bI bG g L (i::seen) rest n' (aQ aa x.dst v) I h pn' ρ w tmps:=by
 have R:i∈i::rest:=aeU .. ;have S:i∉seen:=BJ hR d.iN R;have T:¬In L i:=λa4=>S (d.sub i a4);have M:∀t,gM l i t↔x.dst=some t:=λt=>⟨λ⟨y,s,dy⟩=>by rw[hx]at s;injection s with s;subst s;exact dy,λa4=>⟨x,hx,a4⟩⟩;have D:∀k t,k∈seen->gM l k t->x.dst≠some t:=λk t b hd e=>S (gM.inj hR.ia (qJ d.iN b) (xG d.iN R) hd ((M t).2 e)▸b);have q:∀t,x.dst≠some t->(aQ aa x.dst v).get .alR t=aa.get .alR t:=λt a4=>by rw[sZ,aq a4]
 have p:∀k j,k∈seen->(Mk l (aQ aa x.dst v) k j↔Mk l aa k j):=λk j b=>Mk.Hd λt z=>q t (D k t b z);have aw:∀j,Mk l (aQ aa x.dst v) i j->H.get j=.none:=λj hj=>by apply akx;intro ax;have:=d.Mr ax;have:=(o j hj).1;omega
 refine⟨by rw[<-d.iN];simp,d.size,λj hj=>aey _ (d.sub j hj),d.qI,?_,Z,?_,?_,?_,?_,?_,?_,?_,?_,?_,d.E,hI⟩
 .intro j hj hc;rcases aeV.1 hj with e|e;·subst e;obtain⟨y,s,V⟩:=hc;rw[hx]at s;injection s with s;subst s;rw[av]at V;cases V
  exact d.G9 j e hc
 .intro t z;rw[q t λe=>z i (aeU ..) ((M t).2 e)];exact d.uL t λk b=>z k (aey _ b)
 .intro t z;rw[q t λe=>z i (aeU ..) T ((M t).2 e)];exact d.vU t λk b=>z k (aey _ b)
 .intro t k b hn G;rcases aeV.1 b with e|e;·subst e;have W:∀r∈seen,¬gM l r t:=λr m hd=>D r t m hd ((M t).1 G);rw[d.vU t λr m _=>W r m];exact d.uL t W
  exact d.BH t k e hn G
 .intro j;rw[J,d.rV];constructor
  .rintro(⟨k,b,h1,h2⟩|a4);·exact⟨k,aey _ b,h1,(p k j b).2 h2⟩
   exact⟨i,aeU ..,T,a4⟩
  rintro⟨k,b,h1,h2⟩;rcases aeV.1 b with e|e;·subst e;exact .inr h2
  exact .inl ⟨k,e,h1,(p k j e).1 h2⟩
 .intro k r j b m h1 h2;rcases aeV.1 b with e|e
  .rcases aeV.1 m with B|B;·rw[e,B]
   subst e;have:=(d.s9 r j B ((p r j B).1 h2)).1;have:=(o j h1).1;omega
  rcases aeV.1 m with B|B;·subst B;have:=(d.s9 k j e ((p k j e).1 h1)).1;have:=(o j h2).1;omega
  exact d.lY k r j e B ((p k j e).1 h1) ((p r j B).1 h2)
 .intro k j b F;rcases aeV.1 b with e|e;·subst e;exact⟨(o j F).2.1,.inl ((J j).2 (.inr F))⟩
  obtain⟨h1,h2⟩:=d.s9 k j e ((p k j e).1 F);exact⟨af,h2.imp (λa4=>(J j).2 (.inl a4)) id⟩
 .intro k j b F hc;rcases aeV.1 b with e|e;·subst e;exact(o j F).2.2.1
  have s:=d.mw k j e ((p k j e).1 F) λc ay=>hc c (aey _ ay);rw[C j (sY s).2.2];exact s
 .intro k b hn;rcases aeV.1 b with e|e;·subst e;exact hp
  obtain⟨y,ag,cO,ex,s,hs,h1,h2,A⟩:=d.cB k e hn;have N:∀t,y.dst=some t->(aQ aa x.dst v).get .alR t=aa.get .alR t:=λt z=>q t (D k t e ⟨y,s,z⟩);refine⟨y,i::ag,cO,ex,s,by rw[hs];rfl,?_,h2,?_⟩;·rintro t⟨r,m,G⟩;rw[q t (D r t (by rw[hs];simp[m]) G)];exact h1 t ⟨r,m,G⟩
  rcases A with⟨hg,a0,hv⟩|⟨hg,u,hv,A⟩;·exact .inl ⟨hg,a0,λt z=>by rw[N t z];exact hv t z⟩
  refine .inr ⟨hg,u,λt z=>by rw[N t z];exact hv t z,?_⟩;rcases A with a4|⟨hr,X,Q⟩|⟨F,nv,eF,j0,Y,a1,O,Q⟩;·exact .inl a4
  .refine .inr (.inl ⟨hr,λj hj=>?_,λH' a2=>Q H' λj hj=>by rw[a2 j hj,C j (X j hj).1]⟩);obtain⟨g1,g2⟩:=X j hj;refine⟨by rw[C j g1];exact g1,λr m F=>?_⟩;rcases aeV.1 m with B|B;·subst B;exact absurd (aw j F) g1
   exact g2 r B ((p r j B).1 F)
  refine .inr (.inr ⟨F,nv,eF,j0,Y,a1,?_,Q⟩);rw[C j0 (by rw[O];exact(sY Y).2.2)];exact O
 intro j hj;rcases(J j).1 hj with a4|a4;·exact⟨(d.fc j a4).1,(d.fc j a4).2.1,gE j a4⟩
 exact(o j a4).2.2.2
theorem Dr.He(hR:mQ P nt aC l ak):∀(rest:List Nat){seen:List Nat}{n:Nat}{aa:ap AV}{H:ai}{a:List ab},Dr P f nt aC l ak ac K bI bG g L seen rest n aa H h a ρ w tmps->∃(B o:List Nat)(n':Nat)(q:ap AV)(X:ai)(pn':List ab),n'<=n/\Dr P f nt aC l ak ac K bI bG g L B o n' q X h pn' ρ w tmps/\∀i r,o=i::r->Ch l i
 |[],seen,n,aa,H,a,d=>⟨seen,[],n,aa,H,a,afb n,d,λi r b'=>by grind⟩
 |i::rest,seen,n,aa,H,a,d=>by
  have av:i∈i::rest:=aeU .. ;obtain⟨x,R,V⟩:=vV hR (xG d.iN av);cases C:x.op.jf with
  |true=>exact⟨seen,i::rest,n,aa,H,a,afb n,d,λi' r b'=>by injection b' with b' _;subst b';exact⟨x,R,C⟩⟩
  |false=>
   have c:=d.run;simp only[sQ,R]at c;cases n with
   |zero=>simp only[Go.am.aC]at c
   |succ n=>
    simp only[Go.am.aC,Gs,C,Bool.false_or,aes,bP,fG,bq]at c;have go:∀{q:ap AV}{X:ai}{pn':List ab},Dr P f nt aC l ak ac K bI bG g L (i::seen) rest n q X h pn' ρ w tmps->∃(B o:List Nat)(n':Nat)(q:ap AV)(X:ai)(pn':List ab),n'<=n+1/\Dr P f nt aC l ak ac K bI bG g L B o n' q X h pn' ρ w tmps/\∀i r,o=i::r->Ch l i:=by intro q X pn' d';obtain⟨s,r,m,e,b',p,h1,h2,h3⟩:=Dr.He hR rest d';exact⟨s,r,m,e,b',p,Nat.le_succ_of_le h1,h2,h3⟩
    have a5:i∉seen:=BJ hR d.iN av;have ag:∀k t,k∈seen->gM l k t->x.dst≠some t:=λk t D hd e=>a5 (gM.inj hR.ia (qJ d.iN D) (xG d.iN av) hd ⟨x,R,e⟩▸D);have N:∀v t,(∃k∈seen,gM l k t)->aa.get .alR t=(aQ aa x.dst v).get .alR t:=by rintro v t⟨k,D,a6⟩;rw[sZ,aq (ag k t D a6)]
    have S:∀v j,Mk l (aQ aa x.dst v) i j->x.op.mO=true/\jq v=some j:=by rintro v j⟨y,t,hy,g1,g2,g3⟩;rw[R]at hy;injection hy with hy;subst hy;rw[sZ,aK g2]at g3;exact⟨g1,g3⟩
    have I:∀v t,x.dst=some t->(aQ aa x.dst v).get .alR t=v:=λv t E=>by rw[sZ,aK E]
    have J:∀{v:AV}{H2:ai},(∀j,H2.get j=H.get j)->H2.next=H.next->(∀j,¬Mk l (aQ aa x.dst v) i j)->G8 l (Region.before aC) (i::seen) g (aQ aa x.dst v) H2 i->Go.am.aC False dK ac n (sQ l (Region.before aC) (i::seen) rest) ⟨aQ aa x.dst v,bI,bG⟩ H2 K->∃(B o:List Nat)(n':Nat)(q:ap AV)(X:ai)(pn':List ab),n'<=n+1/\Dr P f nt aC l ak ac K bI bG g L B o n' q X h pn' ρ w tmps/\∀i r,o=i::r->Ch l i:=by intro v H2 h1 h2 h3 h4 h5;refine go (d.Mt hR R C (v:=v) (pn':=a) (λj _=>h1 j) (by rw[h2];exact afb _) (λj=>⟨.inl,λb'=>b'.resolve_right (h3 j)⟩) (λj b'=>absurd b' (h3 j)) ?_ (λj hj k=>by rw[h1];exact(d.fc j hj).2.2 k) h4 h5);exact d.kq.congr (by rw[ai.kf,ai.kf,h2]) λj=>by rw[lZ,lZ,h1]
    cases hg:fF aa x.guard with
    |false=>
     rw[hg]at c;simp only[aes,bP]at c;split at c;case isFalse=>exact c.elim
     rename_i a8;refine J (v:=.alR) (λ_=>rfl) rfl (λj b'=>?_) ?_ c;·have:=(S _ j b').2;simp[AV.alR,jq]at this
     exact⟨x,[],seen,aa,R,rfl,N _,λt E=>d.uL t E,.inl ⟨hg,a8,λt E=>I _ t E⟩⟩
    |true=>
     rw[hg]at c;simp only[bq]at c;split at c;·rename_i aw;rw[aw]at C;simp[bW.jf]at C
     .rename_i aw;rw[aw]at C;simp[bW.jf]at C
     split at c;case h_2=>exact c.elim
     rename_i v H1 F;cases hrd:x.op.kp with
     |true=>
      rw[hrd]at F c;simp only[bq]at F c;generalize a0:Bo l (Region.before aC) seen i=O at F c;have G:=DQ aa O H;have a1:∀j,j∈jO aa O↔∃k∈seen,¬kw (Region.before aC) i k/\Mk l aa k j:=λj=>by rw[<-a0];exact Mi
      obtain⟨q1,q2,q3⟩:=Mc hrd F;subst q1;have ax:∀j,(eB (eV aa H O).1 (eV aa H O).2).get j=H.get j:=λj=>by rw[((G j).2.2 _).1,(G j).1];split<;>rfl
      refine J (v:=v) ax (by rw[((G .xH).2.2 _).2,(G .xH).2.1]) (λj b'=>?_) ?_ c;·have:=(S _ j b').1;rw[(zN hrd).2.1]at this;cases this
      refine⟨x,[],seen,aa,R,rfl,N _,λt E=>d.uL t E,.inr ⟨hg,v,λt E=>I _ t E,.inr (.inl ⟨hrd,λj hj=>?_,λX a9=>q3 X λj hj=>?_⟩)⟩⟩
      .have T:=q2 j hj;have Y:j∉jO aa O:=λb'=>T (by rw[(G j).1,aK b']);rw[(G j).1,aq Y]at T;refine⟨by rw[ax];exact T,λk D hm=>?_⟩;rcases aeV.1 D with e|e;·subst e;have:=(S _ j hm).1;rw[(zN hrd).2.1]at this;cases this
       apply akx;intro hA;exact Y ((a1 j).2 ⟨k,e,hA,(Mk.Hd λt E=>by rw[sZ,aq (ag k t e E)]).1 hm⟩)
      have T:=q2 j hj;have Y:j∉jO aa O:=λb'=>T (by rw[(G j).1,aK b']);rw[a9 j hj,ax,(G j).1,aq Y]
     |false=>
      rw[hrd]at F c;simp only[aes,bP,eV,eB]at F c;cases A:x.op.mO with
      |false=>
       have a':x.op.plain=true:=by
        simp only[uz,C,Bool.false_or,A,hrd,Bool.false_and,Bool.or_self,alf]at V;rcases V with b'|b';·exact b'
        split at b'<;>cases b'
       obtain⟨q1,q2⟩:=TH a' F;subst q1;refine J (v:=v) (λ_=>rfl) rfl (λj b'=>?_) ?_ c;·have:=(S _ j b').1;rw[A]at this;cases this
       exact⟨x,[],seen,aa,R,rfl,N _,λt E=>d.uL t E,.inr ⟨hg,v,λt E=>I _ t E,.inl ⟨A,q2⟩⟩⟩
      |true=>
       obtain⟨nv,eF,rfl,rfl,hy,a2⟩:=TI A F;obtain⟨f1,f2,f3⟩:=sY hy;have Q:∀j,(H.new eF).get j=if j=H.next then eF else H.get j:=λj=>ai.dJ _ _ _;have ba:(H.new eF).next.an=H.next.an+1:=ab.gK _;have ay:H.get H.next=.none:=akx λb'=>by have:=d.Mr b';omega
       have W:∀j,Mk l (aQ aa x.dst (nv.of H.next)) i j->j=H.next:=λj b'=>by have:=(S _ j b').2;rw[mu.name]at this;injection this with this;exact this.symm
       have bb:Mk l (aQ aa x.dst (nv.of H.next)) i H.next:=by cases hd:x.dst with|some t=>exact⟨x,t,R,A,hd,by rw[<-hd,I _ t hd];exact mu.name nv _⟩|none=>simp[uz,hd,C,(zM A).2.2]at V
       have a3:∀k,H.next∉((H.new eF).get k).aM:=λk D=>by
        rw[Q]at D;by_cases e:k=H.next;·rw[aK e,f2]at D;cases D
        rw[aq e]at D;by_cases e':k∈a
        .obtain⟨k',bc,hn,hm⟩:=(d.rV k).1 e';have:=d.cB k' bc hn;obtain⟨y,_,_,ex,bd,_,_,_,M⟩:=this;obtain⟨y',t,Z,m1,m2,m3⟩:=hm;rw[bd]at Z;injection Z with Z;subst Z;rcases M with⟨_,_,hv⟩|⟨_,u,hv,M⟩;·rw[hv t m2]at m3;simp[AV.alR,jq]at m3
         rcases M with⟨hm,_⟩|⟨hr,_⟩|⟨_,b5,b4,j0,bv,b0,a4,_⟩;·rw[m1]at hm;cases hm
         .rw[(zM m1).2.1]at hr;cases hr
         rw[hv t m2,b0,mu.name]at m3;injection m3 with m3;subst m3;rw[a4,(sY bv).2.1]at D;cases D
        have:=(d.kq.aM H.next k (by rw[lZ,aq e'];exact D)).1;rw[ai.kf]at this;omega
       refine go (d.Mt hR R C (v:=nv.of H.next) (pn':=H.next::a) (λj hj=>by rw[Q,aq (λe:j=H.next=>hj (by rw[e];exact ay))]) af (λj=>?_) (λj b'=>?_) ?_ (λj hj k D=>?_) ?_ c);·rw[aeV];exact⟨λb'=>b'.elim (λe=>.inr (e▸bb)) .inl,λb'=>b'.elim .inr λb'=>.inl (W j b')⟩
       .rw[W j b'];refine⟨afb _,af,by rw[Q,aK rfl];exact hy,(d.kq.eo H.next (by rw[ai.kf];exact afb _)).2,λhu=>?_,a3⟩;have:=(d.kq.un H.next hu).2.1;rw[ai.kf]at this;omega
       .have h0:=d.kq;have z:∀j,((H.new eF).gh (H.next::a)).get j=(H.gh a).get j:=λj=>by
         rw[lZ,lZ,Q];by_cases e:j=H.next
         .subst e;rw[aK (aeU ..)];split;·rfl
          exact ay.symm
         by_cases e':j∈a;·rw[aK (aey _ e'),aK e']
         rw[aq (by simp[e,e']),aq e,aq e']
        have b6:((H.new eF).gh (H.next::a)).next.an=(H.gh a).next.an+1:=by rw[ai.kf,ai.kf];exact ba
        exact⟨λi hi=>by rw[z]at hi⊢;exact h0.eF i hi,λi j b x y b3 hi hj=>by rw[z]at hi hj;rw[z,z];exact h0.k6 i j b x y b3 hi hj,λi j hi=>by rw[z]at hi⊢;exact⟨by have:=(h0.aM i j hi).1;omega,(h0.aM i j hi).2⟩,λi b x hi hf=>by rw[z]at hi hf;exact h0.wr i b x hi hf,λi hi=>by rw[z];exact h0.eo i af,h0.new,h0.mq,λi b x ob hi=>by rw[z]at hi⊢;exact h0.ka i b x ob hi,h0.fH,λi b x hi=>by rw[z]at hi;exact h0.rd i b x hi,λi hi=>by rw[z];exact⟨(h0.un i hi).1,by have:=(h0.un i hi).2.1;omega,λj=>by rw[z];exact(h0.un i hi).2.2 j⟩,h0.fc⟩
       .rw[Q]at D;split at D;·rw[f2]at D;cases D
        exact(d.fc j hj).2.2 k D
       exact⟨x,[],seen,aa,R,rfl,N _,λt E=>d.uL t E,.inr ⟨hg,_,λt E=>I _ t E,.inr (.inr ⟨A,nv,eF,H.next,hy,rfl,by rw[Q,aK rfl],a2⟩)⟩⟩
end
section
variable{P:Program}
theorem TY{nt:Nat}{aC:Array Oper}{l:List be}{ak:List Nat}(v:mQ P nt aC l ak){I:cU}{ac:Nat->aG}{K:Fr->ai->Prop}{bI:List ab}{bG:Option ab}{B:ap AV}{b:Frame}(k:List Item)(cs:List Frame):∀(f t:Nat){L:Array Bool}{seen g:List Nat}{n:Nat}{aa:ap AV}{H:ai}{p:ap AV}{C:List ab}{s:aP}{w:World}{a:Act},(∀m,m<n->uJ P ac m)->zL L aC.size<=f->Dr P I nt aC l ak ac K bI bG B L seen g n aa H p C s w a.tmps->mP s bI a.defers->pQ s bG b.roundOf->(∀i r,g=i::r->Ch l i)->jh P I s nt w b k cs (lone (b.atR a (.inRegion aC (Region.linearise.go .any aC f t L [])::k)) cs w) λj fr H=>(match j with|.none=>True|_=>False)/\K fr H:=by
 have aA:∀{L:Array Bool}{seen g:List Nat}{n:Nat}{aa:ap AV}{H:ai}{p:ap AV}{C:List ab}{s:aP}{w:World}{a:Act},(∀i,i<aC.size->In L i)->Dr P I nt aC l ak ac K bI bG B L seen g n aa H p C s w a.tmps->mP s bI a.defers->pQ s bG b.roundOf->jh P I s nt w b k cs (lone (b.atR a (.inRegion aC []::k)) cs w) λj fr H=>(match j with|.none=>True|_=>False)/\K fr H:=by
  intro L seen g n aa H p C s w a eZ d z D;have A:∀i∈ak,i<aC.size:=λi hi=>by
   obtain⟨x,V,_⟩:=vV v hi;obtain⟨o,ho,_⟩:=v.op V;rcases akW i aC.size with q|q;·exact q
   rw[akX q]at ho;cases ho
  have G:g=[]:=by cases g with|nil=>rfl|cons i r=>have hi:i∈i::r:=aeU .. ;exact absurd (d.sub i (eZ i (A i (xG d.iN hi)))) (BJ v d.iN hi)
  subst G;have J:∀i∈seen,In L i:=λi hi=>eZ i (A i (qJ d.iN hi));have ag:C=[]:=List.eq_nil_iff_forall_not_mem.2 λj hj=>by obtain⟨i,hi,h1,_⟩:=(d.rV j).1 hj;exact h1 (J i hi)
  subst ag;have u:=d.run;simp only[sQ]at u;cases n with|zero=>simp only[Go.am.aC]at u|succ n=>simp only[Go.am.aC]at u;have hE:jg s nt aa a.tmps:=⟨d.E.1,λt ht=>by rw[<-d.vU _ λi hi hn=>absurd (J i hi) hn];exact d.E.2 t ht⟩;exact .iY (.one stepR_region_end) (.DO (fr:=⟨aa,bI,bG⟩) ⟨hE,z,D⟩ d.kq ⟨trivial,u⟩ k cs)
 intro f;induction f with
 |zero=>intro t L seen g n aa H p C s w a h hf d z D W;refine aA (λi hi=>?_) d z D;apply akx;grind[TR]
 |succ f ih=>
  intro t L seen g n aa H p C s w a h hf d z D W;change jh P I s nt w b k cs (lone (b.atR a (.inRegion aC (match(Region.ready .any aC L)[t %(Region.ready .any aC L).length]? with|some i=>Region.linearise.go .any aC f (t/(Region.ready .any aC L).length) (L.setIfInBounds i true) [i]|none=>[].reverse)::k)) cs w) _;cases hi:(Region.ready .any aC L)[t %(Region.ready .any aC L).length]? with
  |none=>
   have S:Region.ready .any aC L=[]:=by cases hr:Region.ready .any aC L with|nil=>rfl|cons x xs=>rw[hr]at hi;have A:t %(x::xs).length<(x::xs).length:=Nat.mod_lt _ aB;simp at hi;simp at A;omega
   exact aA (TP d.size v.he S) d z D
  |some i=>
   simp only[];rw[linearise_go_acc,List.reverse_singleton,List.singleton_append];obtain⟨h1,h2,h3⟩:=TO d.size (List.mem_of_getElem? hi);have M:zL (L.setIfInBounds i true) aC.size<=f:=by have:=TQ d.size h1 h2;omega
   by_cases ji:i∈seen;·obtain⟨av,w',a',T,aw,F,X,Y,Z,g5⟩:=d.TV v ji h2 h3 rfl (b:=b) (a:=a) (Region.linearise.go .any aC f (t/(Region.ready .any aC L).length) (L.setIfInBounds i true) []) k cs;refine .vS F X (.iY Z (ih _ h M g5 (by rw[Y];exact z.mono F) ?_ W));exact(iM.mono (nt:=nt) (fr:=⟨p,bI,bG⟩) (ro:=b.roundOf) (a:=a) F ⟨d.E,z,D⟩).R
   have N:i∈g:=by have:=v.eZ i h1;rw[<-d.iN,ahp,List.mem_reverse]at this;exact this.resolve_left ji
   cases g with
   |nil=>grind
   |cons c g=>
    have O:=W c g rfl;have ax:i=c:=by
     rcases aeV.1 N with e|e;·exact e
     exfalso;obtain⟨x,V,ay⟩:=O;obtain⟨y,hy,_⟩:=vV v (xG d.iN N);have Q:=(BG v.ia).1;rw[<-d.iN,List.pairwise_append,alq]at Q;have hA:=((rU (Q.2.1.1 i e) V hy).2.2.2.2 ay).1;have:=vT d.qI i h3 c hA;exact BJ v d.iN (aeU ..) (d.sub c this)
    subst ax;obtain⟨av,w',a',n',a2,H',T,aw,g0,F,X,Y,Z,g5⟩:=d.TX v h O h3 rfl (b:=b) (a:=a) (Region.linearise.go .any aC f (t/(Region.ready .any aC L).length) (L.setIfInBounds i true) []) k cs;obtain⟨a0,a1,n2,a3,H2,a4,e1,e2,e3⟩:=g5.He v;refine .vS F X (.iY Z (ih _ (λm hm=>h m af) M e2 (by rw[Y];exact z.mono F) ?_ e3));exact(iM.mono (nt:=nt) (fr:=⟨p,bI,bG⟩) (ro:=b.roundOf) (a:=a) F ⟨d.E,z,D⟩).R
theorem TZ{ac:Nat->aG}{n:Nat}(e:∀m,m<n->uJ P ac m):LZ P ac n:=by
 intro p u H w v fr M id aC K b a f he q C k cs;simp only[xw,ae5,aed,aku,aes,bP]at f;obtain⟨l,hl,f⟩:=f;split at f;case isFalse=>grind
 rename_i g;simp only[ajB,adG]at f;subst f;simp only[aj6,aln,ak3]at g;obtain⟨⟨⟨F,G⟩,x⟩,y⟩:=g;generalize order l (Region.before aC) aC.size 0 []=ak at he x y;have z:mQ P v aC l ak:=⟨hl,G,λi hi=>by simpa using x i hi,y⟩;have c:∀i,¬In (alH aC.size false) i:=λi h=>by unfold In at h;simp only[akJ,Array.getElem?_replicate]at h;split at h<;>cases h
 let A:World:={w with drawn:=w.drawn+1};have d:Dr P p v aC l ak ac K fr.bI fr.bG fr.aa (alH aC.size false) [] ak n fr.aa H fr.aa [] u A a.tmps:=⟨rfl,aB,λi h=>absurd h (c i),λi h=>absurd h (c i),λ_ h=>absurd h aki,he,λt _=>rfl,λt _=>rfl,λ_ _ h=>absurd h aki,λj=>⟨λh=>absurd h aki,λ⟨i,h,_⟩=>absurd h aki⟩,λ_ _ _ h=>absurd h aki,λ_ _ h=>absurd h aki,λ_ _ h=>absurd h aki,λ_ h=>absurd h aki,λ_ h=>absurd h aki,q.E,C.drew⟩;obtain⟨r,s,N,B,O,L,e1,e2,I⟩:=d.He z;have o:Region.schedule (P.follows .mixedOrders) aC (w.tape w.drawn (.order b.fn id))=Region.linearise.go .any aC aC.size (w.tape w.drawn (.order b.fn id)) (alH aC.size false) []:=by
  have:(P.follows .mixedOrders||!Region.departs aC)=true:=by simpa using F
  simp only[Region.schedule,this,bq];rfl
 have eh:=stepR_region_draw (P:=P) (b:=b) (a:=a) (k:=k) (cs:=cs) (w:=w) (ops:=aC) (id:=id);rw[o]at eh;have J:eC p w A:=(eC.refl p w).drew;refine .vS (cL.refl u) J (.iY (.one eh) ?_);refine TY z k cs aC.size _ (λm Q=>e m af) ?_ e2 q.D q.R I;grind[zL,alj,List.length_filter_le]
theorem BL{ac:Nat->aG}(d:kr P ac):∀n,(∀m,m<=n->uJ P ac m)/\zI P ac n/\DN P ac n
 |0=>by
  refine⟨λm e=>?_,?_,?_⟩;·have:m=0:=af;subst this;intro f g H w j args K fv argv he;trivial
  .intro f g H w h fr c cc K b a i he;trivial
  intro f g H w h fr l is aC K b a k he;trivial
 |n+1=>by obtain⟨h1,h2,h3⟩:=BL d n;have i:uJ P ac (n+1):=TG d h2;refine⟨λm e=>?_,TF d h2 h3 (TZ λm e=>h1 m af) (h1 n (afb n)),TB (h1 n (afb n)) h3⟩;grind
end
end
end Go.am
namespace Go.am.K
section
variable{g:Type}
theorem kx(n:Nat)(k:Nat->Prop):fj n k=k n:=by cases n<;>rfl
theorem vW(n:Int)(k:Int->Prop):oK n k=k n:=by cases n<;>simp only[oK,kx]
theorem zQ:∀(p:ab)(k:ab->Prop),rH p k=k p|.xH,_=>rfl|.xO p,k=>zQ p λp=>k (.xO p)|.xI p,k=>zQ p λp=>k (.xI p)
theorem Hf:∀(p:ab)(k:ab->Prop),Bd p k=k p.succ|.xH,_=>rfl|.xO _,_=>rfl|.xI p,k=>Hf p λp=>k (.xO p)
theorem iO(b:Bool)(x y:Prop):eW b x y=if b=true then x else y:=by cases b<;>simp[eW]
theorem Mu(b:Bool)(k:Bool->Prop):zh b k=k b:=by cases b<;>rfl
theorem DS(d:g):∀p:ab,(ap.aL:ap g).get d p=d|.xH=>rfl|.xO p=>DS d p|.xI p=>DS d p
theorem zR(d:g):∀(p:ab)(t:ap g)(k:g->Prop),xl d p t k=k (t.get d p)|.xH,.aL,_=>rfl|.xH,.node _ _ _,_=>rfl|.xO p,.aL,k=>by show k d=k ((ap.aL:ap g).get d p);rw[DS]|.xO p,.node l _ _,k=>zR d p l k|.xI p,.aL,k=>by show k d=k ((ap.aL:ap g).get d p);rw[DS]|.xI p,.node _ _ r,k=>zR d p r k
theorem vX(d:g):∀(p:ab)(v:g)(t:ap g)(k:ap g->Prop),xm d p v t k=k (t.set d p v)|.xH,_,.aL,_=>rfl|.xH,_,.node _ _ _,_=>rfl|.xO p,v,.aL,k=>vX d p v .aL λl=>k (.node l d .aL)|.xO p,v,.node l w r,k=>vX d p v l λl=>k (.node l w r)|.xI p,v,.aL,k=>vX d p v .aL λr=>k (.node .aL d r)|.xI p,v,.node l w r,k=>vX d p v r λr=>k (.node l w r)
theorem zS(d:g):∀(t:ap g)(n:Nat)(k:g->Prop),rI d t n k=k (t.bw d n)|.aL,n,k=>by rfl|.node l v r,0,k=>rfl|.node l v r,m+1,k=>by show eW (akb (Nat.mod m 2) 0) (rI d l (Nat.div m 2) k) (rI d r (Nat.div m 2) k)=_;rw[iO,zS d l,zS d r];simp only[ap.bw];show(if akb (m % 2) 0=true then k (l.bw d (m/2))else k (r.bw d (m/2)))=_;by_cases h:m % 2=0;all_goals simp_all
theorem Mv(d x:g)(t:ap g)(k:ap g->Prop):FE d x t k=k (.node t.left x t.right):=by cases t<;>rfl
theorem BM(d:g):∀(f n:Nat)(x:g)(t:ap g)(k:ap g->Prop),xn d f n x t k=k (t.oH d f n x)
 |0,0,x,t,k=>Mv d x t k
 |0,n+1,x,t,k=>rfl
 |f+1,0,x,t,k=>Mv d x t k
 |f+1,m+1,x,t,k=>by
  show eW (akb (Nat.mod m 2) 0) (lK d (xn d f) (Nat.div m 2) x t k) (rK d (xn d f) (Nat.div m 2) x t k)=_;have hl:lK d (xn d f) (Nat.div m 2) x t k=k (.node (t.left.oH d f (m/2) x) (t.val d) t.right):=by cases t with|aL=>exact BM d f (m/2) x .aL λl=>k (.node l d .aL)|node l w r=>exact BM d f (m/2) x l λl=>k (.node l w r)
  have a:rK d (xn d f) (Nat.div m 2) x t k=k (.node t.left (t.val d) (t.right.oH d f (m/2) x)):=by cases t with|aL=>exact BM d f (m/2) x .aL λr=>k (.node .aL d r)|node l w r=>exact BM d f (m/2) x r λr=>k (.node l w r)
  rw[iO,hl,a];simp only[ap.oH];show(if akb (m % 2) 0=true then _ else _)=_;by_cases h:m % 2=0;all_goals simp_all
theorem Mw:∀(l:List Nat)(k:List Nat->Prop),Dg l k=k l|[],_=>rfl|n::l,k=>by show fj n (λn=>Dg l λl=>k (n::l))=_;rw[kx,Mw l]
def DT(l:List AV):(List AV->Prop)->Prop:=
 AV.rec_1 (motive_1:=λ_=>(AV->Prop)->Prop) (motive_2:=λ_=>(List AV->Prop)->Prop)
   (λ_ c k=>c λl=>k (.tuple l))
   (λ_ c k=>c λl=>k (.agg l))
   (λb k=>zh b λb=>k (.bool b))
   (λj n k=>fj j λj=>oK n λn=>k (.int j n))
   (λs k=>Dg s λs=>k (.str s))
   (λid off k=>rH id λid=>fj off λoff=>k (.az id off))
   (λk=>k .lS)
   (λid off len cap ex k=>rH id λid=>fj off λoff=>fj len λlen=>fj cap λcap=>zh ex λex=>k (.slice id off len cap ex))
   (λk=>k .aS)
   (λid k=>rH id λid=>k (.map id))
   (λk=>k .cY)
   (λf _ _ d e k=>fj f λf=>d λa=>e λb=>k (.func f a b))
   (λid k=>rH id λid=>k (.yield id))
   (λk=>k .nilFunc)
   (λt _ c k=>fj t λt=>c λv=>k (.iface t v))
   (λk=>k .nilIface)
   (λk=>k .co)
   (λk=>k [])
   (λ_ _ h i k=>h λv=>i λl=>k (v::l)) l
mutual
theorem xJ:∀(v:AV)(k:AV->Prop),sN v k=k v
 |.tuple l,k=>BN l λl=>k (.tuple l)
 |.agg l,k=>BN l λl=>k (.agg l)
 |.bool b,k=>Mu b λb=>k (.bool b)
 |.int j n,k=>by show fj j (λj=>oK n λn=>k (.int j n))=_;rw[kx,vW]
 |.str s,k=>Mw s λs=>k (.str s)
 |.az i o,k=>by show rH i (λi=>fj o λo=>k (.az i o))=_;rw[zQ,kx]
 |.lS,_=>rfl
 |.slice i o l c e,k=>by show rH i (λi=>fj o λo=>fj l λl=>fj c λc=>zh e λe=>k (.slice i o l c e))=_;rw[zQ,kx,kx,kx,Mu]
 |.aS,_=>rfl
 |.map i,k=>zQ i λi=>k (.map i)
 |.cY,_=>rfl
 |.func f a b,k=>by show fj f (λf=>DT a λa=>DT b λb=>k (.func f a b))=_;rw[kx,BN a,BN b]
 |.yield i,k=>zQ i λi=>k (.yield i)
 |.nilFunc,_=>rfl
 |.iface t v,k=>by show fj t (λt=>sN v λv=>k (.iface t v))=_;rw[kx,xJ v]
 |.nilIface,_=>rfl
 |.co,_=>rfl
theorem BN:∀(l:List AV)(k:List AV->Prop),DT l k=k l
 |[],_=>rfl
 |v::l,k=>by show sN v (λv=>DT l λl=>k (v::l))=_;rw[xJ v,BN l]
end
theorem rW:∀(l:List AV)(k:List AV->Prop),oM l k=k l|[],_=>rfl|v::l,k=>by show sN v (λv=>oM l λl=>k (v::l))=_;rw[xJ,rW l]
theorem iR(aa:ap AV)(x:aJ)(k:AV->Prop):gC aa x k=k (gv aa x):=by cases x with|t p=>exact zR _ _ _ _|c v=>rfl
theorem Mx(aa:ap AV):∀(l:List aJ)(k:List AV->Prop),Dh aa l k=k (l.map (gv aa))|[],_=>rfl|x::l,k=>by show gC aa x (λv=>Dh aa l λl=>k (v::l))=_;rw[iR,Mx aa l];rfl
theorem BO(b:g)(k:g->Prop):j9 (some b) k=k b:=rfl
theorem Hg(H:ai)(i:ab)(k:cq->Prop):Be H i k=k (H.get i):=zR _ _ _ _
theorem zT(H:ai)(i:ab)(o:cq)(k:ai->Prop):rJ H i o k=k (H.set i o):=vX _ _ _ _ _
theorem vY(H:ai)(o:cq)(k:ab->ai->Prop):pO H o k=k H.next (H.new o):=by show xm .none H.next o H.t (λt=>Bd H.next λm=>k H.next ⟨t,m⟩)=_;rw[vX,Hf];rfl
theorem My:∀(l:List ab)(H:ai)(k:ai->Prop),FF l H k=k (H.gh l)|[],_,_=>rfl|i::l,H,k=>by show rJ H i .none (λH=>FF l H k)=_;rw[zT,My l];rfl
def T0(o:cq)(k:ap AV->Nat->Nat->Bool->List ab->Nat->Prop):Prop:=
 match o with
 |.cells c n e rw aM fz=>k c n e rw aM fz
 |_=>False
theorem DU(H:ai)(i:ab)(k:ap AV->Nat->Nat->Bool->List ab->Nat->Prop):xp H i k=T0 (H.get i) k:=by unfold xp;rw[Hg];cases H.get i<;>rfl
theorem Hh(c:ap AV)(n:Nat):∀(m off:Nat)(k:List AV->Prop),Di c n m off k=j9 (iI c n off m) k
 |0,_,_=>rfl
 |m+1,off,k=>by
  show eW (akv off n) (fj off λoff=>rI .alR c off λv=>Di c n m (Nat.succ off) λl=>k (v::l)) False=_;rw[iO,kx,zS,Hh c n m];simp only[iI];by_cases h:off<n;·rw[aK (alN akY h),aK h];cases iI c n (off+1) m<;>rfl
  rw[aq (λe=>h (Eq.mp akY e)),aq h];rfl
theorem DV:∀(l:List AV)(c:ap AV)(off:Nat)(k:ap AV->Prop),Bf l c off k=k (fX c off l)|[],_,_,_=>rfl|v::l,c,off,k=>by show fj off (λoff=>xn .alR off off v c λc=>Bf l c (Nat.succ off) k)=_;rw[kx,BM,DV l];rfl
theorem T1(H:ai)(i:ab)(off m:Nat)(k:List AV->Prop):Dj H i off m k=j9 (fE H i off m) k:=by unfold Dj;rw[DU];unfold fE;cases H.get i<;>first|rfl|exact Hh _ _ _ _ _
theorem pT(a b:Bool):nB a b=(a&&b):=by cases a<;>rfl
theorem BP:∀l:List AV,zi l=dS l|[]=>rfl|v::l=>by show nB v.ee (zi l)=_;rw[pT,BP l];rfl
theorem uM:∀l:List g,oN l=l.length|[]=>rfl|_::l=>by show Nat.succ (oN l)=_;rw[uM l];rfl
theorem Hi(H:ai)(i:ab)(off:Nat)(l:List AV)(k:ai->Prop):zj H i off l k=j9 (iX H i off l) k:=by
 unfold zj;rw[DU];unfold iX;cases H.get i<;>(try rfl);rename_i c n e a aM fz;show FG H i off l k c n e a aM fz=_;unfold FG;rw[iO,My,DV,zT,pT,pT,pT,uM,BP];cases a with
 |false=>rfl
 |true=>
  simp only[Bool.true_and];have h1:ak2 fz off=decide (fz<=off):=by
   by_cases h:fz<=off;·rw[decide_eq_true h,akB h]
   rw[decide_eq_false h];cases hb:ak2 fz off with|false=>rfl|true=>exact absurd (akc hb) h
  have h2:ak2 (Nat.add off l.length) n=decide (off+l.length<=n):=by
   by_cases h:off+l.length<=n;·rw[decide_eq_true h];exact akB h
   rw[decide_eq_false h];cases hb:ak2 (Nat.add off l.length) n with|false=>rfl|true=>exact absurd (akc hb) h
  rw[h1,h2,Bool.and_assoc];cases(decide (fz<=off)&&(decide (off+l.length<=n)&&dS l))<;>rfl
theorem xK(H:ai)(l:List AV)(n a:Nat)(k:ab->ai->Prop):uu H l n a k=k H.next (H.new (.cells (db l) n a true [] 0)):=by unfold uu;rw[DV,kx,vY];rfl
end
section
def jr(o:Option (AV×ai))(k:KV):Prop:=
 match o with
 |some p=>k p.1 p.2
 |none=>False
theorem T2(o:bW)(d:kZ)(aa:ap AV)(H:ai)(k:KV):gR o d aa H k=jr (aE o aa H) k:=by unfold gR;cases aE o aa H with|none=>rfl|some p=>exact xJ p.1 λv=>k v p.2
theorem T3(a bytes size:Nat)(H:ai)(n:Nat)(l:List AV)(k:KV):FH a bytes size H n l k=jr (if akb n 0 then some (.aS,H)else if fw (n*bytes)&&fw n then some (.slice H.next 0 n n false,H.new (.cells (db l) (n*size) a true [] 0))else none) k:=by unfold FH;rw[iO,iO,xK,pT];cases akb n 0<;>(try rfl);cases(fw (n*bytes)&&fw n)<;>rfl
theorem Mz(a bytes size:Nat)(H:ai)(s:AV)(n:Nat)(l:List AV)(k:KV):Bg a bytes size H s n l k=jr (kI a bytes size H s n l) k:=by
 unfold Bg kI;rw[iO,BP];cases dS l with
 |false=>rfl
 |true=>
  simp only[aku,aes,bP,bq];cases s<;>(try rfl)
  .rename_i id off len cap exact;show FJ a bytes size H n l k id off len cap exact=_;unfold FJ;rw[kx,iO];show(if ak2 (len+n) cap=true then _ else _)=_;cases f:ak2 (len+n) cap with
   |true=>simp only[f,bq];unfold KB;rw[iO,kx,Hi];cases akb n 0 with|true=>rfl|false=>simp only[aes,bP];show j9 (iX H id (off+len*size) l) _=_;cases iX H id (off+len*size) l<;>rfl
   |false=>simp only[f,aes,bP];rw[iO,pT];show(if(fw ((len+n)*bytes)&&fw (len+n))=true then _ else _)=_;cases(fw ((len+n)*bytes)&&fw (len+n))with|false=>rfl|true=>simp only[bq,aku,aes,bP];rw[DU];cases H.get id<;>(try rfl);rename_i c m e b aM fz;show FI a size H l k id off len cap exact (len+n) c m e b aM fz=_;unfold FI;rw[Hh];show j9 (iI c m off (len*size)) _=_;simp only;cases iI c m off (len*size)with|none=>rfl|some dT=>rw[BO,rW,iO,iO,xK];cases exact with|true=>rfl|false=>simp only[aes,bP];unfold KC;rw[iO,zT,DV,kx,kx,vY,pT,pT,pT];show(if akb len cap=true then(if(b&&(akb (off+cap*size) m&&(akb e a&&ak2 fz m)))=true then _ else False)else False)=jr (if(b&&akb len cap&&akb (off+cap*size) m&&akb e a&&ak2 fz m)=true then _ else none) k;cases b<;>cases akb len cap<;>cases akb (off+cap*size) m<;>cases akb e a<;>cases ak2 fz m<;>rfl
  exact T3 a bytes size H n l k
theorem T4(a b:Int)(k:Int->Prop):KE a b k=k (a+b):=by cases a with|negSucc m=>exact vW (.negSucc m+b) k|ofNat m=>cases b with|negSucc n=>exact vW (.ofNat m+ .negSucc n) k|ofNat n=>exact kx (m+n) λs=>k (.ofNat s)
theorem T5(a b:Int)(k:Int->Prop):KF a b k=k (a - b):=by
 cases a with
 |negSucc m=>exact vW (.negSucc m - b) k
 |ofNat m=>
  cases b with
  |negSucc n=>rfl
  |ofNat n=>
   show eW (ak2 n m) (fj (Nat.sub m n) λs=>k (.ofNat s)) (oK (.ofNat m - .ofNat n) k)=_;rw[iO,kx,vW];split;·rename_i h;have:=akc h;grind
   rfl
theorem T6(n:Int)(k:Int->Prop):KG n k=k (iJ 3 n):=by
 cases n with
 |negSucc m=>exact vW (iJ 3 (.negSucc m)) k
 |ofNat m=>
  show eW (akv m 9223372036854775808) (k (.ofNat m)) (oK (iJ 3 (.ofNat m)) k)=_;rw[iO,vW];split;·rename_i h;simp only[iJ,h,bq]
  rfl
theorem MA(j:Nat)(n:Int)(k:Int->Prop):Dk j n k=k (iJ j n):=by simp_all[Dk,iO,vW,T6,aj4]
theorem MB(a b:Int):FK a b=iQ a b:=by cases a<;>cases b<;>rfl
theorem MC(a b:Int):Bh a b=lV a b:=by cases a<;>cases b<;>rfl
theorem MD(b:Bool):Dl b=!b:=by cases b<;>rfl
theorem DW(b:Bool)(k:AV->Prop):rL b k=k (.bool b):=by cases b<;>rfl
theorem T7(op:BinOp)(j:Nat)(a b:Int)(k:AV->Prop):FN op j a b k=j9 (iK op j a b) k:=by
 have gR:∀c,uv c j a b k=j9 (iK c j a b) k:=λc=>by unfold uv;cases iK c j a b with|none=>rfl|some v=>exact xJ v k
 cases op;·show FL j a b k=_;unfold FL;rw[T4,MA];rfl
 .show FM j a b k=_;unfold FM;rw[T5,MA];rfl
 all_goals first|exact gR _|rfl|(show rL _ k=_;rw[DW,MB];rfl)|(show rL _ k=_;rw[DW,MD,MB];rfl)|(show rL _ k=_;rw[DW,MC];rfl)|(show rL _ k=_;rw[DW,MD,MC];rfl)
theorem T8(op:BinOp)(j:Nat)(x y:AV)(k:AV->Prop):FO op j x y k=j9 (A9 op j x y) k:=by unfold FO KD A9;cases x<;>(try rfl);cases y<;>(try rfl);rename_i i a l b;show eW (nB (akb i j) (akb l j)) (FN op j a b k) False=_;rw[iO,pT,T7];simp only;cases(akb i j&&akb l j)<;>rfl
theorem DX(o:Option AV)(H:ai)(k:KV):jr (o.map λv=>(v,H)) k=j9 o λv=>k v H:=by cases o<;>rfl
variable(d:kZ)(aa:ap AV)(H:ai)(k:KV)
theorem T9(c a b:aJ):FP c a b d aa H k=jr (aE (.pick c a b) aa H) k:=by unfold FP;rw[iR];simp only[aE];cases gv aa c<;>(try rfl);rename_i t;show eW t (gC aa a λv=>k v H) (gC aa b λv=>k v H)=_;rw[iR,iR];cases t<;>rfl
theorem T'(e:Nat)(x:aJ):FQ e x d aa H k=jr (aE (.box e x) aa H) k:=by unfold FQ;rw[iR,rW,iO,xK,BP,uM];simp only[aE];cases dS (gv aa x).cells<;>rfl
theorem Ua(e:Nat)(a:List AV):FS e a d aa H k=jr (aE (.alloc e a) aa H) k:=by unfold FS;rw[xK,uM];rfl
theorem Ub(e n:Nat)(a:List AV)(b:List (Nat×Nat×aJ)):FT e n a b d aa H k=jr (aE (.buildSlice e n a b) aa H) k:=by unfold FT;simp only[aE];cases oI aa (fO a n) b with|none=>rfl|some l=>rw[BO,rW,iO,xK,BP,uM];simp only;cases dS l<;>rfl
theorem Uc(H:ai)(id:ab)(off:Nat):fE H id off 1=(match H.get id with|.cells c n _ _ _ _=>if off<n then some [c.bw .alR off]else none|_=>none):=by rfl
theorem Ud(a:aJ):FU a d aa H k=jr (aE (.aW a) aa H) k:=by
 unfold FU;rw[iR];simp only[aE,DX];unfold KJ xu jp;cases gv aa a<;>(try rfl);rename_i id off;show xp H id (KI off λv=>k v H)=_;rw[DU];simp only[Uc];cases H.get id<;>(try rfl);rename_i c n e b aM fz;show eW (akv off n) (rI .alR c off λv=>k v H) False=_;rw[iO,zS];by_cases h:off<n;·rw[aK (alN akY h)];simp only[h,bq];rfl
 rw[aq (λe=>h (Eq.mp akY e))];simp only[h,bP];rfl
theorem Ue(n:Nat)(a:aJ):FW n a d aa H k=jr (aE (.gw n a) aa H) k:=by unfold FW;rw[iR];simp only[aE,DX];unfold xu jp;cases gv aa a<;>(try rfl);rename_i id off;show Dj H id off n _=_;rw[T1];simp only;cases fE H id off n<;>rfl
theorem Uf(n:Nat)(a x:aJ):FY n a x d aa H k=jr (aE (.store n a x) aa H) k:=by
 unfold FY;rw[iR,iR,rW];simp only[aE];cases gv aa a<;>(try rfl);rename_i id off;show eW (akb (oN (gv aa x).cells) n) (zj H id off (gv aa x).cells λH=>k .alR H) False=_;rw[iO,Hi,uM];by_cases h:(gv aa x).cells.length=n;·rw[aK (by rw[h];exact ald n)];simp only[h,bq];cases iX H id off (gv aa x).cells<;>rfl
 rw[aq (λe=>h (aj4 e))];simp only[h,bP];rfl
theorem Ug(op:BinOp)(j:Nat)(x y:aJ):FZ op j x y d aa H k=jr (aE (.arith op j x y) aa H) k:=by simp[FZ,iR,T8,aE,DX]
theorem Uh(off:Nat)(x:aJ):F1 off x d aa H k=jr (aE (.j6 off x) aa H) k:=by unfold F1;rw[iR];unfold xu;simp only[aE];cases gv aa x<;>(try rfl);exact kx _ _
theorem Ui(s:Nat)(x i:aJ):F3 s x i d aa H k=jr (aE (.dG s x i) aa H) k:=by unfold F3;rw[iR,iR];simp only[aE];cases gv aa x<;>(try rfl);cases gv aa i<;>(try rfl);rename_i z;cases z<;>(try rfl);rename_i id o len c e a j;show eW (akv j len) (fj (Nat.add o (Nat.mul j s)) λo=>k (.az id o) H) False=_;grind[iO,kx,jr,akv]
theorem Uj:F4 d aa H k=jr (aE .jK aa H) k:=by unfold F4;rw[vY];rfl
theorem Uk(e b s:Nat)(a:List AV)(x y:aJ):F5 e b s a x y d aa H k=jr (aE (.jL e b s a x y) aa H) k:=by
 unfold F5;rw[iR,iR];simp only[aE];generalize gv aa x=g;generalize gv aa y=h;unfold KK;split;·rename_i l c;rw[iO,rW,xK,pT,pT,<-Bool.and_assoc];simp only;cases(ak2 l c&&fw (c*b)&&fw c)<;>rfl
 rename_i f;split;·grind
 rfl
theorem Ul(e:Nat)(x:aJ):F6 e x d aa H k=jr (aE (.xf e x) aa H) k:=by unfold F6;rw[iR];simp only[aE];cases gv aa x<;>(try rfl);show oM _ _=_;rw[rW,xK,kx];rfl
theorem Um(e b s:Nat)(c:List AV)(m:Bool)(x y:aJ):F7 e b s c m x y d aa H k=jr (aE (.append e b s c m x y) aa H) k:=by
 unfold F7;rw[iR,iR,iO];simp only[aE];cases m with
 |true=>
  simp only[bq];generalize gv aa y=f;unfold KL;split;·rename_i n;rw[iO,rW,Mz,pT];simp only;cases(fw (n*b)&&fw n)<;>rfl
  rename_i a;split;·rename_i n;exact absurd rfl (a n)
  rfl
 |false=>simp only[aes,bP];cases je H s (gv aa y)with|none=>rfl|some p=>show fj p.1 (λn=>oM p.2 λl=>Bg e b s H (gv aa x) n l k)=_;rw[kx,rW,Mz]
theorem Un(s:Nat)(x y:aJ):F9 s x y d aa H k=jr (aE (.copy s x y) aa H) k:=by
 unfold F9;rw[iR,iR];simp only[aE];cases je H s (gv aa y)with
 |none=>cases gv aa x<;>rfl
 |some p=>
  show F8 s H k (gv aa x) p.1 p.2=_;unfold F8;cases gv aa x<;>(try rfl);rename_i id off len c e;show fj (min p.1 len) _=_;rw[kx,iO,rW,Hi];simp only;by_cases h:min p.1 len=0;·rw[aK (by rw[h];rfl)];simp only[h,bq];rfl
  rw[aq (λe=>h (aj4 e))];simp only[h,bP];cases iX H id off (p.2.take (min p.1 len*s))<;>rfl
theorem Uo(x:aJ):Ga x d aa H k=jr (aE (.rF x) aa H) k:=by unfold Ga;rw[iR];unfold KM;simp only[aE];cases gv aa x<;>(try rfl);show pO _ _ _=_;rw[vY];rfl
theorem Up(x:aJ):Gb x d aa H k=jr (aE (.pe x) aa H) k:=by
 unfold Gb;rw[iR];unfold KN;simp only[aE];cases gv aa x<;>(try rfl);·rename_i m;show Be H m _=_;rw[Hg];simp only;cases H.get m<;>(try rfl);show pO _ _ _=_;rw[vY];rfl
 rw[vY];rfl
theorem ME:∀(l:List AV)(n:Nat)(k:AV->Prop),Gc l n k=j9 (qF l n) k|[],_,_=>rfl|_::_,0,_=>rfl|_::l,n+1,k=>ME l n k
theorem Uq(x:aJ)(i:Nat):Gd x i d aa H k=jr (aE (.extract x i) aa H) k:=by unfold Gd;rw[iR];simp only[aE];cases gv aa x<;>(try rfl);rename_i l;show Gc l i _=_;rw[ME,DX]
theorem Ur(x:aJ):Ge x d aa H k=jr (aE (.nilCheck x) aa H) k:=by unfold Ge;rw[iR];simp only[aE];cases gv aa x<;>rfl
theorem Us(x:aJ):Gf x d aa H k=jr (aE (.j7 x) aa H) k:=by unfold Gf;rw[iR];simp only[aE];cases gv aa x<;>rfl
theorem Ut(o:bW)(h:o.Bn=false)(h2:∀a,o≠.lU a):zk o d aa H k=jr (aE o aa H) k:=by
 cases o;case call=>trivial
 case lU a=>grind
 case bg x=>exact iR _ _ _
 case pick=>exact T9 d aa H k _ _ _
 case box=>exact T' d aa H k _ _
 case alloc=>exact Ua d aa H k _ _
 case buildSlice=>exact Ub d aa H k _ _ _ _
 case aW=>exact Ud d aa H k _
 case gw=>exact Ue d aa H k _ _
 case store=>exact Uf d aa H k _ _ _
 case arith=>exact Ug d aa H k _ _ _ _
 case j6=>exact Uh d aa H k _ _
 case dG=>exact Ui d aa H k _ _ _
 case jK=>exact Uj d aa H k
 case jL=>exact Uk d aa H k _ _ _ _ _ _
 case xf=>exact Ul d aa H k _ _
 case append=>exact Um d aa H k _ _ _ _ _ _ _
 case copy=>exact Un d aa H k _ _ _
 case rF=>exact Uo d aa H k _
 case pe=>exact Up d aa H k _
 case extract=>exact Uq d aa H k _ _
 case nilCheck=>exact Ur d aa H k _
 case j7=>exact Us d aa H k _
 all_goals exact T2 _ d aa H k
theorem Uu(f:aJ)(args:List aJ):zk (.call f args) d aa H k=d.call (gv aa f) (args.map (gv aa)) H k:=by show gC aa f (λf=>Dh aa args λargs=>d.call f args H k)=_;rw[iR,Mx]
theorem Uv(a:aJ):zk (.lU a) d aa H k=(match ut H (gv aa a)with
 |some (cs,b)=>dK cs.length λi=>match cs[i]? with|some c=>k (b c).1 (b c).2|none=>False
 |none=>False):=by show gC aa a (λa=>KO H a k)=_;rw[iR];rfl
end
section
theorem BQ(j:cP)(x:Prop)(y:Nat->Prop)(z:Prop):zl j x y z=(match j with|.none=>x|.exit i=>y i|.ret=>z):=by cases j<;>rfl
theorem Uw(v:AV)(t f:Prop):Gg v t f=(match v with|.bool true=>t|.bool false=>f|_=>False):=by cases v<;>(try rfl);rename_i b;cases b<;>rfl
theorem MF(aa:ap AV)(d:Option ab)(v:AV)(k:ap AV->Prop):Dm aa d v k=k (aQ aa d v):=by cases d with|none=>rfl|some p=>exact vX _ _ _ _ _
theorem Ux(aa:ap AV)(H:ai)(l:List jo)(x:Prop):KP aa H l x=if fG aa H l=true then x else False:=by cases l with|nil=>rfl|cons a l=>exact iO _ _ _
theorem Uy(aa:ap AV)(g:Option (ab×Bool))(x y:Prop):Gh aa g x y=if fF aa g=true then x else if lX aa g=true then y else False:=by cases g with|none=>rfl|some g=>show eW (fF aa (some g)) x (eW (lX aa (some g)) y False)=_;simp[iO]
theorem MG:∀(l:List AV)(p:ab)(t:ap AV)(k:ap AV->Prop),Gi l p t k=k (kJ l p t)|[],_,_,_=>rfl|v::l,p,t,k=>by show xm .alR p v t (λt=>Bd p λp=>Gi l p t k)=_;rw[vX,Hf,MG l];rfl
theorem Hj(aa:ap AV)(H:ai):∀(l:List iW)(k:List AV->Prop),Bj aa H l k=j9 (gZ aa H l) k|[],_=>rfl|.tmp p::l,k=>by show xl .alR p aa (λv=>Bj aa H l λl=>k (v::l))=_;rw[zR,Hj aa H l];simp only[gZ];cases gZ aa H l<;>rfl|.cell p g n::l,k=>by show xl .alR p aa (λa=>j9 (jp H a n g) λv=>sN v λv=>Bj aa H l λl=>k (v::l))=_;rw[zR];simp only[gZ];cases jp H (aa.get .alR p) n g with|none=>rfl|some v=>rw[BO,xJ,Hj aa H l];cases gZ aa H l<;>rfl
theorem Uz(l:List AV)(k:AV->Prop):Gj l k=k (iL l):=by match l with|[]=>rfl|[v]=>rfl|v::w::l=>rfl
theorem UA(H:ai)(l:List ab)(k:ai->Prop):Gk H l k=j9 (jN H l) k:=by cases l<;>rfl
def Hk(o:cq)(k:LK):Prop:=
 match o with
 |.loop st cB fn aa a as b d=>k st cB fn aa a as b d
 |_=>False
theorem BR(H:ai)(i:ab)(k:LK):ux H i k=Hk (H.get i) k:=by unfold ux;rw[Hg];cases H.get i<;>rfl
variable{ac:ap aG}
structure BS(ac:ap aG)(n:Nat):Prop where
 exec:∀c fr H K,(ft ac n).exec c fr H K=Go.am.exec False dK (ac.bw .none) n c fr H K
 aC:∀l fr H K,(ft ac n).aC l fr H K=Go.am.aC False dK (ac.bw .none) n l fr H K
 call:∀f args H K,(ft ac n).call f args H K=io False dK (ac.bw .none) n f args H K
theorem MH{n:Nat}(h:BS ac n)(b:bt)(K:uw):zm (ft ac n) b K=λj fr H=>match j with|.none=>Go.am.exec False dK (ac.bw .none) n b fr H K|j=>K j fr H:=by funext j fr H;unfold zm;rw[BQ,h.exec];cases j<;>rfl
theorem UB{n:Nat}(h:BS ac n)(c:bt)(fr:Fr)(H:ai)(K:uw):(ft ac (n+1)).exec c fr H K=Go.am.exec False dK (ac.bw .none) (n+1) c fr H K:=by
 cases c with
 |skip=>simp only[Go.am.exec];rfl
 |region l=>show(ft ac n).aC l fr H (K .none)=_;rw[h.aC];simp only[Go.am.exec]
 |seq a b=>show(ft ac n).exec a fr H (zm (ft ac n) b K)=_;rw[h.exec,MH h];simp only[Go.am.exec];rfl
 |cond c a b=>show gC fr.aa c (λv=>Gg v ((ft ac n).exec a fr H K) ((ft ac n).exec b fr H K))=_;rw[iR,Uw,h.exec,h.exec];simp only[Go.am.exec];rfl
 |block id b=>show(ft ac n).exec b fr H (Gl id K)=_;rw[h.exec];simp only[Go.am.exec];congr 1;funext j fr H;unfold Gl;rw[BQ];cases j with|none=>rfl|exit i=>exact iO _ _ _|ret=>rfl
 |loop b=>show(ft ac n).exec b fr H (zm (ft ac n) (.loop b) K)=_;rw[h.exec,MH h];simp only[Go.am.exec];rfl
 |rangeFunc f e as k=>
  have go:∀(fr:Fr)(H:ai)(d:ab)(aa:ap AV),zn (ft ac n) aa e as k (gv fr.aa f) K fr H d=io False dK (ac.bw .none) n (gv fr.aa f) [.yield H.next] (H.new (.loop .ready .none 0 aa e as k d)) λ_ o=>match o.get H.next with
   |.loop st cB fn aa e as k d=>match st with|.busy=>False|_=>K cB fr (o.set H.next (.loop .exhausted cB fn aa e as k d))
   |_=>False:=by intro fr H d aa;unfold zn;rw[vY,h.call];congr 1;funext v o;rw[BR];cases o.get H.next<;>(try rfl);rename_i st cB fn aa e as k d;unfold Hk Gm;simp only[zT];cases st<;>rfl
  show gC fr.aa f (λfv=>Option.rec (motive:=λ_=>Prop) (pO H (.deferred false) λm H=>zn (ft ac n) fr.aa e as k fv K ⟨fr.aa,m::fr.bI,fr.bG⟩ H m) (λl=>ux H l λ_ _ _ _ _ _ _ d=>zn (ft ac n) fr.aa e as k fv K fr H d) fr.bG)=_;rw[iR];simp only[Go.am.exec];cases p:fr.bG with|none=>show pO H (.deferred false) _=_;rw[vY];exact go ⟨fr.aa,H.next::fr.bI,none⟩ (H.new (.deferred false)) H.next fr.aa|some l=>show ux H l _=_;rw[BR];simp only;cases H.get l<;>(try rfl);exact go fr H _ fr.aa
 |exit id=>simp only[Go.am.exec];rfl
 |ret=>simp only[Go.am.exec];rfl
 |ez t=>show rI .none ac t (λg=>aG.rec (motive:=λ_=>Prop) False (λ_ _ _=>False) (λ_=>False) (Dp fr H K) g)=_;rw[zS];simp only[Go.am.exec];cases ac.bw .none t<;>(try rfl);rename_i g;show Dp fr H K g=_;unfold Dp;show j9 (g fr.aa H) _=_;simp only;cases g fr.aa H<;>rfl
theorem UC{n:Nat}(h:BS ac n)(l:List be)(fr:Fr)(H:ai)(K:Fr->ai->Prop):(ft ac (n+1)).aC l fr H K=Go.am.aC False dK (ac.bw .none) (n+1) l fr H K:=by
 cases l with
 |nil=>simp only[Go.am.aC];rfl
 |cons o l=>
  show Gh fr.aa o.guard (Gn (ft ac n) o.op fr.aa H o.jM (after (ft ac n) l K o.dst o.re fr.aa fr.bI fr.bG)) (Dm fr.aa o.dst .alR λaa=>(ft ac n).aC l ⟨aa,fr.bI,fr.bG⟩ H K)=_;rw[Uy,MF,h.aC];simp only[Go.am.aC];congr 1;have c:∀(s:List (ab×cq))(v:AV)(H:ai),after (ft ac n) l K o.dst o.re fr.aa fr.bI fr.bG v (eB H s)=if fG (aQ fr.aa o.dst v) (eB H s) o.re=true then Go.am.aC False dK (ac.bw .none) n l {fr with aa:=aQ fr.aa o.dst v} (eB H s) K else False:=by intro s v H;unfold after;rw[MF,Ux,h.aC]
  have j:Gn (ft ac n) o.op fr.aa H o.jM (after (ft ac n) l K o.dst o.re fr.aa fr.bI fr.bG)=zk o.op (ft ac n) fr.aa (eV fr.aa H o.jM).1 λv b=>after (ft ac n) l K o.dst o.re fr.aa fr.bI fr.bG v (eB b (eV fr.aa H o.jM).2):=by cases o.jM<;>rfl
  rw[j];have k:(λv b=>after (ft ac n) l K o.dst o.re fr.aa fr.bI fr.bG v (eB b (eV fr.aa H o.jM).2))=λv b=>if fG (aQ fr.aa o.dst v) (eB b (eV fr.aa H o.jM).2) o.re=true then Go.am.aC False dK (ac.bw .none) n l {fr with aa:=aQ fr.aa o.dst v} (eB b (eV fr.aa H o.jM).2) K else False:=by funext v b;exact c _ v b
  rw[k];split;·rename_i f args a;rw[a,Uu,h.call]
  .rename_i i a;rw[a,Uv];rfl
  rename_i d g;rw[Ut _ _ _ _ _ (by cases a:o.op<;>first|rfl|exact absurd a (d _ _)) (λi e=>g i e)];cases aE o.op fr.aa (eV fr.aa H o.jM).1<;>rfl
theorem UD{n:Nat}(h:BS ac n)(f:AV)(args:List AV)(H:ai)(K:KV):(ft ac (n+1)).call f args H K=io False dK (ac.bw .none) (n+1) f args H K:=by
 cases f<;>(try(simp only[io];rfl))
 .rename_i f first a;show rI .none ac f (λg=>oM (first++args++a) λall=>aG.rec (motive:=λ_=>Prop) False (Dq (ft ac n) H K all) (Ds H K all) (λ_=>False) g)=_;rw[zS,rW];simp only[io];cases ac.bw .none f<;>(try rfl)
  .rename_i o k body;show Dq (ft ac n) H K (first++args++a) o k body=_;unfold Dq;rw[iO,uM,MG,h.exec];simp only;congr 2;funext j fr H;have m:Gp k K fr H=(match jN H fr.bI with
    |some H=>match gZ fr.aa H k with|some l=>K (iL l) H|none=>False
    |none=>False):=by show Gk H fr.bI (λH=>Bj fr.aa H k λl=>Gj l λv=>K v H)=_;rw[UA];cases jN H fr.bI with|none=>rfl|some q=>rw[BO,Hj];simp only;cases gZ fr.aa q k with|none=>rfl|some l=>rw[BO,Uz]
   unfold KQ;rw[BQ,m];cases j<;>rfl
  rename_i g;show Ds H K (first++args++a) g=_;unfold Ds;simp only;cases g (first++args++a) H with|none=>rfl|some p=>exact xJ p.1 λv=>K v p.2
 rename_i l;show Gr (ft ac n) args H K l=_;unfold Gr;rw[BR];simp only[io];cases H.get l<;>(try rfl);rename_i st cB fn aa b as c d;show Bk st (eW (akb (oN args) (oN b)) ((ft ac n).exec as ⟨ph b args aa,[],some l⟩ H (Bm (ft ac n) l c K)) False) False False=_;cases st<;>(try rfl);show eW (akb (oN args) (oN b)) ((ft ac n).exec as ⟨ph b args aa,[],some l⟩ H (Bm (ft ac n) l c K)) False=_;rw[iO,uM,uM,h.exec];simp only;have r:Bm (ft ac n) l c K=λj fr H=>match j,H.get l with
  |.none,.loop .ready cB fn aa b as bd' d=>Go.am.exec False dK (ac.bw .none) n c fr (H.set l (.loop .busy cB fn aa b as bd' d)) λj _ H=>match H.get l with
   |.loop _ _ fn aa b as c d=>match j with|.none=>K (.bool true) (H.set l (.loop .ready .none fn aa b as c d))|j=>K (.bool false) (H.set l (.loop .done j fn aa b as c d))
   |_=>False
  |_,_=>False:=by funext j fr H;unfold Bm;rw[BQ];cases j with|none=>simp only;unfold KR;rw[BR];cases H.get l<;>(try rfl);rename_i st cB fn aa b as bd' d;show Bk st _ False False=_;cases st<;>(try rfl);show rJ H l (.loop .busy cB fn aa b as bd' d) (λH=>(ft ac n).exec c fr H (Gq l K))=_;rw[zT,h.exec];simp only;congr 1;funext j s H;unfold Gq;rw[BR];cases H.get l<;>(try rfl);unfold Hk;simp only;rw[BQ];cases j<;>simp only[zT]|exit i=>cases H.get l<;>rfl|ret=>cases H.get l<;>rfl
 rw[r];by_cases hl:args.length=b.length;·rw[aK (by rw[hl];exact ald _),aK hl];rfl
 rw[aq (λe=>hl (aj4 e)),aq hl]
theorem DY(ac:ap aG):∀n,BS ac n|0=>⟨λc fr H K=>by rfl,λl fr H K=>by rfl,λf args H K=>by rfl⟩|n+1=>⟨UB (DY ac n),UC (DY ac n),UD (DY ac n)⟩
end
end Go.am.K
namespace Go.am
section
variable{ac:Nat->aG}
structure DZ(ac:Nat->aG)(n:Nat):Prop where
 exec:∀{c fr H K K' m},n<=m->(∀j fr H,K j fr H->K' j fr H)->exec False dK ac n c fr H K->exec False dK ac m c fr H K'
 aC:∀{l fr H K K' m},n<=m->(∀fr H,K fr H->K' fr H)->Go.am.aC False dK ac n l fr H K->Go.am.aC False dK ac m l fr H K'
 call:∀{f args H K K' m},n<=m->(∀v H,K v H->K' v H)->io False dK ac n f args H K->io False dK ac m f args H K'
theorem UE{n:Nat}(h:DZ ac n){c:bt}{fr:Fr}{H:ai}{K r:cP->Fr->ai->Prop}{m:Nat}(g:n<=m)(e:∀j fr H,K j fr H->r j fr H)(he:exec False dK ac (n+1) c fr H K):exec False dK ac (m+1) c fr H r:=by
 cases c with
 |skip=>simp only[exec]at he⊢;exact e _ _ _ he
 |region l=>simp only[exec]at he⊢;exact h.aC g (e _) he
 |seq a b=>simp only[exec]at he⊢;refine h.exec g (λj fr H hj=>?_) he;cases j with|none=>exact h.exec g e hj|exit i=>exact e _ _ _ hj|ret=>exact e _ _ _ hj
 |cond c a b=>
  simp only[exec]at he⊢;split at he;·exact h.exec g e he
  .exact h.exec g e he
  exact he.elim
 |block id b=>simp only[exec]at he⊢;refine h.exec g (λj fr H hj=>?_) he;cases j with|none=>exact e _ _ _ hj|exit i=>simp only at hj⊢;split at hj<;>rename_i hi<;>simp only[hi,bq,bP,aes]<;>exact e _ _ _ hj|ret=>exact e _ _ _ hj
 |loop b=>simp only[exec]at he⊢;refine h.exec g (λj fr H hj=>?_) he;cases j with|none=>exact h.exec g e hj|exit i=>exact e _ _ _ hj|ret=>exact e _ _ _ hj
 |rangeFunc f p as q=>
  simp only[exec]at he⊢;have go:∀(fr:Fr)(l:ab)(v:AV)(k:ai),(match k.get l with
   |.loop st cB fn aa p as q d=>match st with|.busy=>False|_=>K cB fr (k.set l (.loop .exhausted cB fn aa p as q d))
   |_=>False)->(match k.get l with
   |.loop st cB fn aa p as q d=>match st with|.busy=>False|_=>r cB fr (k.set l (.loop .exhausted cB fn aa p as q d))
   |_=>False):=by
   intro fr l v k o;cases s:k.get l with
   |loop st cB fn aa p as q d=>rw[s]at o;cases st<;>first|exact o.elim|exact e _ _ _ o
   |_=>rw[s]at o;exact o.elim
  cases u:fr.bG with
  |none=>rw[u]at he;exact h.call g (λv k o=>go _ _ v k o) he
  |some l=>
   rw[u]at he;simp only at he⊢;split at he;·exact h.call g (λv k o=>go _ _ v k o) he
   exact he.elim
 |exit id=>simp only[exec]at he⊢;exact e _ _ _ he
 |ret=>simp only[exec]at he⊢;exact e _ _ _ he
 |ez t=>
  simp only[exec]at he⊢;split at he
  .split at he;·exact e _ _ _ he
   exact he.elim
  exact he.elim
theorem UF{n:Nat}(h:DZ ac n){l:List be}{fr:Fr}{H:ai}{K c:Fr->ai->Prop}{m:Nat}(d:n<=m)(e:∀fr H,K fr H->c fr H)(he:Go.am.aC False dK ac (n+1) l fr H K):Go.am.aC False dK ac (m+1) l fr H c:=by
 cases l with
 |nil=>simp_all[Go.am.aC]
 |cons o l=>
  simp only[Go.am.aC]at he⊢;have b:∀(s:List (ab×cq))(v:AV)(H:ai),(if fG (aQ fr.aa o.dst v) (eB H s) o.re=true then Go.am.aC False dK ac n l {fr with aa:=aQ fr.aa o.dst v} (eB H s) K else False)->(if fG (aQ fr.aa o.dst v) (eB H s) o.re=true then Go.am.aC False dK ac m l {fr with aa:=aQ fr.aa o.dst v} (eB H s) c else False):=by
   intro s v H a;split at a;·rename_i f;rw[aK f];exact h.aC d e a
   exact a.elim
  split at he
  .rename_i hg;rw[aK hg];split at he;·exact h.call d (λv g a=>b _ v g a) he
   all_goals grind
  rename_i hg;rw[aq hg];split at he;·rename_i hd;rw[aK hd];exact h.aC d e he
  grind
theorem UG{n:Nat}(h:DZ ac n){f:AV}{args:List AV}{H:ai}{K e:KT}{m:Nat}(a:n<=m)(b:∀v H,K v H->e v H)(he:io False dK ac (n+1) f args H K):io False dK ac (m+1) f args H e:=by
 cases f<;>(try(simp only[io]at he;done))
 .simp only[io]at he⊢;split at he;·omega
  .omega
  .grind
  split at he;·rename_i c;rw[aK c];refine h.exec a (λj fr H hj=>?_) he;grind
  grind
 rename_i l;simp only[io]at he⊢;split at he
 .split at he
  .split at he
   .rename_i hl;rw[aK hl];refine h.exec a (λj fr H hj=>?_) he;split at hj
    .refine h.exec a (λj fr H hj=>?_) hj;split at hj
     .split at hj;·exact b _ _ hj
      cases j<;>first|exact b _ _ hj|skip
      all_goals first|exact b _ _ hj|(rename_i d;exact absurd rfl d)
     exact hj.elim
    exact hj.elim
   exact he.elim
  exact he.elim
 exact he.elim
theorem mono(ac:Nat->aG):∀n,DZ ac n|0=>⟨λ_ _ he=>by trivial,λ_ _ he=>by trivial,λ_ _ he=>by trivial⟩|n+1=>by have h:=mono ac n;refine⟨λb a he=>?_,λb a he=>?_,λb a he=>?_⟩;all_goals rename_i m;cases m with|zero=>omega|succ m=>first|exact UE h af a he|exact UF h af a he|exact UG h af a he
end
section
variable[Ov]
variable{ac:Nat->aG}
abbrev Xc(ac:Nat->aG)(n:Nat)(c:bt)(fr:Fr)(H:ai)(K:cP->Fr->ai->Prop):Prop:=exec False dK ac n c fr H K
abbrev Xo(ac:Nat->aG)(n:Nat)(l:List be)(fr:Fr)(H:ai)(K:Fr->ai->Prop):Prop:=Go.am.aC False dK ac n l fr H K
abbrev Xf(ac:Nat->aG)(n:Nat)(f:AV)(args:List AV)(H:ai)(K:KT):Prop:=io False dK ac n f args H K
theorem Xo.nil{n:Nat}{fr:Fr}{H:ai}{K:Fr->ai->Prop}(h:K fr H):Xo ac (n+1) [] fr H K:=by trivial
theorem Xo.op{n:Nat}{d:Option ab}{op:bW}{l:List be}{aa:ap AV}{bI:List ab}{bG:Option ab}{H H':ai}{v:AV}{K:Fr->ai->Prop}(he:aE op aa H=some (v,H'))(h:Xo ac n l ⟨aQ aa d v,bI,bG⟩ H' K):Xo ac (n+1) (⟨d,op,none,[],[]⟩::l) ⟨aa,bI,bG⟩ H K:=by simp only[Xo,Go.am.aC,fF,eV,eB,fG,bq];grind[aE]
theorem Xo.next{n:Nat}{d:Option ab}{a:aJ}{l:List be}{aa:ap AV}{bI:List ab}{bG:Option ab}{H:ai}{cs:List (Option aT)}{aft:Option aT->AV×ai}{K:Fr->ai->Prop}(he:ut H (gv aa a)=some (cs,aft))(h:∀c∈cs,Xo ac n l ⟨aQ aa d (aft c).1,bI,bG⟩ (aft c).2 K):Xo ac (n+1) (⟨d,.lU a,none,[],[]⟩::l) ⟨aa,bI,bG⟩ H K:=by simp only[Xo,Go.am.aC,fF,eV,eB,fG,bq,he];grind
theorem Xo.call{n:Nat}{d:Option ab}{f:aJ}{args:List aJ}{l:List be}{aa:ap AV}{bI:List ab}{bG:Option ab}{H:ai}{K:Fr->ai->Prop}(h:Xf ac n (gv aa f) (args.map (gv aa)) H λv a=>Xo ac n l ⟨aQ aa d v,bI,bG⟩ a K):Xo ac (n+1) (⟨d,.call f args,none,[],[]⟩::l) ⟨aa,bI,bG⟩ H K:=by trivial
theorem Xc.region{n:Nat}{l:List be}{fr:Fr}{H:ai}{K:cP->Fr->ai->Prop}(h:Xo ac n l fr H (K .none)):Xc ac (n+1) (.region l) fr H K:=by trivial
theorem Xc.seq{n:Nat}{a b:bt}{fr:Fr}{H:ai}{K:cP->Fr->ai->Prop}(h:Xc ac n a fr H λj fr H=>match j with|.none=>Xc ac n b fr H K|j=>K j fr H):Xc ac (n+1) (.seq a b) fr H K:=by trivial
theorem Xc.mono{n m:Nat}(h:n<=m){c:bt}{fr:Fr}{H:ai}{K a:cP->Fr->ai->Prop}(b:∀j fr H,K j fr H->a j fr H)(he:Xc ac n c fr H K):Xc ac m c fr H a:=(Go.am.mono ac n).exec h b he
theorem Xo.mono{n m:Nat}(h:n<=m){l:List be}{fr:Fr}{H:ai}{K a:Fr->ai->Prop}(b:∀fr H,K fr H->a fr H)(he:Xo ac n l fr H K):Xo ac m l fr H a:=(Go.am.mono ac n).aC h b he
theorem Xf.mono{n m:Nat}(h:n<=m){f:AV}{args:List AV}{H:ai}{K a:KT}(b:∀v H,K v H->a v H)(he:Xf ac n f args H K):Xf ac m f args H a:=(Go.am.mono ac n).call h b he
theorem Xc.loop{n:Nat}{b:bt}{fr:Fr}{H:ai}{K:cP->Fr->ai->Prop}(h:Xc ac n b fr H λj fr H=>match j with|.none=>Xc ac n (.loop b) fr H K|j=>K j fr H):Xc ac (n+1) (.loop b) fr H K:=by trivial
theorem Xc.pp{n:Nat}{c:aJ}{a b:bt}{fr:Fr}{H:ai}{K:cP->Fr->ai->Prop}(d:gv fr.aa c=.bool true)(h:Xc ac n a fr H K):Xc ac (n+1) (.cond c a b) fr H K:=by simp[d,h,Xc,exec]
theorem Xc.nI{n:Nat}{c:aJ}{a b:bt}{fr:Fr}{H:ai}{K:cP->Fr->ai->Prop}(d:gv fr.aa c=.bool false)(h:Xc ac n b fr H K):Xc ac (n+1) (.cond c a b) fr H K:=by simp[d,h,Xc,exec]
theorem Xc.block{n:Nat}{id:Nat}{b:bt}{fr:Fr}{H:ai}{K:cP->Fr->ai->Prop}(h:Xc ac n b fr H λj fr H=>match j with|.exit i=>if akb i id then K .none fr H else K (.exit i) fr H|j=>K j fr H):Xc ac (n+1) (.block id b) fr H K:=by trivial
theorem Xc.skip{n:Nat}{fr:Fr}{H:ai}{K:cP->Fr->ai->Prop}(h:K .none fr H):Xc ac (n+1) .skip fr H K:=by trivial
theorem Xc.exit{n id:Nat}{fr:Fr}{H:ai}{K:cP->Fr->ai->Prop}(h:K (.exit id) fr H):Xc ac (n+1) (.exit id) fr H K:=by trivial
theorem Xc.ret{n:Nat}{fr:Fr}{H:ai}{K:cP->Fr->ai->Prop}(h:K .ret fr H):Xc ac (n+1) .ret fr H K:=by trivial
theorem Xc.ju{n m:Nat}{a b:bt}{fr:Fr}{H:ai}{K:cP->Fr->ai->Prop}{k:Nat}(c:n<=k)(d:m<=k)(h:Xc ac n a fr H λj fr H=>match j with|.none=>Xc ac m b fr H K|j=>K j fr H):Xc ac (k+1) (.seq a b) fr H K:=by refine Xc.seq (h.mono c λj fr H hj=>?_);cases j with|none=>exact hj.mono d λ_ _ _ h=>h|exit i=>omega|ret=>omega
def rX(a c:Nat)(d b ok e ex kv:ab)(body:bt):bt:=
 .block a (.loop (.seq (.region [⟨some b,.lU (.t d),none,[],[]⟩,⟨some ok,.extract (.t b) 0,none,[],[]⟩])
   (.seq (.cond (.t ok) .skip (.exit a)) (.block c (.seq (.region [⟨some e,.um (.t d),none,[],[]⟩,⟨some ex,.extract (.t e) 0,none,[],[]⟩,⟨some kv,.bg (.t ex),none,[],[]⟩]) body)))))
theorem MI:∀{es:List aT}{e:aT}(i0:Nat),e∈es->(es.map (·.born)).Nodup->∃i,qE e.born es i0=some (i0+i)/\es[i]?=some e
 |[],_,_,h,_=>by grind
 |a::es,e,i0,h,b=>by
  rw[aj7,akz]at b;rcases aeV.1 h with h|h;·simp[h,qE,ald]
  have c:¬a.born=e.born:=λhe=>b.1 (by rw[he];exact akp h);obtain⟨i,h1,h2⟩:=MI (i0+1) h b.2;refine⟨i+1,?_,by grind⟩;have:akb a.born e.born=false:=by cases hb:akb a.born e.born with|false=>rfl|true=>exact absurd (aj4 hb) c
  simp only[qE,this,aes,bP,h1];grind
def kK(es:List aT)(seen:List Nat):List aT:=es.filter λe=>!seen.contains e.born
theorem UH{es:List aT}{seen:List Nat}{e:aT}(he:e∈kK es seen):(kK es (seen++[e.born])).length<(kK es seen).length:=by
 have h1:kK es (seen++[e.born])=(kK es seen).filter λx=>!(x.born==e.born):=by simp only[kK,List.filter_filter];congr 1;funext x;simp only[List.contains_append,Bool.not_or,List.contains_cons,List.contains_nil,Bool.or_false];rw[Bool.and_comm]
 rw[h1];refine List.length_filter_lt_length_iff_exists.2 ⟨e,he,aB⟩
theorem MJ{H:ai}{id m:ab}{es:List aT}{b:Nat}{seen:List Nat}(hi:H.get id=.mapIter (some m) b seen b)(g:H.get m=.map es b)(d:∀e∈es,e.born<b):∃f,ut H (.az id 0)=some ((if(kK es seen).isEmpty then[none]else[])++(kK es seen).map some,f)/\f none=(.tuple [.bool false],H)/\∀e,f (some e)=(.tuple [.bool true,e.key,e.val],H.set id (.mapIter (some m) b (seen++[e.born]) b)):=by
 have eZ:¬((!seen.isEmpty&&!es.isEmpty&&es.all λe=>ak2 b e.born)=true):=by intro h;simp only[aj6,aln]at h;cases es with|nil=>simp at h|cons a es=>have:=akc (h.2 a (aeU ..));have:=d a (aeU ..);omega
 have h1:(kK es seen).filter (λe=>akv e.born b)=kK es seen:=List.filter_eq_self.2 λe he=>alN akY (d e (alF.1 he).1);have h2:(kK es seen).filter (λe=>!akv e.born b)=[]:=List.filter_eq_nil_iff.2 λe he=>by have:akv e.born b=true:=alN akY (d e (alF.1 he).1);simp[this]
 refine⟨λc=>match c with|some e=>(.tuple [.bool true,e.key,e.val],H.set id (.mapIter (some m) b (seen++[e.born]) b))|none=>(.tuple [.bool false],H),?_,rfl,λe=>rfl⟩;simp only[ut,hi,g];rw[aq eZ];show some ((if((kK es seen).filter (λe=>akv e.born b)).isEmpty then[none]else[])++((kK es seen).filter (λe=>akv e.born b)++(kK es seen).filter (λe=>!akv e.born b)).map some,_)=_;grind
theorem MK{g r:Nat}{p f ok u ex kv:ab}{body:bt}(Y:g≠r)(S:p≠f)(T:p≠ok)(Z:f≠ok)(d5:u≠ex){es:List aT}{b:Nat}{id m:ab}(hb:(es.map (·.born)).Nodup)(w:∀e∈es,e.born<b){bI:List ab}{bG:Option ab}{K:cP->Fr->ai->Prop}(I:List Nat->ap AV->ai->Prop)(y:∀seen aa H,I seen aa H->aa.get .alR p=.az id 0/\H.get id=.mapIter (some m) b seen b/\H.get m=.map es b)(d:Nat)(step:∀seen aa H e,I seen aa H->e∈es->e.born∉seen->Xc ac d body ⟨((((aa.set .alR f (.tuple [.bool true,e.key,e.val])).set .alR ok (.bool true)).set .alR u (.tuple [e.key,e.val])).set .alR ex e.key).set .alR kv e.key,bI,bG⟩ (H.set id (.mapIter (some m) b (seen++[e.born]) b)) λj fr H'=>j=.none/\fr.bI=bI/\fr.bG=bG/\I (seen++[e.born]) fr.aa H')(aA:∀seen aa H,I seen aa H->(∀e∈es,e.born∈seen)->K .none ⟨(aa.set .alR f (.tuple [.bool false])).set .alR ok (.bool false),bI,bG⟩ H):∀(k:Nat)seen aa H,I seen aa H->(kK es seen).length<=k->Xc ac (d+15+k) (rX g r p f ok u ex kv body) ⟨aa,bI,bG⟩ H K:=by
 have A:∀(k:Nat)seen aa H,I seen aa H->(kK es seen).length<=k->Xc ac (d+14+k) (.loop (.seq (.region [⟨some f,.lU (.t p),none,[],[]⟩,⟨some ok,.extract (.t f) 0,none,[],[]⟩]) (.seq (.cond (.t ok) .skip (.exit g)) (.block r (.seq (.region [⟨some u,.um (.t p),none,[],[]⟩,⟨some ex,.extract (.t u) 0,none,[],[]⟩,⟨some kv,.bg (.t ex),none,[],[]⟩]) body))))) ⟨aa,bI,bG⟩ H λj fr H=>j=.exit g/\K .none fr H:=by
  intro k;induction k with
  |zero=>intro seen aa H s C;obtain⟨h1,h2,h3⟩:=y seen aa H s;obtain⟨F,B,D,P⟩:=MJ h2 h3 w;have n:kK es seen=[]:=akM af;rw[n]at B;refine Xc.loop (n:=d+13) ?_;refine Xc.seq (n:=d+12) (Xc.region (n:=d+11) (Xo.next (n:=d+10) (by rw[show gv aa (.t p)=aa.get .alR p from rfl,h1];exact B) ?_));intro c o;simp only[List.isEmpty_nil,bq,ali,akT,aep]at o;subst o;rw[D];refine Xo.op (n:=d+9) (v:=.bool false) (H':=H) (by simp[aE,gv,aQ,ap.aF,qF]) (Xo.nil (n:=d+8) ?_);refine Xc.seq (n:=d+11) (Xc.nI (n:=d+10) (by simp[gv,aQ,ap.aF]) (Xc.exit (n:=d+9) ?_));refine⟨by trivial,aA seen aa H s λe he=>?_⟩;apply akx;intro v;have:e∈kK es seen:=alF.2 ⟨he,by simpa using v⟩;rw[n]at this;cases this
  |succ k V=>
   intro seen aa H s C;obtain⟨h1,h2,h3⟩:=y seen aa H s;obtain⟨F,B,D,P⟩:=MJ h2 h3 w;refine Xc.loop (n:=d+14+k) ?_;refine Xc.mono (n:=d+14) (K:=λj fr H=>match j with|.none=>exec False dK ac (d+14+k) (.loop (.seq (.region [⟨some f,.lU (.t p),none,[],[]⟩,⟨some ok,.extract (.t f) 0,none,[],[]⟩]) (.seq (.cond (.t ok) .skip (.exit g)) (.block r (.seq (.region [⟨some u,.um (.t p),none,[],[]⟩,⟨some ex,.extract (.t u) 0,none,[],[]⟩,⟨some kv,.bg (.t ex),none,[],[]⟩]) body))))) fr H λj fr H=>j=.exit g/\K .none fr H|j=>j=.exit g/\K .none fr H) af (λ_ _ _ h=>h) ?_;refine Xc.seq (n:=d+13) (Xc.region (n:=d+12) (Xo.next (n:=d+11) (by rw[show gv aa (.t p)=aa.get .alR p from rfl,h1];exact B) ?_));intro c o;cases c with
   |none=>
    have n:kK es seen=[]:=by cases hu:kK es seen with|nil=>rfl|cons a l=>rw[hu]at o;simp at o
    rw[D];refine Xo.op (n:=d+10) (v:=.bool false) (H':=H) (by simp[aE,gv,aQ,ap.aF,qF]) (Xo.nil (n:=d+9) ?_);refine Xc.seq (n:=d+12) (Xc.nI (n:=d+11) (by simp[gv,aQ,ap.aF]) (Xc.exit (n:=d+10) ?_));refine⟨by trivial,aA seen aa H s λe he=>?_⟩;apply akx;intro v;have:e∈kK es seen:=alF.2 ⟨he,by simpa using v⟩;rw[n]at this;cases this
   |some e=>
    have q:e∈kK es seen:=by
     rw[ahp]at o;rcases o with o|o;·split at o<;>simp at o
     rw[akk]at o;obtain⟨x,W,E⟩:=o;injection E with E;subst E;exact W
    have k7:e∈es:=(alF.1 q).1;have G:e.born∉seen:=by have:=(alF.1 q).2;simpa using this
    rw[P];refine Xo.op (n:=d+10) (v:=.bool true) (H':=H.set id (.mapIter (some m) b (seen++[e.born]) b)) (by simp[aE,gv,aQ,ap.aF,qF]) (Xo.nil (n:=d+9) ?_);refine Xc.seq (n:=d+12) (Xc.pp (n:=d+11) (by simp[gv,aQ,ap.aF]) (Xc.skip (n:=d+10) ?_));refine Xc.block (n:=d+11) ?_;obtain⟨i,z,J⟩:=MI 0 k7 hb;rw[akh]at z;have L:id≠m:=λe=>by rw[e,h3]at h2;cases h2
    have M:(H.set id (.mapIter (some m) b (seen++[e.born]) b)).get id=.mapIter (some m) b (seen++[e.born]) b:=by rw[ai.aF,aK rfl]
    have N:(H.set id (.mapIter (some m) b (seen++[e.born]) b)).get m=.map es b:=by rw[ai.aF,aq (λh=>L h.symm)];exact h3
    refine Xc.seq (n:=d+10) (Xc.region (n:=d+9) ?_);refine Xo.op (n:=d+8) (v:=.tuple [e.key,e.val]) (H':=H.set id (.mapIter (some m) b (seen++[e.born]) b)) ?_ ?_;·simp only[aE,gv,aQ,ap.aF,aq T,aq S,h1,M,N,List.getLast?_append,List.getLast?_singleton,Option.some_or,ald,bq,z,J]
    refine Xo.op (n:=d+7) (v:=e.key) (H':=H.set id (.mapIter (some m) b (seen++[e.born]) b)) (by simp[aE,gv,aQ,ap.aF,qF]) ?_;refine Xo.op (n:=d+6) (v:=e.key) (H':=H.set id (.mapIter (some m) b (seen++[e.born]) b)) (by simp[aE,gv,aQ,ap.aF]) (Xo.nil (n:=d+5) ?_);refine Xc.mono (n:=d) (m:=d+10) af ?_ (step seen aa H e s k7 G);rintro j fr H'⟨rfl,Q,R,X⟩;have O:fr=⟨fr.aa,bI,bG⟩:=by cases fr;simp only at Q R;subst Q;subst R;rfl
    rw[O];refine V (seen++[e.born]) fr.aa H' X ?_;have:=UH q;omega
 intro k seen aa H s C;rw[show d+15+k=d+14+k+1 by omega];refine Xc.block (n:=d+14+k) (Xc.mono (afb _) ?_ (A k seen aa H s C));simp_all
end
section
def Hl:AV->AV->Bool
 |.bool a,.bool b=>a==b
 |.int j (.ofNat a),.int k (.ofNat b)=>akb j k&&akb a b
 |.cY,.cY=>true
 |.aS,.aS=>true
 |_,_=>false
def kg:aJ->aJ->Bool
 |.t p,.t q=>ab.beq p q
 |.c a,.c b=>Hl a b
 |_,_=>false
def zU:List aJ->List aJ->Bool
 |[],[]=>true
 |a::l,b::m=>kg a b&&zU l m
 |_,_=>false
def Hm:bW->bW->Bool
 |.bg x,.bg y=>kg x y
 |.extract x i,.extract y j=>kg x y&&akb i j
 |.um x,.um y=>kg x y
 |.lU x,.lU y=>kg x y
 |.pe x,.pe y=>kg x y
 |.aW x,.aW y=>kg x y
 |.dG s x i,.dG t y j=>akb s t&&kg x y&&kg i j
 |.arith .neq k x i,.arith .neq l y j=>akb k l&&kg x y&&kg i j
 |.jy .int x i u,.jy .int y j v=>kg x y&&kg i j&&kg u v
 |.eq a .map x i,.eq b .map y j=>(a==b)&&kg x y&&kg i j
 |.jK,.jK=>true
 |.store n x i,.store m y j=>akb n m&&kg x y&&kg i j
 |.j6 n x,.j6 m y=>akb n m&&kg x y
 |.j7 x,.j7 y=>kg x y
 |.call f l,.call g m=>kg f g&&zU l m
 |_,_=>false
def Hn:Option ab->Option ab->Bool
 |none,none=>true
 |some p,some q=>ab.beq p q
 |_,_=>false
def Ho:be->be->Bool
 |⟨d,o,none,[],[]⟩,⟨e,p,none,[],[]⟩=>Hn d e&&Hm o p
 |_,_=>false
def zV:List be->List be->Bool
 |[],[]=>true
 |a::l,b::m=>Ho a b&&zV l m
 |_,_=>false
def mz:bt->bt->Bool
 |.skip,.skip=>true
 |.region l,.region m=>zV l m
 |.seq a b,.seq c d=>mz a c&&mz b d
 |.cond x a b,.cond y c d=>kg x y&&mz a c&&mz b d
 |.block i a,.block j b=>akb i j&&mz a b
 |.loop a,.loop b=>mz a b
 |.exit i,.exit j=>akb i j
 |.ez i,.ez j=>akb i j
 |_,_=>false
theorem UI{a b:AV}(h:Hl a b=true):a=b:=by unfold Hl at h;split at h;all_goals simp_all
theorem pU{a b:aJ}(h:kg a b=true):a=b:=by unfold kg at h;grind[ab.ip,UI]
theorem ML:∀{l m:List aJ},zU l m=true->l=m|[],[],_=>rfl|a::l,b::m,h=>by simp only[zU,aj6]at h;rw[pU h.1,ML h.2]|[],_::_,h=>by simp[zU]at h|_::_,[],h=>by simp[zU]at h
theorem UJ{a b:bW}(h:Hm a b=true):a=b:=by unfold Hm at h;split at h<;>(try simp only[aj6,beq_iff_eq]at h)<;>first|(cases h;done)|rfl|(rw[pU h];done)|(rw[pU h.1,aj4 h.2];done)|(rw[aj4 h.1.1,pU h.1.2,pU h.2];done)|(rw[pU h.1.1,pU h.1.2,pU h.2];done)|(rw[h.1.1,pU h.1.2,pU h.2];done)|(rw[aj4 h.1,pU h.2];done)|(rw[pU h.1,ML h.2];done)
theorem UK{a b:Option ab}(h:Hn a b=true):a=b:=by unfold Hn at h;grind[ab.ip]
theorem UL{a b:be}(h:Ho a b=true):a=b:=by
 unfold Ho at h;split at h;·simp only[aj6]at h;grind[UK,UJ]
 grind
theorem MM:∀{l m:List be},zV l m=true->l=m|[],[],_=>rfl|a::l,b::m,h=>by simp only[zV,aj6]at h;rw[UL h.1,MM h.2]|[],_::_,h=>by simp[zV]at h|_::_,[],h=>by simp[zV]at h
theorem UM:∀{a b:bt},mz a b=true->a=b:=by intro a;induction a with|skip=>intro b h;cases b<;>simp[mz]at h;rfl|region l=>intro b h;cases b<;>simp[mz]at h;rw[MM h]|seq x y d e=>intro b h;cases b<;>simp[mz]at h;rw[d h.1,e h.2]|cond c x y d e=>intro b h;cases b<;>simp[mz]at h;rw[pU h.1.1,d h.1.2,e h.2]|block i x g=>intro b h;cases b<;>simp[mz]at h;rw[h.1,g h.2]|loop x g=>intro b h;cases b<;>simp[mz]at h;rw[g h]|exit i=>intro b h;cases b<;>simp[mz]at h;rw[h]|ez i=>intro b h;cases b<;>simp[mz]at h;rw[h]|rangeFunc f j as k _ _=>intro b h;cases b<;>simp[mz]at h|ret=>intro b h;cases b<;>simp[mz]at h
def zW(b:bt):List (Nat×bt)->Option Nat
 |[]=>none
 |(t,c)::l=>if mz b c then some t else zW b l
def BT(t:Nat):List (Nat×bt)->bt
 |[]=>.skip
 |(u,c)::l=>if akb u t then c else BT t l
theorem UN(l:List (Nat×bt))(a:(l.map (·.1)).Nodup)(b:bt)(t:Nat)(h:zW b l=some t):b=BT t l:=by
 induction l with
 |nil=>trivial
 |cons p l d=>
  obtain⟨u,c⟩:=p;simp only[zW]at h;rw[aj7,akz]at a;split at h;·rename_i he;injection h with h;subst h;simp only[BT,ald,bq];exact UM he
  have e:t∈l.map (·.1):=by
   clear d a;induction l with
   |nil=>simp[zW]at h
   |cons q l d=>
    obtain⟨g,c2⟩:=q;simp only[zW]at h;split at h;·injection h with h;subst h;simp
    exact aey _ (d h)
  have f:akb u t=false:=by cases hb:akb u t with|false=>rfl|true=>exact absurd (aj4 hb▸e) a.1
  simp_all[BT,aes,bP]
@[reducible]def UO(l:List (Nat×bt))(a:(l.map (·.1)).Nodup):Ov:=⟨λb=>zW b l,λt=>BT t l,UN l a⟩
def eS:cq->Option (List aT)
 |.map es _=>some es
 |.dI es=>some es
 |_=>none
def jR:List aT->Option (List Int)
 |[]=>some []
 |e::es=>match e.key,jR es with
  |.int 3 k,some l=>some (k::l)
  |_,_=>none
def uN:List aT->Option (List Int)
 |[]=>some []
 |e::es=>match e.key,e.val,uN es with
  |.int 3 k,.bool true,some l=>some (k::l)
  |_,_,_=>none
def iA(x:Int):List Int->Bool
 |[]=>false
 |y::l=>iQ x y||iA x l
def BU:List Int->Bool
 |[]=>true
 |x::l=>!iA x l&&BU l
def pV(x:Int)(l:List Int):List Int:=if iA x l then l else l++[x]
def gT:List Int->List Int->List Int
 |[],l=>l
 |x::a,l=>gT a (pV x l)
def eG(l:List Int):List aT:=l.map λk=>⟨.int 3 k,.bool true,0⟩
def kL(aa:ap AV):List ab->ap AV
 |[]=>aa
 |p::l=>kL (aa.set .alR p .co) l
def jS(H:ai)(i:ab):Option (List Int):=
 match eS (H.get i)with
 |some es=>match uN es with
  |some l=>if BU l then some l else none
  |none=>none
 |none=>none
def jT(H:ai)(i:ab):Option (List Int):=
 match eS (H.get i)with
 |some es=>match jR es with
  |some l=>if BU l then some l else none
  |none=>none
 |none=>none
def bh(H:ai)(i:ab)(o:Nat):Option AV:=
 match H.get i with
 |.cells c n _ _ _ _=>if akv o n then some (c.bw .alR o)else none
 |_=>none
def pq(H:ai):AV->Option AV
 |.az i o=>bh H i o
 |_=>none
def l6(H:ai)(s:AV)(x:Int):Option AV:=
 match s,x with
 |.slice i o n _ _,.ofNat j=>if akv j n then bh H i (o+j)else none
 |_,_=>none
def uO(H:ai)(s:AV):List Int->Option (List Int)
 |[]=>some []
 |x::l=>match l6 H s x,uO H s l with
  |some (.int 3 r),some a=>some (r::a)
  |_,_=>none
def ai.skip(H:ai):ai:=⟨H.t,H.next.succ⟩
variable[Ov]
theorem ta(x:Int):∀l:List Int,iA x l=true↔x∈l|[]=>by simp[iA]|y::l=>by simp only[iA,alf,ta x l,aeV];simp[fQ]
theorem xL:∀l:List Int,BU l=true↔l.Nodup|[]=>by trivial|x::l=>by simp only[BU,aj6,akU,xL l,akz,<-ta];simp
theorem BV(x y:Int)(l:List Int):y∈pV x l↔y=x\/y∈l:=by unfold pV;split;all_goals simp_all[ta,id,or_comm]
theorem UP{x:Int}{l:List Int}(h:l.Nodup):(pV x l).Nodup:=by grind[pV,ta,akI,aep]
theorem oQ(y:Int):∀(a l:List Int),y∈gT a l↔y∈a\/y∈l|[],l=>by simp[gT]|x::a,l=>by simp only[gT,oQ y a,BV,aeV];grind
theorem qK:∀(a:List Int){l:List Int},l.Nodup->(gT a l).Nodup|[],_,h=>h|_::a,_,h=>qK a (UP h)
end
abbrev sl(t:Nat):ab:=ab.dF t
abbrev bQ(d:Nat)(o:bW):be:=⟨some (sl d),o,none,[],[]⟩
abbrev rN(o:bW):be:=⟨none,o,none,[],[]⟩
abbrev tt(t:Nat):aJ:=.t (sl t)
def UQ:bt:=.region [bQ 42 (.bg (tt 6)),bQ 43 (.aW (tt 4)),bQ 44 (.bg (tt 7)),bQ 45 (.dG 1 (tt 43) (tt 44)),bQ 46 (.aW (tt 45)),rN (.jy .int (tt 42) (tt 46) (.c (.bool true)))]
def UR:bt:=.region [bQ 33 (.aW (tt 3)),bQ 34 (.bg (tt 5)),bQ 35 (.dG 1 (tt 33) (tt 34)),bQ 36 (.aW (tt 35)),bQ 37 (.pe (tt 36))]
def US:bt:=rX 2 3 (sl 37) (sl 38) (sl 39) (sl 40) (sl 41) (sl 7) UQ
def UT:bt:=.seq UR US
def zX:List ab:=[sl 7,sl 33,sl 34,sl 35,sl 36,sl 37,sl 38,sl 39,sl 40,sl 41,sl 42,sl 43,sl 44,sl 45,sl 46]
def xM(aa:ap AV)(H:ai):Option (ap AV×ai):=
 match pq H (aa.get .alR (sl 3)),aa.get .alR (sl 5),pq H (aa.get .alR (sl 4)),aa.get .alR (sl 6)with
 |some a,.int _ v,some b,.map N=>match l6 H a v with
  |some (.map m)=>if ab.beq m N then none else match jT H m,jS H N with
   |some ks,some t0=>match uO H b ks with
    |some c=>some (kL aa zX,(H.set N (.dI (eG (gT c t0)))).skip)
    |none=>none
   |_,_=>none
  |_=>none
 |_,_,_,_=>none
def UU:bt:=.seq (.region [bQ 37 (.bg (tt 6)),bQ 38 (.bg (tt 5)),bQ 39 (.arith .neq 3 (tt 37) (tt 38))])
  (.cond (tt 39) (.region [bQ 40 (.aW (tt 3)),bQ 41 (.bg (tt 5)),bQ 42 (.dG 1 (tt 40) (tt 41)),bQ 43 (.aW (tt 42)),bQ 44 (.bg (tt 6)),rN (.jy .int (tt 43) (tt 44) (.c (.bool true)))]) .skip)
def UV:bt:=.region [bQ 31 (.bg (tt 4)),bQ 32 (.pe (tt 31))]
def UW:bt:=rX 4 5 (sl 32) (sl 33) (sl 34) (sl 35) (sl 36) (sl 6) UU
def UX:bt:=.seq UV UW
def uP:List ab:=[sl 6,sl 31,sl 32,sl 33,sl 34,sl 35,sl 36,sl 37,sl 38,sl 39,sl 40,sl 41,sl 42,sl 43,sl 44]
def iF(v:Int):List Int->List Int
 |[]=>[]
 |x::l=>if iQ x v then iF v l else x::iF v l
def uQ(aa:ap AV)(H:ai):Option (ap AV×ai):=
 match aa.get .alR (sl 4),aa.get .alR (sl 5),pq H (aa.get .alR (sl 3))with
 |.map m,.int 3 v,some a=>match l6 H a v with
  |some (.map N)=>if ab.beq m N then none else match jT H m,jS H N with
   |some ks,some t0=>some (kL aa uP,(H.set N (.dI (eG (gT (iF v ks) t0)))).skip)
   |_,_=>none
  |_=>none
 |_,_,_=>none
def MN:bt:=.seq (.seq (.region [bQ 22 (.aW (tt 3)),bQ 23 (.bg (tt 5)),bQ 24 (.dG 1 (tt 22) (tt 23)),bQ 25 (.aW (tt 24)),bQ 26 (.eq false .map (tt 25) (.c .cY))])
   (.cond (tt 26) (.region [bQ 27 (.aW (tt 3)),bQ 28 (.bg (tt 5)),bQ 29 .jK,bQ 30 (.dG 1 (tt 27) (tt 28)),rN (.store 1 (tt 30) (tt 29))]) .skip)) (.ez 1001)
def UY:bt:=.region [bQ 16 (.bg (tt 4)),bQ 17 (.pe (tt 16))]
def UZ:bt:=rX 2 3 (sl 17) (sl 18) (sl 19) (sl 20) (sl 21) (sl 5) MN
def U0:bt:=.seq UY UZ
def qL:List ab:=[sl 5,sl 6]++(ake 29).map λi=>sl (16+i)
def vZ(c:ap AV)(o n:Nat)(m:ab)(ks:List Int)(d:ai):List Int->ap AV->ai->Option (ap AV×ai)
 |[],b,a=>some (b,a)
 |k::l,b,a=>
  match k with
  |.ofNat j=>if akv j n then match c.bw .alR (o+j)with
    |.cY=>vZ c o n m ks d l (fX b (o+j) [.map a.next]) (a.new (.dI (eG (iF k ks))))
    |.map N=>if ab.beq N m then none else match jS d N with
     |some t0=>vZ c o n m ks d l b (a.set N (.dI (eG (gT (iF k ks) t0))))
     |none=>none
    |_=>none
   else none
  |_=>none
def lb(c:ap AV)(o:Nat):List Int->List ab
 |[]=>[]
 |k::l=>match c.bw .alR (o+k.toNat)with
  |.map N=>N::lb c o l
  |_=>lb c o l
def zY(p:ab):List ab->Bool
 |[]=>false
 |q::l=>ab.beq p q||zY p l
def D0:List ab->Bool
 |[]=>true
 |p::l=>!zY p l&&D0 l
def xN(aa:ap AV)(H:ai):Option (ap AV×ai):=
 match aa.get .alR (sl 4),aa.get .alR (sl 3)with
 |.map m,.az a o3=>match bh H a o3 with
  |some (.slice i o n _ _)=>match jS H m,H.get i with
   |some ks,.cells c b e true [] fz=>if !ab.beq a i&&ak2 fz o&&ak2 (o+n) b&&D0 (lb c o ks)then
     match vZ c o n m ks H ks c H with
     |some (d,f)=>some (kL aa qL,((f.set i (.cells d b e true [] fz)).set m (.dI (eG ks))).skip)
     |none=>none
    else none
   |_,_=>none
  |_=>none
 |_,_=>none
def U1:bt:=.region [bQ 62 (.aW (tt 11)),bQ 63 (.bg (tt 16)),bQ 64 (.j6 1 (tt 7)),bQ 65 (.aW (tt 64)),bQ 66 (.j7 (tt 65)),bQ 67 (.call (tt 62) [tt 63,tt 66])]
def MO:bt:=.region [bQ 53 (.aW (tt 5)),bQ 54 (.bg (tt 15)),bQ 55 (.dG 1 (tt 53) (tt 54)),bQ 56 (.aW (tt 55)),bQ 57 (.pe (tt 56))]
def MP:bt:=rX 6 7 (sl 57) (sl 58) (sl 59) (sl 60) (sl 61) (sl 16) U1
def U2:bt:=.seq MO MP
def BW:List ab:=sl 16::(ake 15).map λi=>sl (53+i)
def U3:bt:=.region [bQ 85 (.aW (tt 11)),bQ 86 (.bg (tt 19)),bQ 87 (.call (tt 85) [tt 86,.c (.int 3 (.ofNat 0))])]
def MQ:bt:=.region [bQ 76 (.aW (tt 5)),bQ 77 (.bg (tt 17)),bQ 78 (.dG 1 (tt 76) (tt 77)),bQ 79 (.aW (tt 78)),bQ 80 (.pe (tt 79))]
def MR:bt:=rX 8 9 (sl 80) (sl 81) (sl 82) (sl 83) (sl 84) (sl 19) U3
def U4:bt:=.seq MQ MR
def BX:List ab:=sl 19::(ake 12).map λi=>sl (76+i)
def lA(H:ai)(i:ab):Option (List (Int×Int)):=
 match eS (H.get i)with
 |some es=>go es
 |none=>none
where go:List aT->Option (List (Int×Int))
 |[]=>some []
 |e::es=>match e.key,e.val,go es with
  |.int 3 k,.int 3 v,some l=>some ((k,v)::l)
  |_,_,_=>none
def fR(pl:List (Int×Int))(bH:Int):List Int->List Int
 |[]=>[]
 |v::l=>if rY pl bH v then v::fR pl bH l else fR pl bH l
where rY(pl:List (Int×Int))(bH v:Int):Bool:=
 match pl with
 |[]=>true
 |(k,g)::pl=>if iQ v k then !lV g bH else rY pl bH v
def mA(t0:List Int):List Int->Bool
 |[]=>false
 |v::l=>!iA v t0||mA t0 l
def mB(H:ai)(q:ab):AV->Option AV
 |.az i o=>if ab.beq i q then none else bh H i o
 |_=>none
def uR(H:ai)(q:ab)(s:AV)(x:Int):Option AV:=
 match s with
 |.slice i _ _ _ _=>if ab.beq i q then none else l6 H s x
 |_=>none
def zZ(eD:Nat)(bH:ab->Option Int)(to:Nat)(cQ:List ab)(aa:ap AV)(H:ai):Option (ap AV×ai):=
 match pq H (aa.get .alR (sl 11))with
 |some (.func f [] [c1,c2,g,.az a no])=>if akb f eD then
  match mB H a (aa.get .alR (sl 5)),aa.get .alR (sl to),mB H a (aa.get .alR (sl 11)),mB H a c1,mB H a c2,mB H a g,bH a with
  |some h,.int _ t,some _,some (.map d),some i,some (.int _ b),some bH=>
   match uR H a h t,uR H a i b,H.get a with
   |some (.map m),some (.map N),.cells c n e true [] fz=>
    if ab.beq d N||ab.beq m d||!(ak2 fz no&&akv no n)then none else
    match jT H m,jT H d,lA H d,jS H N,c.bw .alR no with
    |some ks,some _,some pl,some t0,.bool j=>
     some (kL aa cQ,((H.set N (.dI (eG (gT (fR pl bH ks) t0)))).set a (.cells (fX c no [.bool (j||mA t0 (fR pl bH ks))]) n e true [] fz)).skip)
    |_,_,_,_,_=>none
   |_,_,_=>none
  |_,_,_,_,_,_,_=>none
  else none
 |_=>none
def BY(eD:Nat)(aa:ap AV)(H:ai):Option (ap AV×ai):=
 zZ eD (λa=>match aa.get .alR (sl 7)with
 |.az i o=>if ab.beq i a then none else match bh H i (o+1)with
  |some (.slice _ _ n _ _)=>some (.ofNat n)
  |some .aS=>some (.ofNat 0)
  |_=>none
 |_=>none) 15 BW aa H
def BZ(eD:Nat)(aa:ap AV)(H:ai):Option (ap AV×ai):=zZ eD (λ_=>some (.ofNat 0)) 17 BX aa H
def nJ(x:Int):List Int->List Int
 |[]=>[x]
 |y::l=>if lV y x then y::nJ x l else x::y::l
def gj:List Int->List Int
 |[]=>[]
 |x::l=>nJ x (gj l)
def xP(args:List AV)(H:ai):Option (AV×ai):=
 match args with
 |[.cY]=>some (.aS,H)
 |[.map m]=>match jT H m with
  |some []=>some (.aS,H)
  |some ks=>if ak2 ks.length 1000 then some (.slice H.next 0 ks.length ks.length false,H.new (.cells (db ((gj ks).map λn=>.int 3 n)) ks.length 3 true [] 0))else none
  |none=>none
 |_=>none
def xQ(args:List AV)(H:ai):Option (AV×ai):=
 match args with
 |[.iface t (.map m)]=>match H.get m with
  |.map es c=>some (.iface t (.map H.next),H.new (.map es c))
  |_=>none
 |_=>none
def U5:List (Nat×bt):=[(1001,UX),(1002,U0),(1003,UT),(1004,U2),(1005,U4)]
instance ahC:Ov:=UO U5 bA
section
variable[Ov]
variable{P:Program}{d:cU}{ρ:aP}{H:ai}{w:World}{nt:Nat}
theorem B0:∀(l:List ab)(aa:ap AV)(t:ab),(kL aa l).get .alR t=if t∈l then .co else aa.get .alR t
 |[],aa,t=>by simp[kL]
 |p::l,aa,t=>by
  rw[kL,B0 l,ap.aF];by_cases h:t∈l;·simp[h]
  by_cases e:t=p<;>simp[h,e]
theorem MS:kr P λ_=>.none:=by refine⟨?_,?_,?_⟩<;>(intros;rename_i h;cases h)
theorem U6{ac:Nat->aG}(s:kr P ac){c1 c2:Code}{x y:bt}(h1:eX P nt c1=some x)(h2:eX P nt c2=some y){n:Nat}{fr:Fr}{K:cP->Fr->ai->Prop}{b:Frame}{a:Act}(he:Xc ac n (.seq x y) fr H K)(u:iM ρ nt fr b.roundOf a)(v:bz P d ρ H w)(k:List Item)(cs:List Frame):jh P d ρ nt w b k cs (lone (b.atR a (.code (.seq c1 c2)::k)) cs w) K:=by cases n with|zero=>trivial|succ n=>have c:zI P ac n:=(BL s n).2.1;obtain⟨j,e,p,f,q,r,t,g,h,i,l,m,o,z⟩:=c h1 he u v (.code c2::k) cs;refine .iY (.one stepR_seq) (.iY z ?_);cases j with|none=>rw[show t=.code c2::k from o];exact .vS h m (c h2 g i l k cs)|exit id=>exact⟨.exit id,e,p,f,q,r,t,g,h,i,l,m,o.sX (λ_ _=>rfl) trivial,Steps.refl _ _⟩|ret=>exact⟨.ret,e,p,f,q,r,t,g,h,i,l,m,o.sX (λ_ _=>rfl) trivial,Steps.refl _ _⟩
theorem MT(h:bz P d ρ H w){m:ab}{es:List aT}{f:Nat}(j:H.get m=.map es f):(es.map (·.born)).Nodup/\∀e∈es,e.born<f:=by
 obtain⟨b,x,k,e,hl,hb,g⟩:=h.aH (i:=m) (by grind);rw[j]at g;cases k<;>simp only[OR]at g;obtain⟨_,rfl,ia,i⟩:=g;have key:∀{es:List aT}{l:List MapEntry},cr ρ es l->es.map (·.born)=l.map (·.born):=by intro es;induction es with|nil=>intro l h;cases l<;>simp[cr]at h;rfl|cons a es n=>intro l h;cases l with|nil=>simp[cr]at h|cons c l=>simp only[cr]at h;simp[h.2.2.1,n h.2.2.2]
 refine⟨by rw[key i];exact ia.1,λa o=>?_⟩;have:a.born∈es.map (·.born):=akp o;rw[key i,akk]at this;obtain⟨c,p,e⟩:=this;rw[<-e];exact ia.2 c p
theorem MU(l:bz P d ρ H w){m:ab}{es:List aT}(f:eS (H.get m)=some es):∃(b:List aT)(a:Nat),bz P d ρ (H.set m (.map b a)) w/\(b.map aT.kv).Perm (es.map aT.kv)/\(b.map (·.born)).Nodup/\(∀e∈b,e.born<a)/\∀{g:cU}{h:aP}{n:ai}{o:World},bz P g h n o->n.get m=.map b a->bz P g h (n.set m (H.get m)) o:=by cases k:H.get m with|map i c=>rw[k]at f;simp only[eS,adG]at f;subst f;have hb:=MT l k;refine⟨i,c,l.congr rfl λj=>?_,alM _,hb.1,hb.2,λh2 hg=>h2.congr rfl λj=>?_⟩;all_goals simp_all[ai.aF]|dI i=>rw[k]at f;simp only[eS,adG]at f;subst f;obtain⟨p,b,a,p1,p2,h1⟩:=LG l k;have hb:=MT h1 (m:=m) (by rw[ai.aF,aK rfl]);grind[GO]|_=>simp_all[eS]
theorem z6:∀{es:List aT}{ks:List Int},jR es=some ks->(∀e∈es,∃k∈ks,e.key=.int 3 k)/\∀k∈ks,∃e∈es,e.key=.int 3 k
 |[],ks,h=>by simp_all[jR,adG]
 |a::es,ks,h=>by
  simp only[jR]at h;split at h;·rename_i k l b hl;injection h with h;subst h;obtain⟨c,f⟩:=z6 hl;grind
  grind
theorem U7{es a:List aT}{ks:List Int}(i:jR es=some ks)(h:(a.map aT.kv).Perm (es.map aT.kv)):(∀e∈a,∃k∈ks,e.key=.int 3 k)/\∀k∈ks,∃e∈a,e.key=.int 3 k:=by
 obtain⟨j,l⟩:=z6 i;constructor;·intro e he;have:e.kv∈es.map aT.kv:=h.mem_iff.1 (akp he);rw[akk]at this;obtain⟨f,b,c⟩:=this;obtain⟨k,h1,h2⟩:=j f b;have:e.key=f.key:=(congrArg alO c).symm;exact⟨k,h1,this.trans h2⟩
 intro k g;obtain⟨e,he,h2⟩:=l k g;have:e.kv∈a.map aT.kv:=h.mem_iff.2 (akp he);rw[akk]at this;obtain⟨f,b,c⟩:=this;have:f.key=e.key:=congrArg alO c;exact⟨f,b,this.trans h2⟩
theorem xR{m:ab}{ks:List Int}(h:jT H m=some ks):∃es,eS (H.get m)=some es/\jR es=some ks/\ks.Nodup:=by grind[jT,xL]
def sk(k:Int):AV×AV:=(.int 3 k,.bool true)
def ib(o:cq)(ks:List Int):Prop:=ks.Nodup/\∃es,eS o=some es/\es.map aT.kv=ks.map sk
theorem MV:∀{es:List aT}{ks:List Int},uN es=some ks->es.map aT.kv=ks.map sk
 |[],ks,h=>by simp_all[uN,adG]
 |a::es,ks,h=>by
  simp only[uN]at h;split at h;·rename_i k l h1 h2 hl;injection h with h;subst h;simp only[aj7,MV hl,aT.kv,h1,h2,sk]
  grind
theorem qM{N:ab}{ks:List Int}(h:jS H N=some ks):ib (H.get N) ks:=by
 unfold jS at h;split at h
 .rename_i es k7;split at h
  .rename_i l hl;split at h;·rename_i a;injection h with h;subst h;exact⟨(xL _).1 a,es,k7,MV hl⟩
   grind
  grind
 grind
theorem Hp(l:List Int):(eG l).map aT.kv=l.map sk:=by simp[eG,aT.kv,sk]
theorem wc{l:List Int}(h:l.Nodup):ib (.dI (eG l)) l:=⟨h,eG l,rfl,Hp l⟩
theorem bz.xS(h:bz P d ρ H w){N:ab}{ks ks2:List Int}(hs:ib (H.get N) ks)(j:ks.Perm ks2):bz P d ρ (H.set N (.dI (eG ks2))) w:=by
 obtain⟨_,es,he,g⟩:=hs;have f:(eG ks).Perm (eG ks2):=j.map _;have b:es.map aT.kv=(eG ks).map aT.kv:=by rw[g,Hp]
 cases a:H.get N with|map i c=>rw[a]at he;simp only[eS,adG]at he;subst he;exact GO h a f b|dI i=>rw[a]at he;simp only[eS,adG]at he;subst he;refine h.LF (by rw[a];simp) (by rw[a];rfl) (by rw[a];rfl) rfl ?_;intro x k e;rw[a]at e;cases k<;>simp only[OR]at e⊢;obtain⟨h1,h2,l,h3,m⟩:=e;obtain⟨n,p1,p2⟩:=dP.DH f (dP.kv b m);exact⟨⟨h1,h2,n,p1.trans h3,p2⟩,λq=>by simp[gS]⟩|_=>rw[a]at he;simp[eS]at he
theorem Hq{k:Int}:∀{es:List aT}{ks:List Int},es.map aT.kv=ks.map sk->∀i0,(k∉ks->findKey .int (.int 3 k) es i0=some none)/\(k∈ks->∃i,findKey .int (.int 3 k) es i0=some (some (i0+i,.bool true))/\i<es.length/\kY (.bool true) (.int 3 k) es i=es)
 |[],[],_,i0=>by simp[findKey]
 |e::es,x::ks,h,i0=>by
  simp only[aj7,akn,aT.kv,sk,aj1]at h;obtain⟨⟨h1,h2⟩,h3⟩:=h;obtain⟨f,c⟩:=Hq (k:=k) h3 (i0+1);have b:eA 64 .int (.int 3 k) (.int 3 x)=some (iQ k x):=by simp[eA]
  by_cases a:k=x
  .subst a;refine⟨λh=>absurd (aeU ..) h,λ_=>⟨0,?_,aB,?_⟩⟩;·simp[h1,b,h2,findKey,fQ,beq_self_eq_true,alG]
   simp only[kY,<-h1,<-h2]
  have g:iQ k x=false:=by rw[fQ];simpa using a
  refine⟨λh=>?_,λh=>?_⟩;·simp_all[findKey,aey]
  obtain⟨i,j,l,m⟩:=c ((aeV.1 h).resolve_left a);refine⟨i+1,?_,by grind,?_⟩;all_goals grind[findKey,kY]
 |[],_::_,h,_=>by grind
 |_::_,[],h,_=>by grind
theorem Hr{k:Int}:∀{es:List aT}{ks:List Int},ks.Nodup->es.map aT.kv=ks.map sk->(k∉ks->gJ.go .int (.int 3 k) es=some none)/\(k∈ks->gJ.go .int (.int 3 k) es=some (some (.bool true))/\(lW .int (.int 3 k) (.bool true) es).map aT.kv=ks.map sk)
 |[],[],_,_=>by simp[gJ.go]
 |e::es,x::ks,c,h=>by
  rw[akz]at c;simp only[aj7,akn,aT.kv,sk,aj1]at h;obtain⟨⟨h1,h2⟩,h3⟩:=h;obtain⟨f,g⟩:=Hr (k:=k) c.2 h3;have b:eA 64 .int (.int 3 k) (.int 3 x)=some (iQ k x):=by simp[eA]
  by_cases a:k=x
  .subst a;have hg:=f c.1;refine⟨λh=>absurd (aeU ..) h,λ_=>⟨?_,?_⟩⟩;·simp[h1,b,hg,h2,gJ.go,fQ,beq_self_eq_true]
   simp only[lW,mM,h1,b,fQ,beq_self_eq_true,bq,(zE (v:=.bool true) hg).1,aj7,aT.kv,sk];grind
  have i:iQ k x=false:=by rw[fQ];simpa using a
  refine⟨λh=>?_,λh=>?_⟩;·simp_all[gJ.go,aey]
  obtain⟨j,l⟩:=g ((aeV.1 h).resolve_left a);simp_all[gJ.go,lW,mM,aes,bP,aj7,aT.kv,sk]
 |[],_::_,_,h=>by grind
 |_::_,[],_,h=>by grind
theorem z7(aa:ap AV)(v:AV):gv aa (.c v)=v:=rfl
theorem Hu{aa:ap AV}{om ok_:aJ}{N:ab}{x:Int}{ks:List Int}(r:gv aa om=.map N)(s:gv aa ok_=.int 3 x)(hs:ib (H.get N) ks):∃p,aE (.jy .int om ok_ (.c (.bool true))) aa H=some (.alR,p)/\p.next=H.next/\(∀j,j≠N->p.get j=H.get j)/\ib (p.get N) (pV x ks)/\∀es c,H.get N=.map es c->∃z B,p.get N=.map z B/\(x∈ks->p.get N=H.get N):=by
 obtain⟨q,es,he,l⟩:=hs;have f:iA x ks=true↔x∈ks:=ta x ks;cases m:H.get N with
 |map g c=>
  rw[m]at he;simp only[eS,adG]at he;subst he;obtain⟨u,v⟩:=Hq (k:=x) l 0;by_cases k:x∈ks
  .obtain⟨i,t,w,A⟩:=v k;rw[akh]at t;refine⟨H.set N (.map (kY (.bool true) (.int 3 x) g i) c),?_,rfl,λj hj=>by rw[ai.aF,aq hj],?_,λn c2 e2=>⟨_,_,by rw[ai.aF,aK rfl],λ_=>by rw[ai.aF,aK rfl,A]⟩⟩;·have o:xk .int (.int 3 x) g i=true:=GP rfl _ _ _ w;simp only[aE,jA,aku,aes,bP,r,s,m,t,o,bq,z7]
   rw[ai.aF,aK rfl];unfold pV;rw[aK (f.2 k)];exact⟨q,_,rfl,by rw[A];exact l⟩
  refine⟨H.set N (.map (g++[⟨.int 3 x,.bool true,c⟩]) (c+1)),?_,rfl,λj hj=>by rw[ai.aF,aq hj],?_,λn c2 e2=>⟨_,_,by rw[ai.aF,aK rfl],λh=>absurd h k⟩⟩;·simp only[aE,jA,aku,aes,bP,r,s,m,u k,z7]
  rw[ai.aF,aK rfl];unfold pV;rw[aq (λh=>k (f.1 h))];refine⟨?_,_,rfl,by simp[l,aT.kv,sk]⟩;rw[akI];exact⟨q,aB,λa y b hb=>by simp only[aep]at hb;subst hb;exact λe=>k (e▸y)⟩
 |dI g=>
  rw[m]at he;simp only[eS,adG]at he;subst he;obtain⟨u,v⟩:=Hr (k:=x) q l;by_cases k:x∈ks
  .obtain⟨t,w⟩:=v k;refine⟨H.set N (.dI (lW .int (.int 3 x) (.bool true) g)),?_,rfl,λj hj=>by rw[ai.aF,aq hj],?_,λn c2 e2=>by cases e2⟩;·simp only[aE,jA,aku,aes,bP,r,s,m,gJ,ur,bq,t,z7]
   rw[ai.aF,aK rfl];unfold pV;rw[aK (f.2 k)];exact⟨q,_,rfl,w⟩
  refine⟨H.set N (.dI (g++[⟨.int 3 x,.bool true,0⟩])),?_,rfl,λj hj=>by rw[ai.aF,aq hj],?_,λn c2 e2=>by cases e2⟩;·simp only[aE,jA,aku,aes,bP,r,s,m,gJ,ur,bq,u k,z7]
  rw[ai.aF,aK rfl];unfold pV;rw[aq (λh=>k (f.1 h))];refine⟨?_,_,rfl,by simp[l,aT.kv,sk]⟩;rw[akI];exact⟨q,aB,λa y b hb=>by simp only[aep]at hb;subst hb;exact λe=>k (e▸y)⟩
 |_=>rw[m]at he;simp[eS]at he
theorem MW{aa:ap AV}{om ok_:aJ}{N:ab}{x:Int}{ks:List Int}(b:gv aa om=.map N)(e:gv aa ok_=.int 3 x)(hs:ib (H.get N) ks):∃a,aE (.jy .int om ok_ (.c (.bool true))) aa H=some (.alR,a)/\a.next=H.next/\(∀j,j≠N->a.get j=H.get j)/\ib (a.get N) (pV x ks):=by grind[Hu]
theorem MX{aa:ap AV}{k a:aJ}{N:ab}{x:Int}{ks:List Int}(l:gv aa k=.map N)(m:gv aa a=.int 3 x)(hs:ib (H.get N) ks):aE (.lookup .int (.bool false) false k a) aa H=some (.bool (iA x ks),H):=by
 obtain⟨p,es,he,b⟩:=hs;have e:iA x ks=true↔x∈ks:=ta x ks;have hb:∀q:Bool,(x∈ks↔q=true)->iA x ks=q:=λq s=>by cases q<;>cases h:iA x ks<;>simp_all
 cases f:H.get N with
 |map j c=>
  rw[f]at he;simp only[eS,adG]at he;subst he;obtain⟨n,o⟩:=Hq (k:=x) b 0;by_cases g:x∈ks;·obtain⟨i,r,_⟩:=o g;simp[l,m,f,r,e,g,aE,jA,aku,aes,bP]
  simp[l,m,f,n,g,hb,aE,jA,aku,aes,bP]
 |dI j=>rw[f]at he;simp only[eS,adG]at he;subst he;obtain⟨n,o⟩:=Hr (k:=x) p b;by_cases g:x∈ks;all_goals simp_all[aE,jA,aku,aes,bP,gJ,ur,bq]
 |_=>simp_all[eS]
theorem xU{i:ab}{o:Nat}{v:AV}(h:bh H i o=some v):∃c n e a aM fz,H.get i=.cells c n e a aM fz/\o<n/\c.bw .alR o=v:=by grind[bh,Eq.mp,akY]
theorem pW{a:ai}{i:ab}(h:a.get i=H.get i)(o:Nat):bh a i o=bh H i o:=by simp[h,bh]
theorem jC{aa:ap AV}{x:aJ}{i:ab}{o:Nat}{v:AV}(a:gv aa x=.az i o)(h:bh H i o=some v):aE (.aW x) aa H=some (v,H):=by obtain⟨c,n,e,b,aM,fz,h1,h2,h3⟩:=xU h;simp[a,h1,h2,h3,aE,jp,fE,iI]
theorem wd{a v:AV}(h:pq H a=some v):∃i o,a=.az i o/\bh H i o=some v:=by unfold pq at h;grind
theorem B3{s v:AV}{x:Int}(h:l6 H s x=some v):∃i o n c e j,s=.slice i o n c e/\x=.ofNat j/\j<n/\bh H i (o+j)=some v:=by
 unfold l6 at h;split at h
 .split at h;·rename_i a;exact⟨_,_,_,_,_,_,rfl,rfl,Eq.mp akY a,h⟩
  grind
 grind
theorem we{aa:ap AV}{x y:aJ}{i:ab}{o n c:Nat}{e:Bool}{j k:Nat}(a:gv aa x=.slice i o n c e)(b:gv aa y=.int k (.ofNat j))(hj:j<n):aE (.dG 1 x y) aa H=some (.az i (o+j),H):=by have:akv j n=true:=alN akY hj;simp[a,b,this,aE]
end
section
mutual
theorem VR.gN{s q:aP}(h:cL s q):∀(v:AV)(c0 c:Value),VR s v c0->VR q v c->VR s v c
 |.tuple l,c0,c,d,k=>by
  cases c0<;>simp only[VR]at d
  cases c<;>simp only[VR]at k⊢
  exact bj.gN h l _ _ d k
 |.agg l,c0,c,d,k=>by
  cases c0<;>simp only[VR]at d
  cases c<;>simp only[VR]at k⊢
  exact bj.gN h l _ _ d k
 |.bool _,c0,c,_,k=>by cases c<;>simp only[VR]at k⊢;exact k
 |.int _ _,c0,c,_,k=>by cases c<;>simp only[VR]at k⊢;exact k
 |.str _,c0,c,_,k=>by cases c<;>simp only[VR]at k⊢;exact k
 |.az i o,c0,c,d,k=>by
  cases c0 with
  |pointer p=>
   cases p with
   |none=>simp[VR]at d
   |some p=>
    obtain⟨r,u,j,_⟩:=d
    cases c with
    |pointer a=>
     cases a with
     |none=>simp[VR]at k
     |some a=>
      obtain⟨b,x,e,B⟩:=k
      have:=(h _ _ j).1.symm.trans e
      injection this with this;injection this with w z
      subst w;subst z
      exact⟨_,_,j,B⟩
    |_=>simp[VR]at k
  |_=>simp[VR]at d
 |.lS,c0,c,_,k=>by
  cases c with
  |pointer a=>cases a<;>simp[VR]at k⊢
  |_=>simp[VR]at k
 |.slice i o len cap ex,c0,c,d,k=>by
  cases c0 with
  |slice p H I=>
   cases p with
   |none=>simp[VR]at d
   |some p=>
    obtain⟨_,_,_,_,r,u,j,_⟩:=d
    cases c with
    |slice a n m=>
     cases a with
     |none=>simp[VR]at k
     |some a=>
      obtain⟨h1,h2,h3,C,b,x,e,D,A⟩:=k
      have:=(h _ _ j).1.symm.trans e
      injection this with this;injection this with w z
      subst w;subst z
      have E:=(h _ _ j).2
      rw[E]at A
      exact⟨h1,h2,h3,C,_,_,j,D,A⟩
    |_=>simp[VR]at k
  |_=>simp[VR]at d
 |.aS,c0,c,_,k=>by
  cases c with
  |slice a n m=>
   unfold VR at k⊢
   split at k<;>first|trivial|(exact absurd k aB)|exact k
  |_=>simp[VR]at k
 |.map i,c0,c,d,k=>by
  cases c0 with
  |map r=>
   cases r with
   |none=>simp[VR]at d
   |some r=>
    cases c with
    |map b=>
     cases b with
     |none=>simp[VR]at k
     |some b=>
      simp only[VR]at k⊢
      have:=(h _ _ d).1.symm.trans k
      rw[d];exact this
    |_=>simp[VR]at k
  |_=>simp[VR]at d
 |.cY,c0,c,_,k=>by
  cases c with
  |map b=>cases b<;>simp[VR]at k⊢
  |_=>simp[VR]at k
 |.func f a b,c0,c,d,k=>by
  cases c0 with
  |func t0 u F=>
   cases t0 with
   |func G=>
    simp only[VR]at d
    cases c with
    |func t x y=>
     cases t with
     |func g=>
      simp only[VR]at k⊢
      exact⟨k.1,bj.gN h a _ _ d.2.1 k.2.1,bj.gN h b _ _ d.2.2 k.2.2⟩
     |_=>simp[VR]at k
    |_=>simp[VR]at k
   |_=>simp[VR]at d
  |_=>simp[VR]at d
 |.yield i,c0,c,d,k=>by
  cases c0 with
  |func t0 u F=>
   cases t0 with
   |yield G=>
    simp only[VR]at d
    cases c with
    |func t x y=>
     cases t with
     |yield g=>
      simp only[VR]at k⊢
      have:=(h _ _ d.1).1.symm.trans k.1
      exact⟨by rw[d.1];exact this,k.2⟩
     |_=>simp[VR]at k
    |_=>simp[VR]at k
   |_=>simp[VR]at d
  |_=>simp[VR]at d
 |.nilFunc,c0,c,_,k=>by cases c<;>simp only[VR]at k⊢
 |.iface t v,c0,c,d,k=>by
  cases c0<;>simp only[VR]at d
  cases c<;>simp only[VR]at k⊢
  exact⟨k.1,VR.gN h v _ _ d.2 k.2⟩
 |.nilIface,c0,c,_,k=>by cases c<;>simp only[VR]at k⊢
 |.co,c0,c,_,_=>by simp only[VR]
theorem bj.gN{e b:aP}(h:cL e b):∀(l:List AV)(a m:List Value),bj e l a->bj b l m->bj e l m
 |[],a,m,_,k=>by cases m<;>simp only[bj]at k⊢
 |v::l,a,m,d,k=>by
  cases a with
  |nil=>simp[bj]at d
  |cons c0 a=>
   cases m with
   |nil=>simp[bj]at k
   |cons c m=>
    simp only[bj]at d k⊢
    exact⟨VR.gN h v _ _ d.1 k.1,bj.gN h l _ _ d.2 k.2⟩
end
theorem mP.gN{c b:aP}(h:cL c b):∀{l:List ab}{a m:List Deferred},mP c l a->mP b l m->mP c l m|[],a,m,_,k=>by grind[mP]|i::l,a,m,e,k=>by cases a with|nil=>trivial|cons n a=>cases m with|nil=>trivial|cons d m=>obtain⟨⟨o,f,_⟩,e⟩:=e;obtain⟨⟨r,g,j⟩,k⟩:=k;have:=(h _ _ f).1.symm.trans g;exact⟨⟨r,by grind,j⟩,mP.gN h e k⟩
end
section
variable[Ov]
variable{P:Program}
theorem iM.off{d c:aP}{e:Nat}{fr b:Fr}{ro:Option Nat}{a f:Act}{cQ:List ab}(h0:iM d e fr ro a)(g:cL d c)(h:iM c e b ro f)(hs:∀t,t∉cQ->b.aa.get .alR t=fr.aa.get .alR t)(j:b.bI=fr.bI):iM d e {fr with aa:=Go.am.kL fr.aa cQ} ro f:=by
 refine⟨⟨h.E.1,λt i=>?_⟩,?_,h0.R⟩
 .rw[B0];split;·trivial
  rename_i k;have:=h.E.2 t i;rw[hs _ k]at this;exact VR.gN g _ _ _ (h0.E.2 t i) this
 have:=h.D;rw[j]at this;exact mP.gN g h0.D this
theorem Hv:∀{l:List aT},(l.map (·.born)).Nodup->∀{x y:aT},x∈l->y∈l->x.born=y.born->x=y
 |[],_,_,_,a,_,_=>by grind
 |c::l,b,x,y,a,d,h=>by
  rw[aj7,akz]at b;rcases aeV.1 a with e1|e1<;>rcases aeV.1 d with e2|e2;·grind
  .grind
  .grind
  exact Hv b.2 e1 e2 h
theorem Hw{ac:Nat->aG}(ht:kr P ac){R:cU}{G:aP}{H K:ai}{w:World}{S:Nat}{fr:Fr}{b:Frame}{a:Act}{c1 c2:Code}{W body:bt}{x y:Nat}{i g ok B ex kv:ab}(h1:eX P S c1=some W)(h2:eX P S c2=some (rX x y i g ok B ex kv body))(ag:x≠y)(d1:i≠g)(d2:i≠ok)(d3:g≠ok)(d4:i≠B)(d5:B≠ex)(d6:i≠ex)(d7:i≠kv){cQ:List ab}(s1:g∈cQ)(s2:ok∈cQ)(s3:B∈cQ)(s4:ex∈cQ)(s5:kv∈cQ)(hF:iM G S fr b.roundOf a)(hI:bz P R G H w){m:ab}{es:List aT}{ks:List Int}(hm:eS (H.get m)=some es)(hk:jR es=some ks)(X T:Nat)(O:∀d c,Xc ac X W fr (H.set m (.map d c)) λj fr1 H1=>j=.none/\fr1.bI=fr.bI/\fr1.bG=fr.bG/\(∀t,t∉cQ->fr1.aa.get .alR t=fr.aa.get .alR t)/\fr1.aa.get .alR i=.az H.next 0/\H1=(H.set m (.map d c)).new (.mapIter (some m) c [] c))(J:List aT->Nat->List Int->ai->Prop)(J0:∀d c,(d.map aT.kv).Perm (es.map aT.kv)->J d c [] ((H.set m (.map d c)).new (.mapIter (some m) c [] c)))(av:∀d c l H1 o,J d c l H1->J d c l (H1.set H.next o))(Jm:∀d c l H1,J d c l H1->H1.get m=.map d c)(A:∀d c l aa H1 k,k∈ks->J d c l H1->(∀t,t∉cQ->aa.get .alR t=fr.aa.get .alR t)->aa.get .alR kv=.int 3 k->Xc ac T body ⟨aa,fr.bI,fr.bG⟩ H1 λj fr1 s=>j=.none/\fr1.bI=fr.bI/\fr1.bG=fr.bG/\(∀t,t∉cQ->fr1.aa.get .alR t=fr.aa.get .alR t)/\fr1.aa.get .alR i=aa.get .alR i/\s.get H.next=H1.get H.next/\J d c (l++[k]) s)(aA:∀d c l H1 h r,(∀k,k∈l↔k∈ks)->J d c l H1->cL G h->bz P R h H1 r->(∀{L:cU}{h:aP}{s:ai}{r:World},bz P L h s r->s.get m=.map d c->bz P L h (s.set m (H.get m)) r)->∃p,cL G p/\bz P R p K r)(k:List Item)(cs:List Frame):jh P R G S w b k cs (lone (b.atR a (.code (.seq c1 c2)::k)) cs w) λj fr1 H1=>j=.none/\fr1={fr with aa:=kL fr.aa cQ}/\H1=K:=by
 obtain⟨d,c,aw,hp,hb,ax,gN⟩:=MU hI hm;obtain⟨ay,a0⟩:=U7 hk hp;have run:Xc ac (X+(T+15+d.length)+1) (.seq W (rX x y i g ok B ex kv body)) fr (H.set m (.map d c)) λj fr1 H1=>j=.none/\fr1.bI=fr.bI/\(∀t,t∉cQ->fr1.aa.get .alR t=fr.aa.get .alR t)/\∃l,(∀k,k∈l↔k∈ks)/\J d c l H1:=by
  refine Xc.ju (n:=X) (m:=T+15+d.length) af af ((O d c).mono (afb _) ?_);rintro j fr1 H1⟨rfl,g1,g2,g3,g4,rfl⟩;have Q:fr1=⟨fr1.aa,fr.bI,fr.bG⟩:=by cases fr1;simp only at g1 g2;subst g1;subst g2;rfl
  rw[Q];refine MK ag d1 d2 d3 d5 hb ax (id:=H.next) (m:=m) (I:=λseen aa H1=>(∀t,t∉cQ->aa.get .alR t=fr.aa.get .alR t)/\aa.get .alR i=.az H.next 0/\H1.get H.next=.mapIter (some m) c seen c/\∃l,(∀k,k∈l->k∈ks)/\(∀e∈d,e.born∈seen->∃k∈l,e.key=.int 3 k)/\J d c l H1) ?_ T ?_ ?_ d.length [] fr1.aa _ ?_ ?_;·rintro seen aa H1⟨V,u,I,l,C,D,v⟩;exact⟨u,I,Jm _ _ _ _ v⟩
  .rintro seen aa H1 e⟨V,u,I,l,C,D,v⟩he a3;obtain⟨Y,M,q⟩:=ay e he;refine(A d c l _ _ Y M (av _ _ _ _ _ v) ?_ ?_).mono (afb _) ?_;·intro t f;have Z:t≠g:=λe=>f (e▸s1);have n2:t≠ok:=λe=>f (e▸s2);have n3:t≠B:=λe=>f (e▸s3);have n4:t≠ex:=λe=>f (e▸s4);have n5:t≠kv:=λe=>f (e▸s5);simp only[ap.aF,aq Z,aq n2,aq n3,aq n4,aq n5];exact V t f
   .rw[ap.aF,aK rfl];exact q
   rintro j a4 s⟨r1,r2,r3,r4,r5,r6,r7⟩;refine⟨r1,r2,r3,r4,?_,?_,l++[Y],?_,?_,r7⟩;·rw[r5];simp only[ap.aF,aq d1,aq d2,aq d4,aq d6,aq d7];exact u
   .rw[r6,ai.aF,aK rfl]
   .intro E z;rcases ahp.1 z with n|n;·exact C E n
    rw[aep]at n;rw[n];exact M
   intro e' N a2;rcases ahp.1 a2 with n|n;·obtain⟨E,a1,F⟩:=D e' N n;exact⟨E,akf _ a1,F⟩
   rw[aep]at n;have:e'=e:=by exact Hv hb N he n
   subst this;exact⟨Y,akq _ (aep.2 rfl),q⟩
  .rintro seen aa H1⟨V,u,I,l,C,D,v⟩eZ;refine⟨rfl,rfl,?_,l,λE=>⟨C E,λz=>?_⟩,v⟩;·intro t f;have Z:t≠g:=λe=>f (e▸s1);have n2:t≠ok:=λe=>f (e▸s2);simp only[ap.aF,aq Z,aq n2];exact V t f
   obtain⟨e,he,q⟩:=a0 E z;obtain⟨k2,a1,F⟩:=D e he (eZ e he);rw[q]at F;injection F with _ F;rw[F];exact a1
  .exact⟨g3,g4,by rw[ai.dJ,ai.gD,aK rfl],[],aB,aB,J0 d c hp⟩
  exact List.length_filter_le ..
 obtain⟨j,fr1,H1,h,a',r,t,⟨rfl,e1,e2,l,e3,e4⟩,u,I,C,D,v,q7⟩:=U6 ht h1 h2 run hF aw k cs;obtain⟨p,x2,I2⟩:=aA d c l H1 h r e3 e4 u C gN;exact⟨.none,_,_,p,a',r,t,⟨rfl,rfl,rfl⟩,x2,(iM.off hF u I e2 e1).mono x2,I2,D,v,q7⟩
end
section
section
variable[Ov]
variable{P:Program}
theorem MY{ac:Nat->aG}(ht:kr P ac){Wr:cU}{R:aP}{H:ai}{w:World}{M:Nat}{fr:Fr}{b:Frame}{a:Act}{c1 c2:Code}{xh body:bt}{G I:Nat}{i r ok O ex kv:ab}(h1:eX P M c1=some xh)(h2:eX P M c2=some (rX G I i r ok O ex kv body))(V:G≠I)(d1:i≠r)(d2:i≠ok)(d3:r≠ok)(d4:i≠O)(d5:O≠ex)(d6:i≠ex)(d7:i≠kv){cQ:List ab}(s1:r∈cQ)(s2:ok∈cQ)(s3:O∈cQ)(s4:ex∈cQ)(s5:kv∈cQ)(hF:iM R M fr b.roundOf a)(Q:bz P Wr R H w){m N:ab}{ks t0 s:List Int}(hk:jT H m=some ks)(hN:jS H N=some t0)(y:m≠N)(nh fb:Nat)(L:∀f c,Xc ac nh xh fr (H.set m (.map f c)) λj fr1 H1=>j=.none/\fr1.bI=fr.bI/\fr1.bG=fr.bG/\(∀t,t∉cQ->fr1.aa.get .alR t=fr.aa.get .alR t)/\fr1.aa.get .alR i=.az H.next 0/\H1=(H.set m (.map f c)).new (.mapIter (some m) c [] c))(one:Int->Int->Prop)(A:∀aa H1 k d,k∈ks->(∀j,j≠N->j≠m->j≠H.next->H1.get j=H.get j)->ib (H1.get N) d->(∀t,t∉cQ->aa.get .alR t=fr.aa.get .alR t)->aa.get .alR kv=.int 3 k->Xc ac fb body ⟨aa,fr.bI,fr.bG⟩ H1 λj fr1 H2=>j=.none/\fr1.bI=fr.bI/\fr1.bG=fr.bG/\(∀t,t∉cQ->fr1.aa.get .alR t=fr.aa.get .alR t)/\fr1.aa.get .alR i=aa.get .alR i/\H2.next=H1.next/\(∀j,j≠N->H2.get j=H1.get j)/\∃g,ib (H2.get N) g/\∀x,x∈g↔x∈d\/one k x)(hx:s.Nodup)(W:∀x,x∈s↔x∈t0\/∃k∈ks,one k x)(k:List Item)(cs:List Frame):jh P Wr R M w b k cs (lone (b.atR a (.code (.seq c1 c2)::k)) cs w) λj fr1 H1=>j=.none/\fr1={fr with aa:=kL fr.aa cQ}/\H1=(H.set N (.dI (eG s))).skip:=by
 obtain⟨es,S,X,ax⟩:=xR hk;have J:=qM hN;have z:N≠H.next:=λe=>by have:=(Q.eo H.next (afb _)).1;obtain⟨_,q,n,_⟩:=J;rw[e,this]at n;simp[eS]at n
 have K:m≠H.next:=λe=>by have:=(Q.eo H.next (afb _)).1;rw[<-e]at this;rw[this]at S;simp[eS]at S
 refine Hw ht h1 h2 V d1 d2 d3 d4 d5 d6 d7 s1 s2 s3 s4 s5 hF Q S X nh fb L (J:=λf c l H1=>H1.next=H.next.succ/\(∀j,j≠N->j≠m->j≠H.next->H1.get j=H.get j)/\H1.get m=.map f c/\∃d,ib (H1.get N) d/\∀x,x∈d↔x∈t0\/∃k∈l,one k x) ?_ ?_ ?_ ?_ ?_ k cs
 .intro f c _;refine⟨rfl,λj D E B=>?_,?_,t0,?_,aB⟩;·rw[ai.dJ,ai.gD,aq B,ai.aF,aq E]
  .rw[ai.dJ,ai.gD,aq K,ai.aF,aK rfl]
  rw[ai.dJ,ai.gD,aq z,ai.aF,aq (alI y)];exact J
 .rintro f c l H1 o⟨n,u,v,d,C,F⟩;refine⟨n,λj D E B=>?_,?_,d,?_,F⟩;·rw[ai.aF,aq B];exact u j D E B
  .rw[ai.aF,aq K];exact v
  rw[ai.aF,aq z];exact C
 .rintro f c l H1⟨n,u,v,_⟩;exact v
 .rintro f c l aa H1 kk Y⟨n,u,v,d,C,F⟩he Z;refine(A aa H1 kk d Y u C he Z).mono (afb _) ?_;rintro j fr1 H2⟨r1,r2,r3,r4,r5,r6,T,g,r8,r9⟩;refine⟨r1,r2,r3,r4,r5,T _ (alI z),r6.trans n,λj D E B=>(T j D).trans (u j D E B),(T m y).trans v,g,r8,λx=>?_⟩;rw[r9,F];simp only[ahp,aep];constructor
  .rintro((h|⟨p,h1,h2⟩)|h);·exact .inl h
   .exact .inr ⟨p,.inl h1,h2⟩
   exact .inr ⟨kk,.inr rfl,h⟩
  rintro(h|⟨p,h1|h1,h2⟩);·exact .inl (.inl h)
  .exact .inl (.inr ⟨p,h1,h2⟩)
  exact .inr (h1▸h2)
 rintro f c l H1 ag w' hl⟨n,u,v,d,C,F⟩av aw gN;refine⟨ag,av,?_⟩;have i1:=gN aw v;have hp:d.Perm s:=(List.perm_ext_iff_of_nodup C.1 hx).2 λx=>by
  rw[F,W];constructor
  .rintro(h|⟨p,h1,h2⟩);·exact .inl h
   exact .inr ⟨p,(hl p).1 h1,h2⟩
  rintro(h|⟨p,h1,h2⟩);·exact .inl h
  exact .inr ⟨p,(hl p).2 h1,h2⟩
 have i2:=i1.xS (N:=N) (ks:=d) (ks2:=s) (by rw[ai.aF,aq (alI y)];exact C) hp;refine i2.sub (H2:=(H.set N (.dI (eG s))).skip) (by exact n.symm) λj=>?_;show(H.set N (.dI (eG s))).get j=_\/(H.set N (.dI (eG s))).get j=_;simp only[ai.aF];by_cases e1:j=N;·left;simp[e1]
 by_cases e2:j=m;·left;simp[e1,e2]
 by_cases e3:j=H.next;·right;simp only[aq e1];rw[e3];exact(Q.eo _ (afb _)).1
 left;simp only[aq e1,aq e2];exact(u j e1 e2 e3).symm
theorem lB{H:ai}{i m:ab}{o:Nat}{v:AV}(h:bh H i o=some v){es:List aT}(b:eS (H.get m)=some es):i≠m:=by obtain⟨c,n,e,a,aM,fz,h1,_⟩:=xU h;rintro rfl;simp_all[eS]
theorem xV{P:Program}{a:cU}{b:aP}{H:ai}{w:World}(d:bz P a b H w){i:ab}{o:Nat}{v:AV}(h:bh H i o=some v):i≠H.next:=by obtain⟨c,n,e,f,aM,fz,h1,_⟩:=xU h;rintro rfl;rw[(d.eo _ (afb _)).1]at h1;cases h1
theorem B4{H:ai}{N:ab}{t:List Int}(h:jS H N=some t):∃es,eS (H.get N)=some es:=by obtain⟨_,es,h,_⟩:=qM h;grind
theorem D1{H:ai}{N:ab}{t:List Int}(h:jT H N=some t):∃es,eS (H.get N)=some es:=by grind[xR]
theorem z8{H:ai}{i m:ab}{o:Nat}{x:cq}(h:i≠m):bh (H.set m x) i o=bh H i o:=pW (by rw[ai.aF,aq h]) o
theorem Hy{H:ai}{s:AV}:∀{ks b:List Int},uO H s ks=some b->∀x,x∈b↔∃k∈ks,l6 H s k=some (.int 3 x)
 |[],b,h,x=>by simp only[uO,adG]at h;subst h;simp
 |y::l,b,h,x=>by
  simp only[uO]at h;split at h
  .rename_i r d h1 h2;injection h with h;subst h;rw[aeV,Hy h2 x];constructor
   .rintro(rfl|⟨k,c,a⟩);·exact⟨y,aeU ..,h1⟩
    exact⟨k,aey _ c,a⟩
   rintro⟨k,c,a⟩;rcases aeV.1 c with e|e;·subst e;rw[h1]at a;injection a with a;injection a with _ a;exact .inl a.symm
   exact .inr ⟨k,e,a⟩
  cases h
theorem MZ{H:ai}{s:AV}:∀{ks a:List Int},uO H s ks=some a->∀k∈ks,∃x,l6 H s k=some (.int 3 x)
 |[],_,_,k,b=>by grind
 |y::l,a,h,k,b=>by
  simp only[uO]at h;split at h
  .rename_i r c h1 h2;rcases aeV.1 b with e|e;·grind
   exact MZ h2 k e
  grind
end
theorem bM{a b:Nat}:ab.dF a=ab.dF b↔a=b:=⟨ab.bM,λh=>h▸rfl⟩
theorem U8{P:Program}:xE P 1003 xM:=by
 intro Wr ρ H H' w nt fr c1 c2 x y V b a E i F hg W z k cs;injection F with X Y;subst X;subst Y;unfold xM at hg;split at hg;case h_2=>cases hg
 rename_i Z k5 v q N g1 g2 g3 g4;split at hg;case h_2=>cases hg
 rename_i m g5;split at hg;·cases hg
 rename_i l;have l:m≠N:=λe=>l (by rw[e];exact ab.ip.2 rfl);split at hg;case h_2=>cases hg
 rename_i ks t0 O A;split at hg;case h_2=>cases hg
 rename_i rs Q;injection hg with hg;injection hg with G I;subst G;subst I;obtain⟨i3,o3,e3,R⟩:=wd g1;obtain⟨B,o4,e4,c4⟩:=wd g3;obtain⟨is,os,ns,ag,av,js,e5,e6,e7,S⟩:=B3 g5;obtain⟨ms,f⟩:=D1 O;obtain⟨Ns,o⟩:=B4 A;have aw:fr=⟨fr.aa,fr.bI,fr.bG⟩:=rfl;refine(MY MS E i (cQ:=zX) bA bA bA bA bA bA bA bA bA bA bA bA bA W z O A l 20 20 ?_ (λk x=>l6 H q k=some (.int 3 x)) ?_ (qK rs (qM A).1) ?_ k cs).mono ?_
 .intro d c;refine Xo.op (n:=18) (v:=Z) (H':=H.set m (.map d c)) (jC e3 (by rw[z8 (lB R f)];exact R)) ?_;refine Xo.op (n:=17) (v:=.int k5 v) (H':=H.set m (.map d c)) (by simp[aE,gv,aQ,ap.aF,bM,g2]) ?_;refine Xo.op (n:=16) (v:=.az is (os+js)) (H':=H.set m (.map d c)) (we (by simp[gv,aQ,ap.aF,bM];exact e5) (by simp[gv,aQ,ap.aF,bM];exact⟨rfl,e6⟩) e7) ?_;refine Xo.op (n:=15) (v:=.map m) (H':=H.set m (.map d c)) (jC (by simp[gv,aQ,ap.aF,bM];exact⟨rfl,rfl⟩) (by rw[z8 (lB S f)];exact S)) ?_;refine Xo.op (n:=14) (v:=.az H.next 0) (H':=(H.set m (.map d c)).new (.mapIter (some m) c [] c)) (by simp[aE,gv,aQ,ap.aF,bM,ai.aF];rfl) (Xo.nil (n:=13) ?_);refine⟨rfl,rfl,rfl,?_,?_,rfl⟩;·intro t n;simp only[zX,aeV,aki,or_false,not_or]at n;simp[aQ,ap.aF,n]
  simp[aQ,ap.aF,bM]
 .intro aa H1 C J K g p he L;obtain⟨r,T⟩:=MZ Q C K;obtain⟨s,o2,n2,ax,ay,D,b1,b2,b3,u⟩:=B3 T;have M:bh H1 B o4=some q:=by rw[pW (g B (lB c4 o) (lB c4 f) (xV z c4))];exact c4
  have i:bh H1 s (o2+D)=some (.int 3 r):=by rw[pW (g s (lB u o) (lB u f) (xV z u))];exact u
  have h6:aa.get .alR (sl 6)=.map N:=by rw[he _ bA];exact g4
  have h4:aa.get .alR (sl 4)=.az B o4:=by rw[he _ bA];exact e4
  obtain⟨H2,u1,u2,u3,u4⟩:=MW (H:=H1) (N:=N) (x:=r) (ks:=J) (aa:=((((aa.set .alR (sl 42) (.map N)).set .alR (sl 43) q).set .alR (sl 44) (.int 3 C)).set .alR (sl 45) (.az s (o2+D))).set .alR (sl 46) (.int 3 r)) (om:=tt 42) (ok_:=tt 46) (by simp[gv,ap.aF,bM]) (by simp[gv,ap.aF,bM]) p;refine Xo.op (n:=18) (v:=.map N) (H':=H1) (by simp[aE,gv,h6]) ?_;refine Xo.op (n:=17) (v:=q) (H':=H1) (jC (by simp[gv,aQ,ap.aF,bM];exact h4) M) ?_;refine Xo.op (n:=16) (v:=.int 3 C) (H':=H1) (by simp[aE,gv,aQ,ap.aF,bM];exact L) ?_;refine Xo.op (n:=15) (v:=.az s (o2+D)) (H':=H1) (we (by simp[gv,aQ,ap.aF,bM];exact b1) (by simp[gv,aQ,ap.aF,bM];exact⟨rfl,b2⟩) b3) ?_;refine Xo.op (n:=14) (v:=.int 3 r) (H':=H1) (jC (by simp[gv,aQ,ap.aF,bM]) i) ?_;refine Xo.op (n:=13) (v:=.alR) (H':=H2) u1 (Xo.nil (n:=12) ?_);refine⟨rfl,rfl,rfl,?_,?_,u2,u3,_,u4,?_⟩;·intro t n;rw[<-he t n];simp only[zX,aeV,aki,or_false,not_or]at n;simp[aQ,ap.aF,n]
  .simp[aQ,ap.aF,bM]
  intro x;rw[BV,T];constructor
  .rintro(h|h);·exact .inr (h▸rfl)
   exact .inl h
  rintro(h|h);·exact .inr h
  injection h with h;injection h with _ h;exact .inl h.symm
 .intro x;rw[oQ,Hy Q,or_comm]
 rintro j fr1 H1⟨rfl,rfl,rfl⟩;exact⟨rfl,rfl,rfl⟩
end
theorem uS(v y:Int):∀l:List Int,y∈iF v l↔y∈l/\y≠v
 |[]=>by simp[iF]
 |x::l=>by
  simp only[iF];split
  .rename_i h;rw[fQ]at h;have h:x=v:=by simpa using h
   rw[uS v y l,aeV];constructor;·rintro⟨h1,h2⟩;exact⟨.inr h1,h2⟩
   rintro⟨h1|h1,h2⟩;·exact absurd (h1.trans h) h2
   exact⟨h1,h2⟩
  rename_i h;rw[fQ]at h;have h:x≠v:=by simpa using h
  rw[aeV,uS v y l,aeV];constructor
  .rintro(h1|⟨h1,h2⟩);·exact⟨.inl h1,h1▸h⟩
   exact⟨.inr h1,h2⟩
  rintro⟨h1|h1,h2⟩;·exact .inl h1
  exact .inr ⟨h1,h2⟩
theorem D3{v:Int}:∀{l:List Int},l.Nodup->(iF v l).Nodup
 |[],_=>by trivial
 |x::l,h=>by
  rw[akz]at h;simp only[iF];split;·exact D3 h.2
  rw[akz,uS];exact⟨λq=>h.1 q.1,D3 h.2⟩
theorem M0{P:Program}:xE P 1001 uQ:=by
 intro Wr ρ H H' w nt fr c1 c2 x y R b a F G I hg S A k cs;injection I with T V;subst T;subst V;unfold uQ at hg;split at hg;case h_2=>cases hg
 rename_i m v B W X Y;split at hg;case h_2=>cases hg
 rename_i N Z;split at hg;·cases hg
 rename_i n;have n:m≠N:=λe=>n (by rw[e];exact ab.ip.2 rfl);split at hg;case h_2=>cases hg
 rename_i ks t0 O C;injection hg with hg;injection hg with J K;subst J;subst K;obtain⟨D,o3,e3,u⟩:=wd Y;obtain⟨is,os,ns,ag,av,E,e5,e6,e7,z⟩:=B3 Z;obtain⟨ms,o⟩:=D1 O;obtain⟨Ns,p⟩:=B4 C;have aw:fr=⟨fr.aa,fr.bI,fr.bG⟩:=rfl;refine(MY MS F G (cQ:=uP) bA bA bA bA bA bA bA bA bA bA bA bA bA S A O C n 20 30 ?_ (λk x=>x=k/\k≠v) ?_ (qK (iF v ks) (qM C).1) ?_ k cs).mono ?_
 .intro q c;refine Xo.op (n:=18) (v:=.map m) (H':=H.set m (.map q c)) (by simp[aE,gv,W]) ?_;refine Xo.op (n:=17) (v:=.az H.next 0) (H':=(H.set m (.map q c)).new (.mapIter (some m) c [] c)) (by simp[aE,gv,aQ,ap.aF,bM,ai.aF];rfl) (Xo.nil (n:=16) ?_);refine⟨rfl,rfl,rfl,?_,?_,rfl⟩;·intro t f;simp only[uP,aeV,aki,or_false,not_or]at f;simp[aQ,ap.aF,f]
  simp[aQ,ap.aF,bM]
 .intro aa H1 g r ax i l he s;have L:bh H1 D o3=some B:=by rw[pW (i D (lB u p) (lB u o) (xV A u))];exact u
  have M:bh H1 is (os+E)=some (.map N):=by rw[pW (i is (lB z p) (lB z o) (xV A z))];exact z
  have Q:aa.get .alR (sl 5)=.int 3 v:=by rw[he _ bA];exact X
  have h3:aa.get .alR (sl 3)=.az D o3:=by rw[he _ bA];exact e3
  refine Xc.ju (n:=28) (m:=28) (k:=29) af af (Xc.region (n:=27) ?_);refine Xo.op (n:=26) (v:=.int 3 g) (H':=H1) (by simp[aE,gv];exact s) ?_;refine Xo.op (n:=25) (v:=.int 3 v) (H':=H1) (by simp[aE,gv,aQ,ap.aF,bM];exact Q) ?_;by_cases d:g=v
  .have hb:iQ g v=true:=by rw[fQ];simpa using d
   refine Xc.nI (n:=27) (by simp[gv,aQ,ap.aF,bM,hb]) (Xc.skip (n:=26) ?_);refine⟨rfl,rfl,rfl,?_,?_,rfl,λ_ _=>rfl,r,l,λx=>⟨.inl,λh=>h.elim id λh=>absurd d h.2⟩⟩;·intro t f;rw[<-he t f];simp only[uP,aeV,aki,or_false,not_or]at f;simp[aQ,ap.aF,f]
   simp[aQ,ap.aF,bM]
  have hb:iQ g v=false:=by rw[fQ];simpa using d
  obtain⟨H2,u1,u2,u3,u4⟩:=MW (H:=H1) (N:=N) (x:=g) (ks:=r) (aa:=((((((((aa.set .alR (sl 37) (.int 3 g)).set .alR (sl 38) (.int 3 v)).set .alR (sl 39) (.bool (!iQ g v))).set .alR (sl 40) B).set .alR (sl 41) (.int 3 v)).set .alR (sl 42) (.az is (os+E))).set .alR (sl 43) (.map N)).set .alR (sl 44) (.int 3 g))) (om:=tt 43) (ok_:=tt 44) (by simp[gv,ap.aF,bM]) (by simp[gv,ap.aF,bM]) l;refine Xc.pp (n:=27) (by simp[gv,aQ,ap.aF,bM,hb]) (Xc.region (n:=26) ?_);refine Xo.op (n:=25) (v:=B) (H':=H1) (jC (by simp[gv,aQ,ap.aF,bM];exact h3) L) ?_;refine Xo.op (n:=24) (v:=.int 3 v) (H':=H1) (by simp[aE,gv,aQ,ap.aF,bM];exact Q) ?_;refine Xo.op (n:=23) (v:=.az is (os+E)) (H':=H1) (we (by simp[gv,aQ,ap.aF,bM];exact e5) (by simp[gv,aQ,ap.aF,bM];exact⟨rfl,e6⟩) e7) ?_;refine Xo.op (n:=22) (v:=.map N) (H':=H1) (jC (by simp[gv,aQ,ap.aF,bM]) M) ?_;refine Xo.op (n:=21) (v:=.int 3 g) (H':=H1) (by simp[aE,gv,aQ,ap.aF,bM];exact s) ?_;refine Xo.op (n:=20) (v:=.alR) (H':=H2) u1 (Xo.nil (n:=19) ?_);refine⟨rfl,rfl,rfl,?_,?_,u2,u3,_,u4,λx=>?_⟩;·intro t f;rw[<-he t f];simp only[uP,aeV,aki,or_false,not_or]at f;simp[aQ,ap.aF,f]
  .simp[aQ,ap.aF,bM]
  rw[BV];constructor
  .rintro(h|h);·exact .inr ⟨h,d⟩
   exact .inl h
  rintro(h|h);·exact .inr h
  exact .inl h.1
 .intro x;rw[oQ,uS];constructor
  .rintro(⟨h,h'⟩|h);·exact .inr ⟨x,h,rfl,h'⟩
   exact .inl h
  rintro(h|⟨k,h1,h2,h3⟩);·exact .inr h
  exact .inl ⟨h2▸h1,h2▸h3⟩
 rintro j fr1 H1⟨rfl,rfl,rfl⟩;exact⟨rfl,rfl,rfl⟩
section
def B5(a:Nat):bt:=.seq (.region [bQ 11 (.aW (tt 2)),bQ 12 (.bg (tt 0)),bQ 13 (.lookup .int (.int 3 (.ofNat 0)) true (tt 11) (tt 12)),bQ 10 (.bg (tt 13)),bQ 14 (.extract (tt 10) 0),bQ 15 (.extract (tt 10) 1),bQ 8 (.bg (tt 14)),bQ 9 (.bg (tt 15))])
  (.seq (.region [bQ 16 (.bg (tt 9)),bQ 17 (.unary .not (tt 16)),bQ 18 (.bg (tt 17)),⟨some (sl 19),.bg (tt 8),some (sl 18,false),[],[]⟩,⟨some (sl 20),.bg (tt 1),some (sl 18,false),[],[]⟩,⟨some (sl 21),.arith .geq 3 (tt 19) (tt 20),some (sl 18,false),[],[]⟩,bQ 22 (.pick (tt 18) (.c (.bool true)) (tt 21))])
  (.cond (tt 22) (.region [bQ 23 (.aW (tt 3)),bQ 24 (.aW (tt 4)),bQ 25 (.dG 1 (tt 23) (tt 24)),bQ 26 (.aW (tt 25)),bQ 27 (.bg (tt 0)),bQ 28 (.call (.c (.func a [] [])) [tt 26,tt 27]),bQ 29 (.bg (tt 28)),⟨some (sl 30),.aW (tt 5),some (sl 29,false),[],[]⟩,bQ 31 (.pick (tt 29) (.c (.bool true)) (tt 30)),rN (.store 1 (tt 5) (tt 31))]) .skip))
def Aa:bt:=.seq (.region [bQ 4 (.bg (.c (.bool false)))]) (.seq (.region [bQ 6 (.bg (tt 0)),bQ 7 (.bg (tt 1)),bQ 8 (.lookup .int (.bool false) false (tt 6) (tt 7)),bQ 9 (.unary .not (tt 8)),bQ 5 (.bg (tt 9))])
  (.seq (.region [bQ 10 (.bg (tt 0)),bQ 11 (.bg (tt 1)),rN (.jy .int (tt 10) (tt 11) (.c (.bool true)))]) (.seq (.region [bQ 12 (.bg (tt 5)),bQ 4 (.bg (tt 12))]) .ret)))
def pX(eD a:Nat):Nat->aG:=λf=>if akb f eD then .code 32 [] (B5 a)else if akb f a then .code 13 [.tmp (sl 4)] Aa else .none
section
variable[Ov]
variable{ac:Nat->aG}
theorem Xo.D4{n:Nat}{d:Option ab}{op:bW}{g:Option (ab×Bool)}{l:List be}{aa:ap AV}{bI:List ab}{bG:Option ab}{H H':ai}{v:AV}{K:Fr->ai->Prop}(hg:fF aa g=true)(he:aE op aa H=some (v,H'))(h:Xo ac n l ⟨aQ aa d v,bI,bG⟩ H' K):Xo ac (n+1) (⟨d,op,g,[],[]⟩::l) ⟨aa,bI,bG⟩ H K:=by simp only[Xo,Go.am.aC,hg,eV,eB,fG,bq];grind[aE]
theorem Xo.D5{n:Nat}{d:Option ab}{op:bW}{g:Option (ab×Bool)}{l:List be}{aa:ap AV}{bI:List ab}{bG:Option ab}{H:ai}{K:Fr->ai->Prop}(hg:fF aa g=false)(hd:lX aa g=true)(h:Xo ac n l ⟨aQ aa d .alR,bI,bG⟩ H K):Xo ac (n+1) (⟨d,op,g,[],[]⟩::l) ⟨aa,bI,bG⟩ H K:=by simp[hg,hd,h,Xo,Go.am.aC,aes,bP,bq]
theorem Xf.code{n c:Nat}{f:Nat}{first args a:List AV}{d:List iW}{body:bt}{H:ai}{K:KT}(e:ac f=.code c d body)(hl:(first++args++a).length<=c)(h:Xc ac n body ⟨kJ (first++args++a) .xH .aL,[],none⟩ H λj fr b=>(match j with|.exit _=>False|_=>True)/\fr.bI=[]/\∃l,gZ fr.aa b d=some l/\K (iL l) b):Xf ac (n+1) (.func f first a) args H K:=by simp only[Xf,io,e];rw[aK (akB hl)];refine Xc.mono (afb _) ?_ h;rintro j fr b⟨h1,h2,l,h3,g⟩;grind[jN]
def jv(pl:List (Int×Int))(v:Int):Int×Bool:=
 match pl with
 |[]=>(0,false)
 |(k,g)::pl=>if iQ v k then(g,true)else jv pl v
theorem M5(bH v:Int):∀pl,fR.rY pl bH v=(!(jv pl v).2||!lV (jv pl v).1 bH)
 |[]=>by rfl
 |(k,g)::pl=>by
  simp only[fR.rY,jv];split;·rfl
  exact M5 bH v pl
theorem U9{pl:List (Int×Int)}{v:Int}(h:v∉pl.map (·.1)):jv pl v=(0,false):=by
 induction pl with
 |nil=>rfl
 |cons a pl b=>
  obtain⟨k,g⟩:=a;simp only[aj7,aeV,not_or]at h;have:iQ v k=false:=by rw[fQ];simpa using h.1
  simp[this,b,h,jv,aes,bP]
theorem M6:∀{es:List aT}{pl:List (Int×Int)}{ks:List Int},lA.go es=some pl->jR es=some ks->ks=pl.map (·.1)
 |[],pl,ks,h,b=>by simp only[lA.go,jR,adG]at h b;subst h;subst b;rfl
 |a::es,pl,ks,h,b=>by
  simp only[lA.go]at h;split at h
  .rename_i k v l h1 h2 h3;injection h with h;subst h;simp only[jR,h1]at b;split at b;·rename_i e f c d;injection b with b;subst b;injection c with _ c;rw[aj7,<-M6 h3 d,c]
   cases b
  cases h
theorem M7{v:Int}:∀{es:List aT}{pl:List (Int×Int)},lA.go es=some pl->∀i0,((jv pl v).2=false->findKey .int (.int 3 v) es i0=some none)/\((jv pl v).2=true->∃i,findKey .int (.int 3 v) es i0=some (some (i,.int 3 (jv pl v).1)))
 |[],pl,h,i0=>by simp_all[lA.go,adG,jv,findKey]
 |a::es,pl,h,i0=>by
  simp only[lA.go]at h;split at h
  .rename_i k g l h1 h2 h3;injection h with h;subst h;have b:eA 64 .int (.int 3 v) (.int 3 k)=some (iQ v k):=by simp[eA]
   cases hb:iQ v k with|true=>simp[hb,h1,b,h2,jv,bq,findKey]|false=>simp only[jv,hb,aes,bP,findKey,h1,b];exact M7 h3 (i0+1)
  grind
theorem M8{v:Int}:∀{es:List aT}{pl:List (Int×Int)},lA.go es=some pl->(pl.map (·.1)).Nodup->((jv pl v).2=false->gJ.go .int (.int 3 v) es=some none)/\((jv pl v).2=true->gJ.go .int (.int 3 v) es=some (some (.int 3 (jv pl v).1)))
 |[],pl,h,_=>by simp_all[lA.go,adG,jv,gJ.go]
 |a::es,pl,h,b=>by
  simp only[lA.go]at h;split at h
  .rename_i k g l h1 h2 h3;injection h with h;subst h;simp only[aj7,akz]at b;have c:eA 64 .int (.int 3 v) (.int 3 k)=some (iQ v k):=by simp[eA]
   obtain⟨d,e⟩:=M8 (v:=v) h3 b.2;cases hb:iQ v k with|true=>simp_all[fQ,U9,jv,bq,gJ.go]|false=>simp_all[jv,aes,bP,gJ.go]
  grind
theorem U'{aa:ap AV}{n b:aJ}{H:ai}{e:ab}{v:Int}{pl:List (Int×Int)}{l:List Int}(o:gv aa n=.map e)(p:gv aa b=.int 3 v)(h1:lA H e=some pl)(h2:jT H e=some l):aE (.lookup .int (.int 3 (.ofNat 0)) true n b) aa H=some (.tuple [.int 3 (jv pl v).1,.bool (jv pl v).2],H):=by
 obtain⟨es,e1,e2,r⟩:=xR h2;unfold lA at h1;rw[e1]at h1;have d:(pl.map (·.1)).Nodup:=by rw[<-M6 h1 e2];exact r
 obtain⟨q,f⟩:=M7 (v:=v) h1 0;obtain⟨s,t⟩:=M8 (v:=v) h1 d;have u:(jv pl v).2=false->(jv pl v).1=0:=by
  clear q f s t h1 d;induction pl with
  |nil=>intro _;rfl
  |cons a pl w=>
   obtain⟨k,g⟩:=a;simp only[jv];split;·intro h;cases h
   exact w
 cases j:H.get e with
 |map m c=>rw[j]at e1;simp only[eS,adG]at e1;subst e1;cases hb:(jv pl v).2 with|true=>obtain⟨i,f⟩:=f hb;simp[o,p,j,f,aE,jA,aku,aes,bP,bq]|false=>simp[u,hb,o,p,j,q,aE,jA,aku,aes,bP,bq]
 |dI m=>rw[j]at e1;simp only[eS,adG]at e1;subst e1;cases hb:(jv pl v).2 with|true=>simp_all[aE,jA,aku,aes,bP,gJ,ur,bq]|false=>simp_all[aE,jA,aku,aes,bP,gJ,ur,bq]
 |_=>simp_all[eS]
end
end
section
variable[Ov]
variable{ac:Nat->aG}
theorem Va{a:Nat}(f:ac a=.code 13 [.tmp (sl 4)] Aa){H:ai}{N:ab}{v:Int}{ks:List Int}(hs:ib (H.get N) ks){K:KT}(g:∀b:ai,b.next=H.next->(∀j,j≠N->b.get j=H.get j)->ib (b.get N) (pV v ks)->(∀es c,H.get N=.map es c->v∈ks->b.get N=H.get N)->K (.bool (!iA v ks)) b):Xf ac 30 (.func a [] []) [.map N,.int 3 v] H K:=by
 refine Xf.code (n:=29) f aB ?_;show Xc ac 29 Aa ⟨(ap.aL.set .alR (sl 0) (.map N)).set .alR (sl 1) (.int 3 v),[],none⟩ H _;generalize d:(ap.aL.set AV.alR (sl 0) (.map N)).set .alR (sl 1) (.int 3 v)=aa;have h0:aa.get .alR (sl 0)=.map N:=by rw[<-d];simp[ap.aF,bM]
 have h1:aa.get .alR (sl 1)=.int 3 v:=by rw[<-d];simp[ap.aF,bM]
 refine Xc.ju (n:=28) (m:=28) (k:=28) aB aB (Xc.region (n:=27) ?_);refine Xo.op (n:=26) (v:=.bool false) (H':=H) (by rfl) (Xo.nil (n:=25) ?_);refine Xc.ju (n:=27) (m:=27) (k:=27) aB aB (Xc.region (n:=26) ?_);refine Xo.op (n:=25) (v:=.map N) (H':=H) (by simp[h0,aE,gv,aQ,ap.aF,bM]) ?_;refine Xo.op (n:=24) (v:=.int 3 v) (H':=H) (by simp[h1,aE,gv,aQ,ap.aF,bM]) ?_;refine Xo.op (n:=23) (v:=.bool (iA v ks)) (H':=H) (MX (N:=N) (x:=v) (by rfl) (by rfl) hs) ?_;refine Xo.op (n:=22) (v:=.bool (!iA v ks)) (H':=H) (by rfl) ?_;refine Xo.op (n:=21) (v:=.bool (!iA v ks)) (H':=H) (by rfl) (Xo.nil (n:=20) ?_);refine Xc.ju (n:=26) (m:=26) (k:=26) aB aB (Xc.region (n:=25) ?_);obtain⟨b,i,k,l,m,n⟩:=Hu (H:=H) (N:=N) (x:=v) (ks:=ks) (aa:=aQ (aQ (aQ (aQ (aQ (aQ (aQ (aQ aa (some (sl 4)) (.bool false)) (some (sl 6)) (.map N)) (some (sl 7)) (.int 3 v)) (some (sl 8)) (.bool (iA v ks))) (some (sl 9)) (.bool (!iA v ks))) (some (sl 5)) (.bool (!iA v ks))) (some (sl 10)) (.map N)) (some (sl 11)) (.int 3 v)) (om:=tt 10) (ok_:=tt 11) (by rfl) (by rfl) hs;refine Xo.op (n:=24) (v:=.map N) (H':=H) (by simp[h0,aE,gv,aQ,ap.aF,bM]) ?_;refine Xo.op (n:=23) (v:=.int 3 v) (H':=H) (by simp[h1,aE,gv,aQ,ap.aF,bM]) ?_;refine Xo.op (n:=22) (v:=.alR) (H':=b) i (Xo.nil (n:=21) ?_);refine Xc.ju (n:=25) (m:=25) (k:=25) aB aB (Xc.region (n:=24) ?_);refine Xo.op (n:=23) (v:=.bool (!iA v ks)) (H':=b) (by rfl) ?_;refine Xo.op (n:=22) (v:=.bool (!iA v ks)) (H':=b) (by rfl) (Xo.nil (n:=21) ?_);refine Xc.ret (n:=24) ⟨trivial,rfl,[.bool (!iA v ks)],?_,g b k l m λes c e h=>(n es c e).elim λ_ h1=>h1.elim λ_ h2=>h2.2 h⟩;rfl
theorem Vb{H:ai}{a:ab}{no n fz:Nat}{c:ap AV}{e:Nat}(h:H.get a=.cells c n e true [] fz)(h1:fz<=no)(h2:no<n)(b:Bool):iX H a no [.bool b]=some (H.set a (.cells (fX c no [.bool b]) n e true [] fz)):=by
 unfold iX;rw[h];have e1:decide (fz<=no)=true:=by simpa using h1
 have e2:decide (no+([.bool b]:List AV).length<=n)=true:=by simp;omega
 simp only[e1,e2,Bool.true_and];rfl
theorem M9{eD g:Nat}(S:ac eD=.code 32 [] (B5 g))(T:ac g=.code 13 [.tmp (sl 4)] Aa){H:ai}{c1 c2 Q s2:AV}{pm k N:ab}{no n fz kb e:Nat}{pl:List (Int×Int)}{pks ks:List Int}{v bH b:Int}{c:ap AV}{q:Bool}(E:pq H c1=some (.map pm))(F:pq H c2=some s2)(G:pq H Q=some (.int kb b))(V:lA H pm=some pl)(W:jT H pm=some pks)(X:l6 H s2 b=some (.map N))(D:H.get k=.cells c n e true [] fz)(Y:fz<=no)(R:no<n)(B:c.bw .alR no=.bool q)(hs:ib (H.get N) ks){K:KT}(w:∀(r:AV)(m:ai)C c2,m.next=H.next->(∀j,j≠N->j≠k->m.get j=H.get j)->ib (m.get N) C->(∀x,x∈C↔x∈ks\/(x=v/\fR.rY pl bH v=true))->m.get k=.cells c2 n e true [] fz->(∀i,i≠no->c2.bw .alR i=c.bw .alR i)->c2.bw .alR no=.bool (q||(fR.rY pl bH v&&!iA v ks))->(∀es c,H.get N=.map es c->v∈ks->m.get N=H.get N)->K r m):Xf ac 80 (.func eD [] [c1,c2,Q,.az k no]) [.int 3 v,.int 3 bH] H K:=by
 obtain⟨I,o1,rfl,E⟩:=wd E;obtain⟨z,o2,rfl,F⟩:=wd F;obtain⟨A,o3,rfl,G⟩:=wd G;obtain⟨is,os,ns,ag,av,Z,e5,e6,e7,c5⟩:=B3 X;have s:N≠k:=by rintro rfl;obtain⟨_,_,h,_⟩:=hs;rw[D]at h;simp[eS]at h
 have gq:bh H k no=some (.bool q):=by unfold bh;rw[D];simp only[alN akY R,bq,B]
 refine Xf.code (n:=79) S aB ?_;show Xc ac 79 (B5 g) ⟨(((((ap.aL.set .alR (sl 0) (.int 3 v)).set .alR (sl 1) (.int 3 bH)).set .alR (sl 2) (.az I o1)).set .alR (sl 3) (.az z o2)).set .alR (sl 4) (.az A o3)).set .alR (sl 5) (.az k no),[],none⟩ H _;generalize o:(((((ap.aL.set AV.alR (sl 0) (.int 3 v)).set .alR (sl 1) (.int 3 bH)).set .alR (sl 2) (.az I o1)).set .alR (sl 3) (.az z o2)).set .alR (sl 4) (.az A o3)).set .alR (sl 5) (.az k no)=aa;have h0:aa.get .alR (sl 0)=.int 3 v:=by rw[<-o];simp[ap.aF,bM]
 have h1:aa.get .alR (sl 1)=.int 3 bH:=by rw[<-o];simp[ap.aF,bM]
 have h2:aa.get .alR (sl 2)=.az I o1:=by rw[<-o];simp[ap.aF,bM]
 have h3:aa.get .alR (sl 3)=.az z o2:=by rw[<-o];simp[ap.aF,bM]
 have h4:aa.get .alR (sl 4)=.az A o3:=by rw[<-o];simp[ap.aF,bM]
 have h5:aa.get .alR (sl 5)=.az k no:=by rw[<-o];simp[ap.aF,bM]
 rw[M5]at w;generalize hg:(jv pl v).1=p at w;generalize hi:(jv pl v).2=ii at w;have t:=λ(aa:ap AV)(om M:aJ)(hm:gv aa om=.map pm)(hk:gv aa M=.int 3 v)=>U' (H:=H) hm hk V W;rw[hg,hi]at t;refine Xc.ju (n:=70) (m:=70) (k:=78) aB aB (Xc.region (n:=69) ?_);refine Xo.op (n:=68) (v:=.map pm) (H':=H) (jC (by trivial) E) ?_;refine Xo.op (n:=67) (v:=.int 3 v) (H':=H) (by simp[h0,aE,gv,aQ,ap.aF,bM]) ?_;refine Xo.op (n:=66) (v:=.tuple [.int 3 p,.bool ii]) (H':=H) (t _ _ _ (by rfl) (by rfl)) ?_;refine Xo.op (n:=65) (v:=.tuple [.int 3 p,.bool ii]) (H':=H) (by rfl) ?_;refine Xo.op (n:=64) (v:=.int 3 p) (H':=H) (by rfl) ?_;refine Xo.op (n:=63) (v:=.bool ii) (H':=H) (by rfl) ?_;refine Xo.op (n:=62) (v:=.int 3 p) (H':=H) (by rfl) ?_;refine Xo.op (n:=61) (v:=.bool ii) (H':=H) (by rfl) (Xo.nil (n:=60) ?_);generalize o:aQ (aQ (aQ (aQ (aQ (aQ (aQ (aQ aa (some (sl 11)) (.map pm)) (some (sl 12)) (.int 3 v)) (some (sl 13)) (.tuple [.int 3 p,.bool ii])) (some (sl 10)) (.tuple [.int 3 p,.bool ii])) (some (sl 14)) (.int 3 p)) (some (sl 15)) (.bool ii)) (some (sl 8)) (.int 3 p)) (some (sl 9)) (.bool ii)=a;have k0:a.get .alR (sl 0)=.int 3 v:=by rw[<-o];simp[aQ,ap.aF,bM];exact h0
 have k1:a.get .alR (sl 1)=.int 3 bH:=by rw[<-o];simp[aQ,ap.aF,bM];exact h1
 have k3:a.get .alR (sl 3)=.az z o2:=by rw[<-o];simp[aQ,ap.aF,bM];exact h3
 have k4:a.get .alR (sl 4)=.az A o3:=by rw[<-o];simp[aQ,ap.aF,bM];exact h4
 have k5:a.get .alR (sl 5)=.az k no:=by rw[<-o];simp[aQ,ap.aF,bM];exact h5
 have k8:a.get .alR (sl 8)=.int 3 p:=by rw[<-o];simp[aQ,ap.aF,bM]
 have k9:a.get .alR (sl 9)=.bool ii:=by rw[<-o];simp[aQ,ap.aF,bM]
 have cond:∀d:ap AV,d.get .alR (sl 22)=.bool (!ii||!lV p bH)->d.get .alR (sl 0)=.int 3 v->d.get .alR (sl 3)=.az z o2->d.get .alR (sl 4)=.az A o3->d.get .alR (sl 5)=.az k no->Xc ac 60 (.cond (tt 22) (.region [bQ 23 (.aW (tt 3)),bQ 24 (.aW (tt 4)),bQ 25 (.dG 1 (tt 23) (tt 24)),bQ 26 (.aW (tt 25)),bQ 27 (.bg (tt 0)),bQ 28 (.call (.c (.func g [] [])) [tt 26,tt 27]),bQ 29 (.bg (tt 28)),⟨some (sl 30),.aW (tt 5),some (sl 29,false),[],[]⟩,bQ 31 (.pick (tt 29) (.c (.bool true)) (tt 30)),rN (.store 1 (tt 5) (tt 31))]) .skip) ⟨d,[],none⟩ H λj fr H'=>(match j with|.exit _=>False|_=>True)/\fr.bI=[]/\∃l,gZ fr.aa H' []=some l/\K (iL l) H':=by
  intro d u m0 m3 m4 J;cases hl:(!ii||!lV p bH)with
  |false=>rw[hl]at u w;refine Xc.nI (n:=59) (by simp[gv];exact u) (Xc.skip (n:=58) ⟨trivial,rfl,[],rfl,w _ H ks c rfl (λ_ _ _=>rfl) hs aB D (λ_ _=>rfl) (by simpa using B) (λ_ _ _ _=>rfl)⟩)
  |true=>
   rw[hl]at u w;refine Xc.pp (n:=59) (by simp[gv];exact u) (Xc.region (n:=58) ?_);refine Xo.op (n:=57) (v:=s2) (H':=H) (jC (by simp[gv];exact m3) F) ?_;refine Xo.op (n:=56) (v:=.int kb b) (H':=H) (jC (by simp[gv,aQ,ap.aF,bM];exact m4) G) ?_;refine Xo.op (n:=55) (v:=.az is (os+Z)) (H':=H) (we (by simp[gv,aQ,ap.aF,bM];exact e5) (by simp[gv,aQ,ap.aF,bM];exact⟨rfl,e6⟩) e7) ?_;refine Xo.op (n:=54) (v:=.map N) (H':=H) (jC (by simp[gv,aQ,ap.aF,bM]) c5) ?_;refine Xo.op (n:=53) (v:=.int 3 v) (H':=H) (by simp[aE,gv,aQ,ap.aF,bM];exact m0) ?_;refine Xo.call (n:=52) ?_;simp only[gv,aQ,ap.aF,bM,aj7,ali];refine Xf.mono (n:=30) af (λ_ _ h=>h) (Va T hs λm w1 L w3 w4=>?_);have O:m.get k=.cells c n e true [] fz:=by rw[L _ (alI s)];exact D
   have P:bh m k no=some (.bool q):=by rw[pW (L k (alI s))];exact gq
   refine Xo.op (n:=51) (v:=.bool (!iA v ks)) (H':=m) (by simp[aE,gv,aQ,ap.aF,bM]) ?_;have aA:∀f:ap AV,f.get .alR (sl 5)=.az k no->f.get .alR (sl 31)=.bool (q||!iA v ks)->Xo ac 40 [rN (.store 1 (tt 5) (tt 31))] ⟨f,[],none⟩ m λfr H'=>(match cP.none with|.exit _=>False|_=>True)/\fr.bI=[]/\∃l,gZ fr.aa H' []=some l/\K (iL l) H':=by
    intro f p5 cW;refine Xo.op (n:=39) (v:=.alR) (H':=m.set k (.cells (fX c no [.bool (q||!iA v ks)]) n e true [] fz)) ?_ (Xo.nil (n:=38) ?_);·have e1:gv f (tt 5)=.az k no:=p5;have e2:gv f (tt 31)=.bool (q||!iA v ks):=cW;simp only[aE,e1,e2,AV.cells,akA,List.length_nil,Vb O Y R];rfl
    refine⟨trivial,rfl,[],rfl,w _ _ (pV v ks) (fX c no [.bool (q||!iA v ks)]) w1 (λj j1 j2=>?_) ?_ (λx=>?_) ?_ (λi hi=>?_) ?_ (λes c he hv=>by rw[ai.aF,aq s];exact w4 es c he hv)⟩;·rw[ai.aF,aq j2];exact L j j1
    .rw[ai.aF,aq s];exact w3
    .rw[BV];simp[or_comm]
    .rw[ai.aF,aK rfl]
    .rw[nD];rw[aq (by simp;omega)]
    rw[nD];simp
   cases y:iA v ks with|true=>rw[y]at aA;refine Xo.D4 (n:=50) (v:=.bool q) (H':=m) (by simp[fF,aQ,ap.aF,bM,y]) (jC (by simp[gv,aQ,ap.aF,bM];exact J) P) ?_;refine Xo.op (n:=49) (v:=.bool (q||!true)) (H':=m) (by simp[aE,gv,aQ,ap.aF,bM,y]) ?_;exact(aA _ (by simp[aQ,ap.aF,bM];exact J) (by simp[aQ,ap.aF,bM])).mono af (λ_ _ h=>h)|false=>rw[y]at aA;refine Xo.D5 (n:=50) (by simp[fF,aQ,ap.aF,bM,y]) (by simp[lX,aQ,ap.aF,bM,y,AV.bB]) ?_;refine Xo.op (n:=49) (v:=.bool (q||!false)) (H':=m) (by simp[aE,gv,aQ,ap.aF,bM,y]) ?_;exact(aA _ (by simp[aQ,ap.aF,bM];exact J) (by simp[aQ,ap.aF,bM])).mono af (λ_ _ h=>h)
 refine Xc.ju (n:=60) (m:=60) (k:=69) aB aB (Xc.region (n:=59) ?_);refine Xo.op (n:=58) (v:=.bool ii) (H':=H) (by simp[k9,aE,gv]) ?_;refine Xo.op (n:=57) (v:=.bool (!ii)) (H':=H) (by rfl) ?_;refine Xo.op (n:=56) (v:=.bool (!ii)) (H':=H) (by rfl) ?_;cases ii with|true=>refine Xo.D4 (n:=55) (v:=.int 3 p) (H':=H) (by rfl) (by simp[k8,aE,gv,aQ,ap.aF,bM]) ?_;refine Xo.D4 (n:=54) (v:=.int 3 bH) (H':=H) (by rfl) (by simp[k1,aE,gv,aQ,ap.aF,bM]) ?_;refine Xo.D4 (n:=53) (v:=.bool (!lV p bH)) (H':=H) (by rfl) (by rfl) ?_;refine Xo.op (n:=52) (v:=.bool (!lV p bH)) (H':=H) (by rfl) (Xo.nil (n:=51) ?_);exact cond _ (by rfl) (by trivial) (by trivial) (by trivial) (by trivial)|false=>refine Xo.D5 (n:=55) (by rfl) (by rfl) ?_;refine Xo.D5 (n:=54) (by rfl) (by rfl) ?_;refine Xo.D5 (n:=53) (by rfl) (by rfl) ?_;refine Xo.op (n:=52) (v:=.bool true) (H':=H) (by rfl) (Xo.nil (n:=51) ?_);exact cond _ (by rfl) (by trivial) (by trivial) (by trivial) (by trivial)
end
section
theorem B6(pl:List (Int×Int))(bH x:Int):∀l,x∈fR pl bH l↔x∈l/\fR.rY pl bH x=true
 |[]=>by simp[fR]
 |y::l=>by
  simp only[fR];split
  .rename_i h;rw[aeV,B6 pl bH x l,aeV];constructor
   .rintro(h1|⟨h1,h2⟩);·exact⟨.inl h1,h1▸h⟩
    exact⟨.inr h1,h2⟩
   rintro⟨h1|h1,h2⟩;·exact .inl h1
   exact .inr ⟨h1,h2⟩
  rename_i h;rw[B6 pl bH x l,aeV];constructor;·rintro⟨h1,h2⟩;exact⟨.inr h1,h2⟩
  rintro⟨h1|h1,h2⟩;·rw[h1]at h2;exact absurd h2 h
  exact⟨h1,h2⟩
theorem Hz(t0:List Int):∀l,mA t0 l=true↔∃x∈l,x∉t0
 |[]=>by simp[mA]
 |y::l=>by
  simp only[mA,alf,Hz t0 l,akU,aeV];have:iA y t0=false↔y∉t0:=by rw[<-ta];simp
  grind
section
variable[Ov]
variable{P:Program}
theorem xW{H:ai}{q:ab}{a v:AV}(h:mB H q a=some v):∃i o,a=.az i o/\i≠q/\bh H i o=some v:=by
 unfold mB at h;split at h
 .split at h;·grind
  rename_i hb;exact⟨_,_,rfl,λe=>hb (by rw[e];exact ab.ip.2 rfl),h⟩
 grind
theorem HD{H:ai}{q:ab}{s v:AV}{x:Int}(h:uR H q s x=some v):∃i o n c e j,s=.slice i o n c e/\x=.ofNat j/\j<n/\i≠q/\bh H i (o+j)=some v:=by
 unfold uR at h;split at h
 .split at h;·grind
  rename_i hb;obtain⟨i,o,n,c,e,j,h1,h2,h3,a⟩:=B3 h;injection h1 with b d f g k;subst b;subst d;subst f;exact⟨_,_,_,_,_,j,rfl,h2,h3,λe=>hb (by rw[e];exact ab.ip.2 rfl),a⟩
 grind
theorem bz.Vc{g:cU}{c:aP}{H:ai}{w:World}(h:bz P g c H w){i:ab}{o':cq}(hi:H.get i≠.none)(j:(H.get i).lz=false)(k:(H.get i).aM=[])(d:o'.aM=[])(l:∀x a,OR P c (H.get i) x a->OR P c o' x a)(m:∀q a,gS P q (H.get i) a->gS P q o' a):bz P g c (H.set i o') w:=by obtain⟨b,x,a,e,hl,hb,f⟩:=h.aH hi;have:=(h.sS (w':=w) hi j e d (l x a f) (m _ _ (h.ka i b x a hi e hb)) (by rw[GN hb]) rfl rfl rfl).1;rw[k]at this;exact this
theorem Ve{d j:Type}{f:d->j}{l k:List j}(h:l.Perm k):∀t:List d,k=t.map f->∃t':List d,l=t'.map f/\t'.Perm t:=by
 induction h with
 |nil=>intro t c;exact⟨[],rfl,by cases t<;>simp_all⟩
 |cons x _ m=>intro t c;cases t with|nil=>simp at c|cons a t=>simp only[aj7,akn]at c;obtain⟨t',e,p⟩:=m t c.2;exact⟨a::t',by rw[aj7,<-e,c.1],p.cons a⟩
 |swap x y l=>intro t c;match t,c with|a::b::t,c=>simp only[aj7,akn]at c;exact⟨b::a::t,by rw[aj7,aj7,c.1,c.2.1,c.2.2],akS ..⟩|[a],c=>simp at c|[],c=>simp at c
 |trans _ _ g i=>intro t c;obtain⟨n,e2,p2⟩:=i t c;obtain⟨t1,e1,p1⟩:=g n e2;exact⟨t1,e1,p1.trans p2⟩
theorem M'{eD f:Nat}(bd:eD≠f)(ht:kr P (pX eD f)){Wr:cU}{ρ:aP}{H:ai}{w:World}{nt:Nat}{fr:Fr}{b:Frame}{a:Act}{c1 c2:Code}{xh body:bt}{ag av:Nat}{J L ok et ex kv:ab}(h1:eX P nt c1=some xh)(h2:eX P nt c2=some (rX ag av J L ok et ex kv body))(bv:ag≠av)(d1:J≠L)(d2:J≠ok)(d3:L≠ok)(d4:J≠et)(d5:et≠ex)(d6:J≠ex)(d7:J≠kv){cQ:List ab}(s1:L∈cQ)(s2:ok∈cQ)(s3:et∈cQ)(s4:ex∈cQ)(s5:kv∈cQ)(hF:iM ρ nt fr b.roundOf a)(T:bz P Wr ρ H w){bH:Int}{ba bb cE F:AV}{m pm s N:ab}{no n fz kb e:Nat}{pl:List (Int×Int)}{pks ks t0:List Int}{bc:Int}{c:ap AV}{D:Bool}(g1:mB H s ba=some (.map pm))(g2:mB H s bb=some F)(g3:mB H s cE=some (.int kb bc))(g4:lA H pm=some pl)(g5:jT H pm=some pks)(g6:uR H s F bc=some (.map N))(g7:H.get s=.cells c n e true [] fz)(g8:fz<=no)(g9:no<n)(aw:c.bw .alR no=.bool D)(hk:jT H m=some ks)(hN:jS H N=some t0)(b0:pm≠N)(b3:m≠pm)(nh fb:Nat)(a6:∀p d,Xc (pX eD f) nh xh fr (H.set m (.map p d)) λj fr1 H1=>j=.none/\fr1.bI=fr.bI/\fr1.bG=fr.bG/\(∀t,t∉cQ->fr1.aa.get .alR t=fr.aa.get .alR t)/\fr1.aa.get .alR J=.az H.next 0/\H1=(H.set m (.map p d)).new (.mapIter (some m) d [] d))(Z:∀aa H1 kk(K:cP->Fr->ai->Prop),(∀j,j≠N->j≠m->j≠H.next->j≠s->H1.get j=H.get j)->(∀t,t∉cQ->aa.get .alR t=fr.aa.get .alR t)->aa.get .alR kv=.int 3 kk->Xf (pX eD f) 80 (.func eD [] [ba,bb,cE,.az s no]) [.int 3 kk,.int 3 bH] H1 (λ_ H2=>∀B,(∀t,t∉cQ->B.get .alR t=aa.get .alR t)->B.get .alR J=aa.get .alR J->K .none ⟨B,fr.bI,fr.bG⟩ H2)->Xc (pX eD f) fb body ⟨aa,fr.bI,fr.bG⟩ H1 K)(k:List Item)(cs:List Frame):jh P Wr ρ nt w b k cs (lone (b.atR a (.code (.seq c1 c2)::k)) cs w) λj fr1 H1=>j=.none/\fr1={fr with aa:=kL fr.aa cQ}/\H1=((H.set N (.dI (eG (gT (fR pl bH ks) t0)))).set s (.cells (fX c no [.bool (D||mA t0 (fR pl bH ks))]) n e true [] fz)).skip:=by
 obtain⟨es,V,ax,c3⟩:=xR hk;have u:=qM hN;have X:N≠H.next:=λe=>by have:=(T.eo H.next (afb _)).1;obtain⟨_,q,Q,_⟩:=u;rw[e,this]at Q;simp[eS]at Q
 have ay:m≠H.next:=λe=>by have:=(T.eo H.next (afb _)).1;rw[<-e]at this;rw[this]at V;simp[eS]at V
 have Y:s≠H.next:=λe=>by have:=(T.eo H.next (afb _)).1;rw[<-e,g7]at this;cases this
 have a8:N≠s:=by rintro rfl;obtain⟨_,_,h,_⟩:=u;rw[g7]at h;simp[eS]at h
 have S:m≠s:=by rintro rfl;rw[g7]at V;simp[eS]at V
 obtain⟨c5,M,_⟩:=xR g5;have b4:pm≠H.next:=λe=>by have:=(T.eo H.next (afb _)).1;rw[<-e]at this;rw[this]at M;simp[eS]at M
 have a9:pm≠s:=by rintro rfl;rw[g7]at M;simp[eS]at M
 have a0:m=N->es.map aT.kv=t0.map sk/\∀x,x∈ks↔x∈t0:=λe=>by
  obtain⟨_,c8,O,A⟩:=u;rw[<-e,V]at O;injection O with O;subst O;obtain⟨ba,bb⟩:=z6 ax;refine⟨A,λx=>⟨λhx=>?_,λhx=>?_⟩⟩;·obtain⟨e,he,hk⟩:=bb x hx;have:=akp (f:=aT.kv) he;rw[A]at this;obtain⟨y,hy,a1⟩:=akk.1 this;simp only[sk,aT.kv,hk,aj1,AV.int.injEq]at a1;rw[<-a1.1.2];exact hy
  have:=akp (f:=sk) hx;rw[<-A]at this;obtain⟨e,he,a2⟩:=akk.1 this;obtain⟨y,hy,b5⟩:=ba e he;simp only[sk,aT.kv,b5,aj1,AV.int.injEq]at a2;rw[<-a2.1.2];exact hy
 obtain⟨i1,o1,e1,b6,k1⟩:=xW g1;obtain⟨i2,o2,e2,b',k2⟩:=xW g2;obtain⟨i3,o3,e3,ca,k3⟩:=xW g3;obtain⟨is,os,ns,c9,c',js,e5,e6,e7,cd,k5⟩:=HD g6;obtain⟨Ns,cf⟩:=B4 hN;have ha:pX eD f eD=.code 32 [] (B5 f):=by simp[pX]
 have hw:pX eD f f=.code 13 [.tmp (sl 4)] Aa:=by
  have:akb f eD=false:=by cases h:akb f eD with|false=>rfl|true=>exact absurd (aj4 h).symm bd
  simp[pX,this]
 refine Hw ht h1 h2 bv d1 d2 d3 d4 d5 d6 d7 s1 s2 s3 s4 s5 hF T V ax nh fb a6 (J:=λp d l H1=>H1.next=H.next.succ/\(∀j,j≠N->j≠m->j≠H.next->j≠s->H1.get j=H.get j)/\H1.get m=.map p d/\(∀x∈l,x∈ks)/\∃g I q,ib (H1.get N) g/\(∀x,x∈g↔x∈t0\/(x∈l/\fR.rY pl bH x=true))/\H1.get s=.cells I n e true [] fz/\(∀i,i≠no->I.bw .alR i=c.bw .alR i)/\I.bw .alR no=.bool q/\(q=true↔D=true\/∃x∈g,x∉t0)) ?_ ?_ ?_ ?_ ?_ k cs
 .intro p d cn;have a3:((H.set m (.map p d)).new (.mapIter (some m) d [] d)).get s=.cells c n e true [] fz:=by rw[ai.dJ,ai.gD,aq Y,ai.aF,aq (alI S)];exact g7
  have a4:((H.set m (.map p d)).new (.mapIter (some m) d [] d)).get m=.map p d:=by rw[ai.dJ,ai.gD,aq ay,ai.aF,aK rfl]
  refine⟨rfl,λj j1 j2 j3 _=>?_,a4,λx hx=>(by grind),?_⟩;·simp[j3,j2,ai.dJ,ai.gD,aq,ai.aF]
  by_cases z:m=N
  .obtain⟨A,_⟩:=a0 z;obtain⟨g,x1,x2⟩:=Ve cn t0 A;refine⟨g,c,D,?_,λx=>by grind,a3,λ_ _=>rfl,aw,?_⟩;·rw[<-z,a4];exact⟨x2.nodup_iff.2 u.1,p,rfl,x1⟩
   grind
  refine⟨t0,c,D,?_,aB,a3,λ_ _=>rfl,aw,aB⟩;simp[X,z,u,ai.dJ,ai.gD,aq,ai.aF,alI]
 .rintro p d l H1 o⟨Q,R,q3,q0,g,I,q,q4,q5,q6,q7⟩;refine⟨Q,λj j1 j2 j3 j4=>?_,?_,q0,g,I,q,?_,q5,?_,q7⟩;·simp[j3,R,j1,j2,j4,ai.aF,aq]
  all_goals simp[ay,q3,X,q4,Y,q6,ai.aF,aq]
 .grind
 .rintro p d l aa H1 kk dm⟨Q,R,q3,q0,g,I,q,q4,q5,q6,q7,q8,q9⟩he A;refine Z aa H1 kk _ R he A ?_;have cc:∀{i o v},bh H i o=some v->i≠s->bh H1 i o=some v:=λh W=>by rw[pW (R _ (lB h cf) (lB h V) (xV T h) W)];exact h
  have hp:H1.get pm=H.get pm:=R pm b0 (alI b3) b4 a9;refine M9 ha hw (pm:=pm) (s2:=F) (N:=N) (pl:=pl) (pks:=pks) (ks:=g) (c:=I) (q:=q) (e:=e) (n:=n) (fz:=fz) (kb:=kb) (b:=bc) ?_ ?_ ?_ ?_ ?_ ?_ q6 g8 g9 q8 q4 ?_;·rw[e1];exact cc k1 b6
  .rw[e2];exact cc k2 b'
  .rw[e3];exact cc k3 ca
  .simp_all[lA]
  .simp_all[jT]
  .simp[e5,e6,e7,cc,k5,cd,l6,alN,akY,bq]
  intro r H2 cp cv r1 r2 r3 r4 r5 r6 r7 r8 B w1 w2;refine⟨rfl,rfl,rfl,λt ht=>(w1 t ht).trans (he t ht),w2,r2 _ (alI X) (alI Y),r1.trans Q,λj j1 j2 j3 j4=>(r2 j j1 j4).trans (R j j1 j2 j3 j4),?_,λx hx=>?_,cp,cv,_,r3,λx=>?_,r5,λi hi=>(r6 i hi).trans (q7 i hi),r7,?_⟩;·grind
  .grind
  .grind
  rw[alf,aj6,q9,akU];have hh:iA kk g=false↔kk∉g:=by rw[<-ta];simp
  grind
 rintro p d l H1 a5 w' hl⟨Q,R,q3,_,g,I,q,q4,q5,q6,q7,q8,q9⟩cx cy gN;refine⟨a5,cx,?_⟩;have i1:=gN cy q3;have G:∀x,x∈g↔x∈gT (fR pl bH ks) t0:=λx=>by rw[q5,oQ,B6,hl,or_comm]
 have hp:g.Perm (gT (fR pl bH ks) t0):=(List.perm_ext_iff_of_nodup q4.1 (qK _ u.1)).2 G;have i2:bz P Wr a5 ((H1.set m (H.get m)).set N (.dI (eG (gT (fR pl bH ks) t0)))) w':=by
  by_cases z:m=N;·refine i1.xS (N:=N) (ks:=t0) (by rw[<-z,ai.aF,aK rfl,z];exact u) ((List.perm_ext_iff_of_nodup u.1 (qK _ u.1)).2 λx=>?_);rw[oQ,B6];exact⟨.inr,λh=>h.elim (λh=>((a0 z).2 x).1 h.1) id⟩
  exact i1.xS (N:=N) (ks:=g) (by rw[ai.aF,aq (alI z)];exact q4) hp
 have W:q=(D||mA t0 (fR pl bH ks)):=by
  have:q=true↔(D||mA t0 (fR pl bH ks))=true:=by
   rw[q9,alf,Hz];constructor
   .rintro(h|⟨x,h,h'⟩);·exact .inl h
    have:=(G x).1 h;rw[oQ]at this;exact .inr ⟨x,this.resolve_right h',h'⟩
   rintro(h|⟨x,h,h'⟩);·exact .inl h
   exact .inr ⟨x,(G x).2 ((oQ x _ _).2 (.inl h)),h'⟩
  cases q<;>cases h:(D||mA t0 (fR pl bH ks))<;>simp_all
 have E:((H1.set m (H.get m)).set N (.dI (eG (gT (fR pl bH ks) t0)))).get s=.cells I n e true [] fz:=by rw[ai.aF,aq (alI a8),ai.aF,aq (alI S)];exact q6
 have i3:=i2.Vc (i:=s) (o':=.cells (fX c no [.bool (D||mA t0 (fR pl bH ks))]) n e true [] fz) (by rw[E];simp) (by rw[E];rfl) (by rw[E];rfl) rfl (by
  intro x ob C;rw[E]at C;have a':∀i,(fX c no [.bool (D||mA t0 (fR pl bH ks))]).bw .alR i=I.bw .alR i:=by
   intro i;rw[nD];by_cases hi:i=no;·subst hi;rw[aK aB];rw[q8,W];simp
   rw[aq (by simp;omega),q7 i hi]
  cases ob<;>simp only[OR]at C⊢;refine⟨C.1,C.2.1,λi hi=>?_,C.2.2.2⟩;rw[a'];exact C.2.2.1 i hi) (by intro q ob W;rw[E]at W;cases ob<;>simp only[gS]at W⊢;exact W);refine i3.sub (H2:=((H.set N (.dI (eG (gT (fR pl bH ks) t0)))).set s (.cells (fX c no [.bool (D||mA t0 (fR pl bH ks))]) n e true [] fz)).skip) (by show H.next.succ=H1.next;exact Q.symm) λj=>?_;show((H.set N _).set s _).get j=_\/((H.set N _).set s _).get j=_;simp only[ai.aF];by_cases e0:j=s;·left;simp[e0]
 by_cases e1:j=N;·left;simp[e0,e1]
 by_cases e2:j=m;·left;simp[e0,e1,e2]
 by_cases e3:j=H.next;·right;simp only[aq e1,aq e0];rw[e3];exact(T.eo _ (afb _)).1
 left;simp only[aq e0,aq e1,aq e2];exact(R j e1 e2 e3 e0).symm
end
end
theorem Na:BW=[sl 16,sl 53,sl 54,sl 55,sl 56,sl 57,sl 58,sl 59,sl 60,sl 61,sl 62,sl 63,sl 64,sl 65,sl 66,sl 67]:=by rfl
theorem Nb:BX=[sl 19,sl 76,sl 77,sl 78,sl 79,sl 80,sl 81,sl 82,sl 83,sl 84,sl 85,sl 86,sl 87]:=by rfl
theorem D6{i j:ab}(h:ab.beq i j=false):i≠j:=λe=>by grind[ab.ip]
theorem Nc{eD:Nat}{k:ab->Option Int}{to:Nat}{cQ:List ab}{aa d:ap AV}{H y:ai}(h:zZ eD k to cQ aa H=some (d,y)):∃f l o p b no q u t i g a v r bH m N c n e fz ks j pl t0 s,f=eD/\pq H (aa.get .alR (sl 11))=some (.func f [] [l,o,p,.az b no])/\mB H b (aa.get .alR (sl 5))=some q/\aa.get .alR (sl to)=.int u t/\mB H b (aa.get .alR (sl 11))=some i/\mB H b l=some (.map g)/\mB H b o=some a/\mB H b p=some (.int v r)/\k b=some bH/\uR H b q t=some (.map m)/\uR H b a r=some (.map N)/\H.get b=.cells c n e true [] fz/\g≠N/\m≠g/\fz<=no/\no<n/\jT H m=some ks/\jT H g=some j/\lA H g=some pl/\jS H N=some t0/\c.bw .alR no=.bool s/\d=kL aa cQ/\y=((H.set N (.dI (eG (gT (fR pl bH ks) t0)))).set b (.cells (fX c no [.bool (s||mA t0 (fR pl bH ks))]) n e true [] fz)).skip:=by
 unfold zZ at h;split at h;case h_2=>grind
 rename_i f l o p b no z;split at h;case isFalse=>grind
 rename_i A;split at h;case h_2=>grind
 rename_i q u t i g a v r bH B C D E F G I;split at h;case h_2=>grind
 rename_i m N c n e fz J w x;split at h;case isTrue=>grind
 rename_i hb;simp only[alf,akU,Bool.and_eq_false_iff,not_or,Bool.not_eq_true,Bool.not_eq_false]at hb;obtain⟨⟨b2,K⟩,L,M⟩:=hb;split at h;case h_2=>grind
 rename_i ks j pl t0 s O P Q R S;injection h with h;injection h with h1 h2;exact⟨f,l,o,p,b,no,q,u,t,i,g,a,v,r,bH,m,N,c,n,e,fz,ks,j,pl,t0,s,aj4 A,z,B,C,D,E,F,G,I,J,w,x,D6 b2,D6 K,akc L,Eq.mp akY M,O,P,Q,R,S,h1.symm,h2.symm⟩
theorem Vf{P:Program}{eD q:Nat}(M:eD≠q)(u:kr P (pX eD q)):xE P 1004 (BY eD):=by
 intro Wr ρ H H' w nt fr c1 c2 x y ay b a O Q A hg hF hI k cs;have A:bt.seq MO MP=bt.seq x y:=A;injection A with C hy;subst C;subst hy;unfold BY at hg;obtain⟨f,a1,a2,a3,L,no,s5,kt,t,a4,pm,a0,kb,bc,bH,m,N,c,n,e,fz,ks,a5,pl,t0,nw,hf,v1,v2,v3,v4,v5,v6,v7,j,v9,R,S,n2,n3,n4,n5,w1,w2,w3,w4,w5,rfl,rfl⟩:=Nc hg;subst hf;obtain⟨T,V,F,W⟩:=wd v1;obtain⟨i5,o5,e5,a6,c5⟩:=xW v2;obtain⟨a8,aR,s,G,_⟩:=xW v4;rw[F]at s;injection s with q1 q2;subst q1;subst q2;obtain⟨is,os,ns,a9,a',js,e6,e7,e8,ba,c6⟩:=HD v9;obtain⟨ms,X⟩:=D1 w1;obtain⟨Ns,Y⟩:=B4 w4;have Z:fr=⟨fr.aa,fr.bI,fr.bG⟩:=rfl;have hat:∃r z,fr.aa.get .alR (sl 7)=.az r z/\r≠L/\∃D,bh H r (z+1)=some D/\∀(x:aJ)(g:ap AV)(E:ai),gv g x=D->aE (.j7 x) g E=some (.int 3 bH,E):=by
  split at j;case h_2=>cases j
  rename_i r z ag;split at j;·cases j
  rename_i hb;refine⟨r,z,ag,λe=>hb (by rw[e];exact ab.ip.2 rfl),?_⟩;split at j;·rename_i D B;injection j with j;subst j;exact⟨_,B,λx g E C=>by simp[aE,C]⟩
  .rename_i B;injection j with j;subst j;exact⟨_,B,λx g E C=>by simp[aE,C]⟩
  cases j
 obtain⟨r,z,av,aw,D,c7,I⟩:=hat;refine(M' M u O Q (cQ:=BW) aB bA bA bA bA bA bA bA bA bA bA bA bA hF hI (bH:=bH) v5 v6 v7 w3 w2 R S n4 n5 w5 w1 w4 n2 n3 20 120 ?_ ?_ k cs).mono ?_
 .intro l d;rw[Z];refine Xc.region (n:=19) ?_;refine Xo.op (n:=18) (v:=s5) (H':=H.set m (.map l d)) (jC e5 (by grind[z8,lB])) ?_;refine Xo.op (n:=17) (v:=.int kt t) (H':=H.set m (.map l d)) (by simp[v3,aE,gv,aQ,ap.aF,bM]) ?_;refine Xo.op (n:=16) (v:=.az is (os+js)) (H':=H.set m (.map l d)) (we (by trivial) (by simp[gv,aQ,ap.aF,bM];trivial) e8) ?_;refine Xo.op (n:=15) (v:=.map m) (H':=H.set m (.map l d)) (jC (by rfl) (by grind[z8,lB])) ?_;refine Xo.op (n:=14) (v:=.az H.next 0) (H':=(H.set m (.map l d)).new (.mapIter (some m) d [] d)) (by simp[aE,gv,aQ,ap.aF,bM,ai.aF];rfl) (Xo.nil (n:=13) ?_);refine⟨rfl,rfl,rfl,?_,?_,rfl⟩;·intro t u;simp only[Na,aeV,aki,or_false,not_or]at u;simp[u,aQ,ap.aF]
  rfl
 .intro aa H1 kk K J he ax p;have cc:∀{i o v},bh H i o=some v->i≠L->bh H1 i o=some v:=λh hq=>by rw[pW (J _ (lB h Y) (lB h X) (xV hI h) hq)];exact h
  have bb:aa.get .alR (sl 11)=.az T V:=by rw[he _ bA];exact F
  refine Xc.region (n:=119) ?_;have h7:aa.get .alR (sl 7)=.az r z:=by rw[he _ bA];exact av
  refine Xo.op (n:=118) (v:=.func f [] [a1,a2,a3,.az L no]) (H':=H1) (jC (by trivial) (cc W G)) ?_;refine Xo.op (n:=117) (v:=.int 3 kk) (H':=H1) (by simp[ax,aE,gv,aQ,ap.aF,bM]) ?_;refine Xo.op (n:=116) (v:=.az r (z+1)) (H':=H1) (by simp[h7,aE,gv,aQ,ap.aF,bM]) ?_;refine Xo.op (n:=115) (v:=D) (H':=H1) (jC (by rfl) (cc c7 aw)) ?_;refine Xo.op (n:=114) (v:=.int 3 bH) (H':=H1) (I _ _ _ (by rfl)) ?_;refine Xo.call (n:=113) ?_;simp only[gv,aQ,ap.aF,bM,aj7,ali];refine Xf.mono (n:=80) aB ?_ p;intro v E p;refine Xo.mono (n:=101) aB (λ_ _ h=>h) ?_;refine Xo.nil (n:=100) (p _ ?_ ?_);·intro t u;simp only[Na,aeV,aki,or_false,not_or]at u;simp[u,aQ,ap.aF]
  rfl
 simp
theorem Vg{P:Program}{eD l:Nat}(A:eD≠l)(q:kr P (pX eD l)):xE P 1005 (BZ eD):=by
 intro Wr ρ H H' w nt fr c1 c2 x y W b a B C r hg Y Q k cs;have r:bt.seq MQ MR=bt.seq x y:=r;injection r with Z hy;subst Z;subst hy;unfold BZ at hg;obtain⟨f,a1,a2,a3,R,no,s5,kt,t,ag,pm,X,kb,bb,bH,m,N,c,n,e,fz,ks,av,pl,t0,nw,hf,v1,v2,v3,v4,v5,v6,v7,S,v9,D,E,n2,n3,n4,n5,T,w2,w3,V,w5,rfl,rfl⟩:=Nc hg;subst hf;obtain⟨F,G,s,I⟩:=wd v1;obtain⟨i5,o5,e5,aw,c5⟩:=xW v2;obtain⟨ax,aR,p,u,_⟩:=xW v4;rw[s]at p;injection p with q1 q2;subst q1;subst q2;obtain⟨is,os,ns,ay,a0,js,e6,e7,e8,a4,c6⟩:=HD v9;obtain⟨ms,J⟩:=D1 T;obtain⟨Ns,L⟩:=B4 V;have M:fr=⟨fr.aa,fr.bI,fr.bG⟩:=rfl;simp only[adG]at S;subst S;refine(M' A q B C (cQ:=BX) aB bA bA bA bA bA bA bA bA bA bA bA bA Y Q (bH:=.ofNat 0) v5 v6 v7 w3 w2 D E n4 n5 w5 T V n2 n3 20 120 ?_ ?_ k cs).mono ?_
 .intro g d;rw[M];refine Xc.region (n:=19) ?_;refine Xo.op (n:=18) (v:=s5) (H':=H.set m (.map g d)) (jC e5 (by grind[z8,lB])) ?_;refine Xo.op (n:=17) (v:=.int kt t) (H':=H.set m (.map g d)) (by simp[v3,aE,gv,aQ,ap.aF,bM]) ?_;refine Xo.op (n:=16) (v:=.az is (os+js)) (H':=H.set m (.map g d)) (we (by trivial) (by simp[gv,aQ,ap.aF,bM];trivial) e8) ?_;refine Xo.op (n:=15) (v:=.map m) (H':=H.set m (.map g d)) (jC (by rfl) (by grind[z8,lB])) ?_;refine Xo.op (n:=14) (v:=.az H.next 0) (H':=(H.set m (.map g d)).new (.mapIter (some m) d [] d)) (by simp[aE,gv,aQ,ap.aF,bM,ai.aF];rfl) (Xo.nil (n:=13) ?_);refine⟨rfl,rfl,rfl,?_,?_,rfl⟩;·intro t q;simp only[Nb,aeV,aki,or_false,not_or]at q;simp[q,aQ,ap.aF]
  rfl
 .intro aa H1 kk K z he O j;have cc:∀{i o v},bh H i o=some v->i≠R->bh H1 i o=some v:=λh hq=>by rw[pW (z _ (lB h L) (lB h J) (xV Q h) hq)];exact h
  have a5:aa.get .alR (sl 11)=.az F G:=by rw[he _ bA];exact s
  refine Xc.region (n:=119) ?_;refine Xo.op (n:=118) (v:=.func f [] [a1,a2,a3,.az R no]) (H':=H1) (jC (by trivial) (cc I u)) ?_;refine Xo.op (n:=117) (v:=.int 3 kk) (H':=H1) (by simp[O,aE,gv,aQ,ap.aF,bM]) ?_;refine Xo.call (n:=116) ?_;simp only[gv,aQ,ap.aF,bM,aj7,ali];refine Xf.mono (n:=80) aB ?_ j;intro v H2 j;refine Xo.mono (n:=101) aB (λ_ _ h=>h) ?_;refine Xo.nil (n:=100) (j _ ?_ ?_);·intro t q;simp only[Nb,aeV,aki,or_false,not_or]at q;simp[q,aQ,ap.aF]
  rfl
 simp
section
variable[Ov]
variable{P:Program}{a:cU}{ρ:aP}{H:ai}{w:World}
def cq.oR(o:cq):Prop:=o.lz=false/\o.aM=[]/\o≠.none
theorem bz.nH(h:bz P a ρ H w){hl dd:ab->Prop}(r:∀i,hl i->(H.get i).oR)(hd:∀i,dd i->H.get i=.none/\ρ i=none/\i.an<H.next.an/\∀j,i∉(H.get j).aM){c:ai}(m:c.next=H.next)(hg:∀j,c.get j=H.get j\/c.get j=.none)(s:∀i,hl i->c.get i=.none):bz P (a.ku ρ hl dd) ρ c w:=by
 have hs:=h.sub m hg;have o:∀j,c.get j≠.none->c.get j=H.get j:=λj hj=>(hg j).resolve_right hj;have t:=G4 hg;have nH:∀j b x,c.get j≠.none->ρ j=some (b,x)->∀i y,hl i->ρ i≠some (b,y):=by
  intro j b x hj v i y hi z;obtain⟨n,u,g⟩:=r i hi;have p:i≠j:=λe=>hj (e▸s i hi);have q:H.get j≠.none:=by rw[<-o j hj];exact hj
  rcases h.k6 i j b y x p g q z v with⟨l,_⟩|⟨l,_⟩;·have:=(h.aM i j l).2 g;rw[n]at this;cases this
  rw[u]at l;cases l
 constructor;·exact hs.eF
 .exact hs.k6
 .exact hs.aM
 .intro i b x hi A e;exact⟨hs.wr i b x hi A e,λk y f=>nH i b x hi e k y f⟩
 .exact hs.eo
 .intro k f;have d:∀i x,hl i->ρ i≠some (k,x):=λi x _ e=>by have:=h.fH i k x e;omega
  exact⟨⟨(h.new k f).1,d⟩,⟨(h.new k f).2,d⟩⟩
 .exact hs.mq
 .exact hs.ka
 .exact hs.fH
 .intro i b x hi e;exact⟨hs.rd i b x hi e,λk y f=>nH i b x hi e k y f⟩
 .intro i hi;rcases hi with hi|hi|hi;·exact hs.un i hi
  .obtain⟨n,u,g⟩:=r i hi;refine⟨s i hi,by rw[m];exact h.Dt g,λj hj=>?_⟩;have:=(h.aM i j (t i j hj)).2 g;rw[n]at this;cases this
  obtain⟨h0,h1,h2,h3⟩:=hd i hi;exact⟨by rcases hg i with e|e<;>rw[e];exact h0,by rw[m];exact h2,λj hj=>h3 j (t i j hj)⟩
 intro i hi;rcases hi with hi|hi;·exact⟨.inl (hs.fc i hi).1,(hs.fc i hi).2⟩
 exact⟨.inr (.inr hi),(hd i hi).2.1⟩
theorem bz.HG(h:bz P a ρ H w){hl dd:ab->Prop}(E:∀i,hl i->(H.get i).oR){m:aP}{B:ai}{u:World}(p:cL ρ m)(g:bz P (a.ku ρ hl dd) m B u)(q:eC (a.ku ρ hl dd) w u){H2:ai}(N:H2.next=B.next)(h1:∀i,hl i->H2.get i=H.get i)(h2:∀i,¬hl i->H2.get i=B.get i):bz P a m H2 u/\eC a w u:=by
 have d:∀i,hl i->∃b x r,ρ i=some (b,x)/\m i=some (b,x)/\m.k b=ρ.k b/\w.heap[b]?=some r/\u.heap[b]?=some r/\OR P ρ (H.get i) x r:=by intro i hi;obtain⟨b,x,r,e,I,hb,O⟩:=h.aH ((E i hi)).2.2;exact⟨b,x,r,e,(p _ _ e).1,(p _ _ e).2,hb,by rw[q.block b I λF=>F.2 i x hi e];exact hb,O⟩
 have A:∀i j,i∈(H2.get j).aM->¬hl i/\¬hl j/\i∈(B.get j).aM:=by
  intro i j hj;by_cases f:hl j;·rw[h1 j f,(E j f).2.1]at hj;cases hj
  rw[h2 j f]at hj;exact⟨λhi=>(g.un i (.inr (.inl hi))).2.2 j hj,f,hj⟩
 refine⟨⟨?_,?_,?_,?_,?_,?_,?_,?_,?_,?_,?_,?_⟩,⟨q.os,q.tape,q.output,q.size,λk h1 F=>q.block k h1 λJ=>F J.1⟩⟩
 .intro i hi;by_cases c:hl i;·grind[OR.mono]
  rw[h2 i c]at hi⊢;exact g.eF i hi
 .intro i j b x y v hi hj t n;by_cases c:hl i
  .obtain⟨b1,G,_,l,o,_⟩:=d i c;rw[o]at t;injection t with t;injection t with K L;subst K;subst L;by_cases f:hl j;·obtain⟨b2,Q,_,c1,c2,_⟩:=d j f;rw[c2]at n;injection n with n;injection n with s z;subst s;subst z;rw[h1 i c]at hi⊢;rw[h1 j f]at hj⊢;exact h.k6 i j _ _ _ v hi hj l c1
   rw[h2 j f]at hj;exact absurd l ((g.rd j _ y hj n).2 i _ c)
  by_cases f:hl j;·obtain⟨b2,Q,_,c1,c2,_⟩:=d j f;rw[c2]at n;injection n with n;injection n with s z;subst s;rw[h2 i c]at hi;exact absurd c1 ((g.rd i _ x hi t).2 j _ f)
  rw[h2 i c]at hi⊢;rw[h2 j f]at hj⊢;exact g.k6 i j b x y v hi hj t n
 .intro i j hj;obtain⟨l,o,C⟩:=A i j hj;obtain⟨b1,b2⟩:=g.aM i j C;grind
 .intro i b x hi D e;by_cases c:hl i;·obtain⟨b1,G,_,l,o,_⟩:=d i c;rw[o]at e;injection e with e;injection e with e1 e2;subst e1;rw[h1 i c]at hi D;exact h.wr i _ _ hi D l
  rw[h2 i c]at hi D;exact(g.wr i b x hi D e).1
 .intro i hi;rw[N]at hi;obtain⟨l,o⟩:=g.eo i hi;grind
 .intro k M;exact h.new k (alj q.size M)
 .exact g.mq
 .intro i b x r hi e hb;by_cases c:hl i;·obtain⟨b1,G,T,l,o,C,R,S,_⟩:=d i c;rw[o]at e;injection e with e;injection e with e1 e2;subst e1;rw[S]at hb;injection hb with hb;subst hb;rw[h1 i c]at hi⊢;rw[C];exact h.ka i _ _ _ hi l R
  rw[h2 i c]at hi⊢;exact g.ka i b x r hi e hb
 .exact g.fH
 .intro i b x hi e;by_cases c:hl i;·obtain⟨b1,G,_,l,o,_⟩:=d i c;rw[o]at e;injection e with e;injection e with e1 e2;subst e1;rw[h1 i c]at hi;exact h.rd i _ _ hi l
  rw[h2 i c]at hi;exact(g.rd i b x hi e).1
 .intro i hi;obtain⟨l,o,C⟩:=g.un i (.inl hi);have c:¬hl i:=λc=>(E i c).2.2 (h.un i hi).1;grind
 intro i hi;exact⟨(h.fc i hi).1,(g.fc i (.inl hi)).2⟩
theorem OR.Nf{ρ d:aP}(h:cL ρ d){c:ap AV}{n e fz:Nat}{b:Bool}{aM:List ab}{j x:Nat}{f g:Obj}(l:OR P ρ (.cells c n e b aM fz) j f)(k:OR P d (.cells c n e b aM fz) x g):OR P ρ (.cells c n e b aM fz) x g:=by cases f<;>simp only[OR]at l;cases g<;>simp only[OR]at k⊢;refine⟨k.1,k.2.1,λi hi=>?_,k.2.2.2⟩;grind[VR.gN]
theorem dP.set{ρ d:aP}:∀{l:List Int}{m:List MapEntry},dP ρ (eG l) m->dP d (eG l) m
 |[],[],_=>by trivial
 |k::l,c::m,h=>by
  refine⟨?_,?_,dP.set (l:=l) h.2.2⟩;·have:=h.1;cases b:c.key<;>rw[b]at this<;>simp only[VR]at this⊢;exact this
  have:=h.2.1;cases b:c.val<;>rw[b]at this<;>simp only[VR]at this⊢;exact this
 |[],_::_,h=>by trivial
 |_::_,[],h=>by trivial
theorem OR.xS{ρ f:aP}{o:cq}{ks ks2:List Int}(hs:ib o ks)(j:ks.Perm ks2){x:Nat}{e:Obj}(h:OR P ρ o x e):OR P f (.dI (eG ks2)) x e:=by
 obtain⟨_,es,he,g⟩:=hs;have d:(eG ks).Perm (eG ks2):=j.map _;have b:es.map aT.kv=(eG ks).map aT.kv:=by rw[g,Hp]
 cases o with|map i c=>simp only[eS,adG]at he;subst he;cases e<;>simp only[OR]at h⊢;obtain⟨rfl,rfl,ia,h3⟩:=h;obtain⟨l,p1,p2⟩:=dP.DH d (dP.kv b (cr.open h3));exact⟨rfl,ia,l,p1,dP.set p2⟩|dI i=>simp only[eS,adG]at he;subst he;cases e<;>simp only[OR]at h⊢;obtain⟨h1,h2,l,h3,k⟩:=h;obtain⟨m,p1,p2⟩:=dP.DH d (dP.kv b k);exact⟨h1,h2,m,p1.trans h3,dP.set p2⟩|_=>simp[eS]at he
theorem bz.HH{f:aP}{H1 H2:ai}{w1:World}(h0:bz P a ρ H w)(Q:cL ρ f)(h1:bz P a f H1 w1)(nx:H.next.an<=H2.next.an)(m:ab->ab)(new:ab->Prop) [DecidablePred new](c:aP)(C:c=⟨λj=>if j.an<H.next.an then ρ j else if new j then f (m j)else none,f.k⟩)(v:∀j,H.next.an<=j.an->H2.get j≠.none->new j)(A:∀j,new j->H.next.an<=j.an/\j.an<H2.next.an/\H.next.an<=(m j).an/\H1.get (m j)≠.none/\(H1.get (m j)).aM=[]/\(H1.get (m j)).lz=false/\(H2.get j).aM=[]/\(H2.get j).lz=false/\(H1.get (m j)).len=(H2.get j).len/\(∀x d,OR P f (H1.get (m j)) x d->OR P c (H2.get j) x d)/\∀q d,gS P q (H1.get (m j)) d->gS P q (H2.get j) d)(inj:∀i j,new i->new j->m i=m j->i=j)(dT:∀j,j.an<H.next.an->H2.get j≠.none->H.get j≠.none/\H1.get j≠.none/\(H1.get j).aM=(H.get j).aM/\(H2.get j).aM=(H.get j).aM/\(H1.get j).lz=(H2.get j).lz/\(H1.get j).len=(H2.get j).len/\(∀x d,OR P f (H1.get j) x d->OR P c (H2.get j) x d)/\∀q d,gS P q (H1.get j) d->gS P q (H2.get j) d):cL ρ c/\bz P a c H2 w1:=by
 have ro:∀j,j.an<H.next.an->c j=ρ j:=λj hj=>by rw[C];exact aK hj
 have rn:∀j,new j->c j=f (m j):=λj hj=>by rw[C];show(if _ then _ else _)=_;rw[aq (by have:=(A j hj).1;omega),aK hj]
 have rk:c.k=f.k:=by rw[C]
 have rz:∀j,H.next.an<=j.an->¬new j->c j=none:=λj h hj=>by rw[C];show(if _ then _ else _)=_;rw[aq af,aq hj]
 have K:∀j x,ρ j=some x->j.an<H.next.an:=λj x e=>by
  rcases akW j.an H.next.an with h|h;·exact h
  rw[(h0.eo j h).2]at e;cases e
 have M:cL ρ c:=λj x e=>⟨by rw[ro j (K j x e)];exact e,by rw[rk];exact(Q j x e).2⟩;have p:∀j,H2.get j≠.none->∃t,H1.get t≠.none/\c j=f t/\(H1.get t).lz=(H2.get j).lz/\(H1.get t).len=(H2.get j).len/\(∀x d,OR P f (H1.get t) x d->OR P c (H2.get j) x d)/\(∀q d,gS P q (H1.get t) d->gS P q (H2.get j) d)/\((j.an<H.next.an/\t=j)\/(new j/\t=m j)):=by
  intro j hj;rcases akW j.an H.next.an with hl|hl;·obtain⟨z,s,E,F,N,R,a7,S⟩:=dT j hl hj;refine⟨j,s,?_,N,R,a7,S,.inl ⟨hl,rfl⟩⟩;obtain⟨b,x,d,e,_⟩:=h0.eF j z;rw[ro j hl,e,(Q _ _ e).1]
  have n:=v j hl hj;obtain⟨z,s,E,F,N,R,a7,S,a9,W,X⟩:=A j n;exact⟨m j,F,rn j n,R.trans S.symm,a9,W,X,.inr ⟨n,rfl⟩⟩
 have o:∀i j,i∈(H2.get j).aM->j.an<H.next.an/\i∈(H.get j).aM/\H2.get j≠.none:=by
  intro i j hi;have hj:H2.get j≠.none:=λe=>by rw[e]at hi;cases hi
  rcases akW j.an H.next.an with hl|hl;·obtain⟨z,s,E,F,_⟩:=dT j hl hj;exact⟨hl,by rw[<-F];exact hi,hj⟩
  have n:=v j hl hj;rw[(A j n).2.2.2.2.2.2.1]at hi;cases hi
 have l:∀i j O J,H2.get i≠.none->H2.get j≠.none->((i.an<H.next.an/\O=i)\/(new i/\O=m i))->((j.an<H.next.an/\J=j)\/(new j/\J=m j))->O∈(H1.get J).aM->i∈(H2.get j).aM:=by
  intro i j O J hi hj Y Z r;rcases Z with⟨hl,rfl⟩|⟨n,rfl⟩
  .obtain⟨z,s,E,F,_⟩:=dT J hl hj;rw[E]at r;rcases Y with⟨ag,rfl⟩|⟨D,rfl⟩;·rw[F];exact r
   have:=(h0.aM _ _ r).1;have:=(A i D).2.2.1;omega
  rw[(A j n).2.2.2.2.1]at r;cases r
 refine⟨M,⟨?_,?_,?_,?_,?_,?_,?_,?_,?_,?_,?_,?_⟩⟩;·intro i hi;obtain⟨t,t1,B,_,_,t5,_⟩:=p i hi;obtain⟨b,x,d,e,hb,hr⟩:=h1.eF t t1;exact⟨b,x,d,by rw[B];exact e,hb,t5 x d hr⟩
 .intro i j b x y L hi hj ei ej;obtain⟨t,t1,B,_,t4,_,_,T⟩:=p i hi;obtain⟨u,u1,u2,_,u4,_,_,V⟩:=p j hj;have av:t≠u:=by
   rcases T with⟨hl,rfl⟩|⟨n,rfl⟩<;>rcases V with⟨ag,rfl⟩|⟨D,rfl⟩;·exact L
   .rintro rfl;have:=(A j D).2.2.1;omega
   .rintro rfl;have:=(A i n).2.2.1;omega
   exact λe=>L (inj i j n D e)
  rw[<-t4,<-u4];rcases h1.k6 t u b x y av t1 u1 (by rw[<-B];exact ei) (by rw[<-u2];exact ej)with⟨r,G⟩|⟨r,G⟩;·exact .inl ⟨l i j t u hi hj T V r,G⟩
  exact .inr ⟨l j i u t hj hi V T r,G⟩
 .intro i j hi;obtain⟨hl,r,hj⟩:=o i j hi;have hp:=h0.aM i j r;refine⟨ako hp.1 nx,λaw=>?_⟩;obtain⟨z,s,E,F,N,_⟩:=dT i hp.1 aw;obtain⟨b1,b2,b3,_⟩:=dT j hl hj;rw[<-N];exact(h1.aM i j (by rw[b3];exact r)).2 s
 .intro i b x hi hf e;obtain⟨t,t1,B,t3,_⟩:=p i hi;exact h1.wr t b x t1 (by rw[t3];exact hf) (by rw[<-B];exact e)
 .intro i hi;have hg:H2.get i=.none:=by apply akx;intro I;have:=(A i (v i (alj nx hi) I)).2.1;omega
  refine⟨hg,rz i (alj nx hi) λn=>?_⟩;have:=(A i n).2.1;omega
 .exact h1.new
 .intro g hg;have:=h0.mq g hg;rw[ro _ (K _ _ this)];exact this
 .intro i b x d hi e hb;obtain⟨t,t1,B,_,_,_,t6,_⟩:=p i hi;rw[rk];exact t6 _ _ (h1.ka t b x d t1 (by rw[<-B];exact e) hb)
 .intro i b x e;rcases akW i.an H.next.an with hl|hl;·rw[ro i hl]at e;exact h1.fH i b x (Q _ _ e).1
  by_cases n:new i;·rw[rn i n]at e;exact h1.fH _ b x e
  rw[rz i hl n]at e;cases e
 .intro i b x hi e;obtain⟨t,t1,B,_⟩:=p i hi;exact h1.rd t b x t1 (by rw[<-B];exact e)
 .intro i hi;obtain⟨z,s,E⟩:=h0.un i hi;refine⟨?_,ako s nx,λj hj=>E j (o i j hj).2.1⟩;apply akx;intro I;exact(dT i s I).1 z
 intro i hi;obtain⟨z,s⟩:=h0.fc i hi;exact⟨z,by rw[ro i (h0.un i z).2.1];exact s⟩
end
section
theorem HI(p:ab):∀l,zY p l=true↔p∈l|[]=>by simp[zY]|q::l=>by simp only[zY,alf,HI p l,ab.ip,aeV]
theorem HJ:∀l,D0 l=true↔l.Nodup|[]=>by trivial|p::l=>by simp only[D0,aj6,HJ l,akz,akU,<-HI];simp
theorem wg{c:ap AV}{o:Nat}{N:ab}:∀{l:List Int},N∈lb c o l↔∃k∈l,c.bw .alR (o+k.toNat)=.map N
 |[]=>by simp[lb]
 |k::l=>by
  simp only[lb];split
  .rename_i b h;rw[aeV,wg];constructor
   .rintro(e|⟨a,h1,h2⟩);·exact⟨k,aeU ..,e▸h⟩
    exact⟨a,aey _ h1,h2⟩
   rintro⟨a,h1,h2⟩;rcases aeV.1 h1 with e|e;·subst e;rw[h]at h2;injection h2 with h2;exact .inl h2.symm
   exact .inr ⟨a,e,h2⟩
  rename_i h;rw[wg];constructor;·rintro⟨a,h1,h2⟩;exact⟨a,aey _ h1,h2⟩
  rintro⟨a,h1,h2⟩;rcases aeV.1 h1 with e|e;·subst e;exact absurd h2 (h N)
  exact⟨a,e,h2⟩
theorem Ng{c:ap AV}{o:Nat}:∀{l:List Int},(lb c o l).Nodup->∀{k b:Int}{N:ab},k∈l->b∈l->c.bw .alR (o+k.toNat)=.map N->c.bw .alR (o+b.toNat)=.map N->k=b
 |[],_,_,_,_,h,_,_,_=>by grind
 |a::l,d,k,b,N,h1,h2,e1,e2=>by
  have e:(lb c o l).Nodup:=by
   simp only[lb]at d;split at d;·exact(akz.1 d).2
   exact d
  rcases aeV.1 h1 with f|f<;>rcases aeV.1 h2 with g|g;·omega
  .simp_all[lb,absurd,wg,akz]
  .simp_all[lb,absurd,wg,akz]
  exact Ng e f g e1 e2
theorem HK{c:ap AV}{o n:Nat}{m:ab}{ks:List Int}{X:ai}:∀{l:List Int}{Y:ap AV}{f:ai}{L:ap AV}{v:ai},vZ c o n m ks X l Y f=some (L,v)->(∀N t,jS X N=some t->N.an<f.next.an)->l.Nodup->(lb c o l).Nodup->(∀k∈l,∃j,k=.ofNat j/\j<n/\(c.bw .alR (o+k.toNat)=.cY\/∃N t0,c.bw .alR (o+k.toNat)=.map N/\N≠m/\jS X N=some t0/\v.get N=.dI (eG (gT (iF k ks) t0))))/\f.next.an<=v.next.an/\(∀j,j.an<f.next.an->j∉lb c o l->v.get j=f.get j)/\(∀j,v.next.an<=j.an->v.get j=f.get j)/\(∀x,(∀k∈l,c.bw .alR (o+k.toNat)=.cY->x≠o+k.toNat)->L.bw .alR x=Y.bw .alR x)/\∃nm:Int->ab,(∀k∈l,c.bw .alR (o+k.toNat)=.cY->f.next.an<=(nm k).an/\(nm k).an<v.next.an/\v.get (nm k)=.dI (eG (iF k ks))/\L.bw .alR (o+k.toNat)=.map (nm k))/\(∀k a,k∈l->a∈l->c.bw .alR (o+k.toNat)=.cY->c.bw .alR (o+a.toNat)=.cY->nm k=nm a->k=a)/\(∀j,f.next.an<=j.an->j.an<v.next.an->∃k∈l,c.bw .alR (o+k.toNat)=.cY/\nm k=j)
 |[],Y,f,L,v,h,_,_,_=>by obtain⟨rfl,rfl⟩:=h;exact⟨aB,afb _,λ_ _ _=>rfl,λ_ _=>rfl,λ_ _=>rfl,λ_=>.xH,aB,aB,λj h1 h2=>by omega⟩
 |k::l,Y,f,L,v,h,C,y,r=>by
  rw[akz]at y;simp only[vZ]at h;split at h;case h_2=>cases h
  rename_i j;split at h;case isFalse=>cases h
  rename_i D;have D:j<n:=Eq.mp akY D;have g:(ak1 j).toNat=j:=rfl;split at h
  .rename_i i;have V:(lb c o l).Nodup:=by simp only[lb,g,i]at r;exact r
   have W:∀N t,jS X N=some t->N.an<(f.new (.dI (eG (iF (.ofNat j) ks)))).next.an:=λN t F=>by have:=C N t F;show _<f.next.succ.an;rw[ab.gK];omega
   obtain⟨M,Z,G,s4,s5,nm,H,s7,O⟩:=HK h W y.2 V;have K:(f.new (.dI (eG (iF (.ofNat j) ks)))).next.an=f.next.an+1:=ab.gK _;rw[K]at Z G H O;have E:∀a∈l,c.bw .alR (o+a.toNat)=.cY->o+j≠o+a.toNat:=by
    intro a b _ e;obtain⟨j2,rfl,_⟩:=M a b;have:j=j2:=by have:(ak1 j2).toNat=j2:=rfl;omega
    subst this;exact y.1 b
   have hc:L.bw .alR (o+j)=.map f.next:=by rw[s5 _ E,nD];simp
   have hg:v.get f.next=.dI (eG (iF (.ofNat j) ks)):=by
    rw[G f.next af,ai.dJ,aK rfl];rw[wg];rintro⟨a,h1,h2⟩;obtain⟨j2,_,_,h3|⟨N,t0,h3,_,h4,_⟩⟩:=M a h1;·rw[h3]at h2;cases h2
    rw[h3]at h2;injection h2 with h2;subst h2;have:=C _ _ h4;omega
   have s:∀a∈l,a≠.ofNat j:=λa h e=>y.1 (e▸h);refine⟨?_,af,?_,?_,?_,λx=>if x=.ofNat j then f.next else nm x,?_,?_,?_⟩
   .intro k w;rcases aeV.1 w with e|e;·subst e;exact⟨j,rfl,D,.inl i⟩
    exact M k e
   .intro p B z;rw[G p af (λq=>z (by simp only[lb,g,i];exact q)),ai.dJ,aq (λe=>by rw[e]at B;omega)]
   .intro p B;rw[s4 p B,ai.dJ,aq (λe=>by rw[e]at B;omega)]
   .intro x hx;rw[s5 x (λa b d=>hx a (aey _ b) d),nD];have:=hx (.ofNat j) (aeU ..) i;rw[g]at this;rw[aq (by simp;omega)]
   .intro k w A;rcases aeV.1 w with e|e;·subst e;simp only[bq];exact⟨af,af,hg,hc⟩
    simp only[aq (s k e)];obtain⟨P,Q,R,q4⟩:=H k e A;exact⟨af,Q,R,q4⟩
   .intro k a w b u d he;rcases aeV.1 w with e|e<;>rcases aeV.1 b with e2|e2;·rw[e,e2]
    .subst e;simp only[bq,aq (s a e2)]at he;have:=(H a e2 d).1;rw[<-he]at this;omega
    .subst e2;simp only[bq,aq (s k e)]at he;have:=(H k e u).1;rw[he]at this;omega
    simp only[aq (s k e),aq (s a e2)]at he;exact s7 k a e e2 u d he
   intro p S I;by_cases e:p=f.next;·exact⟨.ofNat j,aeU ..,i,by simp[e]⟩
   have:p.an≠f.next.an:=λq=>e (ab.uC q);obtain⟨a,P,Q,R⟩:=O p af I;exact⟨a,aey _ P,Q,by simp only[aq (s a P)];exact R⟩
  .rename_i N F;split at h;case isTrue=>cases h
   rename_i J;have J:N≠m:=D6 (by simpa using J);split at h;case h_2=>cases h
   rename_i t0 T;simp only[lb,g,F]at r;rw[akz]at r;have ag:=C N t0 T;obtain⟨M,Z,G,s4,s5,nm,H,s7,O⟩:=HK h C y.2 r.2;rw[ai.gD]at Z G H O;refine⟨?_,Z,?_,?_,?_,nm,?_,?_,?_⟩
   .intro k w;rcases aeV.1 w with e|e;·subst e;refine⟨j,rfl,D,.inr ⟨N,t0,F,J,T,?_⟩⟩;rw[G N ag r.1,ai.aF,aK rfl]
    exact M k e
   .intro p B z;simp only[lb,g,F,aeV,not_or]at z;rw[G p B z.2,ai.aF,aq z.1]
   .intro p B;rw[s4 p B,ai.aF,aq (λe=>by rw[e]at B;omega)]
   .intro x hx;exact s5 x (λa b d=>hx a (aey _ b) d)
   .intro k w A;rcases aeV.1 w with e|e;·subst e;rw[g,F]at A;cases A
    exact H k e A
   .intro k a w b u d he;rcases aeV.1 w with e|e;·subst e;rw[g,F]at u;cases u
    rcases aeV.1 b with e2|e2;·subst e2;rw[g,F]at d;cases d
    exact s7 k a e e2 u d he
   intro p S I;obtain⟨a,P,Q,R⟩:=O p S I;exact⟨a,aey _ P,Q,R⟩
  cases h
section
variable[Ov]
theorem Xc.ez{ac:Nat->aG}{n t:Nat}{g:ap AV->ai->Option (ap AV×ai)}{fr:Fr}{H H':ai}{a:ap AV}{K:cP->Fr->ai->Prop}(b:ac t=.ez g)(hg:g fr.aa H=some (a,H'))(h:K .none {fr with aa:=a} H'):Xc ac (n+1) (.ez t) fr H K:=by simp[b,hg,h,Xc,exec]
theorem Vh{H:ai}{N:ab}{ks:List Int}(h:ib (H.get N) ks):jS H N=some ks:=by
 obtain⟨c,es,he,b⟩:=h;have key:∀{es:List aT}{ks:List Int},es.map aT.kv=ks.map sk->uN es=some ks:=by intro es;induction es with|nil=>intro ks h;cases ks<;>simp at h;rfl|cons a es d=>intro ks h;cases ks with|nil=>simp at h|cons k ks=>simp only[aj7,akn,aT.kv,sk,aj1]at h;simp only[uN,h.1.1,h.1.2,d h.2]
 unfold jS;rw[he];simp only[key b,(xL ks).2 c,bq]
theorem Nh{H:ai}{N:ab}{ks:List Int}(h:ib (H.get N) ks):jT H N=some ks:=by
 obtain⟨c,es,he,b⟩:=h;have key:∀{es:List aT}{ks:List Int},es.map aT.kv=ks.map sk->jR es=some ks:=by intro es;induction es with|nil=>intro ks h;cases ks<;>simp at h;rfl|cons a es d=>intro ks h;cases ks with|nil=>simp at h|cons k ks=>simp only[aj7,akn,aT.kv,sk,aj1]at h;simp only[jR,h.1.1,d h.2]
 unfold jT;rw[he];simp only[key b,(xL ks).2 c,bq]
theorem Vi{es a:List aT}{ks:List Int}(j:ks.Nodup)(h:es.map aT.kv=ks.map sk)(i:(a.map aT.kv).Perm (es.map aT.kv))(b:Nat):∃c,ib (.map a b) c/\c.Perm ks:=by
 let f:AV×AV->Int:=λp=>match p.1 with|.int _ k=>k|_=>0;have d:((a.map aT.kv).map f).Perm ks:=by
  have:=i.map f;have e:(ks.map sk).map f=ks:=by
   rw[alx];have:(f∘sk)=id:=by funext k;rfl
   rw[this,List.map_id]
  rw[h,e]at this;exact this
 refine⟨(a.map aT.kv).map f,⟨d.nodup_iff.2 j,a,rfl,?_⟩,d⟩;rw[alx];have:∀p∈a.map aT.kv,(sk∘f) p=p:=by intro p g;have:=i.mem_iff.1 g;rw[h,akk]at this;obtain⟨k,_,rfl⟩:=this;rfl
 simp_all
theorem ai.jM(H:ai)(c:∀j:ab,H.next.an<=j.an->H.get j=.none)(p:ab->Prop):∃a:ai,a.next=H.next/\∀j,(p j->a.get j=.none)/\(¬p j->a.get j=H.get j):=by
 classical
  refine⟨H.gh (((ake H.next.an).map ab.dF).filter λj=>decide (p j)),ai.kf _ _,λj=>?_⟩;rw[ai.xy];constructor
  .intro e;split;·rfl
   rename_i d;refine c j ?_;rcases akW j.an H.next.an with h|h;·exfalso;apply d;rw[alF,akk];have b:=ab.uB j;exact⟨⟨j.an - 1,ak3.2 af,ab.uC (by grind[ab.ml])⟩,by grind⟩
   omega
  grind
end
end
section
def D7:Nat->aG:=λf=>if akb f 1001 then .ez uQ else .none
theorem Vj{P:Program}:kr P D7:=by refine⟨?_,?_,?_⟩;all_goals grind[D7,aj4,M0]
theorem Vk{aa:ap AV}{H:ai}{m N s:ab}{o3:Nat}{k:Int}{b:AV}{a tN:List Int}(e:aa.get .alR (sl 4)=.map m)(f:aa.get .alR (sl 5)=.int 3 k)(h3:aa.get .alR (sl 3)=.az s o3)(i:bh H s o3=some b)(he:l6 H b k=some (.map N))(c:m≠N)(j:jT H m=some a)(l:jS H N=some tN):uQ aa H=some (kL aa uP,(H.set N (.dI (eG (gT (iF k a) tN)))).skip):=by simp_all[ab.beq,absurd,ab.ip,uQ,pq,aes,bP]
theorem cG{i j:ab}(a:i.an≠j.an):i≠j:=λe=>a (congrArg ab.an e)
structure qN(Hs:ai)(m i:ab)(c:ap AV)(o cn e fz:Nat)(ks:List Int)(t0:ab->List Int)(olds:List ab)(esx:List aT)(clock:Nat)(l:List Int)(H1:ai)(c':ap AV)(nr:Int->ab):Prop where
 nx:Hs.next.an<H1.next.an
 pt:∀j,j.an<Hs.next.an->j≠m->j≠i->j∉olds->H1.get j=Hs.get j
 mm:H1.get m=.map esx clock
 ii:H1.get i=.cells c' cn e true [] fz
 new:∀k∈l,c.bw .alR (o+k.toNat)=.cY->Hs.next.an<(nr k).an/\(nr k).an<H1.next.an/\c'.bw .alR (o+k.toNat)=.map (nr k)/\∃ks',ib (H1.get (nr k)) ks'/\∀x,x∈ks'↔x∈ks/\x≠k
 inj:∀k k2,k∈l->k2∈l->c.bw .alR (o+k.toNat)=.cY->c.bw .alR (o+k2.toNat)=.cY->nr k=nr k2->k=k2
 cc:∀x,(∀k∈l,c.bw .alR (o+k.toNat)=.cY->x≠o+k.toNat)->c'.bw .alR x=c.bw .alR x
 dT:∀k∈ks,∀N,c.bw .alR (o+k.toNat)=.map N->∃ks',ib (H1.get N) ks'/\∀x,x∈ks'↔x∈t0 N\/(k∈l/\x∈ks/\x≠k)
 only:∀j,Hs.next.an<j.an->H1.get j≠.none->∃k∈l,c.bw .alR (o+k.toNat)=.cY/\nr k=j
 sub:∀k∈l,k∈ks
theorem qN.set{Hs:ai}{m i:ab}{c:ap AV}{o g e fz:Nat}{ks:List Int}{t0:ab->List Int}{h:List ab}{q:List aT}{r:Nat}{l:List Int}{H1:ai}{d:ap AV}{p:Int->ab}(J:qN Hs m i c o g e fz ks t0 h q r l H1 d p)(f:cq)(z:m.an<Hs.next.an)(hi:i.an<Hs.next.an)(gE:∀k∈ks,∀N,c.bw .alR (o+k.toNat)=.map N->N.an<Hs.next.an):qN Hs m i c o g e fz ks t0 h q r l (H1.set Hs.next f) d p:=by
 refine⟨J.nx,λj h1 h2 h3 n=>?_,?_,?_,λk a u=>?_,J.inj,J.cc,λk a N b=>?_,λj hj hg=>?_,J.sub⟩;·rw[ai.aF,aq (cG af)];exact J.pt j h1 h2 h3 n
 .rw[ai.aF,aq (cG af)];exact J.mm
 .rw[ai.aF,aq (cG af)];exact J.ii
 .obtain⟨v,w,x,y⟩:=J.new k a u;refine⟨v,w,x,?_⟩;rw[ai.aF,aq (cG af)];exact y
 .have:=gE k a N b;rw[ai.aF,aq (cG af)];exact J.dT k a N b
 rw[ai.aF,aq (cG af)]at hg;exact J.only j hj hg
section
variable{Hs:ai}{m i s:ab}{c:ap AV}{o n g e fz o3 t:Nat}{ex:Bool}{ks:List Int}{t0:ab->List Int}{h:List ab}{q:List aT}{r:Nat}{l:List Int}{H1:ai}{d:ap AV}{p:Int->ab}
theorem Vl(fk:∀k∈ks,∃j,k=.ofNat j/\j<n/\(c.bw .alR (o+k.toNat)=.cY\/∃N,c.bw .alR (o+k.toNat)=.map N/\N≠m/\N≠i/\N.an<Hs.next.an/\N∈h))(fo:∀k f N,k∈ks->f∈ks->c.bw .alR (o+k.toNat)=.map N->c.bw .alR (o+f.toNat)=.map N->k=f)(hm:m.an<Hs.next.an)(hi:i.an<Hs.next.an)(J:qN Hs m i c o g e fz ks t0 h q r l H1 d p){I:List Int}(hx:∀x,x∈I↔x∈ks){k:Int}(V:k∈ks)(hA:¬(c.bw .alR (o+k.toNat)=.cY/\k∉l)):∃N tN,d.bw .alR (o+k.toNat)=.map N/\m≠N/\N≠i/\N≠Hs.next/\ib (H1.get N) tN/\qN Hs m i c o g e fz ks t0 h q r (l++[k]) ((H1.set N (.dI (eG (gT (iF k I) tN)))).skip) d p:=by
 have G:∀tN x,x∈gT (iF k I) tN↔(x∈ks/\x≠k)\/x∈tN:=λtN x=>by rw[oQ,uS,hx]
 have v:∀(N j:ab)(H:cq),((H1.set N H).skip).get j=if j=N then H else H1.get j:=λN j H=>ai.aF H1 N j H;have D:∀(N:ab)(H:cq),((H1.set N H).skip).next.an=H1.next.an+1:=λN H=>ab.gK _;obtain⟨j,ax,hj,L⟩:=fk k V;by_cases z:c.bw .alR (o+k.toNat)=.cY
 .have E:k∈l:=akx λay=>hA ⟨z,ay⟩;obtain⟨q1,q2,q3,tN,q4,q5⟩:=J.new k E z;have y:∀f,f∈l++[k]↔f∈l:=λf=>by simp only[ahp,aep];exact⟨λay=>ay.elim id λay=>ay▸E,.inl⟩
  refine⟨p k,tN,q3,cG af,cG af,cG af,q4,?_⟩;refine⟨by rw[D];have:=J.nx;omega,λa0 h1 h2 h3 W=>?_,?_,?_,λf u A=>?_,λa b ha hb=>J.inj a b ((y a).1 ha) ((y b).1 hb),λx K=>J.cc x λf u=>K f ((y f).2 u),λf u X w=>?_,λa0 hp hg=>?_,λf u=>J.sub f ((y f).1 u)⟩;·rw[v,aq (cG af)];exact J.pt a0 h1 h2 h3 W
  .rw[v,aq (cG af)];exact J.mm
  .rw[v,aq (cG af)];exact J.ii
  .rw[y]at u;obtain⟨F,M,r3,B,r4,r5⟩:=J.new f u A;refine⟨F,by rw[D];omega,r3,?_⟩;rw[v];by_cases he:f=k;·subst he;rw[aK rfl];exact⟨_,wc (qK _ q4.1),λx=>by rw[G,q5];simp⟩
   rw[aq λay=>he (J.inj f k u E A z ay)];exact⟨B,r4,r5⟩
  .obtain⟨B,F,M⟩:=J.dT f u X w;obtain⟨_,_,_,O|⟨N',O,_,_,ag,_⟩⟩:=fk f u;·rw[O]at w;cases w
   rw[O]at w;injection w with w;subst w;rw[v,aq (cG af)];exact⟨B,F,λx=>by rw[M,y]⟩
  rw[v]at hg;split at hg;·rename_i he;exact⟨k,(y k).2 E,z,he.symm⟩
  obtain⟨f,F,M⟩:=J.only a0 hp hg;exact⟨f,(y f).2 F,M⟩
 obtain⟨N,Y,Q,R,ag,av⟩:=L.resolve_left z;obtain⟨tN,F,M⟩:=J.dT k V N Y;have aw:d.bw .alR (o+k.toNat)=.map N:=by
  rw[J.cc _ λf u A he=>?_];·exact Y
  rw[<-he]at A;exact z A
 have C:∀f,f∈l++[k]->c.bw .alR (o+f.toNat)=.cY->f∈l:=λf ay O=>by
  rcases ahp.1 ay with ay|ay;·exact ay
  rw[aep]at ay;subst ay;exact absurd O z
 refine⟨N,tN,aw,alI Q,R,cG af,F,?_⟩;refine⟨by rw[D];have:=J.nx;omega,λa0 h1 h2 h3 W=>?_,?_,?_,λf u A=>?_,λa b ha hb S T=>J.inj a b (C a ha S) (C b hb T) S T,λx K=>J.cc x λf u=>K f (akf _ u),λf u X w=>?_,λa0 hp hg=>?_,λf u=>?_⟩;·rw[v,aq (λay:a0=N=>W (ay▸av))];exact J.pt a0 h1 h2 h3 W
 .rw[v,aq (alI Q)];exact J.mm
 .rw[v,aq (alI R)];exact J.ii
 .obtain⟨P,Z,s3,s4⟩:=J.new f (C f u A) A;refine⟨P,by rw[D];omega,s3,?_⟩;rw[v,aq (cG af)];exact s4
 .rw[v];by_cases he:f=k
  .subst he;rw[Y]at w;injection w with w;subst w;rw[aK rfl];refine⟨_,wc (qK _ F.1),λx=>?_⟩;rw[G,M];simp only[ahp,aep,or_true,true_and];constructor
   .rintro(ay|ay|ay);·exact .inr ay
    .exact .inl ay
    exact .inr ay.2
   rintro(ay|ay);·exact .inr (.inl ay)
   exact .inl ay
  rw[aq λay:X=N=>he (fo f k N u V (ay▸w) Y)];obtain⟨B,P,Z⟩:=J.dT f u X w;exact⟨B,P,λx=>by rw[Z,ahp,aep];simp[he]⟩
 .rw[v]at hg;rw[aq (cG af)]at hg;obtain⟨f,P,Z⟩:=J.only a0 hp hg;exact⟨f,akf _ P,Z⟩
 rcases ahp.1 u with ay|ay;·exact J.sub f ay
 rw[aep]at ay;rw[ay];exact V
theorem Vm(M:∀k∈ks,∃j,k=.ofNat j/\j<n/\(c.bw .alR (o+k.toNat)=.cY\/∃N,c.bw .alR (o+k.toNat)=.map N/\N≠m/\N≠i/\N.an<Hs.next.an/\N∈h))(hm:m.an<Hs.next.an)(hi:i.an<Hs.next.an)(H:m≠i)(J:qN Hs m i c o g e fz ks t0 h q r l H1 d p){w:List Int}(Q:∀x,x∈w↔x∈ks){k:Int}(R:k∈ks)(y:c.bw .alR (o+k.toNat)=.cY)(I:k∉l):d.bw .alR (o+k.toNat)=.cY/\qN Hs m i c o g e fz ks t0 h q r (l++[k]) (((((H1.new (.map [] 0)).set i (.cells (fX d (o+k.toNat) [.map H1.next]) g e true [] fz))).set H1.next (.dI (eG (gT (iF k w) [])))).skip) (fX d (o+k.toNat) [.map H1.next]) (λx=>if x=k then H1.next else p x):=by
 have P:∀x,x∈gT (iF k w) []↔(x∈ks/\x≠k):=λx=>by rw[oQ,uS,Q];simp
 have S:=J.nx;have v:∀j:ab,((((H1.new (.map [] 0)).set i (.cells (fX d (o+k.toNat) [.map H1.next]) g e true [] fz)).set H1.next (.dI (eG (gT (iF k w) [])))).skip).get j=if j=H1.next then .dI (eG (gT (iF k w) []))else if j=i then .cells (fX d (o+k.toNat) [.map H1.next]) g e true [] fz else H1.get j:=by
  intro j;show(((H1.new (.map [] 0)).set i _).set H1.next _).get j=_;rw[ai.aF];split;·rfl
  rename_i aw;rw[ai.aF];split;·rfl
  rw[ai.dJ,aq aw]
 have ag:((((H1.new (.map [] 0)).set i (.cells (fX d (o+k.toNat) [.map H1.next]) g e true [] fz)).set H1.next (.dI (eG (gT (iF k w) [])))).skip).next.an=H1.next.an+2:=by show H1.next.succ.succ.an=_;rw[ab.gK,ab.gK]
 have E:∀u∈ks,o+k.toNat=o+u.toNat->u=k:=by intro u f he;obtain⟨j,rfl,_⟩:=M k R;obtain⟨G,rfl,_⟩:=M u f;have e1:(ak1 j).toNat=j:=rfl;have e2:(ak1 G).toNat=G:=rfl;rw[e1,e2]at he;have:G=j:=af;rw[this]
 have K:d.bw .alR (o+k.toNat)=.cY:=by rw[J.cc _ λu f z he=>I (E u (J.sub u f) he▸f)];exact y
 have T:∀x,(fX d (o+k.toNat) [.map H1.next]).bw .alR x=if x=o+k.toNat then .map H1.next else d.bw .alR x:=by
  intro x;rw[nD];by_cases A:x=o+k.toNat;·subst A;simp
  rw[aq (by simp;omega),aq A]
 refine⟨K,af,λax h1 h2 h3 V=>?_,?_,?_,λu f z=>?_,λa b O hb B C he=>?_,λx D=>?_,λu f W L=>?_,λax X hg=>?_,λu f=>?_⟩;·rw[v,aq (cG af),aq h3];exact J.pt ax h1 h2 h3 V
 .rw[v,aq (cG af),aq H];exact J.mm
 .grind
 .by_cases he:u=k;·subst he;simp only[bq];refine⟨S,af,by grind,?_⟩;rw[v,aK rfl];grind[wc,qK,alD]
  have F:u∈l:=by
   rcases ahp.1 f with aw|aw;·exact aw
   rw[aep]at aw;exact absurd aw he
  simp only[aq he];obtain⟨Y,Z,s3,s4⟩:=J.new u F z;grind
 .have hl:∀x,x∈l++[k]->x≠k->x∈l:=λx aw h'=>by
   rcases ahp.1 aw with aw|aw;·exact aw
   rw[aep]at aw;exact absurd aw h'
  by_cases e1:a=k<;>by_cases e2:b=k;·rw[e1,e2]
  .simp only[aK e1,aq e2]at he;have:=(J.new b (hl b hb e2) C).2.1;rw[<-he]at this;omega
  .simp only[aK e2,aq e1]at he;have:=(J.new a (hl a O e1) B).2.1;rw[he]at this;omega
  simp only[aq e1,aq e2]at he;exact J.inj a b (hl a O e1) (hl b hb e2) B C he
 .rw[T,aq (D k aB y)];exact J.cc x λu f=>D u (akf _ f)
 .obtain⟨av,r1,r2⟩:=J.dT u f W L;grind
 .rw[v]at hg;by_cases he:ax=H1.next;·grind
  rw[aq he,aq (cG af)]at hg;obtain⟨u,Y,Z,s3⟩:=J.only ax X hg;grind
 rcases ahp.1 f with aw|aw;·exact J.sub u aw
 grind
end
end
section
theorem Ab{o:cq}{ks:List Int}(c:ib o ks):o≠.none/\o.aM=[]/\o.lz=false/\o.len=0:=by obtain⟨_,es,c,_⟩:=c;cases o<;>simp[eS]at c<;>simp[cq.aM,cq.lz,cq.len]
theorem Vn{aa:ap AV}{H:ai}{x:aJ}(e:gv aa x=.cY):aE (.eq false .map x (.c .cY)) aa H=some (.bool true,H):=by simp only[aE,e,z7];rfl
theorem Vo{aa:ap AV}{H:ai}{x:aJ}{N:ab}(e:gv aa x=.map N):aE (.eq false .map x (.c .cY)) aa H=some (.bool false,H):=by simp only[aE,e,z7];rfl
section
variable{P:Program}{Hs:ai}{m i b:ab}{c:ap AV}{o n a e fz o3 f:Nat}{ex:Bool}{ks:List Int}{t0:ab->List Int}{g:List ab}{h:List aT}{p:Nat}{l:List Int}{H1:ai}{d:ap AV}{q:Int->ab}
theorem Vp{aa:ap AV}{bI:List ab}{bG:Option ab}{k:Int}(M:∀k∈ks,∃j,k=.ofNat j/\j<n/\(c.bw .alR (o+k.toNat)=.cY\/∃N,c.bw .alR (o+k.toNat)=.map N/\N≠m/\N≠i/\N.an<Hs.next.an/\N∈g))(fo:∀k O N,k∈ks->O∈ks->c.bw .alR (o+k.toNat)=.map N->c.bw .alR (o+O.toNat)=.map N->k=O)(hm:m.an<Hs.next.an)(hi:i.an<Hs.next.an)(F:m≠i)(h3:b.an<Hs.next.an)(V:b≠m)(G:b≠i)(W:b∉g)(ay:fz<=o)(a0:o+n<=a)(X:bh Hs b o3=some (.slice i o n f ex))(P:k∈ks){z:List Int}(Y:ib (.map h p) z)(hx:∀x,x∈z↔x∈ks)(Q:aa.get .alR (sl 3)=.az b o3)(e4:aa.get .alR (sl 4)=.map m)(I:aa.get .alR (sl 5)=.int 3 k)(J:qN Hs m i c o a e fz ks t0 g h p l H1 d q):Xc D7 60 MN ⟨aa,bI,bG⟩ H1 λj fr1 D=>j=.none/\fr1.bI=bI/\fr1.bG=bG/\(∀t,t∉qL->fr1.aa.get .alR t=aa.get .alR t)/\fr1.aa.get .alR (sl 17)=aa.get .alR (sl 17)/\D.get Hs.next=H1.get Hs.next/\∃c2 s,qN Hs m i c o a e fz ks t0 g h p (l++[k]) D c2 s:=by
 obtain⟨j,A,hj,ax⟩:=M k P;have v:o+k.toNat=o+j:=by rw[A];rfl
 have hJ:=J.nx;have u:bh H1 b o3=some (.slice i o n f ex):=by rw[pW (J.pt b h3 V G W)];exact X
 have w:∀{r:ai}{y:ap AV},r.get i=.cells y a e true [] fz->bh r i (o+j)=some (y.bw .alR (o+j)):=λa1=>by unfold bh;rw[a1];simp only[show akv (o+j) a=true from alN akY af,bq]
 have B:∀{r:ai}{y:ap AV}{N:ab},r.get i=.cells y a e true [] fz->y.bw .alR (o+k.toNat)=.map N->l6 r (.slice i o n f ex) k=some (.map N):=λa1 h'=>by rw[A];simp only[l6,show akv j n=true from alN akY hj,bq,w a1];rw[<-v,h']
 have aA:∀(E:ap AV)(r:ai)(N:ab)(tN:List Int)(y c2:ap AV)(s:Int->ab),(∀t,t∉qL->E.get .alR t=aa.get .alR t)->E.get .alR (sl 17)=aa.get .alR (sl 17)->E.get .alR (sl 5)=.int 3 k->bh r b o3=some (.slice i o n f ex)->r.get i=.cells y a e true [] fz->y.bw .alR (o+k.toNat)=.map N->m≠N->r.get m=.map h p->ib (r.get N) tN->Hs.next≠N->r.get Hs.next=H1.get Hs.next->qN Hs m i c o a e fz ks t0 g h p (l++[k]) ((r.set N (.dI (eG (gT (iF k z) tN)))).skip) c2 s->Xc D7 10 (.ez 1001) ⟨E,bI,bG⟩ r λj fr1 D=>j=.none/\fr1.bI=bI/\fr1.bG=bG/\(∀t,t∉qL->fr1.aa.get .alR t=aa.get .alR t)/\fr1.aa.get .alR (sl 17)=aa.get .alR (sl 17)/\D.get Hs.next=H1.get Hs.next/\∃c2 s,qN Hs m i c o a e fz ks t0 g h p (l++[k]) D c2 s:=by
  intro E r N tN y c2 s R a2 a3 a4 a5 a6 a7 a8 a9 Z ag av;have b3:E.get .alR (sl 3)=.az b o3:=(R _ bA).trans Q;have b4:E.get .alR (sl 4)=.map m:=(R _ bA).trans e4;have aw:jT r m=some z:=Nh (by rw[a8];exact Y);have H:∀t,t∈uP->t∈qL:=bA;refine Xc.ez (n:=9) (g:=uQ) rfl (Vk b4 a3 b3 a4 (B a5 a6) a7 aw (Vh a9)) ⟨rfl,rfl,rfl,λt C=>?_,?_,?_,c2,s,av⟩;·show(kL E uP).get .alR t=_;rw[B0,aq λa1=>C (H t a1)];exact R t C
  .show(kL E uP).get .alR (sl 17)=_;rw[B0,aq bA];exact a2
  show(r.set N _).get Hs.next=_;rw[ai.aF,aq Z];exact ag
 refine Xc.ju (n:=50) (m:=10) (k:=59) af af (Xc.ju (n:=48) (m:=48) (k:=49) af af (Xc.region (n:=47) ?_));refine Xo.op (n:=46) (v:=.slice i o n f ex) (H':=H1) (jC (by simp[gv];exact Q) u) ?_;refine Xo.op (n:=45) (v:=.int 3 k) (H':=H1) (by simp[aE,gv,aQ,ap.aF,bM];exact I) ?_;refine Xo.op (n:=44) (v:=.az i (o+j)) (H':=H1) (we (n:=n) (c:=f) (e:=ex) (j:=j) (k:=3) (by simp[gv,aQ,ap.aF,bM]) (by simp[gv,aQ,ap.aF,bM];exact A) hj) ?_;refine Xo.op (n:=43) (v:=d.bw .alR (o+j)) (H':=H1) (jC (by simp[gv,aQ,ap.aF,bM]) (w J.ii)) ?_;by_cases S:c.bw .alR (o+k.toNat)=.cY/\k∉l
 .obtain⟨K,L⟩:=Vm M hm hi F J hx P S.1 S.2;rw[v]at K;refine Xo.op (n:=42) (v:=.bool true) (H':=H1) (Vn (by simp[gv,aQ,ap.aF,bM,K])) (Xo.nil (n:=41) ?_);refine Xo.op (n:=45) (v:=.slice i o n f ex) (H':=H1) (jC (by simp[gv,aQ,ap.aF,bM];exact Q) u) ?_;refine Xo.op (n:=44) (v:=.int 3 k) (H':=H1) (by simp[aE,gv,aQ,ap.aF,bM];exact I) ?_;refine Xo.op (n:=43) (v:=.map H1.next) (H':=H1.new (.map [] 0)) rfl ?_;refine Xo.op (n:=42) (v:=.az i (o+j)) (H':=H1.new (.map [] 0)) (we (n:=n) (c:=f) (e:=ex) (j:=j) (k:=3) (by simp[gv,aQ,ap.aF,bM]) (by simp[gv,aQ,ap.aF,bM];exact A) hj) ?_;have gi:(H1.new (.map [] 0)).get i=.cells d a e true [] fz:=by rw[ai.dJ,aq (cG af)];exact J.ii
  have wr:iX (H1.new (.map [] 0)) i (o+j) [.map H1.next]=some ((H1.new (.map [] 0)).set i (.cells (fX d (o+j) [.map H1.next]) a e true [] fz)):=by
   unfold iX;rw[gi];have e1:decide (fz<=o+j)=true:=by simp;omega
   have e2:decide (o+j+([.map H1.next]:List AV).length<=a)=true:=by simp;omega
   simp only[e1,e2,Bool.true_and];rfl
  refine Xo.op (n:=41) (v:=.alR) (H':=(H1.new (.map [] 0)).set i (.cells (fX d (o+j) [.map H1.next]) a e true [] fz)) ?_ (Xo.nil (n:=40) ?_);·simp only[aE,gv,aQ,ap.aF,bM,bq];simp[AV.cells,wr]
  have T:∀a':ab,a'≠i->a'≠H1.next->((H1.new (.map [] 0)).set i (.cells (fX d (o+j) [.map H1.next]) a e true [] fz)).get a'=H1.get a':=λa' p1 p2=>by rw[ai.aF,aq p1,ai.dJ,aq p2]
  rw[v]at L;refine aA _ _ H1.next [] _ _ _ ?_ ?_ ?_ ?_ (by rw[ai.aF,aK rfl]) ?_ (cG af) ?_ ?_ (cG af) ?_ L;·intro t C;have:t∉ [sl 22,sl 23,sl 24,sl 25,sl 26,sl 27,sl 28,sl 29,sl 30]:=λa1=>C ((by decide:∀t∈ [sl 22,sl 23,sl 24,sl 25,sl 26,sl 27,sl 28,sl 29,sl 30],t∈qL) t a1);simp only[aeV,aki,or_false,not_or]at this;simp[aQ,ap.aF,this]
  .simp[aQ,ap.aF,bM]
  .simp[aQ,ap.aF,bM];exact I
  .rw[pW (T b G (cG af))];exact u
  .rw[v,nD];simp
  .rw[T m F (cG af)];exact J.mm
  .rw[ai.aF,aq (cG af),ai.dJ,aK rfl];exact⟨alD,[],rfl,rfl⟩
  exact T _ (cG af) (cG af)
 obtain⟨N,tN,g1,g2,g3,g4,g5,L⟩:=Vl M fo hm hi J hx P S;have K:d.bw .alR (o+j)=.map N:=by rw[<-v];exact g1
 refine Xo.op (n:=42) (v:=.bool false) (H':=H1) (Vo (N:=N) (by simp[gv,aQ,ap.aF,bM,K])) (Xo.nil (n:=41) ?_);refine aA _ _ N tN d d q ?_ ?_ ?_ u J.ii g1 g2 J.mm g5 (alI g4) rfl L;·intro t C;have:t∉ [sl 22,sl 23,sl 24,sl 25,sl 26,sl 27,sl 28,sl 29,sl 30]:=λa1=>C ((by decide:∀t∈ [sl 22,sl 23,sl 24,sl 25,sl 26,sl 27,sl 28,sl 29,sl 30],t∈qL) t a1);simp only[aeV,aki,or_false,not_or]at this;simp[aQ,ap.aF,this]
 .simp[aQ,ap.aF,bM]
 simp[aQ,ap.aF,bM];exact I
end
end
open Classical in theorem Vq{P:Program}:xE P 1002 xN:=by
 intro Wr ρ H H' w nt fr c1 c2 x y e7 b a c9 dm dr hg hF hI k cs;injection dr with hx hy;subst hx;subst hy;unfold xN at hg;split at hg;case h_2=>grind
 rename_i m O o3 g1 g2;split at hg;case h_2=>grind
 rename_i i o n e8 ex g3;split at hg;case h_2=>grind
 rename_i ks c c5 e fz g4 g5;split at hg;case isFalse=>grind
 rename_i a3;split at hg;case h_2=>grind
 rename_i c8 HE ds;injection hg with hg;injection hg with dv dx;subst dv;subst dx;simp only[aj6,akU]at a3;obtain⟨⟨⟨dy,a6⟩,a8⟩,aw⟩:=a3;have dz:O≠i:=D6 dy;have a6:=akc a6;have a8:=akc a8;have aw:=(HJ _).1 aw;have C:=qM g4;have zP:∀j:ab,H.get j≠.none->j.an<H.next.an:=λj hj=>by
  rcases akW j.an H.next.an with h|h;·exact h
  exact absurd (hI.eo j h).1 hj
 have Z:∀N t,jS H N=some t->N.an<H.next.an:=λN t h=>zP N (Ab (qM h)).1;obtain⟨s1,s2,s3,s4,s5,nm,s6,s7,s8⟩:=HK ds Z C.1 aw;have cf:m.an<H.next.an:=Z m ks g4;have cn:i.an<H.next.an:=zP i (by rw[g5];simp);have cp:O.an<H.next.an:=by obtain⟨_,_,_,_,_,_,q,_⟩:=xU g3;exact zP O (by rw[q];simp)
 have b4:m≠i:=by rintro rfl;obtain⟨_,es,q,_⟩:=C;rw[g5]at q;simp[eS]at q
 have d0:O≠m:=by rintro rfl;obtain⟨_,es,q,_⟩:=C;obtain⟨_,_,_,_,_,_,q',_⟩:=xU g3;rw[q']at q;simp[eS]at q
 let g:=lb c o ks;have gE:∀N,N∈g->∃k∈ks,∃t0,c.bw .alR (o+k.toNat)=.map N/\N≠m/\jS H N=some t0/\HE.get N=.dI (eG (gT (iF k ks) t0)):=by
  intro N B;obtain⟨k,h1,h2⟩:=wg.1 B;obtain⟨j,_,_,h3|⟨N',t0,h3,h4,L,h6⟩⟩:=s1 k h1;·rw[h3]at h2;cases h2
  rw[h3]at h2;injection h2 with h2;subst h2;exact⟨k,h1,t0,h3,h4,L,h6⟩
 have d1:i∉g:=λh=>by obtain⟨_,_,t0,_,_,L,_⟩:=gE i h;obtain⟨_,es,q,_⟩:=qM L;rw[g5]at q;simp[eS]at q
 have d2:O∉g:=λh=>by obtain⟨_,_,t0,_,_,L,_⟩:=gE O h;obtain⟨_,es,q,_⟩:=qM L;obtain⟨_,_,_,_,_,_,q',_⟩:=xU g3;rw[q']at q;simp[eS]at q
 let hl:ab->Prop:=λj=>(H.get j).oR/\j≠O/\j≠i/\j≠m/\j∉g;have d3:¬hl O:=λh=>h.2.1 rfl;have d4:¬hl i:=λh=>h.2.2.1 rfl;have d5:¬hl m:=λh=>h.2.2.2.1 rfl;have d6:∀N,N∈g->¬hl N:=λN B h=>h.2.2.2.2 B;have a9:∀j,H.next.an<=j.an->¬hl j:=λj hj h=>h.1.2.2 (hI.eo j hj).1;obtain⟨Hs,s,ax⟩:=H.jM (λj h=>(hI.eo j h).1) hl;have W:bz P (Wr.ku ρ hl λ_=>False) ρ Hs w:=hI.nH (λi h=>h.1) (λ_ h=>h.elim) s (λj=>by
  by_cases h:hl j;·exact .inr ((ax j).1 h)
  exact .inl ((ax j).2 h)) (λj h=>(ax j).1 h);have S:∀j,¬hl j->Hs.get j=H.get j:=λj h=>(ax j).2 h;let p:ai:=((HE.set i (.cells c8 c5 e true [] fz)).set m (.dI (eG ks))).skip;have r:∀j,p.get j=if j=m then .dI (eG ks)else if j=i then .cells c8 c5 e true [] fz else HE.get j:=λj=>by
  show((HE.set i _).set m _).get j=_;rw[ai.aF];split;·rfl
  rw[ai.aF]
 have K:p.next.an=HE.next.an+1:=ab.gK _;have b0:∀j:ab,p.next.an<=j.an->p.get j=.none:=λj hj=>by rw[K]at hj;rw[r,aq (cG af),aq (cG af),s4 j af];exact(hI.eo j af).1
 obtain⟨Rs,a',b5⟩:=p.jM b0 hl;have gr:∀j,¬hl j->Rs.get j=p.get j:=λj h=>(b5 j).2 h;have fk:∀k∈ks,∃j,k=.ofNat j/\j<n/\(c.bw .alR (o+k.toNat)=.cY\/∃N,c.bw .alR (o+k.toNat)=.map N/\N≠m/\N≠i/\N.an<Hs.next.an/\N∈g):=by
  intro k z;obtain⟨j,h1,h2,h3|⟨N,t0,h3,h4,L,h6⟩⟩:=s1 k z;·exact⟨j,h1,h2,.inl h3⟩
  have B:N∈g:=wg.2 ⟨k,z,h3⟩;exact⟨j,h1,h2,.inr ⟨N,h3,h4,λh=>d1 (h▸B),by rw[s];exact Z N t0 L,B⟩⟩
 have fo:∀k k2 N,k∈ks->k2∈ks->c.bw .alR (o+k.toNat)=.map N->c.bw .alR (o+k2.toNat)=.map N->k=k2:=λk k2 N h1 h2 h3 h4=>Ng aw h1 h2 h3 h4;have ag:m.an<Hs.next.an:=by rw[s];exact cf
 have av:i.an<Hs.next.an:=by rw[s];exact cn
 have b3:O.an<Hs.next.an:=by rw[s];exact cp
 have d7:bh Hs O o3=some (.slice i o n e8 ex):=by rw[pW (S O d3)];exact g3
 obtain⟨b6,a4,cv,cx⟩:=xR (Nh C);have cy:b6.map aT.kv=ks.map sk:=by obtain⟨_,es,M,q2⟩:=C;rw[a4]at M;injection M with M;subst M;exact q2
 let t0:ab->List Int:=λN=>(jS H N).getD [];have d8:fr=⟨fr.aa,fr.bI,fr.bG⟩:=rfl;have cE:jh P (Wr.ku ρ hl λ_=>False) ρ nt w b k cs (lone (b.atR a (.code (.seq c1 c2)::k)) cs w) λj fr1 H1=>j=.none/\fr1={fr with aa:=kL fr.aa qL}/\H1=Rs:=by
  refine Hw Vj c9 dm (cQ:=qL) bA bA bA bA bA bA bA bA bA bA bA bA bA hF W (m:=m) (es:=b6) (ks:=ks) (by rw[S m d5];exact a4) cv 20 60 ?_ (J:=λu d l H1=>(∃G,ib (.map u d) G/\∀x,x∈G↔x∈ks)/\∃c' T,qN Hs m i c o c5 e fz ks t0 g u d l H1 c' T) ?_ ?_ ?_ ?_ ?_ k cs
  .intro u d;rw[d8];refine Xc.region (n:=19) ?_;refine Xo.op (n:=18) (v:=.map m) (H':=Hs.set m (.map u d)) (by simp[aE,gv,g1]) ?_;refine Xo.op (n:=17) (v:=.az Hs.next 0) (H':=(Hs.set m (.map u d)).new (.mapIter (some m) d [] d)) (by simp[aE,gv,aQ,ap.aF,bM,ai.aF];rfl) (Xo.nil (n:=16) ?_);refine⟨rfl,rfl,rfl,?_,?_,rfl⟩;·intro t ht;have:t∉ [sl 16,sl 17]:=λh=>ht ((by decide:∀t∈ [sl 16,sl 17],t∈qL) t h);simp only[aeV,aki,or_false,not_or]at this;simp[aQ,ap.aF,this]
   simp[aQ,ap.aF,bM]
  .intro u d hp;obtain⟨G,M,q2⟩:=Vi cx cy hp d;refine⟨⟨G,M,λx=>q2.mem_iff⟩,c,λ_=>.xH,?_⟩;have F:∀j:ab,((Hs.set m (.map u d)).new (.mapIter (some m) d [] d)).get j=if j=Hs.next then .mapIter (some m) d [] d else if j=m then .map u d else Hs.get j:=λj=>by rw[ai.dJ,ai.gD,ai.aF]
   refine⟨by show Hs.next.an<Hs.next.succ.an;rw[ab.gK];omega,λj h1 h2 h3 h4=>?_,?_,?_,aB,aB,λ_ _=>rfl,λk z N B=>?_,λj hj hg=>?_,aB⟩;·rw[F,aq (cG af),aq h2]
   .rw[F,aq (cG af),aK rfl]
   .rw[F,aq (cG af),aq (alI b4),S i d4];exact g5
   .obtain⟨_,_,_,h'|⟨N',h',d',_,b',ca⟩⟩:=fk k z;·rw[h']at B;cases B
    rw[h']at B;injection B with B;subst B;obtain⟨_,_,tt,_,_,L,_⟩:=gE N' ca;rw[F,aq (cG af),aq d',S N' (d6 N' ca)];refine⟨tt,qM L,λx=>?_⟩;have:t0 N'=tt:=by show(jS H N').getD []=tt;rw[L];rfl
    rw[this];simp
   rw[F,aq (cG af),aq (cG af)]at hg;rw[s]at hj;rw[S j (a9 j af)]at hg;exact absurd (hI.eo j af).1 hg
  .rintro u d l H1 it⟨M,c',T,J⟩;refine⟨M,c',T,J.set it ag av λk z N B=>?_⟩;obtain⟨_,_,_,h'|⟨N',h',_,_,b',_⟩⟩:=fk k z;·rw[h']at B;cases B
   rw[h']at B;injection B with B;subst B;exact b'
  .rintro u d l H1⟨_,c',T,J⟩;exact J.mm
  .rintro u d l aa H1 kk ea⟨⟨G,M,q2⟩,c',T,J⟩he eb;have e':aa.get .alR (sl 3)=.az O o3:=(he _ bA).trans g2;have fa:aa.get .alR (sl 4)=.map m:=(he _ bA).trans g1;refine(Vp fk fo ag av b4 b3 d0 dz d2 a6 a8 d7 ea M q2 e' fa eb J).mono (afb _) ?_;rintro j fr1 H2⟨r1,r2,r3,r4,r5,r6,ec,ei,J2⟩;exact⟨r1,r2,r3,λt ht=>(r4 t ht).trans (he t ht),r5,r6,⟨G,M,q2⟩,ec,ei,J2⟩
  rintro u d l H1 Q w' R⟨⟨G,ba,ej⟩,c',T,J⟩ay ek _;let new:ab->Prop:=λj=>∃k,k∈ks/\c.bw .alR (o+k.toNat)=.cY/\nm k=j;let σ:ab->ab:=λj=>if h:new j then T (Classical.choose h)else j;have a0:∀k,k∈ks->c.bw .alR (o+k.toNat)=.cY->σ (nm k)=T k:=by intro k z hn;have X:new (nm k):=⟨k,z,hn,rfl⟩;have D:=Classical.choose_spec X;have:Classical.choose X=k:=s7 _ _ D.1 z D.2.1 hn D.2.2;show(if h:new (nm k)then T (Classical.choose h)else nm k)=T k;rw[dif_pos X,this]
  let a1:aP:=⟨λj=>if j.an<Hs.next.an then ρ j else if new j then Q (σ j)else none,Q.k⟩;have c3:∀k,k∈ks->c.bw .alR (o+k.toNat)=.cY->a1 (nm k)=Q (T k):=by intro k z hn;have X:new (nm k):=⟨k,z,hn,rfl⟩;have:=(s6 k z hn).1;show(if(nm k).an<Hs.next.an then ρ (nm k)else if new (nm k)then Q (σ (nm k))else none)=_;rw[aq (by rw[s];omega),aK X,a0 k z hn]
  have a5:cL ρ a1:=by
   intro j x hj;refine⟨?_,(ay j x hj).2⟩;show(if j.an<Hs.next.an then ρ j else _)=_;rcases akW j.an Hs.next.an with h|h;·rw[aK h];exact hj
   rw[(W.eo j h).2]at hj;cases hj
  refine⟨a1,bz.HH W ay ek (by rw[a',K,s];omega) σ new a1 rfl ?_ ?_ ?_ ?_⟩
  .intro j hj hg;rw[s]at hj;rw[gr j (a9 j hj),r,aq (cG af),aq (cG af)]at hg;rcases akW j.an HE.next.an with h|h;·obtain⟨k,h1,h2,h3⟩:=s8 j hj h;exact⟨k,h1,h2,h3⟩
   rw[s4 j h]at hg;exact absurd (hI.eo j hj).1 hg
  .rintro j⟨k,z,hn,rfl⟩;obtain⟨M,q2,q3,q4⟩:=s6 k z hn;obtain⟨r1,r2,r3,el,r4,r5⟩:=J.new k ((R k).2 z) hn;have et:Rs.get (nm k)=.dI (eG (iF k ks)):=by rw[gr _ (a9 _ M),r,aq (cG af),aq (cG af)];exact q3
   have D:=Ab r4;rw[a0 k z hn,et];refine⟨by rw[s];exact M,by rw[a',K];omega,af,D.1,D.2.1,D.2.2.1,rfl,rfl,D.2.2.2,λx V f=>OR.xS r4 ?_ f,λq V _=>by simp[gS]⟩;refine(List.perm_ext_iff_of_nodup r4.1 (D3 C.1)).2 λx=>?_;rw[r5,uS]
  .rintro j1 j2⟨k1,h1,n1,rfl⟩⟨k2,h2,n2,rfl⟩he;rw[a0 k1 h1 n1,a0 k2 h2 n2]at he;rw[J.inj k1 k2 ((R k1).2 h1) ((R k2).2 h2) n1 n2 he]
  intro j hj hg;rw[s]at hj;have E:¬hl j:=λh=>hg ((b5 j).1 h);rw[gr j E]at hg⊢;rw[S j E];by_cases e1:j=m
  .subst e1;have p1:=Ab C;have p2:=Ab ba;have hr:p.get j=.dI (eG ks):=by rw[r,aK rfl]
   rw[hr,J.mm];refine⟨p1.1,aB,p1.2.1▸rfl,p1.2.1▸rfl,rfl,rfl,λx V f=>OR.xS ba ?_ f,λq V _=>by simp[gS]⟩;exact(List.perm_ext_iff_of_nodup ba.1 C.1).2 ej
  by_cases e2:j=i
  .subst e2;have hr:p.get j=.cells c8 c5 e true [] fz:=by rw[r,aq e1,aK rfl]
   rw[hr,J.ii,g5];refine⟨aB,aB,rfl,rfl,rfl,rfl,λx V f=>?_,λq V hq=>?_⟩
   .obtain⟨fb,x0,cd,_,_,A⟩:=W.eF j (by rw[S j E,g5];simp);rw[S j E,g5]at A;cases cd<;>simp only[OR]at A;cases V<;>simp only[OR]at f⊢;refine⟨f.1,f.2.1,λy hy=>?_,f.2.2.2⟩;obtain⟨v,ew,I⟩:=f.2.2.1 y hy;refine⟨v,ew,?_⟩;by_cases z:∃k,k∈ks/\c.bw .alR (o+k.toNat)=.cY/\y=o+k.toNat
    .obtain⟨k,bb,bc,eY⟩:=z;subst eY;rw[(s6 k bb bc).2.2.2];rw[(J.new k ((R k).2 bb) bc).2.2.1]at I;cases v with
     |map e6=>cases e6 with|none=>simp[VR]at I|some e6=>simp only[VR]at I⊢;rw[c3 k bb bc];exact I
     |_=>simp[VR]at I
    have h1:c'.bw .alR y=c.bw .alR y:=J.cc y λk bd bv he=>z ⟨k,(R k).1 bd,bv,he⟩;have h2:c8.bw .alR y=c.bw .alR y:=s5 y λk bd bv he=>z ⟨k,bd,bv,he⟩;rw[h1]at I;rw[h2];obtain⟨v0,_,e0⟩:=A.2.2.1 y hy;exact VR.mono a5 _ _ (VR.gN ay _ _ _ e0 I)
   cases V<;>simp only[gS]at hq⊢;exact hq
  by_cases e3:j∈g
  .obtain⟨k,z,tt,h3,h4,L,h6⟩:=gE j e3;have hr:p.get j=.dI (eG (gT (iF k ks) tt)):=by rw[r,aq e1,aq e2];exact h6
   obtain⟨el,r1,r2⟩:=J.dT k z j h3;have p1:=Ab (qM L);have p2:=Ab r1;rw[hr];refine⟨p1.1,p2.1,p2.2.1.trans p1.2.1.symm,p1.2.1▸rfl,p2.2.2.1,p2.2.2.2,λx V f=>OR.xS r1 ?_ f,λq V _=>by simp[gS]⟩;refine(List.perm_ext_iff_of_nodup r1.1 (qK _ (qM L).1)).2 λx=>?_;have:t0 j=tt:=by show(jS H j).getD []=tt;rw[L];rfl
   rw[r2,this,oQ,uS,R];constructor
   .rintro(h|⟨_,h⟩);·exact .inr h
    exact .inl h
   rintro(h|h);·exact .inr ⟨z,h⟩
   exact .inl h
  have h1:H1.get j=H.get j:=by rw[J.pt j (by rw[s];exact hj) e1 e2 e3,S j E]
  have hr:p.get j=H.get j:=by rw[r,aq e1,aq e2,s3 j hj e3]
  rw[hr]at hg⊢;rw[h1];refine⟨hg,hg,rfl,rfl,rfl,rfl,λx V f=>?_,λq V hq=>hq⟩;obtain⟨fb,x0,cd,_,_,A⟩:=W.eF j (by rw[S j E];exact hg);rw[S j E]at A;have a2:∃c n e Y aM fz,H.get j=.cells c n e Y aM fz:=by
   by_cases h3:j=O;·obtain⟨c,n,e,Y,aM,fz,q,_⟩:=xU g3;rw[h3];exact⟨c,n,e,Y,aM,fz,q⟩
   have e4:¬(H.get j).oR:=λh=>E ⟨h,h3,e2,e1,e3⟩;cases ho:H.get j with|cells c n e Y aM fz=>exact⟨c,n,e,Y,aM,fz,rfl⟩|none=>exact absurd ho hg|_=>exact absurd ⟨by rw[ho];rfl,by rw[ho];rfl,hg⟩ e4
  obtain⟨_,_,_,_,_,_,hc⟩:=a2;rw[hc]at f A⊢;exact OR.mono a5 (OR.Nf ay A f)
 obtain⟨j,fe,H',Q,fd,w',t,⟨rfl,rfl,rfl⟩,q2,q3,q4,q5,q6,q7⟩:=cE;have e5:∀j,hl j->p.get j=H.get j:=λj h=>by rw[r,aq h.2.2.2.1,aq h.2.2.1,s3 j (zP j h.1.2.2) h.2.2.2.2]
 obtain⟨u1,u2⟩:=hI.HG (λj h=>h.1) q2 q4 q5 (H2:=p) a'.symm e5 (λj h=>(gr j h).symm);exact⟨.none,_,p,Q,fd,w',t,⟨rfl,rfl,rfl⟩,q2,q3,u1,u2,q6,q7⟩
section
variable[Ov]
variable{P:Program}
theorem bz.grow{c:cU}{f:aP}{H:ai}{w w':World}{os:Array Obj}(h:bz P c f H w)(g:w'.heap=w.heap++os)(j:w'.os=w.os)(l:w'.tape=w.tape)(hu:w'.output=w.output):bz P c f H w'/\eC c w w':=by
 have hs:w.heap.size<=w'.heap.size:=by rw[g];simp
 have hb:∀b,b<w.heap.size->w'.heap[b]?=w.heap[b]?:=λb hb=>by rw[g,Array.getElem?_append_left hb]
 have hl:∀{b:Nat}{a:Obj},w.heap[b]?=some a->b<w.heap.size:=λe=>(Array.getElem?_eq_some_iff.1 e).1;refine⟨⟨?_,h.k6,h.aM,h.wr,h.eo,λk d=>h.new k (alj hs d),h.mq,?_,λi b x e=>ako (h.fH i b x e) hs,h.rd,h.un,h.fc⟩,⟨j,l,hu,hs,λk d _=>hb k d⟩⟩;·intro i hi;obtain⟨b,x,a,e,h1,h2⟩:=h.eF i hi;grind
 intro i b x a hi e h1;rw[hb b (h.fH i b x e)]at h1;exact h.ka i b x a hi e h1
structure HL(P:Program)(f:FuncId):Prop where
 fn:∃fn,P.funcs[f]?=some fn/\(fn.name== "runtime.NumGoroutine")=false/\fn.body.isNone=false
theorem HM{f:FuncId}(l:HL P f){j:cU}{k:aP}{w:World}{argv:Array Value}{R:Ending->World->Prop}(m:Calls P f argv w R){v:AV}{d:ai}(n:∀e a,R e a->∃c,e=.returned c/\dp P j k w v d c a)(fr:Frame)(cs:List Frame)(hat:sW fr):zH P j k w (callFunc f argv) fr cs λo g=>o=v/\g=d:=by
 obtain⟨fn,h1,h2,h3⟩:=l.fn;have b:(callFunc f argv).run P w=.ok (.enter f argv) w:=by simp only[callFunc,Sem.run_bind,run_program,Result.andThen_ok,h1,h2,h3,aes,bP,Sem.run_pure]
 obtain⟨e,a,r,p,h,_,i⟩:=m (fr::cs);obtain⟨c,rfl,q⟩:=n e a p;refine⟨v,d,c,a,_,_,_,⟨rfl,rfl⟩,q,LS hat b,?_⟩;exact Steps.trans h (.one (step_leave_returned i))
theorem HN(x:Int):∀l,(nJ x l).Perm (x::l)
 |[]=>alM _
 |y::l=>by
  simp only[nJ];split;·exact((HN x l).cons y).trans (akS x y l)
  rfl
theorem wi:∀l,(gj l).Perm l|[]=>alM _|x::l=>(HN x (gj l)).trans ((wi l).cons x)
theorem Ni(x:Int):∀l,l.Pairwise (·<=·)->(nJ x l).Pairwise (·<=·)
 |[],_=>by simp[nJ]
 |y::l,h=>by
  simp only[nJ];rw[alq]at h;split
  .rename_i a;rw[nG]at a;have a:y<x:=by simpa using a
   rw[alq];refine⟨λz b=>?_,Ni x l h.2⟩;grind[HN]
  grind[nG,alq]
theorem Ac:∀l,(gj l).Pairwise (·<=·)|[]=>alQ|x::l=>Ni x _ (Ac l)
theorem D8:∀{l m:List Int},l.Pairwise (·<=·)->m.Pairwise (·<=·)->l.Perm m->l=m
 |[],m,_,_,h=>(List.nil_perm.1 h).symm
 |a::l,[],_,_,h=>by simp at h
 |a::l,b::m,h1,h2,h=>by
  rw[alq]at h1 h2;have d:a=b:=by
   have f:a∈b::m:=h.mem_iff.1 (aeU ..);have hb:b∈a::l:=h.mem_iff.2 (aeU ..);rcases aeV.1 f with e|e;·exact e
   rcases aeV.1 hb with c|c;·exact c.symm
   have:=h1.1 b c;have:=h2.1 a e;omega
  subst d;rw[D8 h1.2 h2.2 ((List.perm_cons a).1 h)]
theorem Vr{a ks:List Int}(h:a.Perm ks):(a.mergeSort λx y=>decide (x<=y))=gj ks:=by grind[D8,Ac,List.mergeSort_perm,trans,wi,List.pairwise_mergeSort,decide]
def xX(c:ap AV):Nat->Nat->Option (List Int)
 |_,0=>some []
 |o,n+1=>match c.bw .alR o,xX c (o+1) n with
  |.int 3 z,some l=>some (z::l)
  |_,_=>none
theorem Nj{c:ap AV}:∀{n o:Nat}{a:List Int},xX c o n=some a->a.length=n/\∀i(h:i<a.length),c.bw .alR (o+i)=.int 3 (a[i])
 |0,o,a,h=>by simp_all[xX,adG]
 |n+1,o,a,h=>by
  simp only[xX]at h;split at h;·rename_i z l h1 h2;injection h with h;subst h;obtain⟨b,d⟩:=Nj h2;grind
  grind
def tb(args:List AV)(H:ai):Option (AV×ai):=
 match args with
 |[.aS]=>some (.tuple [],H)
 |[.slice id 0 n _ _]=>match H.get id with
  |.cells c m 3 true aM 0=>if akb m n&&akv 0 n&&ak2 n 4000000 then match xX c 0 n with
    |some a=>some (.tuple [],(H.gh aM).set id (.cells (db ((gj a).map λz=>.int 3 z)) n 3 true [] 0))
    |none=>none
   else none
  |_=>none
 |_=>none
open Go.Sort in theorem Vs{f:FuncId}(Y:HL P f)(hs:∀(aH off cap:Nat)(d:List Int)(w:World),Holds (Value.int .i64) w aH off d.toArray->aH<w.heap.size->d.length<4611686018427387904->Calls P f #[.slice (some ⟨aH,off,none⟩) d.length cap] w λe w'=>e=.returned (.tuple #[])/\∃n os,w'=grow (putRow (Value.int .i64) (Sort.ahead w n) aH off (d.mergeSort λx y=>decide (x<=y)).toArray) os)(hn:∀(p:Option Addr)(cap:Nat)(w:World),Calls P f #[.slice p 0 cap] w λe w'=>e=.returned (.tuple #[])/\w'=w):xD P f tb:=by
 intro Z Q H H' w args v argv hg o N fr cs hat;unfold tb at hg;split at hg
 .injection hg with hg;injection hg with A B;subst A;subst B;obtain⟨l⟩:=argv;cases l with
  |nil=>trivial
  |cons c l=>
   cases l with
   |cons _ _=>simp[bj]at o
   |nil=>
    simp only[bj,and_true]at o;have hc:c=.slice none 0 0:=by exact o.nF
    subst hc;refine HM Y (hn none 0 w) ?_ fr cs hat;rintro e w'⟨rfl,rfl⟩;exact⟨_,rfl,dp.bX N (by trivial)⟩
 .rename_i id n cap ex;split at hg;case h_2=>cases hg
  rename_i c m aM u;split at hg;case isFalse=>cases hg
  rename_i r;simp only[aj6]at r;obtain⟨⟨C,G⟩,I⟩:=r;have C:=aj4 C;subst C;have G:0<m:=Eq.mp akY G;have I:=akc I;split at hg;case h_2=>cases hg
  rename_i d hz;injection hg with hg;injection hg with A B;subst A;subst B;obtain⟨J,T⟩:=Nj hz;obtain⟨l⟩:=argv;cases l with
  |nil=>simp[bj]at o
  |cons cv l=>
   cases l with
   |cons _ _=>simp[bj]at o
   |nil=>
    simp only[bj,and_true]at o;obtain⟨b,x,ob,R,K,q,D⟩:=N.aH (i:=id) (by rw[u];simp);have V:∃cc,cv=.slice (some ⟨b,x,none⟩) m cc:=by
     cases cv with
     |slice a n' cc=>cases a with|none=>simp[VR]at o|some a=>simp only[VR]at o;obtain⟨h1,h2,h3,h4,b',x',O,h5,h6⟩:=o;rw[R]at O;injection O with O;injection O with q1 q2;subst q1;subst q2;rw[h5 af,h1];exact⟨cc,rfl⟩
     |_=>simp[VR]at o
    obtain⟨cc,rfl⟩:=V;rw[u]at D;cases ob<;>simp only[OR]at D;rename_i cells el fz;obtain⟨rfl,W,M,s⟩:=D;have hH:Holds (Value.int .i64) w b x d.toArray:=by
     intro j hj;have L:j<d.length:=by simpa using hj
     obtain⟨y,hy,S⟩:=M j af;have:=T j L;rw[akh]at this;rw[this]at S;constructor
     .simp only[World.cell?,q,Option.isSome_none,aes,bP,hy];cases y<;>simp only[VR]at S;rename_i kk z;obtain⟨h1,h2⟩:=S;have:kk=.i64:=by cases kk<;>simp[kc]at h1<;>rfl
      subst this;rw[<-h2];simp[getElem!_pos,L]
     have:=s trivial (x+j) af af;obtain⟨lo,hi⟩:=fz;simp only[World.frozen?,q];simp only at this;simp;omega
    have g:=hs b x cc d w hH K af;rw[J]at g;refine HM Y g ?_ fr cs hat;rintro e w'⟨rfl,k,os,rfl⟩;refine⟨_,rfl,?_⟩;rw[Vr (alM d)];have X:(gj d).length=m:=by rw[(wi d).length_eq,J]
    have t:bz P Z Q ((H.gh aM).set id (.cells (db ((gj d).map λz=>.int 3 z)) m 3 true [] 0)) {w with heap:=w.heap.setIfInBounds b (.cells (putCells (Value.int .i64) x (gj d).toArray cells) 3 fz)}/\eC Z w {w with heap:=w.heap.setIfInBounds b (.cells (putCells (Value.int .i64) x (gj d).toArray cells) 3 fz)}:=by
     have:=N.sS (i:=id) (b:=b) (x:=x) (o':=.cells (db ((gj d).map λz=>.int 3 z)) m 3 true [] 0) (ob':=.cells (putCells (Value.int .i64) x (gj d).toArray cells) 3 fz) (w':={w with heap:=w.heap.setIfInBounds b (.cells (putCells (Value.int .i64) x (gj d).toArray cells) 3 fz)}) (by rw[u];simp) (by rw[u];rfl) R rfl ?_ ?_ rfl rfl rfl rfl;·rw[u]at this;exact this
     .simp only[OR];refine⟨trivial,by simp[putCells];exact W,λi hi=>?_,λ_ i h1 h2=>s trivial i h1 (by simpa[putCells]using h2)⟩;have E:i<(gj d).length:=af;refine⟨.int .i64 ((gj d)[i]),?_,?_⟩;·simp only[putCells,Array.getElem?_mapIdx];rw[getElem?_pos cells (x+i) af];simp[X,hi,E,getElem!_pos]
      rw[pR _ _ (by simpa using E)];simp[List.getD,E,VR,kc]
     have h:=N.ka id b x _ (by rw[u];simp) R q;rw[u]at h;simp only[gS]at h⊢;rw[h];simp[putCells]
    have F:(grow (putRow (Value.int .i64) (Sort.ahead w k) b x (gj d).toArray) os).heap=w.heap.setIfInBounds b (.cells (putCells (Value.int .i64) x (gj d).toArray cells) 3 fz)++os:=by
     show(w.heap.modify b (onCells _))++os=_;congr 1;apply Array.ext_getElem?;intro i;rw[Array.getElem?_modify,akr];by_cases hi:b=i;·subst hi;rw[aK rfl,aK rfl,q,aK K];rfl
     rw[aq hi,aq hi]
    obtain⟨u1,u2⟩:=bz.grow t.1 (w':=grow (putRow (Value.int .i64) (Sort.ahead w k) b x (gj d).toArray) os) (os:=os) F rfl rfl rfl;exact⟨Q,cL.refl Q,by simp[VR,bj],u1,t.2.trans u2⟩
 grind
end
section
def HO(b a:Nat):bt:=.seq (.region [bQ 2 (.bg (.c .aS))]) (.seq (.region [bQ 3 (.bg (tt 0)),bQ 4 (.call (.c (.func b [] [])) [tt 3]),bQ 5 (.call (.c (.func a [] [])) [tt 4]),bQ 2 (.bg (tt 5))]) .ret)
def D9(a b:Nat):bt:=.seq (.region [bQ 2 (.bg (.c .aS))]) (.seq (.region [bQ 4 (.bg (tt 0)),bQ 5 (.call (.c (.func a [] [])) [tt 4]),bQ 3 (.bg (tt 5))]) (.seq (.region [bQ 6 (.bg (tt 3)),bQ 7 (.call (.c (.func b [] [])) [tt 6])]) (.seq (.region [bQ 8 (.bg (tt 3)),bQ 2 (.bg (tt 8))]) .ret)))
def Ea(a e1:Nat):bt:=.seq (.region [bQ 1 (.box e1 (tt 0)),bQ 2 (.bg (.c .nilFunc))]) (.seq (.region [bQ 3 (.iP a [] [tt 1]),bQ 2 (.bg (tt 3))]) .ret)
def B7(a:Nat):bt:=.seq (.region [bQ 2 (.bg (.c .aS))]) (.seq (.region [bQ 3 (.bg (tt 0)),bQ 4 (.call (.c (.func a [] [])) [.c .aS,tt 3]),bQ 2 (.bg (tt 4))]) .ret)
def Vt:bt:=.seq (.region [bQ 10 (.bg (tt 0)),bQ 11 (.bg (tt 3)),bQ 12 (.call (tt 10) [tt 11]),bQ 13 (.unary .not (tt 12))]) (.cond (tt 13) .ret .skip)
def Eb:bt:=.seq (.region [bQ 4 (.aW (tt 1)),bQ 5 (.pe (tt 4))]) (rX 0 1 (sl 5) (sl 6) (sl 7) (sl 8) (sl 9) (sl 3) Vt)
def wl:bt:=.region [bQ 5 (.bg (tt 7))]
def wm:bt:=.block 1 (.region [bQ 8 (.aW (tt 2)),bQ 9 (.bg (tt 5)),bQ 10 (.buildSlice 3 1 [.int 3 (.ofNat 0)] [(0,1,tt 9)]),bQ 11 (.append 3 8 1 [.int 3 (.ofNat 0)] false (tt 8) (tt 10)),rN (.store 1 (tt 2) (tt 11))])
def xY(e2:Nat):bt:=.seq (.region [bQ 2 (.box e2 (tt 0)),bQ 4 (.bg (.c .aS))]) (.seq (.seq (.region [bQ 6 (.bg (tt 1))]) (.block 0 (.rangeFunc (tt 6) [sl 7] wl wm))) (.seq (.region [bQ 12 (.aW (tt 2)),bQ 4 (.bg (tt 12))]) .ret))
section
variable[Ov]
variable{ac:Nat->aG}
theorem HP{c:ap AV}{n:Nat}:∀{l:List Int}{o:Nat},o+l.length<=n->(∀i(h:i<l.length),c.bw .alR (o+i)=.int 3 (l[i]))->iI c n o l.length=some (l.map λz=>.int 3 z)|[],o,_,_=>by rfl|z::l,o,h,hg=>by simp only[akA,iI,aj7];have h0:c.bw .alR o=.int 3 z:=hg 0 aB;have a:=HP (c:=c) (n:=n) (l:=l) (o:=o+1) (by simp at h;omega) (λi hi=>by have:=hg (i+1) (by simpa using hi);rw[show o+(i+1)=o+1+i by omega]at this;simpa using this);grind
def tc(H:ai)(lo:Nat)(l:List Int)(a:AV):Prop:=
 (l=[]/\a=.aS)\/∃id c aM,a=.slice id 0 l.length l.length false/\l≠ []/\lo<id.an/\id.an<H.next.an/\H.get id=.cells c l.length 3 true aM 0/\(∀i(h:i<l.length),c.bw .alR i=.int 3 (l[i]))/\∀p∈aM,lo<p.an
theorem tc.frame{H a:ai}{lo:Nat}{l:List Int}{b:AV}(h:tc H lo l b)(f:H.next.an<=a.next.an)(hg:∀j:ab,lo<j.an->j.an<H.next.an->a.get j=H.get j):tc a lo l b:=by
 rcases h with h|⟨id,c,aM,h1,h2,h3,g,i,d,e⟩;·exact .inl h
 exact .inr ⟨id,c,aM,h1,h2,h3,af,by grind,d,e⟩
theorem Vu{aa:ap AV}{H:ai}{x y:aJ}{m:AV}{T:ab}{lo:Nat}{l:List Int}{k:Int}(o:gv aa x=m)(q:gv aa y=.slice T 0 1 1 true)(s:H.get T=.cells (db [.int 3 k]) 1 3 true [] 0)(hs:tc H lo l m)(d:lo<H.next.an)(hl:l.length<1000):∃f g,aE (.append 3 8 1 [.int 3 (.ofNat 0)] false x y) aa H=some (f,g)/\H.next.an<=g.next.an/\(∀j:ab,j.an<=lo->g.get j=H.get j)/\tc g lo (l++[k]) f:=by
 have a:je H 1 (.slice T 0 1 1 true)=some (1,[.int 3 k]):=by
  have:iI (db [AV.int 3 k]) 1 0 1=some [.int 3 k]:=by have:=HP (c:=db [AV.int 3 k]) (n:=1) (l:=[k]) (o:=0) aB (λi hi=>by simp only[akC]at hi;have:i=0:=af;subst this;rw[pR _ _ aB];rfl);simpa using this
  simp[je,fE,s,this]
 have b:∀n:Nat,n<=1000->(fw (n*8)&&fw n)=true:=λn C=>by simp only[fw,aj6];exact⟨akB af,akB af⟩
 rcases hs with⟨rfl,rfl⟩|⟨id,c,aM,rfl,B,h3,D,t,u,v⟩
 .refine⟨.slice H.next 0 1 1 false,H.new (.cells (db [.int 3 k]) 1 3 true [] 0),?_,?_,?_,?_⟩;·simp only[aE,aes,bP,o,q,a,kI];have:=b 1 af;simp[dS,AV.ee,fw]
  .show _<=H.next.succ.an;rw[ab.gK];omega
  .intro j hj;rw[ai.dJ,aq (cG af)]
  refine .inr ⟨H.next,db [.int 3 k],[],rfl,aB,d,by show _<H.next.succ.an;rw[ab.gK];omega,by rw[ai.dJ,aK rfl];rfl,λi hi=>?_,aB⟩;simp only[ak0,akC]at hi;have:i=0:=af;subst this;rw[pR _ _ aB];rfl
 have hrd:iI c l.length 0 (l.length*1)=some (l.map λz=>.int 3 z):=by rw[alt];exact HP af λi hi=>by rw[akh];exact u i hi
 have r:id≠H.next:=cG af;refine⟨.slice H.next 0 (l.length+1) (l.length+1) false,(H.set id (.cells c l.length 3 false aM 0)).new (.cells (db ((l.map λz=>.int 3 z)++[.int 3 k])) ((l.length+1)*1) 3 true (id::aM) (0 - 0)),?_,?_,?_,?_⟩
 .simp only[aE,aes,bP,o,q,a,kI];have hb:=b (l.length+1) af;have h1:dS [.int 3 k]=true:=rfl;have h2:ak2 (l.length+1) l.length=false:=by cases h:ak2 (l.length+1) l.length with|false=>rfl|true=>have:=akc h;omega
  have w:(true&&akb l.length l.length&&akb (0+l.length*1) l.length&&akb 3 3&&ak2 0 l.length)=true:=by simp[ald]
  simp only[h1,h2,hb,t,hrd,w,aku,aes,bP,bq]
 .show _<=H.next.succ.an;rw[ab.gK];omega
 .intro j hj;rw[ai.dJ,ai.gD,aq (cG af),ai.aF,aq (cG af)]
 refine .inr ⟨H.next,db ((l.map λz=>.int 3 z)++[.int 3 k]),id::aM,aB,aB,d,by show _<H.next.succ.an;rw[ab.gK];omega,by rw[ai.dJ,ai.gD,aK rfl];simp,λi hi=>?_,?_⟩
 .rw[pR _ _ (by simpa using hi)];simp only[aj8,akC]at hi;by_cases he:i<l.length;·simp[List.getD,akw,he,List.getElem_append_left]
  have:i=l.length:=af;subst this;simp[List.getD]
 intro p A;rcases aeV.1 A with e|e;·rw[e];exact h3
 exact v p e
theorem Xf.yield{n:Nat}{L p d:ab}{v:AV}{H:ai}{cB:cP}{fn:Nat}{aa:ap AV}{as a:bt}{K:KT}(U:H.get L=.loop .ready cB fn aa [p] as a d)(h:Xc ac n as ⟨aa.set .alR p v,[],some L⟩ H λj fr H1=>j=.none/\H1.get L=.loop .ready cB fn aa [p] as a d/\Xc ac n a fr (H1.set L (.loop .busy cB fn aa [p] as a d)) λj _ b=>j=.none/\b.get L=.loop .busy cB fn aa [p] as a d/\K (.bool true) (b.set L (.loop .ready .none fn aa [p] as a d))):Xf ac (n+1) (.yield L) [v] H K:=by simp only[Xf,io,U,akC,bq];refine Xc.mono (afb _) ?_ h;rintro j fr H1⟨rfl,h1,h2⟩;simp only[h1];refine Xc.mono (afb _) ?_ h2;grind
theorem Xc.rangeFunc{n:Nat}{f:aJ}{e:List ab}{as g:bt}{aa:ap AV}{bI:List ab}{H:ai}{K:cP->Fr->ai->Prop}(h:Xf ac n (gv aa f) [.yield (H.new (.deferred false)).next] ((H.new (.deferred false)).new (.loop .ready .none 0 aa e as g H.next)) λ_ i=>∃st cB fn a b c d j,st≠sK.busy/\i.get (H.new (.deferred false)).next=.loop st cB fn a b c d j/\K cB ⟨aa,H.next::bI,none⟩ (i.set (H.new (.deferred false)).next (.loop .exhausted cB fn a b c d j))):Xc ac (n+1) (.rangeFunc f e as g) ⟨aa,bI,none⟩ H K:=by refine Xf.mono (afb _) ?_ h;grind
end
end
section
variable[Ov]
section
variable{ac:Nat->aG}
theorem Nk:∀{l m:List Int},l.Nodup->(∀x∈l,x∈m)->l.length<=m.length
 |[],_,_,_=>by simp
 |a::l,m,b,hs=>by
  rw[akz]at b;have g:a∈m:=hs a (aeU ..);have f:=Nk (l:=l) (m:=m.erase a) b.2 λx d=>by have c:x≠a:=λe=>b.1 (e▸d);exact(List.mem_erase_of_ne c).2 (hs x (aey _ d))
  grind
theorem Vv{aa:ap AV}{H:ai}{x:aJ}{k:Int}(h:gv aa x=.int 3 k):aE (.buildSlice 3 1 [.int 3 (.ofNat 0)] [(0,1,x)]) aa H=some (.slice H.next 0 1 1 true,H.new (.cells (db [.int 3 k]) 1 3 true [] 0)):=by
 have h1:oI aa (fO [AV.int 3 (.ofNat 0)] 1) [(0,1,x)]=some [.int 3 k]:=by simp only[oI,h];rfl
 simp only[aE,h1];rfl
theorem Nl{aa:ap AV}{H:ai}{x:aJ}{v:AV}{e:Nat}(h:gv aa x=v)(h1:v.cells=[v])(h2:v.ee=true):aE (.box e x) aa H=some (.az H.next 0,H.new (.cells (db [v]) 1 e true [] 0)):=by simp[h,h1,h2,aE,dS,Bool.and_true,bq,akC]
structure tf(A:ai)(bv:AV)(B1 B2 D L:ab)(e1 e2:Nat)(envA:ap AV)(lo:Nat)(l:List Int)(H1:ai):Prop where
 nx:lo<H1.next.an
 pt:∀j:ab,j.an<A.next.an->H1.get j=A.get j
 b1:H1.get B1=.cells (db [bv]) 1 e1 true [] 0
 b2:∃c2 sv,H1.get B2=.cells c2 1 e2 true [] 0/\c2.bw .alR 0=sv/\tc H1 lo l sv
 dd:H1.get D=.deferred false
 ll:H1.get L=.loop .ready .none 0 envA [sl 7] wl wm D
 o1:A.next.an<=B1.an
 o2:B1.an<B2.an
 o3:B2.an<D.an
 o4:D.an<L.an
 o5:L.an<=lo
theorem tf.Do{A:ai}{bv:AV}{B1 B2 D L:ab}{e1 e2:Nat}{envA:ap AV}{lo:Nat}{l:List Int}{H1:ai}(J:tf A bv B1 B2 D L e1 e2 envA lo l H1){I:ab}(h1:L.an<I.an)(h2:I.an<=lo)(a:cq):tf A bv B1 B2 D L e1 e2 envA lo l (H1.set I a):=by
 have o1:=J.o1;have o2:=J.o2;have o3:=J.o3;have o4:=J.o4;obtain⟨c2,b,c,d,e⟩:=J.b2;refine⟨J.nx,λj hj=>?_,?_,⟨c2,b,?_,d,?_⟩,?_,?_,J.o1,J.o2,J.o3,J.o4,J.o5⟩;·rw[ai.aF,aq (cG af)];exact J.pt j hj
 .rw[ai.aF,aq (cG af)];exact J.b1
 .rw[ai.aF,aq (cG af)];exact c
 .refine e.frame (afb _) λj h3 f=>?_;rw[ai.aF,aq (cG af)]
 .rw[ai.aF,aq (cG af)];exact J.dd
 rw[ai.aF,aq (cG af)];exact J.ll
theorem Vw{A:ai}{bv:AV}{B1 B2 D L:ab}{e1 e2:Nat}{envA:ap AV}{lo:Nat}{l:List Int}{H1:ai}(J:tf A bv B1 B2 D L e1 e2 envA lo l H1)(y:envA.get .alR (sl 2)=.az B2 0)(hl:l.length<1000){k:Int}{K:KT}(B:∀p:ai,tf A bv B1 B2 D L e1 e2 envA lo (l++[k]) p->(∀j:ab,L.an<j.an->j.an<=lo->p.get j=H1.get j)->K (.bool true) p):Xf ac 40 (.yield L) [.int 3 k] H1 K:=by
 have o1:=J.o1;have o2:=J.o2;have o3:=J.o3;have o4:=J.o4;have o5:=J.o5;have N:=J.nx;obtain⟨c2,g,b1,b2,C⟩:=J.b2;refine Xf.yield (n:=39) J.ll (Xc.region (n:=38) ?_);refine Xo.op (n:=37) (v:=.int 3 k) (H':=H1) (by simp[aE,gv,ap.aF]) (Xo.nil (n:=36) ⟨rfl,J.ll,?_⟩);generalize f:H1.set L (.loop .busy .none 0 envA [sl 7] wl wm D)=b;have i:∀j:ab,j≠L->b.get j=H1.get j:=λj hj=>by rw[<-f,ai.aF,aq hj]
 have F:b.get L=.loop .busy .none 0 envA [sl 7] wl wm D:=by rw[<-f,ai.aF,aK rfl]
 have nb:b.next=H1.next:=by rw[<-f];rfl
 have s:bh b B2 0=some g:=by unfold bh;rw[i B2 (cG af),b1];simp only[show akv 0 1=true from rfl,bq,b2]
 generalize d:b.new (.cells (db [.int 3 k]) 1 3 true [] 0)=m;have n:∀j:ab,j≠b.next->m.get j=b.get j:=λj hj=>by rw[<-d,ai.dJ,aq hj]
 have O:m.next.an=H1.next.an+1:=by rw[<-d];show b.next.succ.an=_;rw[ab.gK,nb]
 have t:tc m lo l g:=C.frame af λj h1 h2=>by rw[n j (cG (by rw[nb];omega)),i j (cG af)]
 refine Xo.op (n:=36) (v:=g) (H':=b) (jC (by simp[gv,aQ,ap.aF,bM];exact y) s) ?_;refine Xo.op (n:=35) (v:=.int 3 k) (H':=b) (by simp[aE,gv,aQ,ap.aF,bM]) ?_;refine Xo.op (n:=34) (v:=.slice b.next 0 1 1 true) (H':=m) (by rw[<-d];exact Vv (by simp[gv,aQ,ap.aF,bM])) ?_;generalize q:aQ (aQ (aQ (aQ (ap.set .alR (sl 7) (.int 3 k) envA) (some (sl 5)) (.int 3 k)) (some (sl 8)) g) (some (sl 9)) (.int 3 k)) (some (sl 10)) (.slice b.next 0 1 1 true)=E;have G:gv E (tt 8)=g:=by rw[<-q];simp[gv,aQ,ap.aF,bM]
 have u:gv E (tt 10)=.slice b.next 0 1 1 true:=by rw[<-q];simp[gv,aQ,ap.aF,bM]
 have H:E.get .alR (sl 2)=.az B2 0:=by rw[<-q];simp[aQ,ap.aF,bM];exact y
 obtain⟨a,H',I,P,r,z⟩:=Vu (lo:=lo) (l:=l) (k:=k) G u (by rw[<-d,ai.dJ,aK rfl]) t af hl;refine Xo.op (n:=33) (v:=a) (H':=H') I ?_;have v:H'.get B2=.cells c2 1 e2 true [] 0:=by rw[r B2 af,n B2 (cG (by rw[nb];omega)),i B2 (cG af)];exact b1
 have e:([a]:List AV)=a.cells/\dS [a]=true:=by
  rcases z with⟨h,_⟩|⟨id,c,aM,h,_⟩;·simp at h
  subst h;exact⟨rfl,rfl⟩
 have w:iX H' B2 0 [a]=some (H'.set B2 (.cells (fX c2 0 [a]) 1 e2 true [] 0)):=by unfold iX;rw[v];simp only[afb,decide_true,akC,akh,Bool.true_and,e.2,bq];rfl
 refine Xo.op (n:=32) (v:=.alR) (H':=H'.set B2 (.cells (fX c2 0 [a]) 1 e2 true [] 0)) ?_ (Xo.nil (n:=31) ?_)
 .have M:gv (aQ E (some (sl 11)) a) (tt 2)=.az B2 0:=by simp[gv,aQ,ap.aF,bM];exact H
  have x:gv (aQ E (some (sl 11)) a) (tt 11)=a:=by simp[gv,aQ,ap.aF,bM]
  simp only[aE,M,x,<-e.1,akC,bq,w]
 have o:∀j:ab,j.an<=lo->j≠L->j≠B2->((H'.set B2 (.cells (fX c2 0 [a]) 1 e2 true [] 0)).set L (.loop .ready .none 0 envA [sl 7] wl wm D)).get j=H1.get j:=λj h1 h2 h3=>by rw[ai.aF,aq h2,ai.aF,aq h3,r j h1,n j (cG (by rw[nb];omega)),i j h2]
 refine⟨rfl,?_,B _ ⟨?_,λj hj=>?_,?_,⟨fX c2 0 [a],a,?_,?_,?_⟩,?_,?_,o1,o2,o3,o4,o5⟩ λj h1 h2=>?_⟩;·rw[ai.aF,aq (cG af),r L af,n L (cG (by rw[nb];omega))];exact F
 .show lo<H'.next.an;omega
 .rw[o j af (cG af) (cG af)];exact J.pt j hj
 .rw[o B1 af (cG af) (cG af)];exact J.b1
 .rw[ai.aF,aq (cG af),ai.aF,aK rfl]
 .rw[nD];simp
 .refine z.frame (afb _) λj h1 h2=>?_;rw[ai.aF,aq (cG af),ai.aF,aq (cG af)]
 .rw[o D af (cG af) (cG af)];exact J.dd
 .rw[ai.aF,aK rfl]
 exact o j af (cG af) (cG af)
end
section
variable{ac:Nat->aG}
theorem Nn:∀{es:List aT}{ks:List Int},jR es=some ks->ks.Nodup->∀{x y:aT}{k:Int},x∈es->y∈es->x.key=.int 3 k->y.key=.int 3 k->x=y
 |[],_,_,_,_,_,_,h,_,_,_=>by grind
 |a::es,ks,h,d,x,y,k,f,g,e1,e2=>by
  simp only[jR]at h;split at h
  .rename_i i l h1 h2;injection h with h;subst h;rw[akz]at d;have e:∀z∈es,z.key=.int 3 i->False:=λz j he=>by obtain⟨m,c,b⟩:=(z6 h2).1 z j;rw[he]at b;injection b with _ b;exact d.1 (b▸c)
   rcases aeV.1 f with c|c<;>rcases aeV.1 g with b|b;·rw[c,b]
   .subst c;rw[h1]at e1;injection e1 with _ e1;subst e1;exact(e y b e2).elim
   .subst b;rw[h1]at e2;injection e2 with _ e2;subst e2;exact(e x c e1).elim
   exact Nn h2 d.2 c b e1 e2
  grind
theorem Xf.Vx{n c:Nat}{f:Nat}{first args a:List AV}{d:List iW}{body:bt}{H:ai}{K:KT}(i:ac f=.code c d body)(hl:(first++args++a).length<=c)(h:Xc ac n body ⟨kJ (first++args++a) .xH .aL,[],none⟩ H λj fr e=>(match j with|.exit _=>False|_=>True)/\∃b l,jN e fr.bI=some b/\gZ fr.aa b d=some l/\K (iL l) b):Xf ac (n+1) (.func f first a) args H K:=by simp only[Xf,io,i];rw[aK (akB hl)];refine Xc.mono (afb _) ?_ h;rintro j fr e⟨h1,b,l,h2,h3,g⟩;cases j with|exit=>exact h1.elim|none=>simp only[h2,h3];exact g|ret=>simp only[h2,h3];exact g
theorem No(a b:AV):kJ ([]++[a]++[b]) .xH .aL=(ap.aL.set AV.alR (sl 0) a).set .alR (sl 1) b:=rfl
def wn(ac:Nat->aG)(n a:Nat)(bv:AV)(A:ai)(ks:List Int):Prop:=
 ∀{B1 B2 D L:ab}{e1 e2:Nat}{envA:ap AV}{H1:ai}{K:KT},tf A bv B1 B2 D L e1 e2 envA L.an [] H1->H1.next=L.succ->envA.get .alR (sl 2)=.az B2 0->
  (∀lo l b,tf A bv B1 B2 D L e1 e2 envA lo l b->l.Perm ks->K (.tuple []) b)->Xf ac n (.func a [] [.az B1 0]) [.yield L] H1 K
theorem Vy{g:Nat}(hf:ac g=.code 14 [] Eb){m:ab}{A:ai}{d:List aT}{c:Nat}{ks:List Int}(W:A.get m=.map d c)(v:m.an<A.next.an)(hb:(d.map (·.born)).Nodup)(P:∀e∈d,e.born<c)(H:jR d=some ks)(X:ks.Nodup)(ag:ks.length<=1000):wn ac (d.length+100) g (.map m) A ks:=by
 intro B1 B2 D L e1 e2 envA H1 K J Q hA hK;have o1:=J.o1;have o2:=J.o2;have o3:=J.o3;have o4:=J.o4;have hI:H1.next.an=L.an+1:=by rw[Q,ab.gK]
 refine Xf.code (n:=d.length+99) hf aB ?_;rw[No];generalize Y:(ap.aL.set AV.alR (sl 0) (.yield L)).set .alR (sl 1) (.az B1 0)=aa;have h0:aa.get .alR (sl 0)=.yield L:=by rw[<-Y];simp[ap.aF,bM]
 have h1:aa.get .alR (sl 1)=.az B1 0:=by rw[<-Y];simp[ap.aF,bM]
 have gm:H1.get m=.map d c:=by rw[J.pt m v];exact W
 have R:bh H1 B1 0=some (.map m):=by unfold bh;rw[J.b1];simp only[show akv 0 1=true from rfl,bq];rw[pR _ _ aB];rfl
 refine Xc.ju (n:=20) (m:=60+15+d.length) (k:=d.length+98) af af (Xc.region (n:=19) ?_);refine Xo.op (n:=18) (v:=.map m) (H':=H1) (jC h1 R) ?_;refine Xo.op (n:=17) (v:=.az H1.next 0) (H':=H1.new (.mapIter (some m) c [] c)) (by simp[aE,gv,aQ,ap.aF,gm]) (Xo.nil (n:=16) ?_);have J1:tf A (.map m) B1 B2 D L e1 e2 envA H1.next.an [] (H1.new (.mapIter (some m) c [] c)):=by
  have s:∀j:ab,j.an<=L.an->(H1.new (.mapIter (some m) c [] c)).get j=H1.get j:=λj hj=>by rw[ai.dJ,aq (cG af)]
  obtain⟨c2,sv,b1,b2,b3⟩:=J.b2;refine⟨by show _<H1.next.succ.an;rw[ab.gK];omega,λj hj=>by rw[s j af];exact J.pt j hj,by rw[s B1 af];exact J.b1,⟨c2,sv,by rw[s B2 af];exact b1,b2,?_⟩,by rw[s D af];exact J.dd,by rw[s L af];exact J.ll,o1,o2,o3,o4,af⟩;rcases b3 with h|⟨_,_,_,_,h,_⟩;·exact .inl h
  exact absurd rfl h
 refine MK bA bA bA bA bA hb P (id:=H1.next) (m:=m) (I:=λseen aa n=>aa.get .alR (sl 0)=.yield L/\aa.get .alR (sl 5)=.az H1.next 0/\n.get H1.next=.mapIter (some m) c seen c/\∃l,tf A (.map m) B1 B2 D L e1 e2 envA H1.next.an l n/\l.Nodup/\(∀k∈l,k∈ks/\∃e∈d,e.born∈seen/\e.key=.int 3 k)/\∀e∈d,e.born∈seen->∃k∈l,e.key=.int 3 k) ?_ 60 ?_ ?_ d.length [] _ _ ?_ (List.length_filter_le ..);·rintro seen aa n⟨C,E,I,l,t,_⟩;exact⟨E,I,by rw[t.pt m v];exact W⟩
 .rintro seen aa n e⟨C,E,I,l,t,F,u,M⟩he w;obtain⟨r,y,f⟩:=(z6 H).1 e he;have o:r∉l:=λh=>by obtain⟨G,p,i,N⟩:=(u r h).2;rw[Nn H X he p f N]at w;exact w i
  have B:l.length<1000:=by
   have S:(l++[r]).Nodup:=by rw[akI];exact⟨F,aB,λa O b hb=>by simp only[aep]at hb;subst hb;exact λe=>o (e▸O)⟩
   have:=Nk S (m:=ks) λx hx=>by
    rcases ahp.1 hx with h|h;·exact(u x h).1
    rw[aep]at h;rw[h];exact y
   simp at this;omega
  refine Xc.ju (n:=50) (m:=50) (k:=59) af af (Xc.region (n:=49) ?_);refine Xo.op (n:=48) (v:=.yield L) (H':=n.set H1.next (.mapIter (some m) c (seen++[e.born]) c)) (by simp[aE,gv,ap.aF,bM];exact C) ?_;refine Xo.op (n:=47) (v:=.int 3 r) (H':=n.set H1.next (.mapIter (some m) c (seen++[e.born]) c)) (by simp[aE,gv,aQ,ap.aF,bM];exact f) ?_;refine Xo.call (n:=46) ?_;simp only[gv,aQ,ap.aF,bM,aj7,ali];refine Xf.mono (n:=40) af (λ_ _ h=>h) (Vw (t.Do (I:=H1.next) af (afb _) _) hA B λH3 J3 q=>?_);refine Xo.op (n:=45) (v:=.bool false) (H':=H3) (by simp[aE,gv,aQ,ap.aF,bM,Df]) (Xo.nil (n:=44) ?_);refine Xc.nI (n:=49) (by simp[gv,aQ,ap.aF,bM]) (Xc.skip (n:=48) ⟨rfl,rfl,rfl,?_,?_,?_,l++[r],J3,?_,?_,?_⟩);·simp[aQ,ap.aF,bM];exact C
  .simp[aQ,ap.aF,bM];exact E
  .rw[q H1.next af (afb _),ai.aF,aK rfl]
  .rw[akI];exact⟨F,aB,λa O b hb=>by simp only[aep]at hb;subst hb;exact λe=>o (e▸O)⟩
  .intro k T;rcases ahp.1 T with h|h;·obtain⟨a0,G,p,i,N⟩:=u k h;exact⟨a0,G,p,akf _ i,N⟩
   rw[aep]at h;subst h;exact⟨y,e,he,akq _ (aep.2 rfl),f⟩
  intro G z V;rcases ahp.1 V with h|h;·obtain⟨Z,p,i⟩:=M G z h;exact⟨Z,akf _ p,i⟩
  rw[aep]at h;rw[Hv hb z he h];exact⟨r,akq _ (aep.2 rfl),f⟩
 .rintro seen aa n⟨C,E,I,l,t,F,u,M⟩eZ;refine⟨trivial,rfl,[],rfl,hK _ l n t ((List.perm_ext_iff_of_nodup F X).2 λx=>⟨λh=>(u x h).1,λh=>?_⟩)⟩;obtain⟨e,he,f⟩:=(z6 H).2 x h;obtain⟨Z,p,i⟩:=M e he (eZ e he);rw[f]at i;injection i with _ i;rw[i];exact p
 exact⟨by simp[aQ,ap.aF,bM];exact h0,by simp[aQ,ap.aF,bM],by rw[ai.dJ,aK rfl],[],J1,alD,aB,aB⟩
theorem Vz{a:Nat}(f:ac a=.code 14 [] Eb){A:ai}:wn ac 100 a .cY A []:=by
 intro B1 B2 D L e1 e2 envA H1 K J d n g;have o1:=J.o1;have o2:=J.o2;have o3:=J.o3;have o4:=J.o4;have o:H1.next.an=L.an+1:=by rw[d,ab.gK]
 refine Xf.code (n:=99) f aB ?_;rw[No];generalize i:(ap.aL.set AV.alR (sl 0) (.yield L)).set .alR (sl 1) (.az B1 0)=aa;have h1:aa.get .alR (sl 1)=.az B1 0:=by rw[<-i];simp[ap.aF,bM]
 have e:bh H1 B1 0=some .cY:=by unfold bh;rw[J.b1];simp only[show akv 0 1=true from rfl,bq];rw[pR _ _ aB];rfl
 refine Xc.ju (n:=90) (m:=90) (k:=98) aB aB (Xc.region (n:=89) ?_);refine Xo.op (n:=88) (v:=.cY) (H':=H1) (jC h1 e) ?_;refine Xo.op (n:=87) (v:=.az H1.next 0) (H':=H1.new (.mapIter none 0 [] 0)) (by rfl) (Xo.nil (n:=86) ?_);have k:tf A .cY B1 B2 D L e1 e2 envA L.an [] (H1.new (.mapIter none 0 [] 0)):=by
  have b:∀j:ab,j.an<=L.an->(H1.new (.mapIter none 0 [] 0)).get j=H1.get j:=λj hj=>by rw[ai.dJ,aq (cG af)]
  obtain⟨c2,l,b1,b2,m⟩:=J.b2;refine⟨by show _<H1.next.succ.an;rw[ab.gK];omega,λj hj=>by rw[b j af];exact J.pt j hj,by rw[b B1 af];exact J.b1,⟨c2,l,by rw[b B2 af];exact b1,b2,?_⟩,by rw[b D af];exact J.dd,by rw[b L af];exact J.ll,o1,o2,o3,o4,afb _⟩;rcases m with h|⟨_,_,_,_,h,_⟩;·exact .inl h
  exact absurd rfl h
 refine Xc.block (n:=89) (Xc.loop (n:=88) (Xc.seq (n:=87) (Xc.region (n:=86) (Xo.next (n:=85) (cs:=[none]) (aft:=λ_=>(.tuple [.bool false],H1.new (.mapIter none 0 [] 0))) ?_ ?_))));·simp[gv,aQ,ap.aF,ut,ai.dJ]
 intro c _;refine Xo.op (n:=84) (v:=.bool false) (H':=H1.new (.mapIter none 0 [] 0)) (by rfl) (Xo.nil (n:=83) ?_);exact⟨trivial,rfl,[],rfl,g _ [] _ k (alM _)⟩
theorem VA{k a n e2:Nat}(y:ac k=.code 13 [.tmp (sl 4)] (xY e2)){bv:AV}{A d:ai}{ks:List Int}(t:wn ac n a bv A ks){B1:ab}{e1:Nat}(z:d.get B1=.cells (db [bv]) 1 e1 true [] 0)(B:A.next.an<=B1.an)(u:B1.an<d.next.an)(v:∀j:ab,j.an<A.next.an->d.get j=A.get j){K:KT}(C:∀g e lo l,A.next.an<=lo/\lo<e.next.an->tc e lo l g->l.Perm ks->(∀j:ab,j.an<A.next.an->e.get j=A.get j)->K g e):Xf ac (n+40) (.func k [] []) [.aS,.func a [] [.az B1 0]] d K:=by
 refine Xf.Vx (n:=n+39) y aB ?_;show Xc ac (n+39) (xY e2) ⟨(ap.aL.set .alR (sl 0) .aS).set .alR (sl 1) (.func a [] [.az B1 0]),[],none⟩ d _;generalize i:(ap.aL.set AV.alR (sl 0) .aS).set .alR (sl 1) (.func a [] [.az B1 0])=aa;have h0:aa.get .alR (sl 0)=.aS:=by rw[<-i];simp[ap.aF,bM]
 have h1:aa.get .alR (sl 1)=.func a [] [.az B1 0]:=by rw[<-i];simp[ap.aF,bM]
 refine Xc.ju (n:=20) (m:=n+37) (k:=n+38) af af (Xc.region (n:=19) ?_);refine Xo.op (n:=18) (v:=.az d.next 0) (H':=d.new (.cells (db [.aS]) 1 e2 true [] 0)) (Nl h0 rfl rfl) ?_;refine Xo.op (n:=17) (v:=.aS) (H':=d.new (.cells (db [.aS]) 1 e2 true [] 0)) (by simp[aE,gv]) (Xo.nil (n:=16) ?_);generalize o:d.new (.cells (db [.aS]) 1 e2 true [] 0)=b;have D:b.next=d.next.succ:=by rw[<-o];rfl
 have r:∀j,b.get j=if j=d.next then .cells (db [.aS]) 1 e2 true [] 0 else d.get j:=λj=>by rw[<-o,ai.dJ]
 generalize i:aQ (aQ aa (some (sl 2)) (.az d.next 0)) (some (sl 4)) .aS=f;have E:f.get .alR (sl 1)=.func a [] [.az B1 0]:=by rw[<-i];simp[aQ,ap.aF,bM];exact h1
 have F:f.get .alR (sl 2)=.az d.next 0:=by rw[<-i];simp[aQ,ap.aF,bM]
 refine Xc.ju (n:=n+30) (m:=20) (k:=n+36) af af (Xc.ju (n:=20) (m:=n+20) (k:=n+29) af af (Xc.region (n:=19) ?_));refine Xo.op (n:=18) (v:=.func a [] [.az B1 0]) (H':=b) (by simp[aE,gv];exact E) (Xo.nil (n:=17) ?_);generalize i:aQ f (some (sl 6)) (.func a [] [.az B1 0])=c;have w:c.get .alR (sl 2)=.az d.next 0:=by rw[<-i];simp[aQ,ap.aF,bM];exact F
 have G:gv c (tt 6)=.func a [] [.az B1 0]:=by rw[<-i];simp[gv,aQ,ap.aF]
 refine Xc.block (n:=n+19) (Xc.mono (n:=n+1) af (λ_ _ _ h=>h) (Xc.rangeFunc (n:=n) ?_));rw[G];have nd:(b.new (.deferred false)).next=b.next.succ:=rfl;have H:b.next.an=d.next.an+1:=by rw[D,ab.gK]
 have N:(b.new (.deferred false)).next.an=d.next.an+2:=by rw[nd,ab.gK,H]
 have m:∀j,((b.new (.deferred false)).new (.loop .ready .none 0 c [sl 7] wl wm b.next)).get j=if j=(b.new (.deferred false)).next then .loop .ready .none 0 c [sl 7] wl wm b.next else if j=b.next then .deferred false else b.get j:=λj=>by rw[ai.dJ,ai.dJ]
 refine t (B1:=B1) (B2:=d.next) (D:=b.next) (L:=(b.new (.deferred false)).next) (e1:=e1) (e2:=e2) (envA:=c) ?_ rfl w ?_
 .refine⟨by show _<(b.new (.deferred false)).next.succ.an;rw[ab.gK];omega,λj hj=>?_,?_,⟨db [.aS],.aS,?_,?_,.inl ⟨rfl,rfl⟩⟩,?_,?_,B,u,af,af,afb _⟩;·rw[m,aq (cG af),aq (cG af),r,aq (cG af)];exact v j hj
  .rw[m,aq (cG af),aq (cG af),r,aq (cG af)];exact z
  .rw[m,aq (cG af),aq (cG af),r,aK rfl]
  .rw[pR _ _ aB];rfl
  .rw[m,aq (cG af),aK rfl]
  rw[m,aK rfl]
 intro lo l s J I;have o5:=J.o5;refine⟨_,_,_,_,_,_,_,_,aB,J.ll,?_⟩;obtain⟨c2,g,b1,b2,L⟩:=J.b2;generalize p:s.set (b.new (.deferred false)).next (.loop .exhausted .none 0 c [sl 7] wl wm b.next)=e;have q:∀j,j≠(b.new (.deferred false)).next->e.get j=s.get j:=λj hj=>by rw[<-p,ai.aF,aq hj]
 have x:e.next=s.next:=by rw[<-p];rfl
 have M:bh e d.next 0=some g:=by unfold bh;rw[q _ (cG af),b1];simp only[show akv 0 1=true from rfl,bq,b2]
 refine Xc.ju (n:=18) (m:=18) (k:=19) af af (Xc.region (n:=17) ?_);refine Xo.op (n:=16) (v:=g) (H':=e) (jC (by simp[gv];exact w) M) ?_;refine Xo.op (n:=15) (v:=g) (H':=e) (by simp[aE,gv,aQ,ap.aF]) (Xo.nil (n:=14) ?_);refine Xc.ret (n:=17) ⟨trivial,e.set b.next (.deferred true),[g],?_,?_,?_⟩;·simp only[jN,q b.next (cG af),J.dd]
 .simp[gZ,aQ,ap.aF]
 refine C g _ lo l ⟨af,by show lo<e.next.an;rw[x];exact J.nx⟩ ?_ I λj hj=>?_;·refine L.frame (by show _<=e.next.an;rw[x];exact afb _) λj h1 h2=>?_;rw[ai.aF,aq (cG af),q j (cG af)]
 rw[ai.aF,aq (cG af),q j (cG af)];exact J.pt j hj
end
section
variable{ac:Nat->aG}
theorem Xf.ix{n f:Nat}{g:List AV->ai->Option (AV×ai)}{first args a:List AV}{H H':ai}{v:AV}{K:KT}(b:ac f=.ix g)(hg:g (first++args++a) H=some (v,H'))(c:K v H'):Xf ac (n+1) (.func f first a) args H K:=by simp_all[Xf,io]
theorem VB{b c a n e2:Nat}(m:ac b=.code 5 [.tmp (sl 2)] (B7 c))(o:ac c=.code 13 [.tmp (sl 4)] (xY e2)){bv:AV}{A e:ai}{ks:List Int}(g:wn ac n a bv A ks){B1:ab}{e1:Nat}(p:e.get B1=.cells (db [bv]) 1 e1 true [] 0)(q:A.next.an<=B1.an)(i:B1.an<e.next.an)(k:∀j:ab,j.an<A.next.an->e.get j=A.get j){K:KT}(r:∀f d lo l,A.next.an<=lo/\lo<d.next.an->tc d lo l f->l.Perm ks->(∀j:ab,j.an<A.next.an->d.get j=A.get j)->K f d):Xf ac (n+60) (.func b [] []) [.func a [] [.az B1 0]] e K:=by
 refine Xf.code (n:=n+59) m aB ?_;rw[show kJ ([]++[AV.func a [] [.az B1 0]]++[]) .xH .aL=ap.aL.set AV.alR (sl 0) (.func a [] [.az B1 0])from rfl];generalize s:ap.aL.set AV.alR (sl 0) (.func a [] [.az B1 0])=aa;have h0:aa.get .alR (sl 0)=.func a [] [.az B1 0]:=by rw[<-s];simp[ap.aF]
 refine Xc.ju (n:=20) (m:=n+57) (k:=n+58) aB aB (Xc.region (n:=19) ?_);refine Xo.op (n:=18) (v:=.aS) (H':=e) (by rfl) (Xo.nil (n:=17) ?_);refine Xc.ju (n:=n+50) (m:=10) (k:=n+56) aB aB (Xc.region (n:=n+49) ?_);refine Xo.op (n:=n+48) (v:=.func a [] [.az B1 0]) (H':=e) (by simp[h0,aE,gv,aQ,ap.aF,bM]) ?_;refine Xo.call (n:=n+47) ?_;refine Xf.mono (n:=n+40) aB (λ_ _ h=>h) (VA o g p q i k λf d lo l t u v w=>?_);refine Xo.op (n:=n+46) (v:=f) (H':=d) (by rfl) (Xo.nil (n:=n+45) ?_);exact Xc.ret (n:=9) ⟨trivial,rfl,[f],by rfl,r f d lo l t u v w⟩
theorem Np{c:ap AV}:∀{l:List Int}{o:Nat},(∀i(h:i<l.length),c.bw .alR (o+i)=.int 3 (l[i]))->xX c o l.length=some l
 |[],_,_=>rfl
 |z::l,o,h=>by
  have h0:c.bw .alR o=.int 3 z:=h 0 aB;have a:=Np (c:=c) (l:=l) (o:=o+1) λi hi=>by have:=h (i+1) (by simpa using hi);rw[show o+(i+1)=o+1+i by omega]at this;exact this
  simp[h0,a,akA,xX]
def Ec(H:ai)(lo:Nat)(ks:List Int)(v:AV):Prop:=
 (ks=[]/\v=.aS)\/∃id,v=.slice id 0 ks.length ks.length false/\ks≠ []/\lo<=id.an/\H.get id=.cells (db ((gj ks).map λz=>.int 3 z)) ks.length 3 true [] 0
theorem VC{b:Nat}(hs:ac b=.ix tb){A d:ai}{m:AV}{lo:Nat}{l ks:List Int}(h1:A.next.an<=lo/\lo<d.next.an)(h2:tc d lo l m)(h3:l.Perm ks)(w:ks.length<=1000)(p:∀j:ab,j.an<A.next.an->d.get j=A.get j){n:Nat}{K:KT}(q:∀f,Ec f A.next.an ks m->(∀j:ab,j.an<A.next.an->f.get j=A.get j)->((∀id o n c e,m=.slice id o n c e->id.an<f.next.an)/\A.next.an<=f.next.an)->K (.tuple []) f):Xf ac (n+1) (.func b [] []) [m] d K:=by
 have a:=h3.length_eq;rcases h2 with⟨rfl,rfl⟩|⟨id,c,aM,rfl,r,x,s,t,u,v⟩;·refine Xf.ix hs (H':=d) (v:=.tuple []) rfl (q d (.inl ⟨List.nil_perm.1 h3,rfl⟩) p ⟨λ_ _ _ _ _ h=>(by cases h),af⟩)
 have g:0<l.length:=by cases l with|nil=>exact absurd rfl r|cons _ _=>simp
 have k:gj l=gj ks:=D8 (Ac l) (Ac ks) ((wi l).trans (h3.trans (wi ks).symm));have hg:tb [.slice id 0 l.length l.length false] d=some (.tuple [],(d.gh aM).set id (.cells (db ((gj l).map λz=>.int 3 z)) l.length 3 true [] 0)):=by
  have e1:(akb l.length l.length&&akv 0 l.length&&ak2 l.length 4000000)=true:=by rw[ald,show akv 0 l.length=true from alN akY g,akB af];rfl
  simp only[tb,t,e1,bq,Np (l:=l) (o:=0) λi hi=>by rw[akh];exact u i hi]
 refine Xf.ix hs hg (q _ (.inr ⟨id,by rw[a],λe=>?_,af,?_⟩) (λj hj=>?_) ⟨λ_ _ _ _ _ h=>(by injection h with h;subst h;rw[ai.gD,ai.kf];exact s),by rw[ai.gD,ai.kf];omega⟩);·rw[e]at a;simp at a;exact r (by simpa using a)
 .rw[ai.aF,aK rfl,k,a]
 rw[ai.aF,aq (cG af),ai.xy,aq λh=>by have:=v j h;omega];exact p j hj
theorem VD{b d f i a n e2:Nat}(hd:ac b=.code 9 [.tmp (sl 2)] (D9 f d))(hs:ac d=.ix tb)(t:ac f=.code 5 [.tmp (sl 2)] (B7 i))(u:ac i=.code 13 [.tmp (sl 4)] (xY e2)){bv:AV}{A A1:ai}{ks:List Int}(m:ks.length<=1000)(p:wn ac n a bv A ks){B1:ab}{e1:Nat}(w:A1.get B1=.cells (db [bv]) 1 e1 true [] 0)(x:A.next.an<=B1.an)(q:B1.an<A1.next.an)(r:∀j:ab,j.an<A.next.an->A1.get j=A.get j){K:KT}(y:∀v g,Ec g A.next.an ks v->(∀j:ab,j.an<A.next.an->g.get j=A.get j)->((∀id o n c e,v=.slice id o n c e->id.an<g.next.an)/\A.next.an<=g.next.an)->K v g):Xf ac (n+90) (.func b [] []) [.func a [] [.az B1 0]] A1 K:=by
 refine Xf.code (n:=n+89) hd aB ?_;rw[show kJ ([]++[AV.func a [] [.az B1 0]]++[]) .xH .aL=ap.aL.set AV.alR (sl 0) (.func a [] [.az B1 0])from rfl];generalize z:ap.aL.set AV.alR (sl 0) (.func a [] [.az B1 0])=aa;have h0:aa.get .alR (sl 0)=.func a [] [.az B1 0]:=by rw[<-z];simp[ap.aF]
 refine Xc.ju (n:=20) (m:=n+87) (k:=n+88) aB aB (Xc.region (n:=19) ?_);refine Xo.op (n:=18) (v:=.aS) (H':=A1) (by rfl) (Xo.nil (n:=17) ?_);refine Xc.ju (n:=n+70) (m:=n+80) (k:=n+86) aB aB (Xc.region (n:=n+69) ?_);refine Xo.op (n:=n+68) (v:=.func a [] [.az B1 0]) (H':=A1) (by simp[h0,aE,gv,aQ,ap.aF,bM]) ?_;refine Xo.call (n:=n+67) ?_;refine Xf.mono (n:=n+60) aB (λ_ _ h=>h) (VB t u p w x q r λk s lo l B C D E=>?_);refine Xo.op (n:=n+66) (v:=k) (H':=s) (by rfl) (Xo.nil (n:=n+65) ?_);refine Xc.ju (n:=20) (m:=20) (k:=n+79) aB aB (Xc.region (n:=19) ?_);refine Xo.op (n:=18) (v:=k) (H':=s) (by rfl) ?_;refine Xo.call (n:=17) ?_;refine VC hs B C D m E λg F G H=>?_;refine Xc.ju (n:=10) (m:=10) (k:=19) aB aB (Xc.region (n:=9) ?_);refine Xo.op (n:=8) (v:=k) (H':=g) (by rfl) ?_;refine Xo.op (n:=7) (v:=k) (H':=g) (by rfl) (Xo.nil (n:=6) ?_);exact Xc.ret (n:=9) ⟨trivial,rfl,[k],by rfl,y k g F G H⟩
theorem VE{b a e1:Nat}(d:ac b=.code 4 [.tmp (sl 2)] (Ea a e1)){bv:AV}(hb:bv.cells=[bv])(c:bv.ee=true){A:ai}{K:KT}(e:K (.func a [] [.az A.next 0]) (A.new (.cells (db [bv]) 1 e1 true [] 0))):Xf ac 40 (.func b [] []) [bv] A K:=by
 refine Xf.code (n:=39) d aB ?_;rw[show kJ ([]++[bv]++[]) .xH .aL=ap.aL.set AV.alR (sl 0) bv from rfl];generalize f:ap.aL.set AV.alR (sl 0) bv=aa;have h0:aa.get .alR (sl 0)=bv:=by rw[<-f];simp[ap.aF]
 refine Xc.ju (n:=20) (m:=30) (k:=38) aB aB (Xc.region (n:=19) ?_);refine Xo.op (n:=18) (v:=.az A.next 0) (H':=A.new (.cells (db [bv]) 1 e1 true [] 0)) (Nl h0 hb c) ?_;refine Xo.op (n:=17) (v:=.nilFunc) (H':=A.new (.cells (db [bv]) 1 e1 true [] 0)) (by rfl) (Xo.nil (n:=16) ?_);refine Xc.ju (n:=20) (m:=20) (k:=29) aB aB (Xc.region (n:=19) ?_);refine Xo.op (n:=18) (v:=.func a [] [.az A.next 0]) (H':=A.new (.cells (db [bv]) 1 e1 true [] 0)) (by rfl) ?_;refine Xo.op (n:=17) (v:=.func a [] [.az A.next 0]) (H':=A.new (.cells (db [bv]) 1 e1 true [] 0)) (by rfl) (Xo.nil (n:=16) ?_);exact Xc.ret (n:=19) ⟨trivial,rfl,[.func a [] [.az A.next 0]],by rfl,e⟩
theorem VF{b c a d e g f n e1 e2:Nat}(hl:ac b=.code 6 [.tmp (sl 2)] (HO c a))(o:ac c=.code 4 [.tmp (sl 2)] (Ea f e1))(hd:ac a=.code 9 [.tmp (sl 2)] (D9 e d))(hs:ac d=.ix tb)(p:ac e=.code 5 [.tmp (sl 2)] (B7 g))(q:ac g=.code 13 [.tmp (sl 4)] (xY e2)){bv:AV}(hb:bv.cells=[bv])(k:bv.ee=true){A:ai}{ks:List Int}(l:ks.length<=1000)(m:wn ac n f bv A ks){K:KT}(r:∀v i,Ec i A.next.an ks v->(∀j:ab,j.an<A.next.an->i.get j=A.get j)->K v i):Xf ac (n+150) (.func b [] []) [bv] A K:=by
 refine Xf.code (n:=n+149) hl aB ?_;rw[show kJ ([]++[bv]++[]) .xH .aL=ap.aL.set AV.alR (sl 0) bv from rfl];generalize s:ap.aL.set AV.alR (sl 0) bv=aa;have h0:aa.get .alR (sl 0)=bv:=by rw[<-s];simp[ap.aF]
 refine Xc.ju (n:=20) (m:=n+140) (k:=n+148) af af (Xc.region (n:=19) ?_);refine Xo.op (n:=18) (v:=.aS) (H':=A) (by simp[aE,gv]) (Xo.nil (n:=17) ?_);refine Xc.ju (n:=n+130) (m:=10) (k:=n+139) af af (Xc.region (n:=n+129) ?_);refine Xo.op (n:=n+128) (v:=bv) (H':=A) (by simp[aE,gv,aQ,ap.aF,bM];exact h0) ?_;refine Xo.call (n:=n+127) ?_;refine Xf.mono (n:=40) af (λ_ _ h=>h) (VE o hb k ?_);refine Xo.call (n:=n+126) ?_;refine Xf.mono (n:=n+90) af (λ_ _ h=>h) (VD hd hs p q l m (A1:=A.new (.cells (db [bv]) 1 e1 true [] 0)) (B1:=A.next) (e1:=e1) (by rw[ai.dJ,aK rfl]) (afb _) (by show _<A.next.succ.an;rw[ab.gK];omega) (λj hj=>by rw[ai.dJ,aq (cG af)]) λv i t u _=>?_);refine Xo.op (n:=n+125) (v:=v) (H':=i) (by simp[aE,gv,aQ,ap.aF]) (Xo.nil (n:=n+124) ?_);exact Xc.ret (n:=9) ⟨trivial,rfl,[v],by simp[gZ,aQ,ap.aF],r v i t u⟩
end
section
variable{P:Program}
theorem cr.gN{ρ a:aP}(h:cL ρ a):∀{es:List aT}{f l:List MapEntry},cr ρ es f->cr a es l->cr ρ es l|[],_,[],_,_=>by trivial|[],_,_::_,_,k=>by trivial|_::_,[],_,b,_=>by trivial|_::_,_::_,[],_,k=>by trivial|e::es,c0::f,c::l,b,k=>by exact⟨VR.gN h _ _ _ b.1 k.1,VR.gN h _ _ _ b.2.1 k.2.1,k.2.2.1,cr.gN h b.2.2.2 k.2.2.2⟩
theorem dP.gN{ρ a:aP}(h:cL ρ a):∀{es:List aT}{f l:List MapEntry},dP ρ es f->dP a es l->dP ρ es l|[],_,[],_,_=>by trivial|[],_,_::_,_,k=>by trivial|_::_,[],_,b,_=>by trivial|_::_,_::_,[],_,k=>by trivial|e::es,c0::f,c::l,b,k=>by exact⟨VR.gN h _ _ _ b.1 k.1,VR.gN h _ _ _ b.2.1 k.2.1,dP.gN h b.2.2 k.2.2⟩
theorem OR.gN{ρ b:aP}(h:cL ρ b){o:cq}(m:(∃c n e f aM fz,o=.cells c n e f aM fz)\/∃es,eS o=some es){p x:Nat}{a g:Obj}(i:OR P ρ o p a)(k:OR P b o x g):OR P ρ o x g:=by
 rcases m with⟨c,n,e,f,aM,fz,rfl⟩|⟨es,he⟩;·grind[OR.Nf]
 cases o with|map j c=>cases a<;>simp only[OR]at i;cases g<;>simp only[OR]at k⊢;exact⟨k.1,k.2.1,k.2.2.1,cr.gN h i.2.2.2 k.2.2.2⟩|dI j=>cases a<;>simp only[OR]at i;cases g<;>simp only[OR]at k⊢;obtain⟨_,_,v,_,r⟩:=i;obtain⟨s,t,l,u,q⟩:=k;exact⟨s,t,l,u,dP.gN h r q⟩|_=>simp[eS]at he
variable{d:cU}{ρ:aP}{H:ai}{w:World}
theorem bz.VG(A:bz P d ρ H w){hl:ab->Prop}(B:∀j,hl j->(H.get j).oR){Hs:ai}(l:Hs.next=H.next)(i:∀j,(hl j->Hs.get j=.none)/\(¬hl j->Hs.get j=H.get j))(b:bz P (d.ku ρ hl λ_=>False) ρ Hs w){f:aP}{y:ai}{q:World}(r:cL ρ f)(s:bz P (d.ku ρ hl λ_=>False) f y q)(C:eC (d.ku ρ hl λ_=>False) w q)(t:∀j:ab,j.an<H.next.an->y.get j=Hs.get j)(u:∀j,¬hl j->H.get j≠.none->(∃c n e v aM fz,H.get j=.cells c n e v aM fz)\/∃es,eS (H.get j)=some es):∃a,cL ρ a/\bz P d a H q/\eC d w q:=by
 classical
  let a:aP:=⟨λj=>if j.an<Hs.next.an then ρ j else if False then f j else none,f.k⟩;have p:cL ρ a:=by
   intro j x hj;refine⟨?_,(r j x hj).2⟩;show(if j.an<Hs.next.an then ρ j else _)=_;rcases akW j.an Hs.next.an with h|h;·rw[aK h];exact hj
   rw[(b.eo j h).2]at hj;cases hj
  have z:=bz.HH b r s (H2:=Hs) (afb _) id (λ_=>False) a rfl (λj h1 h2=>absurd (b.eo j h1).1 h2) (λ_ h=>h.elim) (λ_ _ h=>h.elim) (λj hj hg=>by have m:¬hl j:=λh=>hg ((i j).1 h);have e1:=t j (by rw[<-l];exact hj);rw[e1];refine⟨hg,hg,rfl,rfl,rfl,rfl,λx E o=>?_,λ_ _ h=>h⟩;obtain⟨F,G,D,_,_,g⟩:=b.eF j hg;rw[(i j).2 m]at o g hg⊢;exact OR.mono p (OR.gN r (u j m hg) g o));obtain⟨I,J⟩:=A.HG B z.1 z.2 C (H2:=H) l.symm (λ_ _=>rfl) (λj h=>((i j).2 h).symm);grind
theorem bz.VH(M:bz P d ρ H w){hl:ab->Prop}(N:∀j,hl j->(H.get j).oR){Hs:ai}(g:Hs.next=H.next)(r:∀j,(hl j->Hs.get j=.none)/\(¬hl j->Hs.get j=H.get j))(m:bz P (d.ku ρ hl λ_=>False) ρ Hs w){l:aP}{A:ai}{z:World}(B:cL ρ l)(u:bz P (d.ku ρ hl λ_=>False) l A z)(Q:eC (d.ku ρ hl λ_=>False) w z)(D:∀j:ab,j.an<H.next.an->A.get j=Hs.get j)(E:∀j,¬hl j->H.get j≠.none->(∃c n e F aM fz,H.get j=.cells c n e F aM fz)\/∃es,eS (H.get j)=some es){id:ab}{o:cq}(G:H.next.an<=id.an)(O:A.get id=o)(f:o.oR)(I:∀J a:aP,∀x t,OR P J o x t->OR P a o x t):∃a:aP,cL ρ a/\bz P d a (H.new o) z/\eC d w z/\a H.next=l id/\a.k=l.k:=by
 classical
  let a:aP:=⟨λj=>if j.an<Hs.next.an then ρ j else if j=H.next then l ((λ_=>id) j)else none,l.k⟩;have y:cL ρ a:=by
   intro j x hj;refine⟨?_,(B j x hj).2⟩;show(if j.an<Hs.next.an then ρ j else _)=_;rcases akW j.an Hs.next.an with h|h;·rw[aK h];exact hj
   rw[(m.eo j h).2]at hj;cases hj
  have K:a H.next=l id:=by show(if H.next.an<Hs.next.an then _ else if H.next=H.next then _ else _)=_;rw[aq (by rw[g];omega),aK rfl]
  have p:(Hs.new o).next.an=Hs.next.an+1:=ab.gK _;obtain⟨b,x,t,X,T,V,s⟩:=u.aH (i:=id) (by rw[O];exact f.2.2);have C:=bz.HH m B u (H2:=Hs.new o) (by rw[p];omega) (λ_=>id) (λj=>j=H.next) a rfl (λj h1 h2=>by
   rw[ai.dJ]at h2;split at h2;·rename_i e;rw[e,g]
   exact absurd (m.eo j h1).1 h2) (λj hj=>by rw[hj,O,ai.dJ,aK g.symm];exact⟨by rw[g];exact afb _,by rw[p,g];omega,by rw[g];exact G,f.2.2,f.2.1,f.1,f.2.1,f.1,rfl,λx t h=>I _ _ x t h,λ_ _ h=>h⟩) (λi j h1 h2 _=>h1.trans h2.symm) (λj hj hg=>by rw[ai.dJ,aq (cG af)]at hg⊢;have v:¬hl j:=λh=>hg ((r j).1 h);have e1:=D j (by rw[<-g];exact hj);rw[e1];refine⟨hg,hg,rfl,rfl,rfl,rfl,λx t s=>?_,λ_ _ h=>h⟩;obtain⟨Y,Z,W,_,_,q⟩:=m.eF j hg;rw[(r j).2 v]at s q hg⊢;exact OR.mono y (OR.gN B (E j v hg) q s));have L:¬hl H.next:=λh=>(N _ h).2.2 (M.eo _ (afb _)).1;obtain⟨R,S⟩:=M.HG N C.1 C.2 Q (H2:=H.new o) (by show H.next.succ=Hs.next.succ;rw[g]) (λj h=>by rw[ai.dJ,aq λe:j=H.next=>L (e▸h)]) (λj h=>by
   rw[ai.dJ,ai.dJ,g];split;·rfl
   exact((r j).2 h).symm);exact⟨a,C.1,R,S,K,rfl⟩
theorem Nq(m:bz P d ρ H w)(tg:ab->Prop):∃(hl:ab->Prop)(Hs:ai),(∀j,hl j->(H.get j).oR)/\(∀j,tg j->¬hl j)/\Hs.next=H.next/\(∀j,(hl j->Hs.get j=.none)/\(¬hl j->Hs.get j=H.get j))/\bz P (d.ku ρ hl λ_=>False) ρ Hs w/\∀j,¬hl j->H.get j≠.none->tg j\/∃c n e b aM fz,H.get j=.cells c n e b aM fz:=by
 classical
  let hl:ab->Prop:=λj=>(H.get j).oR/\¬tg j;obtain⟨Hs,f,a⟩:=H.jM (λj h=>(m.eo j h).1) hl;refine⟨hl,Hs,λj h=>h.1,λj g h=>h.2 g,f,a,m.nH (λi h=>h.1) (λ_ h=>h.elim) f (λj=>?_) (λj h=>(a j).1 h),λj h1 h2=>?_⟩
  .by_cases h:hl j;·exact .inr ((a j).1 h)
   exact .inl ((a j).2 h)
  by_cases g:tg j;·exact .inl g
  right;have l:¬(H.get j).oR:=λh=>h1 ⟨h,g⟩;cases k:H.get j with|cells c n e b aM fz=>exact⟨c,n,e,b,aM,fz,rfl⟩|none=>exact absurd k h2|_=>exact absurd ⟨by rw[k];rfl,by rw[k];rfl,h2⟩ l
theorem VI{l:List Int}{n e:Nat}(g:n=l.length)(b c:aP)(x:Nat)(a:Obj)(h:OR P b (.cells (db (l.map λz=>.int 3 z)) n e true [] 0) x a):OR P c (.cells (db (l.map λz=>.int 3 z)) n e true [] 0) x a:=by cases a<;>simp only[OR]at h⊢;refine⟨h.1,h.2.1,λi hi=>?_,h.2.2.2⟩;obtain⟨v,h1,h2⟩:=h.2.2.1 i hi;refine⟨v,h1,?_⟩;have f:i<l.length:=af;rw[pR _ _ (by grind)]at h2⊢;simp only[List.getD,aks,getElem?_pos l i f,akt,akQ]at h2⊢;cases v<;>simp only[VR]at h2⊢;omega
theorem Ed:∀{es:List aT}{ks:List Int},jR es=some ks↔es.map (·.key)=ks.map λk=>.int 3 k
 |[],ks=>by simp[jR]
 |e::es,ks=>by
  simp only[jR];constructor
  .intro h;split at h;·rename_i k l h1 h2;injection h with h;subst h;simp only[aj7,h1,Ed.1 h2]
   grind
  intro h;cases ks with|nil=>grind|cons k ks=>simp only[aj7,akn]at h;simp only[h.1,Ed.2 h.2]
theorem VJ{es a:List aT}{ks:List Int}(c:(a.map aT.kv).Perm (es.map aT.kv))(h:jR es=some ks):∃b,jR a=some b/\b.Perm ks:=by
 have g:(a.map (·.key)).Perm (ks.map λk=>.int 3 k):=by have:=c.map alO;rw[alx,alx]at this;rw[<-Ed.1 h];exact this
 let f:AV->Int:=λv=>match v with|.int _ k=>k|_=>0;have e:(ks.map λk=>AV.int 3 k).map f=ks:=by
  rw[alx];have:(f∘λk=>AV.int 3 k)=id:=by funext k;rfl
  rw[this,List.map_id]
 refine⟨(a.map (·.key)).map f,Ed.2 ?_,by grind⟩;rw[alx];conv=>lhs;rw[<-List.map_id (a.map (·.key))]
 refine alk λv i=>?_;have:=g.mem_iff.1 i;rw[akk]at this;obtain⟨k,_,rfl⟩:=this;rfl
theorem VK{ac:Nat->aG}(ht:kr P ac){b s l t u G i e1 e2:Nat}(hl:ac b=.code 6 [.tmp (sl 2)] (HO s l))(hk:ac s=.code 4 [.tmp (sl 2)] (Ea i e1))(hd:ac l=.code 9 [.tmp (sl 2)] (D9 u t))(hs:ac t=.ix tb)(hc:ac u=.code 5 [.tmp (sl 2)] (B7 G))(hf:ac G=.code 13 [.tmp (sl 4)] (xY e2))(hi:ac i=.code 14 [] Eb):xD P b xP:=by
 have I:∀{d:cU}{ρ:aP}{H A:ai}{w:World}{f:ab->Prop}{Hs:ai}{bv:AV}{ks:List Int}{argv:Array Value}{n:Nat}(gN:∀{J:cU}{z:aP}{Q:ai}{q:World},bz P J z Q q->(∀j:ab,j.an<H.next.an->Q.get j=A.get j)->∃T:ai,T.next=Q.next/\bz P J z T q/\(∀j:ab,j.an<H.next.an->T.get j=Hs.get j)/\∀j:ab,H.next.an<=j.an->T.get j=Q.get j),bz P d ρ H w->(∀j,f j->(H.get j).oR)->Hs.next=H.next->(∀j,(f j->Hs.get j=.none)/\(¬f j->Hs.get j=H.get j))->bz P (d.ku ρ f λ_=>False) ρ A w->A.next=H.next->bz P (d.ku ρ f λ_=>False) ρ Hs w->(∀j,¬f j->H.get j≠.none->(∃c n e a4 aM fz,H.get j=.cells c n e a4 aM fz)\/∃es,eS (H.get j)=some es)->bj ρ [bv] argv.toList->bv.cells=[bv]->bv.ee=true->ks.length<=1000->wn ac n i bv A ks->∀(fr:Frame)(cs:List Frame),sW fr->zH P d ρ w (callFunc b argv) fr cs λV g=>(ks=[]/\V=.aS/\g=H)\/(ks≠ []/\V=.slice H.next 0 ks.length ks.length false/\g=H.new (.cells (db ((gj ks).map λn=>.int 3 n)) ks.length 3 true [] 0)):=by
  intro d ρ H A w f Hs bv ks argv n gN E hy Z ag a5 a6 av aw ha a8 a9 B K fr cs hat;have a2:=VF (n:=n) hl hk hd hs hc hf a8 a9 B K (K:=λv H4=>Ec H4 A.next.an ks v/\∀j:ab,j.an<A.next.an->H4.get j=A.get j) (λv H4 h1 h2=>⟨h1,h2⟩);have x:=(BL ht (n+150)).1 (n+150) (afb _) a2 (fv:=.func (.func b) #[] #[]) (by simp[VR,bj]) ha a5 fr cs hat;have a3:pS (.func (.func b) #[] #[]) argv=callFunc b argv:=by simp[pS,Deferred.ofValue,invoke]
  rw[a3]at x;obtain⟨v,H4,c,q,fr1,k,F,⟨k1,k2⟩,⟨z,hx,W,a',y⟩,q1,q2⟩:=x;rw[a6]at k1 k2;obtain⟨T,n3,ax,f1,f2⟩:=gN a' k2;rcases k1 with⟨rfl,rfl⟩|⟨id,rfl,ay,a0,hg⟩;·obtain⟨L,X,p,x3⟩:=bz.VG E hy Z ag av hx ax y f1 aw;have ba:=W.nF;subst ba;exact⟨.aS,H,_,q,fr1,k,F,.inl ⟨rfl,rfl,rfl⟩,⟨L,X,by simp[VR],p,x3⟩,q1,q2⟩
  have bb:ks.length=(gj ks).length:=(wi ks).length_eq.symm;obtain⟨L,X,p,x3,x4,x5⟩:=bz.VH E hy Z ag av hx ax y f1 aw a0 (by rw[f2 id a0];exact hg) ⟨rfl,rfl,aB⟩ (VI bb);refine⟨_,_,c,q,fr1,k,F,.inr ⟨ay,rfl,rfl⟩,⟨L,X,?_,p,x3⟩,q1,q2⟩;cases c with
  |slice a n' m'=>cases a with|none=>simp[VR]at W|some a=>simp only[VR]at W⊢;rw[x4,x5];exact W
  |_=>simp[VR]at W
 intro d ρ H H' w args v argv hg ha E fr cs hat;unfold xP at hg;split at hg
 .injection hg with hg;injection hg with M N;subst M;subst N;obtain⟨f,Hs,y1,_,R,y3,Y,y5⟩:=Nq E λ_=>False;obtain⟨v,g,c,q,fr1,k,F,S,r⟩:=I (A:=Hs) (ks:=[]) (n:=100) (bv:=.cY) (λh1 h2=>⟨_,rfl,h1,h2,λ_ _=>rfl⟩) E y1 R y3 Y R Y (λj h1 h2=>.inl ((y5 j h1 h2).resolve_left id)) ha rfl rfl aB (Vz hi) fr cs hat;rcases S with⟨_,rfl,rfl⟩|⟨h,_⟩;·exact⟨_,_,c,q,fr1,k,F,⟨rfl,rfl⟩,r⟩
  grind
 .rename_i m;have go:∀{ks:List Int},jT H m=some ks->ks.length<=1000->zH P d ρ w (callFunc b argv) fr cs λV g=>(ks=[]/\V=.aS/\g=H)\/(ks≠ []/\V=.slice H.next 0 ks.length ks.length false/\g=H.new (.cells (db ((gj ks).map λn=>.int 3 n)) ks.length 3 true [] 0)):=by
   intro ks O B;obtain⟨es,e1,e2,e3⟩:=xR O;obtain⟨f,Hs,y1,y0,R,y3,Y,y5⟩:=Nq E λj=>j=m;have gm:Hs.get m=H.get m:=(y3 m).2 (y0 m rfl);have a1:m.an<H.next.an:=by
    rcases akW m.an H.next.an with h|h;·exact h
    rw[(E.eo m h).1]at e1;simp[eS]at e1
   obtain⟨C,o,i1,p1,p2,p3,gN⟩:=MU Y (m:=m) (es:=es) (by rw[gm];exact e1);obtain⟨D,X,p⟩:=VJ p1 e2;have K:wn ac (C.length+100) i (.map m) (Hs.set m (.map C o)) D:=Vy hi (m:=m) (A:=Hs.set m (.map C o)) (by rw[ai.aF,aK rfl]) (by show m.an<Hs.next.an;rw[R];exact a1) p2 p3 X (p.nodup_iff.2 e3) (by rw[p.length_eq];exact B);obtain⟨v,g,c,q,fr1,k,F,S,r⟩:=I (A:=Hs.set m (.map C o)) (ks:=D) (bv:=.map m) (H:=H) (Hs:=Hs) (λ{J z Q q}h1 h2=>⟨Q.set m (Hs.get m),rfl,gN h1 (by rw[h2 m a1,ai.aF,aK rfl]),λj hj=>by
    rw[ai.aF];split;·rename_i e;rw[e]
    rename_i e;rw[h2 j hj,ai.aF,aq e],λj hj=>by rw[ai.aF,aq (cG af)]⟩) E y1 R y3 i1 (by show Hs.next=_;exact R) Y (λj h1 h2=>by
    rcases y5 j h1 h2 with h|h;·exact .inr ⟨es,by rw[h];exact e1⟩
    exact .inl h) ha rfl rfl (by rw[p.length_eq];exact B) K fr cs hat;refine⟨v,g,c,q,fr1,k,F,?_,r⟩;rw[D8 (Ac D) (Ac ks) ((wi D).trans (p.trans (wi ks).symm)),p.length_eq]at S;rcases S with⟨h,h'⟩|⟨h,h'⟩;·exact .inl ⟨by rw[h]at p;exact List.nil_perm.1 p,h'⟩
   exact .inr ⟨λe=>h (by rw[e]at p;exact List.perm_nil.1 p),h'⟩
  split at hg;·grind
  .rename_i ks ay O;split at hg;case isFalse=>grind
   rename_i bc;injection hg with hg;injection hg with M N;subst M;subst N;obtain⟨v,g,c,q,fr1,k,F,S,r⟩:=go O (akc bc);rcases S with⟨h,_⟩|⟨_,rfl,rfl⟩;·grind
   exact⟨_,_,c,q,fr1,k,F,⟨rfl,rfl⟩,r⟩
  grind
 grind
end
section
variable{P:Program}
theorem VL{f:FuncId}{fn:Func}(h1:P.funcs[f]?=some fn)(h2:(fn.name== "runtime.NumGoroutine")=false)(h3:fn.body.isNone=true)(I:Extern.findNext fn=none)(J:Extern.find fn=some Extern.MapsClone.clone):xD P f xQ:=by
 intro V W H X w args v argv hg a p fr cs hat;unfold xQ at hg;split at hg;case h_2=>grind
 rename_i t m;split at hg;case h_2=>grind
 rename_i es c K;injection hg with hg;injection hg with q s;subst q;subst s;obtain⟨b,x,ob,L,T,A,h⟩:=p.aH (i:=m) (by grind);rw[K]at h;cases ob<;>simp only[OR]at h;rename_i bx k;obtain⟨rfl,rfl,ia,M⟩:=h;have B:argv= #[.iface t (.map (some b))]:=by
  obtain⟨l⟩:=argv;cases l with
  |nil=>simp[bj]at a
  |cons N l=>
   cases l with
   |cons _ _=>simp[bj]at a
   |nil=>
    simp only[bj,and_true]at a;cases N with
    |iface u z=>
     simp only[VR]at a;obtain⟨rfl,a⟩:=a;cases z with
     |map E=>cases E with|none=>simp[VR]at a|some E=>simp only[VR]at a;rw[L]at a;injection a with a;injection a with a _;rw[a]
     |_=>simp[VR]at a
    |_=>simp[VR]at a
 subst B;have C:(getObj b).run P w=.ok (.map bx k) w:=by simp[getObj,Sem.run,A]
 have n:(callFunc f #[.iface t (.map (some b))]).run P w=.ok (.value (.iface t (.map (some w.heap.size)))) {w with heap:=w.heap.push (.map bx k)}:=by
  have F:Extern.MapsClone.clone #[.iface t (.map (some b))]=((getObj b).bind λo=>match o with|.map d i=>(newObj (.map d i)).bind λr=>pure (.iface t (.map (some r)))|_=>stuck "maps.clone: a map expected"):=rfl;have D:(Extern.MapsClone.clone #[.iface t (.map (some b))]).run P w=.ok (.iface t (.map (some w.heap.size))) {w with heap:=w.heap.push (.map bx k)}:=by rw[F];have:∀{G O:Type}(x:Sem G)(g:G->Sem O),x.bind g=x>>=g:=λ_ _=>rfl;simp only[this,Sem.run_bind,C,Result.andThen_ok,run_newObj,Sem.run_pure]
  simp only[callFunc,Sem.run_bind,run_program,Result.andThen_ok,h1,h2,h3,I,J,aes,bP,bq,run_mark,Sem.run_pure,D]
 obtain⟨Q,R,S⟩:=p.alloc (o:=.map es k) (ob:=.map bx k) (0,0) (by trivial) aB rfl (by simp only[OR];refine⟨trivial,trivial,ia,cr.mono (aP.sR w.heap.size 0 (0,0) (p.eo H.next (afb _)).2 λj c y e F=>by have:=p.fH j c y e;omega) M⟩);exact⟨_,_,_,_,_,_,_,⟨rfl,rfl⟩,⟨_,Q,by simp[VR,aP.fP],R,S⟩,DK n,Steps.refl _ _⟩
end
section
variable{P:Program}
def kM(P:Program)(f:Nat):aG->Prop
 |.none=>True
 |.code a b body=>∃fn,P.funcs[f]?=some fn/\uA P fn=some (.code a b body)/\(fn.name== "runtime.NumGoroutine")=false
 |.ix g=>xD P f g
 |.ez g=>xE P f g
theorem Ee{ac:Nat->aG}(h:∀f,kM P f (ac f)):kr P ac:=by have key:∀f v,ac f=v->kM P f v:=λf v e=>e▸h f;exact⟨λf a b body e=>key f _ e,λf g e=>key f (.ix g) e,λf g e=>key f (.ez g) e⟩
def xZ(Q:Nat->aG->Prop):ap aG->(Nat->Nat)->Prop
 |.aL,_=>True
 |.node l v r,g=>Q (g 0) v/\xZ Q l (λm=>g (2*m+1))/\xZ Q r (λm=>g (2*m+2))
theorem xZ.get{Q:Nat->aG->Prop}(hd:∀n,Q n .none):∀{t:ap aG}{g:Nat->Nat},xZ Q t g->∀n,Q (g n) (t.bw .none n)
 |.aL,g,_,n=>by simp[hd,ap.bw]
 |.node l v r,g,h,0=>by exact h.1
 |.node l v r,g,h,m+1=>by
  simp only[ap.bw];split;·have:=xZ.get hd h.2.1 (m/2);grind
  have:=xZ.get hd h.2.2 (m/2);grind
theorem VM{t:ap aG}(h:xZ (kM P) t λn=>n):kr P (t.bw .none):=Ee λf=>h.get (λ_=>trivial) f
theorem VN{eD a:Nat}(h1:kM P eD (.code 32 [] (B5 a)))(h2:kM P a (.code 13 [.tmp (sl 4)] Aa)):kr P (pX eD a):=Ee λf=>by
 unfold pX;split;·simp_all
 split;·simp_all
 trivial
def Ef(l:List (Nat×aG))(f:Nat):aG:=
 match l with
 |[]=>.none
 |(n,v)::l=>if akb n f then v else Ef l f
def Nr(Q:Nat->aG->Prop):List (Nat×aG)->Prop
 |[]=>True
 |(n,v)::l=>Q n v/\Nr Q l
theorem Nt:∀{l:List (Nat×aG)},Nr (kM P) l->∀f,kM P f (Ef l f)
 |[],_,_=>trivial
 |(n,v)::l,h,f=>by
  simp only[Ef];split;·rename_i e;rw[<-aj4 e];exact h.1
  exact Nt h.2 f
end
section
variable{P:Program}
theorem VO{ac:Nat->aG}(L:kr P ac){f M:Nat}{N:List iW}{body:bt}(hg:ac f=.code M N body){n:Nat}{args:List AV}{H:ai}{K:KT}(he:Xf ac n (.func f [] []) args H K){O:cU}{x:aP}{w:World}{argv:Array Value}(T:bj x args argv.toList)(V:bz P O x H w):Calls P f argv w λe y=>∃v z c,e=.returned c/\K v z/\dp P O x w v z c y:=by
 intro cs;cases n with
 |zero=>simp only[Xf,io]at he
 |succ n=>
  have m:zI P ac n:=(BL L n).2.1;simp only[Xf,io,hg,ak0,akT]at he;obtain⟨fn,p,q,I⟩:=L.code f M N body hg;split at he;case isFalse=>exact he.elim
  rename_i k;have k:=akc k;simp only[uA,ae5,aed,ajB,adG,aG.code.injEq]at q;obtain⟨cc,B,J,o,C,F,e1,e2,W⟩:=q;subst e1;subst e2;subst W;let b:Frame:={(default:Frame)with fn:=f,kind:=.normal};let a:Act:={tmps:=argv++alH (fn.ntmps - argv.size) undef,defers:=[]};have h:Frame.enter P f argv .normal=b.atR a [.code cc]:=by simp only[Frame.enter,Frame.atR,p,B,b,a,akt,akQ,alr];rfl
  have X:iM x fn.ntmps ⟨kJ args .xH .aL,[],none⟩ b.roundOf a:=⟨GW T k,trivial,trivial⟩;obtain⟨j,r,z,G,A,y,t,h1,h2,h3,Y,Z,Q,h7⟩:=m o he X V [] cs;have s:∃i:Frame,i={b.atR A i.todo with mode:=.returning}/\step P (lone (b.atR A t) cs y)=.next (lone i cs y):=by cases j with|none=>rw[show t=[]from Q];exact⟨_,rfl,stepR_end rfl⟩|exit id=>exact h1.elim|ret=>obtain⟨k0,rfl⟩:=Q;exact⟨_,rfl,stepR_ret rfl⟩
  obtain⟨i,d,eh⟩:=s;have g:(match jN z r.bI with
   |some H=>match gZ r.aa H C with|some l=>K (iL l) H|none=>False
   |none=>False):=by cases j with|none=>exact h1|exit id=>exact h1.elim|ret=>exact h1
  split at g
  .rename_i H2 hm;split at g
   .rename_i l hl;have u:i={i with defers:=A.defers}:=by rw[d];rfl
    obtain⟨w2,R,S,s3⟩:=DL Y h3.D hm i cs (by rw[d]);rw[<-u]at R;obtain⟨c,hc,hv⟩:=GZ S h3.E F hl;refine⟨.returned c,w2,{i with defers:=[]},⟨iL l,H2,c,rfl,g,G,h2,hv,S,Z.trans s3⟩,?_,?_,?_⟩;·rw[h];exact h7.trans (.head eh R)
    .rw[d];rfl
    refine⟨by rw[d],rfl,by rw[d];rfl,fn,by rw[d];exact p,?_⟩;rw[d];exact hc
   exact g.elim
  exact g.elim
end
section
variable{P:Program}
def VP(w:World):cU:=⟨λb=>w.heap.size<=b,λb=>w.heap.size<=b,λ_=>False,λ_=>False⟩
def Nu(n:Nat):aP:=⟨λj=>if j.an<=n then some (j.an - 1,0)else none,λ_=>(0,0)⟩
theorem VQ{n:Nat}(d:P.globals.size=n){w:World}(e:n<=w.heap.size):bz P (VP w) (Nu n) ⟨.aL,ab.dF n⟩ w:=by
 have hg:∀j,ai.get ⟨.aL,ab.dF n⟩ j=.none:=rT _;have hi:∀j b x,Nu n j=some (b,x)->j.an<=n/\b=j.an - 1:=by
  intro j b x h;have:(if j.an<=n then some (j.an - 1,0)else none)=some (b,x):=h;split at this;·rename_i a;injection this with this;injection this with h1 _;exact⟨a,h1.symm⟩
  cases this
 refine⟨λi h=>absurd (hg i) h,λi j b x y _ h=>absurd (hg i) h,λi j h=>?_,λi b x h=>absurd (hg i) h,λi h=>⟨hg i,?_⟩,λk c=>⟨c,c⟩,λg h=>?_,λi b x f h=>absurd (hg i) h,λi b x h=>?_,λi b x h=>absurd (hg i) h,λi h=>h.elim,λi h=>h.elim⟩;·rw[hg]at h;cases h
 .have:(ab.dF n).an<=i.an:=h;rw[ab.ml]at this;show(if i.an<=n then _ else _)=_;rw[aq af]
 .show(if(ab.dF g).an<=n then _ else _)=_;rw[ab.ml,aK af];simp
 obtain⟨h1,h2⟩:=hi i b x h;have:=ab.uB i;omega
end
end
section
variable{ac:Nat->aG}
structure Eg(ac:Nat->aG)(n:Nat):Prop where
 exec:∀{c fr H}{K:Nat->cP->Fr->ai->Prop},(∀m m' j fr H,m<=m'->K m j fr H->K m' j fr H)->exec False dK ac n c fr H (λj fr H=>∃m,K m j fr H)->∃m,exec False dK ac n c fr H (K m)
 aC:∀{l fr H}{K:Nat->Fr->ai->Prop},(∀m m' fr H,m<=m'->K m fr H->K m' fr H)->Go.am.aC False dK ac n l fr H (λfr H=>∃m,K m fr H)->∃m,Go.am.aC False dK ac n l fr H (K m)
 call:∀{f args H}{K:Nat->KT},(∀m m' v H,m<=m'->K m v H->K m' v H)->io False dK ac n f args H (λv H=>∃m,K m v H)->∃m,io False dK ac n f args H (K m)
theorem VS{n:Nat}(h:Eg ac n){c:bt}{fr:Fr}{H:ai}{K:Nat->cP->Fr->ai->Prop}(g:∀m p j fr H,m<=p->K m j fr H->K p j fr H)(he:exec False dK ac (n+1) c fr H (λj fr H=>∃m,K m j fr H)):∃m,exec False dK ac (n+1) c fr H (K m):=by
 have mo:=mono ac n;cases c with
 |skip=>simp only[exec]at he⊢;exact he
 |region l=>simp only[exec]at he⊢;exact h.aC (λm p fr H=>g m p .none fr H) he
 |seq a b=>
  simp only[exec]at he⊢;refine h.exec (K:=λm j fr H=>match j with|.none=>exec False dK ac n b fr H (K m)|j=>K m j fr H) (λm p j fr H k hj=>?_) (mo.exec (afb _) (λj fr H hj=>?_) he);·cases j with|none=>exact mo.exec (afb _) (λj fr H=>g m p j fr H k) hj|exit i=>exact g _ _ _ _ _ k hj|ret=>exact g _ _ _ _ _ k hj
  cases j with|none=>exact h.exec g hj|exit i=>exact hj|ret=>exact hj
 |cond c a b=>
  simp only[exec]at he⊢;split at he;·exact h.exec g he
  .exact h.exec g he
  exact he.elim
 |block id b=>
  simp only[exec]at he⊢;refine h.exec (K:=λm j fr H=>match j with|.exit i=>if akb i id then K m .none fr H else K m (.exit i) fr H|j=>K m j fr H) (λm p j fr H k hj=>?_) (mo.exec (afb _) (λj fr H hj=>?_) he);·cases j with|none=>exact g _ _ _ _ _ k hj|exit i=>simp only at hj⊢;split at hj<;>rename_i hi<;>simp only[hi,bq,bP,aes]<;>exact g _ _ _ _ _ k hj|ret=>exact g _ _ _ _ _ k hj
  cases j with|none=>exact hj|exit i=>simp only at hj⊢;split at hj<;>rename_i hi<;>simp only[hi,bq,bP,aes]<;>exact hj|ret=>exact hj
 |loop b=>
  simp only[exec]at he⊢;refine h.exec (K:=λm j fr H=>match j with|.none=>exec False dK ac n (.loop b) fr H (K m)|j=>K m j fr H) (λm p j fr H k hj=>?_) (mo.exec (afb _) (λj fr H hj=>?_) he);·cases j with|none=>exact mo.exec (afb _) (λj fr H=>g m p j fr H k) hj|exit i=>exact g _ _ _ _ _ k hj|ret=>exact g _ _ _ _ _ k hj
  cases j with|none=>exact h.exec g hj|exit i=>exact hj|ret=>exact hj
 |rangeFunc f q as r=>
  simp only[exec]at he⊢;have go:∀(K:cP->Fr->ai->Prop)(w:cP->Fr->ai->Prop)(_:∀j fr H,K j fr H->w j fr H)(fr:Fr)(l:ab)(e:ai),(match e.get l with
   |.loop st cB fn aa q as r d=>match st with|.busy=>False|_=>K cB fr (e.set l (.loop .exhausted cB fn aa q as r d))
   |_=>False)->(match e.get l with
   |.loop st cB fn aa q as r d=>match st with|.busy=>False|_=>w cB fr (e.set l (.loop .exhausted cB fn aa q as r d))
   |_=>False):=by
   intro K w x fr l e o;cases s:e.get l with
   |loop st cB fn aa q as r d=>rw[s]at o;cases st<;>first|exact o.elim|exact x _ _ _ o
   |_=>rw[s]at o;exact o.elim
  have u:∀(fr:Fr)(l:ab)(e:ai),(match e.get l with
   |.loop st cB fn aa q as r d=>match st with|.busy=>False|_=>∃m,K m cB fr (e.set l (.loop .exhausted cB fn aa q as r d))
   |_=>False)->∃m,(match e.get l with
   |.loop st cB fn aa q as r d=>match st with|.busy=>False|_=>K m cB fr (e.set l (.loop .exhausted cB fn aa q as r d))
   |_=>False):=by
   intro fr l e o;cases s:e.get l with
   |loop st cB fn aa q as r d=>rw[s]at o;cases st<;>first|exact o.elim|exact o
   |_=>rw[s]at o;exact o.elim
  cases y:fr.bG with
  |none=>rw[y]at he;simp only at he⊢;exact h.call (λm p v e k=>go _ _ (λj fr H=>g m p j fr H k) _ _ _) (mo.call (afb _) (λv e o=>u _ _ _ o) he)
  |some l=>
   rw[y]at he;simp only at he⊢;split at he;·exact h.call (λm p v e k=>go _ _ (λj fr H=>g m p j fr H k) _ _ _) (mo.call (afb _) (λv e o=>u _ _ _ o) he)
   exact he.elim
 |exit id=>simp only[exec]at he⊢;exact he
 |ret=>simp only[exec]at he⊢;exact he
 |ez t=>
  simp only[exec]at he⊢;split at he
  .split at he;·exact he
   exact he.elim
  exact he.elim
theorem Nv{Q:Nat->Nat->Prop}(c:∀i m d,m<=d->Q i m->Q i d):∀n,(∀i,i<n->∃m,Q i m)->∃m,∀i,i<n->Q i m
 |0,_=>⟨0,λi h=>by omega⟩
 |n+1,h=>by
  obtain⟨a,f⟩:=Nv c n λi hi=>h i af;obtain⟨b,hb⟩:=h n aB;refine⟨max a b,λi hi=>?_⟩;by_cases e:i=n;·grind
  exact c _ _ _ (Nat.le_max_left ..) (f i af)
theorem VT{n:Nat}(h:Eg ac n){l:List be}{fr:Fr}{H:ai}{K:Nat->Fr->ai->Prop}(j:∀m a fr H,m<=a->K m fr H->K a fr H)(he:Go.am.aC False dK ac (n+1) l fr H (λfr H=>∃m,K m fr H)):∃m,Go.am.aC False dK ac (n+1) l fr H (K m):=by
 have mo:=mono ac n;cases l with
 |nil=>trivial
 |cons o l=>
  simp only[Go.am.aC]at he⊢;have f:∀(m a:Nat)(s:List (ab×cq))(v:AV)(H:ai),m<=a->(if fG (aQ fr.aa o.dst v) (eB H s) o.re=true then Go.am.aC False dK ac n l {fr with aa:=aQ fr.aa o.dst v} (eB H s) (K m)else False)->(if fG (aQ fr.aa o.dst v) (eB H s) o.re=true then Go.am.aC False dK ac n l {fr with aa:=aQ fr.aa o.dst v} (eB H s) (K a)else False):=by
   intro m a s v H e b;split at b;·rename_i k;rw[aK k];exact mo.aC (afb _) (λfr H=>j m a fr H e) b
   exact b.elim
  have g:∀(s:List (ab×cq))(v:AV)(H:ai),(if fG (aQ fr.aa o.dst v) (eB H s) o.re=true then Go.am.aC False dK ac n l {fr with aa:=aQ fr.aa o.dst v} (eB H s) (λfr H=>∃m,K m fr H)else False)->∃m,(if fG (aQ fr.aa o.dst v) (eB H s) o.re=true then Go.am.aC False dK ac n l {fr with aa:=aQ fr.aa o.dst v} (eB H s) (K m)else False):=by
   intro s v H b;split at b;·rename_i k;obtain⟨m,e⟩:=h.aC j b;exact⟨m,by rw[aK k];exact e⟩
   exact b.elim
  split at he
  .rename_i hg;simp only[aK hg];split at he;·exact h.call (λm a v p e=>f m a _ v p e) (mo.call (afb _) (λv p b=>g _ v p b) he)
   .split at he
    .rename_i cs d _;refine Nv (Q:=λi m=>match cs[i]? with|some c=>if fG (aQ fr.aa o.dst (d c).1) (eB (d c).2 (eV fr.aa H o.jM).2) o.re=true then Go.am.aC False dK ac n l {fr with aa:=aQ fr.aa o.dst (d c).1} (eB (d c).2 (eV fr.aa H o.jM).2) (K m)else False|none=>False) (λi m a e b=>?_) cs.length λi hi=>?_;·grind
     have:=he i hi;simp_all
    grind
   split at he;all_goals grind
  rename_i hg;simp only[aq hg];split at he;·rename_i hd;simp only[aK hd];exact h.aC j he
  grind
def B8(l:ab)(K:KT)(j:cP)(H:ai):Prop:=
 match H.get l with
 |.loop _ _ fn aa a as b d=>match j with
  |.none=>K (.bool true) (H.set l (.loop .ready .none fn aa a as b d))
  |j=>K (.bool false) (H.set l (.loop .done j fn aa a as b d))
 |_=>False
theorem VU{n:Nat}(h:Eg ac n){f:AV}{args:List AV}{H:ai}{K:Nat->KT}(p:∀m k v H,m<=k->K m v H->K k v H)(he:io False dK ac (n+1) f args H (λv H=>∃m,K m v H)):∃m,io False dK ac (n+1) f args H (K m):=by
 have mo:=mono ac n;cases f<;>(try(simp only[io]at he;done))
 .simp only[io]at he⊢;split at he;·grind
  .grind
  .grind
  split at he
  .rename_i u results body _ q;simp only[aK q];have aA:∀(K:KT)(K':KT)(_:∀v H,K v H->K' v H)(fr:Fr)(H:ai),(match jN H fr.bI with
    |some H=>match gZ fr.aa H results with|some l=>K (iL l) H|none=>False
    |none=>False)->(match jN H fr.bI with
    |some H=>match gZ fr.aa H results with|some l=>K' (iL l) H|none=>False
    |none=>False):=by
    intro K K' r fr H a;split at a
    .split at a;·exact r _ _ a
     exact a.elim
    exact a.elim
   have g:∀(fr:Fr)(H:ai),(match jN H fr.bI with
    |some H=>match gZ fr.aa H results with|some l=>∃m,K m (iL l) H|none=>False
    |none=>False)->∃m,(match jN H fr.bI with
    |some H=>match gZ fr.aa H results with|some l=>K m (iL l) H|none=>False
    |none=>False):=by
    intro fr H a;split at a
    .split at a;·exact a
     exact a.elim
    exact a.elim
   refine h.exec (K:=λm j fr H=>match j with
    |.exit _=>False
    |_=>match jN H fr.bI with
     |some H=>match gZ fr.aa H results with|some l=>K m (iL l) H|none=>False
     |none=>False) (λm k j fr H c hj=>?_) (mo.exec (afb _) (λj fr H hj=>?_) he);·cases j with|exit i=>omega|none=>exact aA _ _ (λv H=>p m k v H c) _ _ hj|ret=>exact aA _ _ (λv H=>p m k v H c) _ _ hj
   cases j with|exit i=>grind|none=>exact g _ _ hj|ret=>exact g _ _ hj
  grind
 rename_i l;simp only[io]at he⊢;split at he
 .split at he
  .split at he
   .rename_i hl;simp only[aK hl];refine h.exec (K:=λm j fr H=>match j,H.get l with
     |.none,.loop .ready cB fn aa e as bd' d=>exec False dK ac n _ fr (H.set l (.loop .busy cB fn aa e as bd' d)) λj _ H=>match H.get l with
      |.loop _ _ fn aa e as o d=>match j with|.none=>K m (.bool true) (H.set l (.loop .ready .none fn aa e as o d))|j=>K m (.bool false) (H.set l (.loop .done j fn aa e as o d))
      |_=>False
     |_,_=>False) (λm k j fr H c hj=>?_) (mo.exec (afb _) (λj fr H hj=>?_) he)
    .split at hj;·refine mo.exec (afb _) (λj _ H a=>?_) hj;cases b:H.get l with|loop st cB fn aa e as o d=>rw[b]at a;cases j<;>exact p _ _ _ _ c a|_=>rw[b]at a;exact a.elim
     exact hj.elim
    split at hj;·have s:=mo.exec (afb _) (K':=λj _ H=>∃m,B8 l (K m) j H) (λj _ H a=>(by unfold B8;cases b:H.get l with|loop st cB fn aa e as o d=>rw[b]at a;cases j<;>exact a|_=>rw[b]at a;exact a.elim)) hj;obtain⟨m,c⟩:=h.exec (K:=λm j _ H=>B8 l (K m) j H) (λm k j _ H c a=>by unfold B8 at a⊢;cases b:H.get l with|loop st cB fn aa e as o d=>rw[b]at a;cases j<;>exact p _ _ _ _ c a|_=>rw[b]at a;exact a.elim) s;rename_i t;refine⟨m,?_⟩;simp only[t];refine mo.exec (afb _) (λj _ H a=>?_) c;unfold B8 at a;cases b:H.get l with|loop st cB fn aa e as o d=>rw[b]at a;cases j<;>exact a|_=>rw[b]at a;exact a.elim
    exact hj.elim
   exact he.elim
  exact he.elim
 exact he.elim
theorem Ad(ac:Nat->aG):∀n,Eg ac n|0=>⟨λ_ he=>by trivial,λ_ he=>by trivial,λ_ he=>by trivial⟩|n+1=>by have h:=Ad ac n;exact⟨VS h,VT h,VU h⟩
end
end Go.am
end
