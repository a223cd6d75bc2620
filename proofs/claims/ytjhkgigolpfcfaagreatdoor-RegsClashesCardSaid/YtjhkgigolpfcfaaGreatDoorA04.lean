/- A part of the proof. No conditions. -/
import Derived.Test.YtjhkgigolpfcfaaGreatDoorA03
import Derived.Test.YtjhkgigolpfcfaaGreatDoorA01
set_option linter.all false
open Option.some renaming injEq→acm
open Option renaming bind_eq_some_iff→acR,bind_eq_bind→adO,pure_def→af1,getD_some→ahs
open List renaming mem_singleton→ac3,mem_cons_self→adc,mem_cons→adC,mem_cons_of_mem→adD,mem_append→agI,map_cons→agN,mem_append_left→agU,range→agV,not_mem_nil→ag0,mem_map→ag3,mem_map_of_mem→ag5,mem_append_right→ag7,nodup_cons→ahg,eq_nil_of_length_eq_zero→ahp,append_nil→ahx,nodup_append→ahy,mem_range→ahV,map_nil→ahX,all_eq_true→ah1,pairwise_cons→ah4,mapM_cons→aic,mem_filter→aik
open Bool renaming false_eq_true→ac6,and_eq_true→agM,not_true→ag9,not_eq_true'→ahA,or_eq_true→ahT
open Nat renaming le_refl→adW,eq_of_beq_eq_true→agO,beq→agQ,le_of_ble_eq_true→agT,zero_add→agW,blt→aha,ble_eq_true_of_le→ahi,lt_or_ge→ahz,blt_eq→ahF,ble→ahG,beq_refl→ahQ,le_trans→ahY,add_zero→ail
open Prod.mk renaming injEq→age
open List.cons renaming injEq→ag4
open Array renaming getD_eq_getD_getElem?→aho,getElem?_eq_none→ahE,replicate→ain
open Classical renaming byContradiction→ahe
open List.Perm renaming refl→ais
open Ne renaming symm→aio
open Eq renaming mpr→aiu
noncomputable section
namespace Go.ak
section
variable[Ov]
section
variable{P:Program}{nt:Nat}{az:Array Oper}{l:List aS}{ap:List Nat}
theorem sq(aa:am AV)(d:Option ac)(v:AV)(t:ac):(aM aa d v).get .aiw t=if d=some t then v else aa.get .aiw t:=by cases d with|none=>rfl|some d=>simp only[aM,am.aD];grind
theorem Gr{aa a:am AV}{x:aS}(b:∀t∈x.lB,aa.get .aiw t=a.get .aiw t):ft aa x.guard=ft a x.guard:=by grind[aS.lB,ft]
theorem Lu{aa a:am AV}{x:aS}(b:∀t∈x.lB,aa.get .aiw t=a.get .aiw t):lA aa x.guard=lA a x.guard:=by grind[aS.lB,lA]
theorem za{x:aS}{t:ac}(a:t∈x.op.cH):t∈x.lB:=by simp[a,aS.lB]
structure mj(P:Program)(nt:Nat)(az:Array Oper)(l:List aS)(ap:List Nat):Prop where
 hl:az.toList.mapM (sa P nt az)=some l
 he:Av az=true
 eS:∀i,i<az.size→i∈ap
 gJ:yL l (Region.before az) ap=true
theorem Lw{d c:Type}{f:d→Option c}:∀{as:List d}{bs:List c},as.mapM f=some bs→∀(i:Nat)(b:c),bs[i]?=some b→∃a,as[i]?=some a∧f a=some b|[],bs,l,i,b,hb=>by grind|a::as,bs,l,i,b,hb=>by simp only[aic,adO,acR,af1,acm]at l;obtain⟨k,h0,j,h1,rfl⟩:=l;cases i with|zero=>grind|succ i=>simpa using Lw h1 i b hb
theorem mj.op(b:mj P nt az l ap){i:Nat}{x:aS}(a:l[i]?=some x):∃o,az[i]?=some o∧sa P nt az o=some x:=by obtain⟨o,h1,h2⟩:=Lw b.hl i x a;grind
def Gs(l:List aS)(b:Array Nat)(seen:List Nat)(e aa:am AV)(H:af)(i:Nat):Prop:=
 ∃(x:aS)(a da:List Nat)(ex:am AV),l[i]?=some x∧seen=a++i::da∧
  (∀t,(∃k∈da,gh l k t)→ex.get .aiw t=aa.get .aiw t)∧(∀t,(∀k∈da,¬gh l k t)→ex.get .aiw t=e.get .aiw t)∧
  ((ft ex x.guard=false∧lA ex x.guard=true∧∀d,x.dst=some d→aa.get .aiw d=.aiw)∨
   (ft ex x.guard=true∧∃v,(∀d,x.dst=some d→aa.get .aiw d=v)∧
    ((x.op.mh=false∧∀H':af,aB x.op ex H'=some (v,H'))∨
    (x.op.j8=true∧(∀j,x.op.target ex=some j→H.get j≠.none∧∀k∈seen,Mk l aa k j→ke b i k)∧∀H':af,(∀j,x.op.target ex=some j→H'.get j=H.get j)→aB x.op ex H'=some (v,H'))∨
    (x.op.mh=true∧∃(nv:lV)(ev:b9)(j:ac),ev.lW∧v=nv.of j∧H.get j=ev∧∀H':af,aB x.op ex H'=some (nv.of H'.next,H'.new ev)))))
structure Dr(P:Program)(Wr:cJ)(nt:Nat)(az:Array Oper)(l:List aS)(ap:List Nat)(ab:Nat→aE)(K:Fr→af→Prop)(bF:List ac)(bD:Option ac)(env0:am AV)
  (L:Array Bool)(seen rest:List Nat)(n:Nat)(aa:am AV)(H:af)(epi:am AV)(pn:List ac)(ρ:aL)(w:World)(tmps:Array Value):Prop where
 iw:seen.reverse++rest=ap
 size:L.size=az.size
 sub:∀i,In L i→i∈seen
 pK:∀i,In L i→∀j,lX az i j→In L j
 Gt:∀i∈seen,Ch l i→In L i
 run:Go.ak.az False dF ab n (sc l (Region.before az) seen rest) ⟨aa,bF,bD⟩ H K
 uc:∀t,(∀i∈seen,¬gh l i t)→aa.get .aiw t=env0.get .aiw t
 uZ:∀t,(∀i∈seen,¬In L i→¬gh l i t)→epi.get .aiw t=aa.get .aiw t
 AP:∀t i,i∈seen→¬In L i→gh l i t→epi.get .aiw t=env0.get .aiw t
 qX:∀j,j∈pn↔∃i∈seen,¬In L i∧Mk l aa i j
 lB:∀i i' j,i∈seen→i'∈seen→Mk l aa i j→Mk l aa i' j→i=i'
 sr:∀i j,i∈seen→Mk l aa i j→j.al<H.next.al∧(j∈pn∨ρ j≠none)
 lW:∀i j,i∈seen→Mk l aa i j→(∀c∈seen,Ch l c→¬ke (Region.before az) c i)→(H.get j).lW
 cq:∀i∈seen,¬In L i→Gs l (Region.before az) seen env0 aa H i
 eT:∀j∈pn,ρ j=none∧¬Wr.un j∧∀k,j∉(H.get k).aK
 E:iU ρ nt epi tmps
 ky:bt P Wr ρ (H.fL pn) w
section
variable{h:cJ}{ab:Nat→aE}{K:Fr→af→Prop}{bF:List ac}{bD:Option ac}{e:am AV}{L:Array Bool}{seen rest:List Nat}{n:Nat}{aa:am AV}{H:af}{g:am AV}{m:List ac}{ρ:aL}{w:World}{tmps:Array Value}
theorem AQ(a:mj P nt az l ap)(b:seen.reverse++rest=ap):seen.Pairwise (λj i=>tF l (Region.before az) i j=true)∧(∀i∈seen,∀j∈rest,tF l (Region.before az) i j=true):=by have:=(AO a.gJ).1;grind
theorem pL(a:seen.reverse++rest=ap){i:Nat}(hi:i∈seen):i∈ap:=by grind
theorem wM(a:seen.reverse++rest=ap){i:Nat}(hi:i∈rest):i∈ap:=by grind
theorem u6(a:mj P nt az l ap){i:Nat}(hi:i∈ap):∃x,l[i]?=some x∧tG x=true:=(AO a.gJ).2 i hi
theorem AR(a:mj P nt az l ap)(b:seen.reverse++rest=ap){i:Nat}(hi:i∈rest):i∉seen:=by intro hs;obtain⟨x,c,_⟩:=u6 a (wM b hi);exact(qW ((AQ a b).2 i hs i hi) c c).1 rfl
theorem Lx(b:mj P nt az l ap)(c:seen.reverse++rest=ap){a da:List Nat}{i:Nat}(hs:seen=a++i::da):(∀k∈da,tF l (Region.before az) k i=true)∧(∀k∈a,tF l (Region.before az) i k=true):=by have:=(AQ b c).1;grind
theorem Dr.KI(J:mj P nt az l ap)(d:Dr P h nt az l ap ab K bF bD e L seen rest n aa H g m ρ w tmps){i:Nat}(hi:¬In L i)(hd:∀j,lX az i j→In L j){x:aS}{D da:List Nat}{ex:am AV}(I:l[i]?=some x)(hs:seen=D++i::da)(h1:∀t,(∃k∈da,gh l k t)→ex.get .aiw t=aa.get .aiw t)(h2:∀t,(∀k∈da,¬gh l k t)→ex.get .aiw t=e.get .aiw t):∀t∈x.lB,g.get .aiw t=ex.get .aiw t:=by
 intro t M;have E:=uY d.pK i hd;obtain⟨q,A⟩:=Lx J d.iw hs;have inj:∀{a b:Nat},a∈seen→b∈seen→gh l a t→gh l b t→a=b:=λO hb=>gh.inj J.gJ (pL d.iw O) (pL d.iw hb);by_cases B:∃k∈seen,gh l k t
 ·obtain⟨k,o,s⟩:=B;have C:=o;rw[hs,agI,adC]at C;obtain⟨y,p,r⟩:=s;rcases C with F|rfl|F;·have G:=((qW (A k F) I p).2.2.2.1 t r M).1;have u:¬In L k:=λv=>hi (uY d.pK k (d.pK k v) i G);rw[d.AP t k o u ⟨y,p,r⟩];refine(h2 t λN f c=>?_).symm;have:=inj o (by rw[hs];simp[f]) ⟨y,p,r⟩ c;subst this;exact(qW (q k f) p I).2.1 G
  ·rw[d.AP t k o hi ⟨y,p,r⟩];refine(h2 t λN f c=>?_).symm;have:=inj o (by rw[hs];simp[f]) ⟨y,p,r⟩ c;subst this;exact(qW (q k f) p p).1 rfl
  have G:=((qW (q k F) p I).2.2.1 t r).2 M;have v:=E k G;rw[h1 t ⟨k,F,y,p,r⟩];refine d.uZ t λN f u c=>?_;have:=inj o f ⟨y,p,r⟩ c;subst this;exact u v
 have z:∀k∈seen,¬gh l k t:=λk o s=>B ⟨k,o,s⟩;rw[d.uZ t λk o _=>z k o,d.uc t z];exact(h2 t λk o=>z k (by rw[hs];simp[o])).symm
theorem Dr.SR(c:mj P nt az l ap)(d:Dr P h nt az l ap ab K bF bD e L seen rest n aa H g m ρ w tmps){i:Nat}(f:i∈rest)(hd:∀j,lX az i j→In L j){x:aS}(o:l[i]?=some x):∀t∈x.lB,g.get .aiw t=aa.get .aiw t:=by intro t p;refine d.uZ t λk q a b=>?_;obtain⟨y,r,s⟩:=b;exact a (uY d.pK i hd k (((qW ((AQ c d.iw).2 k q i f) r o).2.2.1 t s).2 p))
end
theorem Gu{o:Oper}{x:aS}(c:sa P nt az o=some x){aa:am AV}{H:af}{r:AV×af}(a:aB x.op aa H=some r):bN P nt o=some x.op:=by
 obtain⟨_,_,_,b,_⟩:=AL c;rw[b]at a;rw[b];split at a;·trivial
 rename_i d;rw[an d];cases f:bN P nt o with|none=>simp_all[aB]|some q=>rfl
theorem Df{o:Oper}{op:bO}{i:Nat}{is:List Nat}{b:Frame}{a:Act}{k:List Item}{cs:List Frame}{w w':World}{c:Value}(f:az[i]?=some o)(n:bN P nt o=some op)(hg:Region.wanted o (yielded az a.tmps)=true)(j:(execOp a.eval o).run P w=.ok (.value c) w'∨((execOp a.eval o).run P w=.ok .skip w'∧c=undef)):Steps P (lone (b.atR a (.inRegion az (i::is)::k)) cs w) (lone (b.atR (a.put o.dst c) (.inRegion az is::k)) cs w'):=by
 have l:(b.atR a (.inRegion az (i::is)::k)).finish c=b.atR (a.put o.dst c) (.inRegion az is::k):=by rw[Frame.finish_atR,f];rfl
 have d:=stepGR_op (P:=P) (b:=b) (a:=a) (k:=k) (cs:=cs) (w:=w) (rest:=is) f hg;rw[Oper.semAt_eq _ _ _ (AM n)]at d;refine .one (step_lone_go ?_);rw[d,←l];rcases j with p|⟨p,rfl⟩;all_goals grind[C9,Ge]
theorem Ly{o:Oper}{i:Nat}{is:List Nat}{b:Frame}{a:Act}{k:List Item}{cs:List Frame}{w:World}(c:az[i]?=some o)(hg:Region.wanted o (yielded az a.tmps)=false):Steps P (lone (b.atR a (.inRegion az (i::is)::k)) cs w) (lone (b.atR (a.put o.dst undef) (.inRegion az is::k)) cs w):=by have dW:=stepR_op_skip (P:=P) (b:=b) (a:=a) (k:=k) (cs:=cs) (w:=w) (ops:=az) (i:=i) (rest:=is) (by simp[c,hg]);rw[c]at dW;exact .one dW
theorem Lz{ρ:aL}{aa:am AV}{tmps:Array Value}(c:iU ρ nt aa tmps){o:Oper}{x:aS}(b:sa P nt az o=some x)(a:lA aa x.guard=true):Region.wanted o (yielded az tmps)=ft aa x.guard:=Ld (a:=⟨tmps,[]⟩) (fr:=⟨aa,[],none⟩) (ro:=none) ⟨c,trivial,trivial⟩ b a
theorem AS(a:Act)(d:Option Tmp)(c:Value):(a.put d c).defers=a.defers:=by cases d<;>rfl
theorem iU.put{ρ:aL}{aa:am AV}{a:Act}(f:iU ρ nt aa a.tmps){v:AV}{c:Value}(b:VR ρ v c)(d:Option Tmp):iU ρ nt (aM aa (d.map ac.dj) v) (a.put d c).tmps:=by cases d with|none=>exact f|some d=>exact f.set b
end
section
variable{P:Program}{nt:Nat}{az:Array Oper}{l:List aS}{ap:List Nat}
variable{h:cJ}{ab:Nat→aE}{K:Fr→af→Prop}{bF:List ac}{bD:Option ac}{m:am AV}{L:Array Bool}{seen rest:List Nat}{n:Nat}{aa:am AV}{H:af}{g:am AV}{f:List ac}{ρ:aL}{w:World}{tmps:Array Value}
theorem Dr.mark(F:mj P nt az l ap)(d:Dr P h nt az l ap ab K bF bD m L seen rest n aa H g f ρ w tmps){i:Nat}(iW:i∈seen)(D:i<az.size)(B:∀j,lX az i j→In L j){c:am AV}{s:List ac}{o:aL}{w':World}{r:Array Value}(C:cz ρ o)(p:∀t,(gh l i t→c.get .aiw t=aa.get .aiw t)∧(¬gh l i t→c.get .aiw t=g.get .aiw t))(u:∀j,j∈s↔j∈f∧¬Mk l aa i j)(v:∀j,Mk l aa i j→o j≠none)(y:∀j∈s,o j=none)(G:iU o nt c r)(I:bt P h o (H.fL s) w'):Dr P h nt az l ap ab K bF bD m (L.setIfInBounds i true) seen rest n aa H c s o w' r:=by
 have b:∀j,In (L.setIfInBounds i true) j↔j=i∨In L j:=Gq (by rw[d.size];exact D);have q:∀j,¬In (L.setIfInBounds i true) j→j≠i∧¬In L j:=λj hj=>⟨λe=>hj ((b j).2 (.inl e)),λe=>hj ((b j).2 (.inr e))⟩;refine⟨d.iw,by rw[Array.size_setIfInBounds];exact d.size,?_,?_,λk a J=>(b k).2 (.inr (d.Gt k a J)),d.run,d.uc,?_,?_,?_,d.lB,?_,d.lW,λk a z=>d.cq k a (q k z).2,?_,G,I⟩
 ·intro j hj;rcases(b j).1 hj with e|e;·rw[e];exact iW
  exact d.sub j e
 ·intro j hj k a;rcases(b j).1 hj with e|e;·rw[e]at a;exact(b k).2 (.inr (B k a))
  exact(b k).2 (.inr (d.pK j e k a))
 ·intro t M;by_cases hd:gh l i t;·exact(p t).1 hd
  rw[(p t).2 hd];refine d.uZ t λk a z=>?_;by_cases e:k=i;·rw[e];exact hd
  exact M k a λR=>(b k).1 R|>.elim e z
 ·intro t k a z A;obtain⟨h1,h2⟩:=q k z;rw[(p t).2 λhd=>h1 (gh.inj F.gJ (pL d.iw a) (pL d.iw iW) A hd)];exact d.AP t k a h2 A
 ·intro j;rw[u,d.qX];constructor;·rintro⟨⟨k,a,h1,h2⟩,h3⟩;exact⟨k,a,λR=>(b k).1 R|>.elim (λe=>h3 (e▸h2)) h1,h2⟩
  rintro⟨k,a,h1,h2⟩;obtain⟨N,O⟩:=q k h1;exact⟨⟨k,a,O,h2⟩,λh3=>N (d.lB k i j a iW h2 h3)⟩
 ·intro k j a Q;obtain⟨h1,h2⟩:=d.sr k j a Q;refine⟨h1,?_⟩;rcases h2 with h2|h2
  ·by_cases hi:Mk l aa i j;·exact .inr (v j hi)
   exact .inl ((u j).2 ⟨h2,hi⟩)
  right;intro e;cases E:ρ j with|none=>exact h2 E|some x=>rw[(C _ _ E).1]at e;cases e
 intro j hj;exact⟨y j hj,(d.eT j ((u j).1 hj).1).2⟩
theorem lV.zb{n:lV}{i:ac}{c:Value}(k:VR ρ (n.of i) c):ρ i≠none:=by
 cases n with
 |aw=>obtain⟨b,x,e,_⟩:=VR.nO k;grind
 |slice a b e=>
  simp only[lV.of]at k;cases c with
  |slice ad d j=>cases ad with|none=>trivial|some ad=>grind[VR]
  |_=>trivial
 |map=>obtain⟨b,e,_⟩:=VR.oC k;grind
theorem lC(H:af)(f:List ac)(j:ac):(H.fL f).get j=if j∈f then .none else H.get j:=af.wE f H j
theorem Dr.SS(hR:mj P nt az l ap)(d:Dr P h nt az l ap ab K bF bD m L seen rest n aa H g f ρ w tmps){i:Nat}(iW:i∈seen)(hi:¬In L i)(B:∀j,lX az i j→In L j){b:Frame}{a:Act}(ha:a.tmps=tmps)(is:List Nat)(k:List Item)(cs:List Frame):∃(u:aL)(w':World)(a':Act)(S:am AV)(F:List ac),cz ρ u∧d9 h w w'∧a'.defers=a.defers∧Steps P (lone (b.atR a (.inRegion az (i::is)::k)) cs w) (lone (b.atR a' (.inRegion az is::k)) cs w')∧Dr P h nt az l ap ab K bF bD m (L.setIfInBounds i true) seen rest n aa H S F u w' a'.tmps:=by
 subst ha;obtain⟨x,ca,da,ex,hx,hs,h1,h2,z⟩:=d.cq i iW hi;obtain⟨o,Q,ar⟩:=hR.op hx;obtain⟨xd,_⟩:=AL ar;have a2:i<az.size:=by
  rcases ahz i az.size with q|q;·exact q
  rw[ahE q]at Q;cases Q
 have a6:=d.KI hR hi B hx hs h1 h2;have b5:lA ex x.guard=true:=by
  rcases z with⟨_,cf,_⟩|⟨cf,_⟩;·exact cf
  exact Gj cf
 have a8:Region.wanted o (yielded az a.tmps)=ft ex x.guard:=by rw[Lz d.E ar (by rw[Lu a6];exact b5)];exact Gr a6
 have T:∀H',aB x.op g H'=aB x.op ex H':=λH'=>Gm (λp hp=>a6 p (za hp)) H';have V:∀{v:AV},(∀t,x.dst=some t→aa.get .aiw t=v)→∀t,(gh l i t→(aM g x.dst v).get .aiw t=aa.get .aiw t)∧(¬gh l i t→(aM g x.dst v).get .aiw t=g.get .aiw t):=by
  intro v N t;rw[sq];refine⟨λ⟨y,O,dy⟩=>?_,λhn=>?_⟩;·rw[hx]at O;injection O with O;subst O;rw[aH dy,N t dy]
  rw[an λe=>hn ⟨x,hx,e⟩]
 have J:∀j,Mk l aa i j→x.op.mh=true∧∃t,x.dst=some t∧jd (aa.get .aiw t)=some j:=by rintro j⟨y,t,O,g1,g2,g3⟩;rw[hx]at O;injection O with O;subst O;exact⟨g1,t,g2,g3⟩
 have G:∀j∈f,j.al<H.next.al:=λj hj=>by obtain⟨k',ba,_,M⟩:=(d.qX j).1 hj;exact(d.sr k' j ba M).1
 have W:∀j∈f,∀k,j∉((H.fL f).get k).aK:=λj hj k hk=>by
  rw[lC]at hk;split at hk;·cases hk
  exact(d.eT j hj).2.2 k hk
 have I:(H.fL f).next=H.next:=af.jS _ _;have Y:∀{v:AV},x.op.mh=false→aB x.op g (H.fL f)=some (v,H.fL f)→(∀t,x.dst=some t→aa.get .aiw t=v)→ft ex x.guard=true→∃(u:aL)(w':World)(a':Act)(S:am AV)(F:List ac),cz ρ u∧d9 h w w'∧a'.defers=a.defers∧Steps P (lone (b.atR a (.inRegion az (i::is)::k)) cs w) (lone (b.atR a' (.inRegion az is::k)) cs w')∧Dr P h nt az l ap ab K bF bD m (L.setIfInBounds i true) seen rest n aa H S F u w' a'.tmps:=by intro v M A N hg;have bb:=d.ky.ka (hl:=λ_=>False) (dd:=λj=>j∈f) (λ_ cf=>cf.elim) (λj hj=>⟨by rw[lC,aH hj],(d.eT j hj).1,by rw[I];exact G j hj,W j hj⟩) rfl (λ_=>.inl rfl) (λ_ cf=>cf.elim);have C:=Gu ar A;obtain⟨c,w',X,u,s,av,R,hK⟩:=AJ (dR.mk d.E bb) C A;obtain⟨u1,u2⟩:=d.ky.Gp (hl:=λ_=>False) (λ_ cf=>cf.elim) s R hK (H2:=H.fL f) rfl (λ_ cf=>cf.elim) (λ_ _=>rfl);refine⟨u,w',a.put o.dst c,aM g x.dst v,f,s,u2,AS ..,Df Q C (by rw[a8];exact hg) X,?_⟩;refine d.mark hR iW a2 B s (V N) (λj=>⟨λhj=>⟨hj,λcf=>by rw[M]at J;have:=(J j cf).1;cases this⟩,λhj=>hj.1⟩) (λj cf=>by rw[M]at J;have:=(J j cf).1;cases this) (λj hj=>(R.eT j (.inr hj)).2) ?_ u1;rw[xd];exact(d.E.mono s).put av o.dst
 rcases z with⟨hg,_,N⟩|⟨hg,v,N,z⟩
 ·refine⟨ρ,w,a.put o.dst undef,aM g x.dst .aiw,f,cz.refl ρ,d9.refl h w,AS ..,Ly Q (by rw[a8];exact hg),?_⟩;have bd:∀j,¬Mk l aa i j:=λj cf=>by obtain⟨_,t,g1,g2⟩:=J j cf;rw[N t g1]at g2;simp[AV.aiw,jd]at g2
  refine d.mark hR iW a2 B (cz.refl ρ) (V N) (λj=>⟨λhj=>⟨hj,bd j⟩,λhj=>hj.1⟩) (λj cf=>absurd cf (bd j)) (λj hj=>(d.eT j hj).1) ?_ d.ky;rw[xd];exact d.E.put (VR.aiw ρ) o.dst
 rcases z with⟨M,A⟩|⟨hr,b6,A⟩|⟨M,nv,ev,D,O,rfl,b0,A⟩;·exact Y (v:=v) M (by rw[T];exact A (H.fL f)) N hg
 ·refine Y (v:=v) (y9 hr).2.1 ?_ N hg;rw[T];refine A (H.fL f) λj hj=>?_;rw[lC,an];intro b';obtain⟨k',ba,hn,b3⟩:=(d.qX j).1 b';exact hn (uY d.pK i B k' ((b6 j hj).2 k' ba b3))
 obtain⟨x',ax,b4⟩:=u6 hR (pL d.iw iW);rw[hx]at ax;injection ax with ax;subst ax;obtain⟨t0,bc⟩:∃t,x.dst=some t:=by cases hd:x.dst with|some t=>exact⟨t,rfl⟩|none=>simp[tG,hd,(y8 M).1,(y8 M).2.2]at b4
 have Z:jd (aa.get .aiw t0)=some D:=by rw[N t0 bc];exact lV.name nv D
 have bv:Mk l aa i D:=⟨x,t0,hx,M,bc,Z⟩;have ag:∀j,Mk l aa i j→j=D:=by intro j cf;obtain⟨_,t,g1,g2⟩:=J j cf;rw[bc]at g1;injection g1 with g1;subst g1;rw[Z]at g2;injection g2 with g2;exact g2.symm
 have ay:D∈f:=(d.qX D).2 ⟨i,iW,hi,bv⟩;have r:∀j,j∈f.filter (λj=>decide (j≠D))↔j∈f∧j≠D:=λj=>by simp
 generalize cd:f.filter (λj=>decide (j≠D))=F at r;have bb:=d.ky.ka (hl:=λ_=>False) (dd:=λj=>j∈F) (λ_ cf=>cf.elim) (λj hj=>⟨by rw[lC,aH ((r j).1 hj).1],(d.eT j ((r j).1 hj).1).1,by rw[I];exact G j ((r j).1 hj).1,W j ((r j).1 hj).1⟩) rfl (λ_=>.inl rfl) (λ_ cf=>cf.elim);have a1:∀H':af,aB x.op g H'=some (nv.of H'.next,H'.new ev):=λH'=>by rw[T];exact A H'
 have C:=Gu ar (a1 H);obtain⟨c,w',X,u,s,av,R,hK⟩:=SG bb d.E C O a1 (d.eT D ay).1 (by rw[I];exact G D ay) (by
  rintro(cf|cf|cf);·exact(d.eT D ay).2.1 cf
  ·exact cf
  exact((r D).1 cf).2 rfl) (W D ay);obtain⟨u1,u2⟩:=d.ky.Gp (hl:=λ_=>False) (λ_ cf=>cf.elim) s R hK (H2:=H.fL F) (by rw[af.jS,af.fR,af.jS]) (λ_ cf=>cf.elim) (λj _=>by
  rw[lC,af.aD,lC];by_cases e:j=D;·subst e;rw[an λcf=>((r j).1 cf).2 rfl,aH rfl];exact b0
  by_cases e':j∈f;·rw[aH ((r j).2 ⟨e',e⟩),an e,aH e']
  rw[an λcf=>e' ((r j).1 cf).1,an e,an e']);refine⟨u,w',a.put o.dst c,aM g x.dst (nv.of D),F,s,u2,AS ..,Df Q C (by rw[a8];exact hg) X,?_⟩;refine d.mark hR iW a2 B s (V N) (λj=>?_) (λj cf=>?_) (λj hj=>(R.eT j (.inr hj)).2) ?_ u1;·rw[r];exact⟨λcf=>⟨cf.1,λM=>cf.2 (ag j M)⟩,λcf=>⟨cf.1,λe=>cf.2 (e▸bv)⟩⟩
 ·rw[ag j cf];exact lV.zb av
 rw[xd];exact(d.E.mono s).put av o.dst
end
section
variable{P:Program}{nt:Nat}{az:Array Oper}{l:List aS}{ap:List Nat}
variable{r:cJ}{ab:Nat→aE}{K:Fr→af→Prop}{bF:List ac}{bD:Option ac}{s:am AV}{L:Array Bool}{seen rest:List Nat}{n:Nat}{aa:am AV}{H:af}{p:am AV}{h:List ac}{ρ:aL}{w:World}{tmps:Array Value}
theorem Mk.Gv{aa a:am AV}{i:Nat}{j:ac}(c:∀t,gh l i t→a.get .aiw t=aa.get .aiw t):Mk l a i j↔Mk l aa i j:=by
 constructor;·rintro⟨x,t,b,h1,h2,h3⟩;exact⟨x,t,b,h1,h2,by rw[←c t ⟨x,b,h2⟩];exact h3⟩
 rintro⟨x,t,b,h1,h2,h3⟩;exact⟨x,t,b,h1,h2,by rw[c t ⟨x,b,h2⟩];exact h3⟩
theorem SU(f:mj P nt az l ap){c:Nat}{rest:List Nat}(g:seen.reverse++c::rest=ap){a ex:am AV}{i:Nat}{y:aS}{e da:List Nat}(q:l[i]?=some y)(u:y.op.j8=true)(hs:seen=e++i::da)(h1:∀t,(∃k∈da,gh l k t)→ex.get .aiw t=a.get .aiw t)(h2:∀t,(∀k∈da,¬gh l k t)→ex.get .aiw t=s.get .aiw t)(h0:∀t,(∀k∈c::seen,¬gh l k t)→a.get .aiw t=s.get .aiw t):∀t∈y.lB,a.get .aiw t=ex.get .aiw t:=by
 intro t v;by_cases j:∃k∈da,gh l k t;·grind
 rw[h2 t λk b d=>j ⟨k,b,d⟩];refine h0 t λk b d=>?_;obtain⟨z,m,n⟩:=d;have iW:i∈seen:=by rw[hs];simp
 have after:tF l (Region.before az) i k=true→False:=λgJ=>by have:=((qW gJ q m).2.2.2.1 t n v).2;rw[u]at this;cases this
 rcases adC.1 b with rfl|b;·exact after ((AQ f g).2 i iW k (adc ..))
 rw[hs,agI,adC]at b;rcases b with b|rfl|b;·grind[Lx]
 ·obtain⟨x,w,o⟩:=u6 f (pL g iW);simp_all[tG,y9]
 exact j ⟨k,b,z,m,n⟩
theorem Dr.LA(hR:mj P nt az l ap){c:Nat}(d:Dr P r nt az l ap ab K bF bD s L seen (c::rest) n aa H p h ρ w tmps){x:aS}(hx:l[c]?=some x)(a2:x.op.iT=true)(ag:∀j,lX az c j→In L j){v:AV}{H2:af}{n':Nat}{J:aL}{w':World}{S:Array Value}(bv:cz ρ J)(ha:∀j k,k∈seen→¬ke (Region.before az) c k→Mk l aa k j→H2.get j=H.get j)(hI:bt P r J (H2.fL h) w')(T:∀j∈h,J j=none∧∀k,j∉(H2.get k).aK)(b0:∀j k,k∈seen→Mk l aa k j→j.al<H2.next.al)(b6:∀i∈seen,¬In L i→∀y,l[i]?=some y→y.op.j8=true→ft (aM aa x.dst v) y.guard=true→∀t,y.dst=some t→(∀j,H2.get j=H.get j)∨∃H1,aB y.op (aM aa x.dst v) H2=some ((aM aa x.dst v).get .aiw t,H1))(hE:iU J nt (aM p x.dst v) S)(b3:Go.ak.az False dF ab n' (sc l (Region.before az) (c::seen) rest) ⟨aM aa x.dst v,bF,bD⟩ H2 K):Dr P r nt az l ap ab K bF bD s (L.setIfInBounds c true) (c::seen) rest n' (aM aa x.dst v) H2 (aM p x.dst v) h J w' S:=by
 obtain⟨o,a6,cp⟩:=hR.op hx;have b':c<az.size:=by
  rcases ahz c az.size with q|q;·exact q
  rw[ahE q]at a6;cases a6
 have b:∀j,In (L.setIfInBounds c true) j↔j=c∨In L j:=Gq (by rw[d.size];exact b');have O:∀j,¬In (L.setIfInBounds c true) j→j≠c∧¬In L j:=λj hj=>⟨λe=>hj ((b j).2 (.inl e)),λe=>hj ((b j).2 (.inr e))⟩;have a8:c∈c::rest:=adc .. ;have Z:c∉seen:=AR hR d.iw a8;have a':∀t,gh l c t↔x.dst=some t:=λt=>⟨λ⟨y,m,dy⟩=>by rw[hx]at m;injection m with m;subst m;exact dy,λcv=>⟨x,hx,cv⟩⟩;have F:∀i t,i∈seen→gh l i t→x.dst≠some t:=λi t hi hd e=>Z (gh.inj hR.gJ (pL d.iw hi) (wM d.iw a8) hd ((a' t).2 e)▸hi);have A:∀t,x.dst≠some t→(aM aa x.dst v).get .aiw t=aa.get .aiw t:=λt cv=>by rw[sq,an cv]
 have ar:∀t,x.dst≠some t→(aM p x.dst v).get .aiw t=p.get .aiw t:=λt cv=>by rw[sq,an cv]
 have B:∀i j,i∈c::seen→(Mk l (aM aa x.dst v) i j↔i∈seen∧Mk l aa i j):=by
  intro i j hi;rcases adC.1 hi with e|e;·subst e;refine⟨λcv=>?_,λcv=>absurd cv.1 Z⟩;obtain⟨y,t,m,I,_⟩:=cv;rw[hx]at m;injection m with m;subst m;rw[(SP a2).1]at I;cases I
  rw[Mk.Gv λt D=>A t (F i t e D)];exact⟨λcv=>⟨e,cv⟩,λcv=>cv.2⟩
 have h0:∀t,(∀k∈c::seen,¬gh l k t)→(aM aa x.dst v).get .aiw t=s.get .aiw t:=by intro t D;rw[A t λe=>D c (adc ..) ((a' t).2 e)];exact d.uc t λk a=>D k (adD _ a)
 refine⟨by rw[←d.iw];simp,by rw[Array.size_setIfInBounds];exact d.size,?_,?_,?_,b3,h0,?_,?_,?_,?_,?_,?_,?_,?_,hE,hI⟩
 ·intro j hj;rcases(b j).1 hj with e|e;·rw[e];exact adc ..
  exact adD _ (d.sub j e)
 ·intro j hj k a;rcases(b j).1 hj with e|e;·rw[e]at a;exact(b k).2 (.inr (ag k a))
  exact(b k).2 (.inr (d.pK j e k a))
 ·intro j hj hc;rcases adC.1 hj with e|e;·exact(b j).2 (.inl e)
  exact(b j).2 (.inr (d.Gt j e hc))
 ·intro t D;by_cases e:x.dst=some t;·rw[sq,sq,aH e,aH e]
  rw[ar t e,A t e];refine d.uZ t λk a hn=>D k (adD _ a) λcv=>?_;rcases(b k).1 cv with e'|e';·exact Z (e'▸a)
  exact hn e'
 ·intro t k a hn M;obtain⟨G,E⟩:=O k hn;have ba:k∈seen:=(adC.1 a).resolve_left G;rw[ar t (F k t ba M)];exact d.AP t k ba E M
 ·intro j;rw[d.qX];constructor;·rintro⟨k,a,G,E⟩;exact⟨k,adD _ a,λcv=>(b k).1 cv|>.elim (λe=>Z (e▸a)) G,(B k j (adD _ a)).2 ⟨a,E⟩⟩
  rintro⟨k,a,G,E⟩;obtain⟨g3,g4⟩:=(B k j a).1 E;exact⟨k,g3,(O k G).2,g4⟩
 ·intro i i' j hi ca G E;obtain⟨X,Y⟩:=(B i j hi).1 G;obtain⟨b1,b2⟩:=(B i' j ca).1 E;exact d.lB i i' j X b1 Y b2
 ·intro i j hi G;obtain⟨X,Y⟩:=(B i j hi).1 G;refine⟨b0 j i X Y,?_⟩;rcases(d.sr i j X Y).2 with g|g;·exact .inl g
  right;intro e;cases W:ρ j with|none=>exact g W|some z=>rw[(bv _ _ W).1]at e;cases e
 ·intro i j hi G E;obtain⟨X,Y⟩:=(B i j hi).1 G;rw[ha j i X (E c (adc ..) ⟨x,hx,a2⟩) Y];exact d.lW i j X Y λk a=>E k (adD _ a)
 ·intro i hi hn;obtain⟨G,E⟩:=O i hn;have iW:i∈seen:=(adC.1 hi).resolve_left G;obtain⟨y,b4,da,ex,m,hs,h1,h2,C⟩:=d.cq i iW E;have bb:∀t,(∃k∈da,gh l k t)→ex.get .aiw t=(aM aa x.dst v).get .aiw t:=by rintro t⟨k,a,M⟩;rw[A t (F k t (by rw[hs];simp[a]) M)];exact h1 t ⟨k,a,M⟩
  have Q:∀t,y.dst=some t→(aM aa x.dst v).get .aiw t=aa.get .aiw t:=λt D=>A t (F i t iW ⟨y,m,D⟩);refine⟨y,c::b4,da,ex,m,by rw[hs];rfl,bb,h2,?_⟩;rcases C with⟨hg,cd,hv⟩|⟨hg,u,hv,C⟩;·exact .inl ⟨hg,cd,λt D=>by rw[Q t D];exact hv t D⟩
  refine .inr ⟨hg,u,λt D=>by rw[Q t D];exact hv t D,?_⟩;rcases C with⟨I,N⟩|⟨W,ay,N⟩|⟨I,nv,ev,j0,cf,bc,b5,N⟩;·exact .inl ⟨I,N⟩
  ·have bd:=SU hR d.iw m W hs bb h2 h0;obtain⟨y',f,R⟩:=u6 hR (pL d.iw iW);rw[m]at f;injection f with f;subst f;obtain⟨t0,a1⟩:∃t,y.dst=some t:=by cases hd:y.dst with|some t=>exact⟨t,rfl⟩|none=>simp[tG,hd,(y9 W).1,(y9 W).2.2]at R
   right;left;have av:∀j,(∀k∈seen,Mk l aa k j→ke (Region.before az) i k)→∀k∈c::seen,Mk l (aM aa x.dst v) k j→ke (Region.before az) i k:=λj cv k a I=>by obtain⟨X,Y⟩:=(B k j a).1 I;exact cv k X Y
   rcases b6 i iW E y m W (by rw[Gr bd];exact hg) t0 a1 with V|⟨H1,ax⟩;·exact⟨W,λj hj=>⟨by rw[V];exact(ay j hj).1,av j (ay j hj).2⟩,λH' cn=>N H' λj hj=>by rw[cn j hj,V]⟩
   rw[Q t0 a1,hv t0 a1,Gm (λcx hp=>bd cx (za hp))]at ax;obtain⟨_,q2,q3⟩:=Lm W ax;exact⟨W,λj hj=>⟨q2 j hj,av j (ay j hj).2⟩,q3⟩
  right;right;refine⟨I,nv,ev,j0,cf,bc,?_,N⟩;rw[ha j0 i iW (λhA=>E (uY d.pK c ag i hA)) ?_];·exact b5
  obtain⟨y',f,R⟩:=u6 hR (pL d.iw iW);rw[m]at f;injection f with f;subst f;cases hd:y.dst with|some t=>exact⟨y,t,m,I,hd,by rw[hv t hd,bc];exact lV.name nv j0⟩|none=>simp[tG,hd,(y8 I).1,(y8 I).2.2]at R
 intro j hj;exact⟨(T j hj).1,(d.eT j hj).2.1,(T j hj).2⟩
theorem Dr.SV(hR:mj P nt az l ap)(bd:∀m,m<n→ua P ab m){c:Nat}(d:Dr P r nt az l ap ab K bF bD s L seen (c::rest) n aa H p h ρ w tmps)(ca:Ch l c)(N:∀j,lX az c j→In L j){b:Frame}{a:Act}(hat:a.tmps=tmps)(is:List Nat)(k:List Item)(cs:List Frame):∃(D:aL)(w':World)(a':Act)(n':Nat)(env':am AV)(H':af)(ag:am AV)(a6:List ac),n'≤n∧cz ρ D∧d9 r w w'∧a'.defers=a.defers∧Steps P (lone (b.atR a (.inRegion az (c::is)::k)) cs w) (lone (b.atR a' (.inRegion az is::k)) cs w')∧Dr P r nt az l ap ab K bF bD s (L.setIfInBounds c true) (c::seen) rest n' env' H' ag a6 D w' a'.tmps:=by
 subst hat;obtain⟨x,hx,a8⟩:=ca;obtain⟨o,Y,ba⟩:=hR.op hx;obtain⟨xd,_,_,xo,_⟩:=AL ba;have b3:c∈c::rest:=adc .. ;have X:=d.SR hR b3 N hx;have J:lA aa x.guard=true→Region.wanted o (yielded az a.tmps)=ft aa x.guard:=λbb=>by rw[Lz d.E ba (by rw[Lu X];exact bb)];exact Gr X
 have u:=d.run;simp only[sc,hx]at u;cases n with
 |zero=>simp only[Go.ak.az]at u
 |succ n=>
  have ax:(H.fL h).next=H.next:=af.jS _ _;have bv:∀j∈h,j.al<H.next.al:=λj hj=>by obtain⟨S,F,_,W⟩:=(d.qX j).1 hj;exact(d.sr S j F W).1
  simp only[Go.ak.az,FJ,a8,Bool.true_or,bm]at u;cases hg:ft aa x.guard with
  |false=>
   rw[hg]at u J;simp only[ac6,bK]at u;split at u;case isFalse=>exact u.elim
   rename_i bb;have J:=J bb;refine⟨ρ,w,a.put o.dst undef,n,aM aa x.dst .aiw,H,aM p x.dst .aiw,h,Nat.le_succ n,cz.refl ρ,d9.refl r w,AS ..,Ly Y J,?_⟩;exact d.LA hR hx a8 N (cz.refl ρ) (λ_ _ _ _ _=>rfl) d.ky (λj hj=>⟨(d.eT j hj).1,(d.eT j hj).2.2⟩) (λj k hk W=>(d.sr k j hk W).1) (λ_ _ _ _ _ _ _ _ _=>.inl λ_=>rfl) (by rw[xd];exact d.E.put (VR.aiw ρ) o.dst) u
  |true=>
   have J:=J (Gj hg);rw[hg]at u J;simp only[bm]at u;generalize b5:Au l (Region.before az) seen c=B at u;have O:=De aa B H;have ar:∀j,j∈jx aa B↔∃k∈seen,¬ke (Region.before az) c k∧Mk l aa k j:=λj=>by rw[←b5];exact Ls
   have a1:∀j∈h,j∈jx aa B:=λj hj=>by obtain⟨S,F,T,W⟩:=(d.qX j).1 hj;exact(ar j).2 ⟨S,F,λhA=>T (uY d.pK c N S hA),W⟩
   have V:∀i,(i∈jx aa B∧i∉h)→((H.fL h).get i).lW:=by rintro i⟨h1,h2⟩;obtain⟨S,F,T,W⟩:=(ar i).1 h1;rw[lC,an h2];refine d.lW S i F W λc' cd⟨z,hz,cf⟩hA=>?_;exact T (((qW ((AQ hR d.iw).2 c' cd c b3) hz hx).2.2.2.2 cf).2 S hA)
   have bc:=d.ky.ka (hl:=λi=>i∈jx aa B∧i∉h) (dd:=λj=>j∈h) V (λj hj=>⟨by rw[lC,aH hj],(d.eT j hj).1,by rw[ax];exact bv j hj,λk hk=>by
    rw[lC]at hk;split at hk;·cases hk
    exact(d.eT j hj).2.2 k hk⟩) (H2:=(eM aa H B).1) (by rw[(O .xH).2.1,ax]) (λj=>by
    rw[(O j).1,lC];by_cases e:j∈jx aa B;·rw[aH e];exact .inr rfl
    rw[an e,an λdv=>e (a1 j dv)];exact .inl rfl) (λi hi=>by rw[(O i).1,aH hi.1]);have aq:∀{v:AV}{H1:af}{cv:Value}{w':World}{D:aL},cz ρ D→VR D v cv→bt P (r.ka ρ (λi=>i∈jx aa B∧i∉h) λj=>j∈h) D H1 w'→d9 (r.ka ρ (λi=>i∈jx aa B∧i∉h) λj=>j∈h) w w'→Steps P (lone (b.atR a (.inRegion az (c::is)::k)) cs w) (lone (b.atR (a.put o.dst cv) (.inRegion az is::k)) cs w')→(if fh (aM aa x.dst v) (d8 H1 (eM aa H B).2) (j8 l (Region.before az) seen c)=true then Go.ak.az False dF ab n (sc l (Region.before az) (c::seen) rest) ⟨aM aa x.dst v,bF,bD⟩ (d8 H1 (eM aa H B).2) K else False)→∃(D:aL)(w':World)(a':Act)(n':Nat)(env':am AV)(H':af)(ag:am AV)(a6:List ac),n'≤n+1∧cz ρ D∧d9 r w w'∧a'.defers=a.defers∧Steps P (lone (b.atR a (.inRegion az (c::is)::k)) cs w) (lone (b.atR a' (.inRegion az is::k)) cs w')∧Dr P r nt az l ap ab K bF bD s (L.setIfInBounds c true) (c::seen) rest n' env' H' ag a6 D w' a'.tmps:=by
    intro v H1 cv w' D C hv G hK dW ay;split at ay;case isFalse=>exact ay.elim
    rename_i b4;have Z:∀j,(d8 H1 (eM aa H B).2).get j=if j∈jx aa B then H.get j else H1.get j:=λj=>((O j).2.2 H1).1;have av:(d8 H1 (eM aa H B).2).next=H1.next:=((O .xH).2.2 H1).2;generalize d8 H1 (eM aa H B).2=H2 at ay b4 Z av;obtain⟨u1,u2⟩:=d.ky.Gp V C G hK (H2:=H2.fL h) (by rw[af.jS];exact av) (λi hi=>by rw[lC,lC,an hi.2,an hi.2,Z,aH hi.1]) (λi hi=>by
     rw[lC];by_cases e:i∈h;·rw[aH e];exact(G.un i (.inr (.inr e))).1.symm
     rw[an e,Z,an λdv=>hi ⟨dv,e⟩]);refine⟨D,w',a.put o.dst cv,n,aM aa x.dst v,H2,aM p x.dst v,h,Nat.le_succ n,C,u2,AS ..,dW,?_⟩;refine d.LA hR hx a8 N (v:=v) C (λj S F T W=>by rw[Z,aH ((ar j).2 ⟨S,F,T,W⟩)]) u1 ?_ ?_ ?_ (by rw[xd];exact(d.E.mono C).put hv o.dst) ay
    ·intro j hj;refine⟨(G.eT j (.inr hj)).2,λS F=>?_⟩;rw[Z]at F;split at F;·exact(d.eT j hj).2.2 S F
     exact(G.un j (.inr (.inr hj))).2.2 S F
    ·intro j S F W;rw[av];by_cases e:j∈jx aa B
     ·by_cases e':j∈h;·exact(G.un j (.inr (.inr e'))).2.1
      exact(G.un j (.inr (.inl ⟨e,e'⟩))).2.1
     have hl:ρ j≠none:=((d.sr S j F W).2).resolve_left λdv=>e (a1 j dv);rcases ahz j.al H1.next.al with q|q;·exact q
     exfalso;cases hr:ρ j with|none=>exact hl hr|some z=>have:=(G.dV j q).2;rw[(C _ _ hr).1]at this;cases this
    intro i hi T y hy hr cn t ht;right;have W:=SQ (l:=l) (anc:=Region.before az) (i:=c) hi hy hr (λhA=>T (uY d.pK c N i hA)) ht;obtain⟨H3,h3⟩:=Lt b4 _ W cn;exact⟨H3,h3⟩
   split at u
   ·rename_i f args A;have M:bN P nt o=some (.call f args)∧yK o.op=true:=by
     rw[xo]at A;split at A;·cases A
     rename_i T;rw[A]at T;simp only[bO.As,Bool.true_and,ahA,Bool.not_eq_false]at T;refine⟨?_,T⟩;cases hc:bN P nt o with|none=>rw[hc]at A;cases A|some q=>rw[hc]at A;simp only[ahs]at A;rw[A]
    obtain⟨cc,g,ho,cp,h1,h2⟩:=Lg M.2 M.1;have R:=stepGR_op (P:=P) (b:=b) (a:=a) (k:=k) (cs:=cs) (w:=w) (rest:=is) Y J;rw[Oper.semAt_eq _ _ _ (AM M.1)]at R;have b6:execOp a.eval o=pb (a.eval g) (cc.args.map a.eval):=by simp only[execOp,ho,resolve,cp,pb]
    rw[b6]at R;have hf:gv aa f=gv p f:=lU λds hp=>(X ds (za (by rw[A];simp[bO.cH,hp]))).symm;have cx:args.map (gv aa)=args.map (gv p):=Dd λds hp=>(X ds (za (by rw[A];simp only[bO.cH,agI];exact .inr hp))).symm;have b0:be ρ (args.map (gv p)) (cc.args.map a.eval).toList:=by rw[Array.toList_map];exact yR d.E d.ky h2
    obtain⟨v,H1,c',w',fr1,c9,w1,hK,⟨D,C,hv,G,I⟩,hb,hs⟩:=bd n (Nat.lt_succ_self n) u (by rw[hf];exact yQ h1 d.E d.ky) (by rw[cx];exact b0) bc (b.atR a (.inRegion az (c::is)::k)) cs (by simp[sj,Frame.atR]);have b':(b.atR a (.inRegion az (c::is)::k)).finish c'=b.atR (a.put o.dst c') (.inRegion az is::k):=by rw[Frame.finish_atR,Y];rfl
    refine aq C hv G I ?_ hK;rw[←b'];exact .head (step_lone_go (by rw[R];exact hb)) hs
   ·rename_i it A;have Q:bN P nt o=some (.lx it):=by
     rw[xo]at A;split at A;·cases A
     cases hc:bN P nt o with|none=>rw[hc]at A;cases A|some q=>rw[hc]at A;simp only[ahs]at A;rw[A]
    split at u;·rename_i c8 dm T;rw[lU (env':=p) (x:=it) λds hp=>(X ds (za (by rw[A];simpa[bO.cH]using hp))).symm]at T;obtain⟨j,dr,hj,cy,cv,w',hr,D,C,hv,G,I⟩:=KZ (dR.mk d.E bc) Q T;have u:=u j hj;simp only[cy]at u;exact aq C hv G I (Df Y Q J hr) u
    exact u.elim
   split at u
   ·rename_i v H1 cE;have a2:aB x.op p (eM aa H B).1=some (v,H1):=by rw[Gm (λds hp=>X ds (za hp))];exact cE
    have Q:=Gu ba a2;obtain⟨cv,w',hr,D,C,hv,G,I⟩:=AJ (dR.mk d.E bc) Q a2;exact aq C hv G I (Df Y Q J hr) u
   exact u.elim
end
section
variable{P:Program}{nt:Nat}{az:Array Oper}{l:List aS}{ap:List Nat}
variable{f:cJ}{ab:Nat→aE}{K:Fr→af→Prop}{bF:List ac}{bD:Option ac}{g:am AV}{L:Array Bool}{seen rest:List Nat}{n:Nat}{aa:am AV}{H:af}{h:am AV}{a:List ac}{ρ:aL}{w:World}{tmps:Array Value}
theorem Dr.LB(d:Dr P f nt az l ap ab K bF bD g L seen rest n aa H h a ρ w tmps){j:ac}(e:H.get j≠.none):j.al<H.next.al:=by
 rcases ahz j.al H.next.al with q|q;·omega
 exfalso;have h1:=(d.ky.dV j (by rw[af.jS];exact q)).1;rw[lC]at h1;split at h1;·rename_i hj;obtain⟨k,b,_,c⟩:=(d.qX j).1 hj;have:=(d.sr k j b c).1;omega
 grind
theorem Dr.LC(hR:mj P nt az l ap){i:Nat}(d:Dr P f nt az l ap ab K bF bD g L seen (i::rest) n aa H h a ρ w tmps){x:aS}(hx:l[i]?=some x)(ar:x.op.iT=false){v:AV}{I:af}{n':Nat}{pn':List ac}(C:∀j,H.get j≠.none→I.get j=H.get j)(a8:H.next.al≤I.next.al)(J:∀j,j∈pn'↔j∈a∨Mk l (aM aa x.dst v) i j)(o:∀j,Mk l (aM aa x.dst v) i j→H.next.al≤j.al∧j.al<I.next.al∧(I.get j).lW∧ρ j=none∧¬f.un j∧∀k,j∉(I.get k).aK)(hI:bt P f ρ (I.fL pn') w)(fS:∀j∈a,∀k,j∉(I.get k).aK)(hp:Gs l (Region.before az) (i::seen) g (aM aa x.dst v) I i)(Z:Go.ak.az False dF ab n' (sc l (Region.before az) (i::seen) rest) ⟨aM aa x.dst v,bF,bD⟩ I K):Dr P f nt az l ap ab K bF bD g L (i::seen) rest n' (aM aa x.dst v) I h pn' ρ w tmps:=by
 have R:i∈i::rest:=adc .. ;have S:i∉seen:=AR hR d.iw R;have T:¬In L i:=λa'=>S (d.sub i a');have M:∀t,gh l i t↔x.dst=some t:=λt=>⟨λ⟨y,s,dy⟩=>by rw[hx]at s;injection s with s;subst s;exact dy,λa'=>⟨x,hx,a'⟩⟩;have D:∀k t,k∈seen→gh l k t→x.dst≠some t:=λk t b hd e=>S (gh.inj hR.gJ (pL d.iw b) (wM d.iw R) hd ((M t).2 e)▸b);have q:∀t,x.dst≠some t→(aM aa x.dst v).get .aiw t=aa.get .aiw t:=λt a'=>by rw[sq,an a']
 have p:∀k j,k∈seen→(Mk l (aM aa x.dst v) k j↔Mk l aa k j):=λk j b=>Mk.Gv λt z=>q t (D k t b z);have av:∀j,Mk l (aM aa x.dst v) i j→H.get j=.none:=λj hj=>by apply ahe;intro ax;have:=d.LB ax;have:=(o j hj).1;omega
 refine⟨by rw[←d.iw];simp,d.size,λj hj=>adD _ (d.sub j hj),d.pK,?_,Z,?_,?_,?_,?_,?_,?_,?_,?_,?_,d.E,hI⟩
 ·intro j hj hc;rcases adC.1 hj with e|e;·subst e;obtain⟨y,s,V⟩:=hc;rw[hx]at s;injection s with s;subst s;rw[ar]at V;cases V
  exact d.Gt j e hc
 ·intro t z;rw[q t λe=>z i (adc ..) ((M t).2 e)];exact d.uc t λk b=>z k (adD _ b)
 ·intro t z;rw[q t λe=>z i (adc ..) T ((M t).2 e)];exact d.uZ t λk b=>z k (adD _ b)
 ·intro t k b hn G;rcases adC.1 b with e|e;·subst e;have W:∀r∈seen,¬gh l r t:=λr m hd=>D r t m hd ((M t).1 G);rw[d.uZ t λr m _=>W r m];exact d.uc t W
  exact d.AP t k e hn G
 ·intro j;rw[J,d.qX];constructor
  ·rintro(⟨k,b,h1,h2⟩|a');·exact⟨k,adD _ b,h1,(p k j b).2 h2⟩
   exact⟨i,adc ..,T,a'⟩
  rintro⟨k,b,h1,h2⟩;rcases adC.1 b with e|e;·subst e;exact .inr h2
  exact .inl ⟨k,e,h1,(p k j e).1 h2⟩
 ·intro k r j b m h1 h2;rcases adC.1 b with e|e
  ·rcases adC.1 m with B|B;·rw[e,B]
   subst e;have:=(d.sr r j B ((p r j B).1 h2)).1;have:=(o j h1).1;omega
  rcases adC.1 m with B|B;·subst B;have:=(d.sr k j e ((p k j e).1 h1)).1;have:=(o j h2).1;omega
  exact d.lB k r j e B ((p k j e).1 h1) ((p r j B).1 h2)
 ·intro k j b F;rcases adC.1 b with e|e;·subst e;exact⟨(o j F).2.1,.inl ((J j).2 (.inr F))⟩
  obtain⟨h1,h2⟩:=d.sr k j e ((p k j e).1 F);exact⟨by omega,h2.imp (λa'=>(J j).2 (.inl a')) id⟩
 ·intro k j b F hc;rcases adC.1 b with e|e;·subst e;exact(o j F).2.2.1
  have s:=d.lW k j e ((p k j e).1 F) λc ay=>hc c (adD _ ay);rw[C j (so s).2.2];exact s
 ·intro k b hn;rcases adC.1 b with e|e;·subst e;exact hp
  obtain⟨y,ag,da,ex,s,hs,h1,h2,A⟩:=d.cq k e hn;have N:∀t,y.dst=some t→(aM aa x.dst v).get .aiw t=aa.get .aiw t:=λt z=>q t (D k t e ⟨y,s,z⟩);refine⟨y,i::ag,da,ex,s,by rw[hs];rfl,?_,h2,?_⟩;·rintro t⟨r,m,G⟩;rw[q t (D r t (by rw[hs];simp[m]) G)];exact h1 t ⟨r,m,G⟩
  rcases A with⟨hg,a1,hv⟩|⟨hg,u,hv,A⟩;·exact .inl ⟨hg,a1,λt z=>by rw[N t z];exact hv t z⟩
  refine .inr ⟨hg,u,λt z=>by rw[N t z];exact hv t z,?_⟩;rcases A with a'|⟨hr,X,Q⟩|⟨F,nv,ev,j0,Y,a2,O,Q⟩;·exact .inl a'
  ·refine .inr (.inl ⟨hr,λj hj=>?_,λH' a6=>Q H' λj hj=>by rw[a6 j hj,C j (X j hj).1]⟩);obtain⟨g1,g2⟩:=X j hj;refine⟨by rw[C j g1];exact g1,λr m F=>?_⟩;rcases adC.1 m with B|B;·subst B;exact absurd (av j F) g1
   exact g2 r B ((p r j B).1 F)
  refine .inr (.inr ⟨F,nv,ev,j0,Y,a2,?_,Q⟩);rw[C j0 (by rw[O];exact(so Y).2.2)];exact O
 intro j hj;rcases(J j).1 hj with a'|a';·exact⟨(d.eT j a').1,(d.eT j a').2.1,fS j a'⟩
 exact(o j a').2.2.2
theorem Dr.Gw(hR:mj P nt az l ap):∀(rest:List Nat){seen:List Nat}{n:Nat}{aa:am AV}{H:af}{a:List ac},Dr P f nt az l ap ab K bF bD g L seen rest n aa H h a ρ w tmps→∃(B o:List Nat)(Z:Nat)(q:am AV)(H':af)(pn':List ac),Z≤n∧Dr P f nt az l ap ab K bF bD g L B o Z q H' h pn' ρ w tmps∧∀i r,o=i::r→Ch l i
 |[],seen,n,aa,H,a,d=>⟨seen,[],n,aa,H,a,adW n,d,λi r cp=>by grind⟩
 |i::rest,seen,n,aa,H,a,d=>by
  have ar:i∈i::rest:=adc .. ;obtain⟨x,R,V⟩:=u6 hR (wM d.iw ar);cases C:x.op.iT with
  |true=>exact⟨seen,i::rest,n,aa,H,a,adW n,d,λi' r cp=>by injection cp with cp _;subst cp;exact⟨x,R,C⟩⟩
  |false=>
   have c:=d.run;simp only[sc,R]at c;cases n with
   |zero=>simp only[Go.ak.az]at c
   |succ n=>
    simp only[Go.ak.az,FJ,C,Bool.false_or,ac6,bK,fh,bm]at c;have go:∀{q:am AV}{H':af}{pn':List ac},Dr P f nt az l ap ab K bF bD g L (i::seen) rest n q H' h pn' ρ w tmps→∃(B o:List Nat)(Z:Nat)(q:am AV)(H':af)(pn':List ac),Z≤n+1∧Dr P f nt az l ap ab K bF bD g L B o Z q H' h pn' ρ w tmps∧∀i r,o=i::r→Ch l i:=by intro q H' pn' d';obtain⟨s,r,m,e,cp,p,h1,h2,h3⟩:=Dr.Gw hR rest d';exact⟨s,r,m,e,cp,p,Nat.le_succ_of_le h1,h2,h3⟩
    have ba:i∉seen:=AR hR d.iw ar;have ag:∀k t,k∈seen→gh l k t→x.dst≠some t:=λk t D hd e=>ba (gh.inj hR.gJ (pL d.iw D) (wM d.iw ar) hd ⟨x,R,e⟩▸D);have N:∀v t,(∃k∈seen,gh l k t)→aa.get .aiw t=(aM aa x.dst v).get .aiw t:=by rintro v t⟨k,D,bb⟩;rw[sq,an (ag k t D bb)]
    have S:∀v j,Mk l (aM aa x.dst v) i j→x.op.mh=true∧jd v=some j:=by rintro v j⟨y,t,hy,g1,g2,g3⟩;rw[R]at hy;injection hy with hy;subst hy;rw[sq,aH g2]at g3;exact⟨g1,g3⟩
    have I:∀v t,x.dst=some t→(aM aa x.dst v).get .aiw t=v:=λv t E=>by rw[sq,aH E]
    have J:∀{v:AV}{H2:af},(∀j,H2.get j=H.get j)→H2.next=H.next→(∀j,¬Mk l (aM aa x.dst v) i j)→Gs l (Region.before az) (i::seen) g (aM aa x.dst v) H2 i→Go.ak.az False dF ab n (sc l (Region.before az) (i::seen) rest) ⟨aM aa x.dst v,bF,bD⟩ H2 K→∃(B o:List Nat)(Z:Nat)(q:am AV)(H':af)(pn':List ac),Z≤n+1∧Dr P f nt az l ap ab K bF bD g L B o Z q H' h pn' ρ w tmps∧∀i r,o=i::r→Ch l i:=by intro v H2 h1 h2 h3 h4 h5;refine go (d.LC hR R C (v:=v) (pn':=a) (λj _=>h1 j) (by rw[h2];exact adW _) (λj=>⟨.inl,λcp=>cp.resolve_right (h3 j)⟩) (λj cp=>absurd cp (h3 j)) ?_ (λj hj k=>by rw[h1];exact(d.eT j hj).2.2 k) h4 h5);exact d.ky.congr (by rw[af.jS,af.jS,h2]) λj=>by rw[lC,lC,h1]
    cases hg:ft aa x.guard with
    |false=>
     rw[hg]at c;simp only[ac6,bK]at c;split at c;case isFalse=>exact c.elim
     rename_i bc;refine J (v:=.aiw) (λ_=>rfl) rfl (λj cp=>?_) ?_ c;·have:=(S _ j cp).2;simp[AV.aiw,jd]at this
     exact⟨x,[],seen,aa,R,rfl,N _,λt E=>d.uc t E,.inl ⟨hg,bc,λt E=>I _ t E⟩⟩
    |true=>
     rw[hg]at c;simp only[bm]at c;split at c;·rename_i av;rw[av]at C;simp[bO.iT]at C
     ·rename_i av;rw[av]at C;simp[bO.iT]at C
     split at c;case h_2=>exact c.elim
     rename_i v H1 F;cases hrd:x.op.j8 with
     |true=>
      rw[hrd]at F c;simp only[bm]at F c;generalize a1:Au l (Region.before az) seen i=O at F c;have G:=De aa O H;have a2:∀j,j∈jx aa O↔∃k∈seen,¬ke (Region.before az) i k∧Mk l aa k j:=λj=>by rw[←a1];exact Ls
      obtain⟨q1,q2,q3⟩:=Lm hrd F;subst q1;have ax:∀j,(d8 (eM aa H O).1 (eM aa H O).2).get j=H.get j:=λj=>by rw[((G j).2.2 _).1,(G j).1];split<;>rfl
      refine J (v:=v) ax (by rw[((G .xH).2.2 _).2,(G .xH).2.1]) (λj cp=>?_) ?_ c;·have:=(S _ j cp).1;rw[(y9 hrd).2.1]at this;cases this
      refine⟨x,[],seen,aa,R,rfl,N _,λt E=>d.uc t E,.inr ⟨hg,v,λt E=>I _ t E,.inr (.inl ⟨hrd,λj hj=>?_,λH' bd=>q3 H' λj hj=>?_⟩)⟩⟩
      ·have T:=q2 j hj;have X:j∉jx aa O:=λcp=>T (by rw[(G j).1,aH cp]);rw[(G j).1,an X]at T;refine⟨by rw[ax];exact T,λk D hm=>?_⟩;rcases adC.1 D with e|e;·subst e;have:=(S _ j hm).1;rw[(y9 hrd).2.1]at this;cases this
       apply ahe;intro hA;exact X ((a2 j).2 ⟨k,e,hA,(Mk.Gv λt E=>by rw[sq,an (ag k t e E)]).1 hm⟩)
      have T:=q2 j hj;have X:j∉jx aa O:=λcp=>T (by rw[(G j).1,aH cp]);rw[bd j hj,ax,(G j).1,an X]
     |false=>
      rw[hrd]at F c;simp only[ac6,bK,eM,d8]at F c;cases A:x.op.mh with
      |false=>
       have bv:x.op.plain=true:=by
        simp only[tG,C,Bool.false_or,A,hrd,Bool.false_and,Bool.or_self,ahT]at V;rcases V with cp|cp;·exact cp
        split at cp<;>cases cp
       obtain⟨q1,q2⟩:=SD bv F;subst q1;refine J (v:=v) (λ_=>rfl) rfl (λj cp=>?_) ?_ c;·have:=(S _ j cp).1;rw[A]at this;cases this
       exact⟨x,[],seen,aa,R,rfl,N _,λt E=>d.uc t E,.inr ⟨hg,v,λt E=>I _ t E,.inl ⟨A,q2⟩⟩⟩
      |true=>
       obtain⟨nv,ev,rfl,rfl,hy,a6⟩:=SE A F;obtain⟨f1,f2,f3⟩:=so hy;have Q:∀j,(H.new ev).get j=if j=H.next then ev else H.get j:=λj=>af.dt _ _ _;have b0:(H.new ev).next.al=H.next.al+1:=ac.gz _;have ay:H.get H.next=.none:=ahe λcp=>by have:=d.LB cp;omega
       have W:∀j,Mk l (aM aa x.dst (nv.of H.next)) i j→j=H.next:=λj cp=>by have:=(S _ j cp).2;rw[lV.name]at this;injection this with this;exact this.symm
       have b3:Mk l (aM aa x.dst (nv.of H.next)) i H.next:=by cases hd:x.dst with|some t=>exact⟨x,t,R,A,hd,by rw[←hd,I _ t hd];exact lV.name nv _⟩|none=>simp[tG,hd,C,(y8 A).2.2]at V
       have a8:∀k,H.next∉((H.new ev).get k).aK:=λk D=>by
        rw[Q]at D;by_cases e:k=H.next;·rw[aH e,f2]at D;cases D
        rw[an e]at D;by_cases e':k∈a
        ·obtain⟨k',b4,hn,hm⟩:=(d.qX k).1 e';have:=d.cq k' b4 hn;obtain⟨y,_,_,ex,b5,_,_,_,M⟩:=this;obtain⟨y',t,Y,m1,m2,m3⟩:=hm;rw[b5]at Y;injection Y with Y;subst Y;rcases M with⟨_,_,hv⟩|⟨_,u,hv,M⟩;·rw[hv t m2]at m3;simp[AV.aiw,jd]at m3
         rcases M with⟨hm,_⟩|⟨hr,_⟩|⟨_,cf,cd,j0,b6,b',a',_⟩;·rw[m1]at hm;cases hm
         ·rw[(y8 m1).2.1]at hr;cases hr
         rw[hv t m2,b',lV.name]at m3;injection m3 with m3;subst m3;rw[a',(so b6).2.1]at D;cases D
        have:=(d.ky.aK H.next k (by rw[lC,an e'];exact D)).1;rw[af.jS]at this;omega
       refine go (d.LC hR R C (v:=nv.of H.next) (pn':=H.next::a) (λj hj=>by rw[Q,an (λe:j=H.next=>hj (by rw[e];exact ay))]) (by omega) (λj=>?_) (λj cp=>?_) ?_ (λj hj k D=>?_) ?_ c);·rw[adC];exact⟨λcp=>cp.elim (λe=>.inr (e▸b3)) .inl,λcp=>cp.elim .inr λcp=>.inl (W j cp)⟩
       ·rw[W j cp];refine⟨adW _,by omega,by rw[Q,aH rfl];exact hy,(d.ky.dV H.next (by rw[af.jS];exact adW _)).2,λhu=>?_,a8⟩;have:=(d.ky.un H.next hu).2.1;rw[af.jS]at this;omega
       ·have h0:=d.ky;have z:∀j,((H.new ev).fL (H.next::a)).get j=(H.fL a).get j:=λj=>by
         rw[lC,lC,Q];by_cases e:j=H.next
         ·subst e;rw[aH (adc ..)];split;·rfl
          exact ay.symm
         by_cases e':j∈a;·rw[aH (adD _ e'),aH e']
         rw[an (by simp[e,e']),an e,an e']
        have cn:((H.new ev).fL (H.next::a)).next.al=(H.fL a).next.al+1:=by rw[af.jS,af.jS];exact b0
        exact⟨λi hi=>by rw[z]at hi⊢;exact h0.ev i hi,λi j b x y ca hi hj=>by rw[z]at hi hj;rw[z,z];exact h0.kH i j b x y ca hi hj,λi j hi=>by rw[z]at hi⊢;exact⟨by have:=(h0.aK i j hi).1;omega,(h0.aK i j hi).2⟩,λi b x hi hf=>by rw[z]at hi hf;exact h0.wr i b x hi hf,λi hi=>by rw[z];exact h0.dV i (by omega),h0.new,h0.lT,λi b x ob hi=>by rw[z]at hi⊢;exact h0.jQ i b x ob hi,h0.fu,λi b x hi=>by rw[z]at hi;exact h0.rd i b x hi,λi hi=>by rw[z];exact⟨(h0.un i hi).1,by have:=(h0.un i hi).2.1;omega,λj=>by rw[z];exact(h0.un i hi).2.2 j⟩,h0.eT⟩
       ·rw[Q]at D;split at D;·rw[f2]at D;cases D
        exact(d.eT j hj).2.2 k D
       exact⟨x,[],seen,aa,R,rfl,N _,λt E=>d.uc t E,.inr ⟨hg,_,λt E=>I _ t E,.inr (.inr ⟨A,nv,ev,H.next,hy,rfl,by rw[Q,aH rfl],a6⟩)⟩⟩
end
section
variable{P:Program}
theorem SW{nt:Nat}{az:Array Oper}{l:List aS}{ap:List Nat}(v:mj P nt az l ap){I:cJ}{ab:Nat→aE}{K:Fr→af→Prop}{bF:List ac}{bD:Option ac}{B:am AV}{b:Frame}(k:List Item)(cs:List Frame):∀(f t:Nat){L:Array Bool}{seen g:List Nat}{n:Nat}{aa:am AV}{H:af}{p:am AV}{C:List ac}{s:aL}{w:World}{a:Act},(∀m,m<n→ua P ab m)→y7 L az.size≤f→Dr P I nt az l ap ab K bF bD B L seen g n aa H p C s w a.tmps→mi s bF a.defers→o0 s bD b.roundOf→(∀i r,g=i::r→Ch l i)→iV P I s nt w b k cs (lone (b.atR a (.inRegion az (Region.linearise.go .any az f t L [])::k)) cs w) λj fr H=>(match j with|.none=>True|_=>False)∧K fr H:=by
 have aq:∀{L:Array Bool}{seen g:List Nat}{n:Nat}{aa:am AV}{H:af}{p:am AV}{C:List ac}{s:aL}{w:World}{a:Act},(∀i,i<az.size→In L i)→Dr P I nt az l ap ab K bF bD B L seen g n aa H p C s w a.tmps→mi s bF a.defers→o0 s bD b.roundOf→iV P I s nt w b k cs (lone (b.atR a (.inRegion az []::k)) cs w) λj fr H=>(match j with|.none=>True|_=>False)∧K fr H:=by
  intro L seen g n aa H p C s w a eS d z D;have A:∀i∈ap,i<az.size:=λi hi=>by
   obtain⟨x,V,_⟩:=u6 v hi;obtain⟨o,ho,_⟩:=v.op V;rcases ahz i az.size with q|q;·exact q
   rw[ahE q]at ho;cases ho
  have G:g=[]:=by cases g with|nil=>rfl|cons i r=>have hi:i∈i::r:=adc .. ;exact absurd (d.sub i (eS i (A i (wM d.iw hi)))) (AR v d.iw hi)
  subst G;have J:∀i∈seen,In L i:=λi hi=>eS i (A i (pL d.iw hi));have ag:C=[]:=List.eq_nil_iff_forall_not_mem.2 λj hj=>by obtain⟨i,hi,h1,_⟩:=(d.qX j).1 hj;exact h1 (J i hi)
  subst ag;have u:=d.run;simp only[sc]at u;cases n with|zero=>simp only[Go.ak.az]at u|succ n=>simp only[Go.ak.az]at u;have hE:iU s nt aa a.tmps:=⟨d.E.1,λt ht=>by rw[←d.uZ _ λi hi hn=>absurd (J i hi) hn];exact d.E.2 t ht⟩;exact .iJ (.one stepR_region_end) (.Dc (fr:=⟨aa,bF,bD⟩) ⟨hE,z,D⟩ d.ky ⟨trivial,u⟩ k cs)
 intro f;induction f with
 |zero=>intro t L seen g n aa H p C s w a h hf d z D W;refine aq (λi hi=>?_) d z D;apply ahe;grind[SO]
 |succ f ih=>
  intro t L seen g n aa H p C s w a h hf d z D W;change iV P I s nt w b k cs (lone (b.atR a (.inRegion az (match(Region.ready .any az L)[t %(Region.ready .any az L).length]? with|some i=>Region.linearise.go .any az f (t/(Region.ready .any az L).length) (L.setIfInBounds i true) [i]|none=>[].reverse)::k)) cs w) _;cases hi:(Region.ready .any az L)[t %(Region.ready .any az L).length]? with
  |none=>
   have S:Region.ready .any az L=[]:=by cases hr:Region.ready .any az L with|nil=>rfl|cons x xs=>rw[hr]at hi;have A:t %(x::xs).length<(x::xs).length:=Nat.mod_lt _ (by simp);simp at hi;simp at A;omega
   exact aq (SM d.size v.he S) d z D
  |some i=>
   simp only[];rw[linearise_go_acc,List.reverse_singleton,List.singleton_append];obtain⟨h1,h2,h3⟩:=SL d.size (List.mem_of_getElem? hi);have M:y7 (L.setIfInBounds i true) az.size≤f:=by have:=SN d.size h1 h2;omega
   by_cases iW:i∈seen;·obtain⟨ar,w',a',T,av,F,X,Y,Z,g5⟩:=d.SS v iW h2 h3 rfl (b:=b) (a:=a) (Region.linearise.go .any az f (t/(Region.ready .any az L).length) (L.setIfInBounds i true) []) k cs;refine .uX F X (.iJ Z (ih _ h M g5 (by rw[Y];exact z.mono F) ?_ W));exact(iv.mono (nt:=nt) (fr:=⟨p,bF,bD⟩) (ro:=b.roundOf) (a:=a) F ⟨d.E,z,D⟩).R
   have N:i∈g:=by have:=v.eS i h1;rw[←d.iw,agI,List.mem_reverse]at this;exact this.resolve_left iW
   cases g with
   |nil=>grind
   |cons c g=>
    have O:=W c g rfl;have ax:i=c:=by
     rcases adC.1 N with e|e;·exact e
     exfalso;obtain⟨x,V,ay⟩:=O;obtain⟨y,hy,_⟩:=u6 v (wM d.iw N);have Q:=(AO v.gJ).1;rw[←d.iw,List.pairwise_append,ah4]at Q;have hA:=((qW (Q.2.1.1 i e) V hy).2.2.2.2 ay).1;have:=uY d.pK i h3 c hA;exact AR v d.iw (adc ..) (d.sub c this)
    subst ax;obtain⟨ar,w',a',n',a6,H',T,av,g0,F,X,Y,Z,g5⟩:=d.SV v h O h3 rfl (b:=b) (a:=a) (Region.linearise.go .any az f (t/(Region.ready .any az L).length) (L.setIfInBounds i true) []) k cs;obtain⟨a1,a2,n2,a8,H2,ba,e1,e2,e3⟩:=g5.Gw v;refine .uX F X (.iJ Z (ih _ (λm hm=>h m (by omega)) M e2 (by rw[Y];exact z.mono F) ?_ e3));exact(iv.mono (nt:=nt) (fr:=⟨p,bF,bD⟩) (ro:=b.roundOf) (a:=a) F ⟨d.E,z,D⟩).R
theorem SX{ab:Nat→aE}{n:Nat}(e:∀m,m<n→ua P ab m):Lh P ab n:=by
 intro p u H w v fr M id az K b a f he q C k cs;simp only[wC,adO,acR,ag9,ac6,bK]at f;obtain⟨l,hl,f⟩:=f;split at f;case isFalse=>grind
 rename_i g;simp only[af1,acm]at f;subst f;simp only[agM,ah1,ahV]at g;obtain⟨⟨⟨F,G⟩,x⟩,y⟩:=g;generalize order l (Region.before az) az.size 0 []=ap at he x y;have z:mj P v az l ap:=⟨hl,G,λi hi=>by simpa using x i hi,y⟩;have c:∀i,¬In (ain az.size false) i:=λi h=>by unfold In at h;simp only[aho,Array.getElem?_replicate]at h;split at h<;>cases h
 let A:World:={w with drawn:=w.drawn+1};have d:Dr P p v az l ap ab K fr.bF fr.bD fr.aa (ain az.size false) [] ap n fr.aa H fr.aa [] u A a.tmps:=⟨rfl,by simp,λi h=>absurd h (c i),λi h=>absurd h (c i),λ_ h=>absurd h ag0,he,λt _=>rfl,λt _=>rfl,λ_ _ h=>absurd h ag0,λj=>⟨λh=>absurd h ag0,λ⟨i,h,_⟩=>absurd h ag0⟩,λ_ _ _ h=>absurd h ag0,λ_ _ h=>absurd h ag0,λ_ _ h=>absurd h ag0,λ_ h=>absurd h ag0,λ_ h=>absurd h ag0,q.E,C.drew⟩;obtain⟨r,s,N,B,O,L,e1,e2,I⟩:=d.Gw z;have o:Region.schedule (P.follows .mixedOrders) az (w.tape w.drawn (.order b.fn id))=Region.linearise.go .any az az.size (w.tape w.drawn (.order b.fn id)) (ain az.size false) []:=by
  have:(P.follows .mixedOrders||!Region.departs az)=true:=by simpa using F
  simp only[Region.schedule,this,bm];rfl
 have dW:=stepR_region_draw (P:=P) (b:=b) (a:=a) (k:=k) (cs:=cs) (w:=w) (ops:=az) (id:=id);rw[o]at dW;have J:d9 p w A:=(d9.refl p w).drew;refine .uX (cz.refl u) J (.iJ (.one dW) ?_);refine SW z k cs az.size _ (λm Q=>e m (by omega)) ?_ e2 q.D q.R I;grind[y7,ahY,List.length_filter_le]
theorem AT{ab:Nat→aE}(d:j9 P ab):∀n,(∀m,m≤n→ua P ab m)∧yY P ab n∧Db P ab n
 |0=>by
  refine⟨λm e=>?_,?_,?_⟩
  ·have:m=0:=by omega
   subst this;intro f g H w j args K fv argv he;trivial
  ·intro f g H w h fr c cc K b a i he;trivial
  intro f g H w h fr l is az K b a k he;trivial
 |n+1=>by obtain⟨h1,h2,h3⟩:=AT d n;have i:ua P ab (n+1):=SC d h2;refine⟨λm e=>?_,SB d h2 h3 (SX λm e=>h1 m (by omega)) (h1 n (adW n)),Sx (h1 n (adW n)) h3⟩;grind
end
end
end Go.ak
namespace Go.ak.K
section
variable{g:Type}
theorem kf(n:Nat)(k:Nat→Prop):eX n k=k n:=by cases n<;>rfl
theorem u9(n:Int)(k:Int→Prop):nK n k=k n:=by cases n<;>simp only[nK,kf]
theorem zc:∀(p:ac)(k:ac→Prop),qK p k=k p|.xH,_=>rfl|.xO p,k=>zc p λp=>k (.xO p)|.xI p,k=>zc p λp=>k (.xI p)
theorem Gx:∀(p:ac)(k:ac→Prop),Aj p k=k p.succ|.xH,_=>rfl|.xO _,_=>rfl|.xI p,k=>Gx p λp=>k (.xO p)
theorem ix(b:Bool)(x y:Prop):eN b x y=if b=true then x else y:=by cases b<;>simp[eN]
theorem LD(b:Bool)(k:Bool→Prop):yA b k=k b:=by cases b<;>rfl
theorem Dg(d:g):∀p:ac,(am.aJ:am g).get d p=d|.xH=>rfl|.xO p=>Dg d p|.xI p=>Dg d p
theorem zd(d:g):∀(p:ac)(t:am g)(k:g→Prop),wx d p t k=k (t.get d p)|.xH,.aJ,_=>rfl|.xH,.node _ _ _,_=>rfl|.xO p,.aJ,k=>by show k d=k ((am.aJ:am g).get d p);rw[Dg]|.xO p,.node l _ _,k=>zd d p l k|.xI p,.aJ,k=>by show k d=k ((am.aJ:am g).get d p);rw[Dg]|.xI p,.node _ _ r,k=>zd d p r k
theorem vc(d:g):∀(p:ac)(v:g)(t:am g)(k:am g→Prop),wy d p v t k=k (t.set d p v)|.xH,_,.aJ,_=>rfl|.xH,_,.node _ _ _,_=>rfl|.xO p,v,.aJ,k=>vc d p v .aJ λl=>k (.node l d .aJ)|.xO p,v,.node l w r,k=>vc d p v l λl=>k (.node l w r)|.xI p,v,.aJ,k=>vc d p v .aJ λr=>k (.node .aJ d r)|.xI p,v,.node l w r,k=>vc d p v r λr=>k (.node l w r)
theorem ze(d:g):∀(t:am g)(n:Nat)(k:g→Prop),qL d t n k=k (t.bq d n)|.aJ,n,k=>by rfl|.node l v r,0,k=>rfl|.node l v r,m+1,k=>by show eN (agQ (Nat.mod m 2) 0) (qL d l (Nat.div m 2) k) (qL d r (Nat.div m 2) k)=_;rw[ix,ze d l,ze d r];simp only[am.bq];show(if agQ (m % 2) 0=true then k (l.bq d (m/2))else k (r.bq d (m/2)))=_;by_cases h:m % 2=0;all_goals simp_all
theorem LF(d x:g)(t:am g)(k:am g→Prop):EV d x t k=k (.node t.left x t.right):=by cases t<;>rfl
theorem AU(d:g):∀(f n:Nat)(x:g)(t:am g)(k:am g→Prop),wz d f n x t k=k (t.nH d f n x)
 |0,0,x,t,k=>LF d x t k
 |0,n+1,x,t,k=>rfl
 |f+1,0,x,t,k=>LF d x t k
 |f+1,m+1,x,t,k=>by
  show eN (agQ (Nat.mod m 2) 0) (lK d (wz d f) (Nat.div m 2) x t k) (rK d (wz d f) (Nat.div m 2) x t k)=_;have hl:lK d (wz d f) (Nat.div m 2) x t k=k (.node (t.left.nH d f (m/2) x) (t.val d) t.right):=by cases t with|aJ=>exact AU d f (m/2) x .aJ λl=>k (.node l d .aJ)|node l w r=>exact AU d f (m/2) x l λl=>k (.node l w r)
  have a:rK d (wz d f) (Nat.div m 2) x t k=k (.node t.left (t.val d) (t.right.nH d f (m/2) x)):=by cases t with|aJ=>exact AU d f (m/2) x .aJ λr=>k (.node .aJ d r)|node l w r=>exact AU d f (m/2) x r λr=>k (.node l w r)
  rw[ix,hl,a];simp only[am.nH];show(if agQ (m % 2) 0=true then _ else _)=_;by_cases h:m % 2=0;all_goals simp_all
theorem LG:∀(l:List Nat)(k:List Nat→Prop),CE l k=k l|[],_=>rfl|n::l,k=>by show eX n (λn=>CE l λl=>k (n::l))=_;rw[kf,LG l]
def Dh(l:List AV):(List AV→Prop)→Prop:=
 AV.rec_1 (motive_1:=λ_=>(AV→Prop)→Prop) (motive_2:=λ_=>(List AV→Prop)→Prop)
   (λ_ c k=>c λl=>k (.tuple l))
   (λ_ c k=>c λl=>k (.agg l))
   (λb k=>yA b λb=>k (.bool b))
   (λj n k=>eX j λj=>nK n λn=>k (.int j n))
   (λs k=>CE s λs=>k (.aC s))
   (λid off k=>qK id λid=>eX off λoff=>k (.aw id off))
   (λk=>k .ls)
   (λid off len cap ex k=>qK id λid=>eX off λoff=>eX len λlen=>eX cap λcap=>yA ex λex=>k (.slice id off len cap ex))
   (λk=>k .aP)
   (λid k=>qK id λid=>k (.map id))
   (λk=>k .cL)
   (λf _ _ d e k=>eX f λf=>d λa=>e λb=>k (.func f a b))
   (λid k=>qK id λid=>k (.yield id))
   (λk=>k .nilFunc)
   (λt _ c k=>eX t λt=>c λv=>k (.iface t v))
   (λk=>k .nilIface)
   (λk=>k .bX)
   (λk=>k [])
   (λ_ _ h i k=>h λv=>i λl=>k (v::l)) l
mutual
theorem wN:∀(v:AV)(k:AV→Prop),rY v k=k v
 |.tuple l,k=>AX l λl=>k (.tuple l)
 |.agg l,k=>AX l λl=>k (.agg l)
 |.bool b,k=>LD b λb=>k (.bool b)
 |.int j n,k=>by show eX j (λj=>nK n λn=>k (.int j n))=_;rw[kf,u9]
 |.aC s,k=>LG s λs=>k (.aC s)
 |.aw i o,k=>by show qK i (λi=>eX o λo=>k (.aw i o))=_;rw[zc,kf]
 |.ls,_=>rfl
 |.slice i o l c e,k=>by show qK i (λi=>eX o λo=>eX l λl=>eX c λc=>yA e λe=>k (.slice i o l c e))=_;rw[zc,kf,kf,kf,LD]
 |.aP,_=>rfl
 |.map i,k=>zc i λi=>k (.map i)
 |.cL,_=>rfl
 |.func f a b,k=>by show eX f (λf=>Dh a λa=>Dh b λb=>k (.func f a b))=_;rw[kf,AX a,AX b]
 |.yield i,k=>zc i λi=>k (.yield i)
 |.nilFunc,_=>rfl
 |.iface t v,k=>by show eX t (λt=>rY v λv=>k (.iface t v))=_;rw[kf,wN v]
 |.nilIface,_=>rfl
 |.bX,_=>rfl
theorem AX:∀(l:List AV)(k:List AV→Prop),Dh l k=k l
 |[],_=>rfl
 |v::l,k=>by show rY v (λv=>Dh l λl=>k (v::l))=_;rw[wN v,AX l]
end
theorem qY:∀(l:List AV)(k:List AV→Prop),nM l k=k l|[],_=>rfl|v::l,k=>by show rY v (λv=>nM l λl=>k (v::l))=_;rw[wN,qY l]
theorem iC(aa:am AV)(x:aG)(k:AV→Prop):fQ aa x k=k (gv aa x):=by cases x with|t p=>exact zd _ _ _ _|c v=>rfl
theorem LH(aa:am AV):∀(l:List aG)(k:List AV→Prop),CF aa l k=k (l.map (gv aa))|[],_=>rfl|x::l,k=>by show fQ aa x (λv=>CF aa l λl=>k (v::l))=_;rw[iC,LH aa l];rfl
theorem AY(b:g)(k:g→Prop):jP (some b) k=k b:=rfl
theorem Gy(H:af)(i:ac)(k:b9→Prop):Ak H i k=k (H.get i):=zd _ _ _ _
theorem zf(H:af)(i:ac)(o:b9)(k:af→Prop):qM H i o k=k (H.set i o):=vc _ _ _ _ _
theorem vf(H:af)(o:b9)(k:ac→af→Prop):oY H o k=k H.next (H.new o):=by show wy .none H.next o H.t (λt=>Aj H.next λm=>k H.next ⟨t,m⟩)=_;rw[vc,Gx];rfl
theorem LI:∀(l:List ac)(H:af)(k:af→Prop),EW l H k=k (H.fL l)|[],_,_=>rfl|i::l,H,k=>by show qM H i .none (λH=>EW l H k)=_;rw[zf,LI l];rfl
def SY(o:b9)(k:am AV→Nat→Nat→Bool→List ac→Nat→Prop):Prop:=
 match o with
 |.cells c n e rw aK fz=>k c n e rw aK fz
 |_=>False
theorem Di(H:af)(i:ac)(k:am AV→Nat→Nat→Bool→List ac→Nat→Prop):wA H i k=SY (H.get i) k:=by unfold wA;rw[Gy];cases H.get i<;>rfl
theorem Gz(c:am AV)(n:Nat):∀(m off:Nat)(k:List AV→Prop),CG c n m off k=jP (ip c n off m) k
 |0,_,_=>rfl
 |m+1,off,k=>by
  show eN (aha off n) (eX off λoff=>qL .aiw c off λv=>CG c n m (Nat.succ off) λl=>k (v::l)) False=_;rw[ix,kf,ze,Gz c n m];simp only[ip];by_cases h:off<n;·rw[aH (aiu ahF h),aH h];cases ip c n (off+1) m<;>rfl
  rw[an (λe=>h (Eq.mp ahF e)),an h];rfl
theorem Dj:∀(l:List AV)(c:am AV)(off:Nat)(k:am AV→Prop),Al l c off k=k (fD c off l)|[],_,_,_=>rfl|v::l,c,off,k=>by show eX off (λoff=>wz .aiw off off v c λc=>Al l c (Nat.succ off) k)=_;rw[kf,AU,Dj l];rfl
theorem SZ(H:af)(i:ac)(off m:Nat)(k:List AV→Prop):CH H i off m k=jP (fj H i off m) k:=by unfold CH;rw[Di];unfold fj;cases H.get i<;>first|rfl|exact Gz _ _ _ _ _
theorem pc(a b:Bool):mJ a b=(a&&b):=by cases a<;>rfl
theorem AZ:∀l:List AV,yB l=dI l|[]=>rfl|v::l=>by show mJ v.dQ (yB l)=_;rw[pc,AZ l];rfl
theorem ud:∀l:List g,nN l=l.length|[]=>rfl|_::l=>by show Nat.succ (nN l)=_;rw[ud l];rfl
theorem GA(H:af)(i:ac)(off:Nat)(l:List AV)(k:af→Prop):yC H i off l k=jP (iI H i off l) k:=by
 unfold yC;rw[Di];unfold iI;cases H.get i<;>(try rfl);rename_i c n e a aK fz;show EX H i off l k c n e a aK fz=_;unfold EX;rw[ix,LI,Dj,zf,pc,pc,pc,ud,AZ];cases a with
 |false=>rfl
 |true=>
  simp only[Bool.true_and];have h1:ahG fz off=decide (fz≤off):=by
   by_cases h:fz≤off;·rw[decide_eq_true h,ahi h]
   rw[decide_eq_false h];cases hb:ahG fz off with|false=>rfl|true=>exact absurd (agT hb) h
  have h2:ahG (Nat.add off l.length) n=decide (off+l.length≤n):=by
   by_cases h:off+l.length≤n;·rw[decide_eq_true h];exact ahi h
   rw[decide_eq_false h];cases hb:ahG (Nat.add off l.length) n with|false=>rfl|true=>exact absurd (agT hb) h
  rw[h1,h2,Bool.and_assoc];cases(decide (fz≤off)&&(decide (off+l.length≤n)&&dI l))<;>rfl
theorem wO(H:af)(l:List AV)(n a:Nat)(k:ac→af→Prop):tA H l n a k=k H.next (H.new (.cells (cM l) n a true [] 0)):=by unfold tA;rw[Dj,kf,vf];rfl
end
section
def je(o:Option (AV×af))(k:KV):Prop:=
 match o with
 |some p=>k p.1 p.2
 |none=>False
theorem S5(o:bO)(d:kG)(aa:am AV)(H:af)(k:KV):gw o d aa H k=je (aB o aa H) k:=by unfold gw;cases aB o aa H with|none=>rfl|some p=>exact wN p.1 λv=>k v p.2
theorem S7(a bytes size:Nat)(H:af)(n:Nat)(l:List AV)(k:KV):EY a bytes size H n l k=je (if agQ n 0 then some (.aP,H)else if fc (n*bytes)&&fc n then some (.slice H.next 0 n n false,H.new (.cells (cM l) (n*size) a true [] 0))else none) k:=by unfold EY;rw[ix,ix,wO,pc];cases agQ n 0<;>(try rfl);cases(fc (n*bytes)&&fc n)<;>rfl
theorem LJ(a bytes size:Nat)(H:af)(s:AV)(n:Nat)(l:List AV)(k:KV):Am a bytes size H s n l k=je (kw a bytes size H s n l) k:=by
 unfold Am kw;rw[ix,AZ];cases dI l with
 |false=>rfl
 |true=>
  simp only[ag9,ac6,bK,bm];cases s<;>(try rfl)
  ·rename_i id off len cap exact;show E0 a bytes size H n l k id off len cap exact=_;unfold E0;rw[kf,ix];show(if ahG (len+n) cap=true then _ else _)=_;cases f:ahG (len+n) cap with
   |true=>simp only[f,bm];unfold JV;rw[ix,kf,GA];cases agQ n 0 with|true=>rfl|false=>simp only[ac6,bK];show jP (iI H id (off+len*size) l) _=_;cases iI H id (off+len*size) l<;>rfl
   |false=>simp only[f,ac6,bK];rw[ix,pc];show(if(fc ((len+n)*bytes)&&fc (len+n))=true then _ else _)=_;cases(fc ((len+n)*bytes)&&fc (len+n))with|false=>rfl|true=>simp only[bm,ag9,ac6,bK];rw[Di];cases H.get id<;>(try rfl);rename_i c m e b aK fz;show EZ a size H l k id off len cap exact (len+n) c m e b aK fz=_;unfold EZ;rw[Gz];show jP (ip c m off (len*size)) _=_;simp only;cases ip c m off (len*size)with|none=>rfl|some dJ=>rw[AY,qY,ix,ix,wO];cases exact with|true=>rfl|false=>simp only[ac6,bK];unfold JW;rw[ix,zf,Dj,kf,kf,vf,pc,pc,pc];show(if agQ len cap=true then(if(b&&(agQ (off+cap*size) m&&(agQ e a&&ahG fz m)))=true then _ else False)else False)=je (if(b&&agQ len cap&&agQ (off+cap*size) m&&agQ e a&&ahG fz m)=true then _ else none) k;cases b<;>cases agQ len cap<;>cases agQ (off+cap*size) m<;>cases agQ e a<;>cases ahG fz m<;>rfl
  exact S7 a bytes size H n l k
theorem S8(a b:Int)(k:Int→Prop):JY a b k=k (a+b):=by cases a with|negSucc m=>exact u9 (.negSucc m+b) k|ofNat m=>cases b with|negSucc n=>exact u9 (.ofNat m+ .negSucc n) k|ofNat n=>exact kf (m+n) λs=>k (.ofNat s)
theorem S9(a b:Int)(k:Int→Prop):JZ a b k=k (a - b):=by
 cases a with
 |negSucc m=>exact u9 (.negSucc m - b) k
 |ofNat m=>
  cases b with
  |negSucc n=>rfl
  |ofNat n=>
   show eN (ahG n m) (eX (Nat.sub m n) λs=>k (.ofNat s)) (nK (.ofNat m - .ofNat n) k)=_;rw[ix,kf,u9];split;·rename_i h;have:=agT h;grind
   rfl
theorem Ta(n:Int)(k:Int→Prop):J4 n k=k (iq 3 n):=by
 cases n with
 |negSucc m=>exact u9 (iq 3 (.negSucc m)) k
 |ofNat m=>
  show eN (aha m 9223372036854775808) (k (.ofNat m)) (nK (iq 3 (.ofNat m)) k)=_;rw[ix,u9];split;·rename_i h;simp only[iq,h,bm]
  rfl
theorem LL(j:Nat)(n:Int)(k:Int→Prop):CI j n k=k (iq j n):=by simp_all[CI,ix,u9,Ta,agO]
theorem LM(a b:Int):E1 a b=iB a b:=by cases a<;>cases b<;>rfl
theorem LN(a b:Int):An a b=ly a b:=by cases a<;>cases b<;>rfl
theorem LP(b:Bool):CJ b=!b:=by cases b<;>rfl
theorem Dk(b:Bool)(k:AV→Prop):qN b k=k (.bool b):=by cases b<;>rfl
theorem Tc(op:BinOp)(j:Nat)(a b:Int)(k:AV→Prop):E4 op j a b k=jP (ir op j a b) k:=by
 have gw:∀c,tC c j a b k=jP (ir c j a b) k:=λc=>by unfold tC;cases ir c j a b with|none=>rfl|some v=>exact wN v k
 cases op;·show E2 j a b k=_;unfold E2;rw[S8,LL];rfl
 ·show E3 j a b k=_;unfold E3;rw[S9,LL];rfl
 all_goals first|exact gw _|rfl|(show qN _ k=_;rw[Dk,LM];rfl)|(show qN _ k=_;rw[Dk,LP,LM];rfl)|(show qN _ k=_;rw[Dk,LN];rfl)|(show qN _ k=_;rw[Dk,LP,LN];rfl)
theorem Td(op:BinOp)(j:Nat)(x y:AV)(k:AV→Prop):E5 op j x y k=jP (Af op j x y) k:=by unfold E5 JX Af;cases x<;>(try rfl);cases y<;>(try rfl);rename_i i a l b;show eN (mJ (agQ i j) (agQ l j)) (E4 op j a b k) False=_;rw[ix,pc,Tc];simp only;cases(agQ i j&&agQ l j)<;>rfl
theorem Dl(o:Option AV)(H:af)(k:KV):je (o.map λv=>(v,H)) k=jP o λv=>k v H:=by cases o<;>rfl
variable(d:kG)(aa:am AV)(H:af)(k:KV)
theorem Te(c a b:aG):E6 c a b d aa H k=je (aB (.pick c a b) aa H) k:=by unfold E6;rw[iC];simp only[aB];cases gv aa c<;>(try rfl);rename_i t;show eN t (fQ aa a λv=>k v H) (fQ aa b λv=>k v H)=_;rw[iC,iC];cases t<;>rfl
theorem Tf(e:Nat)(x:aG):E7 e x d aa H k=je (aB (.box e x) aa H) k:=by unfold E7;rw[iC,qY,ix,wO,AZ,ud];simp only[aB];cases dI (gv aa x).cells<;>rfl
theorem Tg(e:Nat)(a:List AV):E8 e a d aa H k=je (aB (.alloc e a) aa H) k:=by unfold E8;rw[wO,ud];rfl
theorem Ti(e n:Nat)(a:List AV)(b:List (Nat×Nat×aG)):E9 e n a b d aa H k=je (aB (.buildSlice e n a b) aa H) k:=by unfold E9;simp only[aB];cases nI aa (fx a n) b with|none=>rfl|some l=>rw[AY,qY,ix,wO,AZ,ud];simp only;cases dI l<;>rfl
theorem Tj(H:af)(id:ac)(off:Nat):fj H id off 1=(match H.get id with|.cells c n _ _ _ _=>if off<n then some [c.bq .aiw off]else none|_=>none):=by rfl
theorem Tk(a:aG):E' a d aa H k=je (aB (.aW a) aa H) k:=by
 unfold E';rw[iC];simp only[aB,Dl];unfold J7 wB ja;cases gv aa a<;>(try rfl);rename_i id off;show wA H id (J6 off λv=>k v H)=_;rw[Di];simp only[Tj];cases H.get id<;>(try rfl);rename_i c n e b aK fz;show eN (aha off n) (qL .aiw c off λv=>k v H) False=_;rw[ix,ze];by_cases h:off<n;·rw[aH (aiu ahF h)];simp only[h,bm];rfl
 rw[an (λe=>h (Eq.mp ahF e))];simp only[h,bK];rfl
theorem Tl(n:Nat)(a:aG):Fb n a d aa H k=je (aB (.fZ n a) aa H) k:=by unfold Fb;rw[iC];simp only[aB,Dl];unfold wB ja;cases gv aa a<;>(try rfl);rename_i id off;show CH H id off n _=_;rw[SZ];simp only;cases fj H id off n<;>rfl
theorem Tm(n:Nat)(a x:aG):Fc n a x d aa H k=je (aB (.store n a x) aa H) k:=by
 unfold Fc;rw[iC,iC,qY];simp only[aB];cases gv aa a<;>(try rfl);rename_i id off;show eN (agQ (nN (gv aa x).cells) n) (yC H id off (gv aa x).cells λH=>k .aiw H) False=_;rw[ix,GA,ud];by_cases h:(gv aa x).cells.length=n;·rw[aH (by rw[h];exact ahQ n)];simp only[h,bm];cases iI H id off (gv aa x).cells<;>rfl
 rw[an (λe=>h (agO e))];simp only[h,bK];rfl
theorem Tn(op:BinOp)(j:Nat)(x y:aG):Fe op j x y d aa H k=je (aB (.arith op j x y) aa H) k:=by simp[Fe,iC,Td,aB,Dl]
theorem To(off:Nat)(x:aG):Ff off x d aa H k=je (aB (.jM off x) aa H) k:=by unfold Ff;rw[iC];unfold wB;simp only[aB];cases gv aa x<;>(try rfl);exact kf _ _
theorem Tp(s:Nat)(x i:aG):Fg s x i d aa H k=je (aB (.dk s x i) aa H) k:=by unfold Fg;rw[iC,iC];simp only[aB];cases gv aa x<;>(try rfl);cases gv aa i<;>(try rfl);rename_i z;cases z<;>(try rfl);rename_i id o len c e a j;show eN (aha j len) (eX (Nat.add o (Nat.mul j s)) λo=>k (.aw id o) H) False=_;grind[ix,kf,je,aha]
theorem Tq:Fh d aa H k=je (aB .j7 aa H) k:=by unfold Fh;rw[vf];rfl
theorem Tr(e b s:Nat)(a:List AV)(x y:aG):Fi e b s a x y d aa H k=je (aB (.jr e b s a x y) aa H) k:=by
 unfold Fi;rw[iC,iC];simp only[aB];generalize gv aa x=g;generalize gv aa y=h;unfold J8;split;·rename_i l c;rw[ix,qY,wO,pc,pc,←Bool.and_assoc];simp only;cases(ahG l c&&fc (c*b)&&fc c)<;>rfl
 rename_i f;split;·grind
 rfl
theorem Ts(e:Nat)(x:aG):Fj e x d aa H k=je (aB (.wn e x) aa H) k:=by unfold Fj;rw[iC];simp only[aB];cases gv aa x<;>(try rfl);show nM _ _=_;rw[qY,wO,kf];rfl
theorem Tt(e b s:Nat)(c:List AV)(m:Bool)(x y:aG):Fk e b s c m x y d aa H k=je (aB (.append e b s c m x y) aa H) k:=by
 unfold Fk;rw[iC,iC,ix];simp only[aB];cases m with
 |true=>
  simp only[bm];generalize gv aa y=f;unfold J9;split;·rename_i n;rw[ix,qY,LJ,pc];simp only;cases(fc (n*b)&&fc n)<;>rfl
  rename_i a;split;·rename_i n;exact absurd rfl (a n)
  rfl
 |false=>simp only[ac6,bK];cases iS H s (gv aa y)with|none=>rfl|some p=>show eX p.1 (λn=>nM p.2 λl=>Am e b s H (gv aa x) n l k)=_;rw[kf,qY,LJ]
theorem Tu(s:Nat)(x y:aG):Fm s x y d aa H k=je (aB (.copy s x y) aa H) k:=by
 unfold Fm;rw[iC,iC];simp only[aB];cases iS H s (gv aa y)with
 |none=>cases gv aa x<;>rfl
 |some p=>
  show Fl s H k (gv aa x) p.1 p.2=_;unfold Fl;cases gv aa x<;>(try rfl);rename_i id off len c e;show eX (min p.1 len) _=_;rw[kf,ix,qY,GA];simp only;by_cases h:min p.1 len=0;·rw[aH (by rw[h];rfl)];simp only[h,bm];rfl
  rw[an (λe=>h (agO e))];simp only[h,bK];cases iI H id off (p.2.take (min p.1 len*s))<;>rfl
theorem Tv(x:aG):Fp x d aa H k=je (aB (.qI x) aa H) k:=by unfold Fp;rw[iC];unfold J';simp only[aB];cases gv aa x<;>(try rfl);show oY _ _ _=_;rw[vf];rfl
theorem Tw(x:aG):Fq x d aa H k=je (aB (.oh x) aa H) k:=by
 unfold Fq;rw[iC];unfold Kb;simp only[aB];cases gv aa x<;>(try rfl);·rename_i m;show Ak H m _=_;rw[Gy];simp only;cases H.get m<;>(try rfl);show oY _ _ _=_;rw[vf];rfl
 rw[vf];rfl
theorem LQ:∀(l:List AV)(n:Nat)(k:AV→Prop),Ft l n k=jP (pH l n) k|[],_,_=>rfl|_::_,0,_=>rfl|_::l,n+1,k=>LQ l n k
theorem Tx(x:aG)(i:Nat):Fu x i d aa H k=je (aB (.extract x i) aa H) k:=by unfold Fu;rw[iC];simp only[aB];cases gv aa x<;>(try rfl);rename_i l;show Ft l i _=_;rw[LQ,Dl]
theorem Ty(x:aG):Fv x d aa H k=je (aB (.nilCheck x) aa H) k:=by unfold Fv;rw[iC];simp only[aB];cases gv aa x<;>rfl
theorem Tz(x:aG):Fx x d aa H k=je (aB (.jN x) aa H) k:=by unfold Fx;rw[iC];simp only[aB];cases gv aa x<;>rfl
theorem TA(o:bO)(h:o.As=false)(h2:∀a,o≠.lx a):yD o d aa H k=je (aB o aa H) k:=by
 cases o;case call=>trivial
 case lx a=>grind
 case bg x=>exact iC _ _ _
 case pick=>exact Te d aa H k _ _ _
 case box=>exact Tf d aa H k _ _
 case alloc=>exact Tg d aa H k _ _
 case buildSlice=>exact Ti d aa H k _ _ _ _
 case aW=>exact Tk d aa H k _
 case fZ=>exact Tl d aa H k _ _
 case store=>exact Tm d aa H k _ _ _
 case arith=>exact Tn d aa H k _ _ _ _
 case jM=>exact To d aa H k _ _
 case dk=>exact Tp d aa H k _ _ _
 case j7=>exact Tq d aa H k
 case jr=>exact Tr d aa H k _ _ _ _ _ _
 case wn=>exact Ts d aa H k _ _
 case append=>exact Tt d aa H k _ _ _ _ _ _ _
 case copy=>exact Tu d aa H k _ _ _
 case qI=>exact Tv d aa H k _
 case oh=>exact Tw d aa H k _
 case extract=>exact Tx d aa H k _ _
 case nilCheck=>exact Ty d aa H k _
 case jN=>exact Tz d aa H k _
 all_goals exact S5 _ d aa H k
theorem TB(f:aG)(args:List aG):yD (.call f args) d aa H k=d.call (gv aa f) (args.map (gv aa)) H k:=by show fQ aa f (λf=>CF aa args λargs=>d.call f args H k)=_;rw[iC,LH]
theorem TC(a:aG):yD (.lx a) d aa H k=(match tz H (gv aa a)with
 |some (cs,b)=>dF cs.length λi=>match cs[i]? with|some c=>k (b c).1 (b c).2|none=>False
 |none=>False):=by show fQ aa a (λa=>Kc H a k)=_;rw[iC];rfl
end
section
theorem A0(j:cG)(x:Prop)(y:Nat→Prop)(z:Prop):yE j x y z=(match j with|.none=>x|.exit i=>y i|.ret=>z):=by cases j<;>rfl
theorem TD(v:AV)(t f:Prop):Fy v t f=(match v with|.bool true=>t|.bool false=>f|_=>False):=by cases v<;>(try rfl);rename_i b;cases b<;>rfl
theorem LR(aa:am AV)(d:Option ac)(v:AV)(k:am AV→Prop):CM aa d v k=k (aM aa d v):=by cases d with|none=>rfl|some p=>exact vc _ _ _ _ _
theorem TE(aa:am AV)(H:af)(l:List i9)(x:Prop):Kd aa H l x=if fh aa H l=true then x else False:=by cases l with|nil=>rfl|cons a l=>exact ix _ _ _
theorem TF(aa:am AV)(g:Option (ac×Bool))(x y:Prop):Fz aa g x y=if ft aa g=true then x else if lA aa g=true then y else False:=by cases g with|none=>rfl|some g=>show eN (ft aa (some g)) x (eN (lA aa (some g)) y False)=_;simp[ix]
theorem LS:∀(l:List AV)(p:ac)(t:am AV)(k:am AV→Prop),FA l p t k=k (kx l p t)|[],_,_,_=>rfl|v::l,p,t,k=>by show wy .aiw p v t (λt=>Aj p λp=>FA l p t k)=_;rw[vc,Gx,LS l];rfl
theorem GB(aa:am AV)(H:af):∀(l:List iH)(k:List AV→Prop),Ap aa H l k=jP (gG aa H l) k|[],_=>rfl|.tmp p::l,k=>by show wx .aiw p aa (λv=>Ap aa H l λl=>k (v::l))=_;rw[zd,GB aa H l];simp only[gG];cases gG aa H l<;>rfl|.cell p g n::l,k=>by show wx .aiw p aa (λa=>jP (ja H a n g) λv=>rY v λv=>Ap aa H l λl=>k (v::l))=_;rw[zd];simp only[gG];cases ja H (aa.get .aiw p) n g with|none=>rfl|some v=>rw[AY,wN,GB aa H l];cases gG aa H l<;>rfl
theorem TG(l:List AV)(k:AV→Prop):FB l k=k (iu l):=by match l with|[]=>rfl|[v]=>rfl|v::w::l=>rfl
theorem TH(H:af)(l:List ac)(k:af→Prop):FC H l k=jP (jw H l) k:=by cases l<;>rfl
def GC(o:b9)(k:LK):Prop:=
 match o with
 |.loop st cq fn aa a as b d=>k st cq fn aa a as b d
 |_=>False
theorem A3(H:af)(i:ac)(k:LK):tE H i k=GC (H.get i) k:=by unfold tE;rw[Gy];cases H.get i<;>rfl
variable{ab:am aE}
structure A4(ab:am aE)(n:Nat):Prop where
 exec:∀c fr H K,(eY ab n).exec c fr H K=Go.ak.exec False dF (ab.bq .none) n c fr H K
 az:∀l fr H K,(eY ab n).az l fr H K=Go.ak.az False dF (ab.bq .none) n l fr H K
 call:∀f args H K,(eY ab n).call f args H K=gS False dF (ab.bq .none) n f args H K
theorem LU{n:Nat}(h:A4 ab n)(b:bp)(K:tD):yF (eY ab n) b K=λj fr H=>match j with|.none=>Go.ak.exec False dF (ab.bq .none) n b fr H K|j=>K j fr H:=by funext j fr H;unfold yF;rw[A0,h.exec];cases j<;>rfl
theorem TI{n:Nat}(h:A4 ab n)(c:bp)(fr:Fr)(H:af)(K:tD):(eY ab (n+1)).exec c fr H K=Go.ak.exec False dF (ab.bq .none) (n+1) c fr H K:=by
 cases c with
 |skip=>simp only[Go.ak.exec];rfl
 |region l=>show(eY ab n).az l fr H (K .none)=_;rw[h.az];simp only[Go.ak.exec]
 |seq a b=>show(eY ab n).exec a fr H (yF (eY ab n) b K)=_;rw[h.exec,LU h];simp only[Go.ak.exec];rfl
 |cond c a b=>show fQ fr.aa c (λv=>Fy v ((eY ab n).exec a fr H K) ((eY ab n).exec b fr H K))=_;rw[iC,TD,h.exec,h.exec];simp only[Go.ak.exec];rfl
 |block id b=>show(eY ab n).exec b fr H (FD id K)=_;rw[h.exec];simp only[Go.ak.exec];congr 1;funext j fr H;unfold FD;rw[A0];cases j with|none=>rfl|exit i=>exact ix _ _ _|ret=>rfl
 |loop b=>show(eY ab n).exec b fr H (yF (eY ab n) (.loop b) K)=_;rw[h.exec,LU h];simp only[Go.ak.exec];rfl
 |rangeFunc f e as k=>
  have go:∀(fr:Fr)(H:af)(d:ac)(aa:am AV),yG (eY ab n) aa e as k (gv fr.aa f) K fr H d=gS False dF (ab.bq .none) n (gv fr.aa f) [.yield H.next] (H.new (.loop .ready .none 0 aa e as k d)) λ_ H'=>match H'.get H.next with
   |.loop st cq fn aa e as k d=>match st with|.busy=>False|_=>K cq fr (H'.set H.next (.loop .exhausted cq fn aa e as k d))
   |_=>False:=by intro fr H d aa;unfold yG;rw[vf,h.call];congr 1;funext v H';rw[A3];cases H'.get H.next<;>(try rfl);rename_i st cq fn aa e as k d;unfold GC FE;simp only[zf];cases st<;>rfl
  show fQ fr.aa f (λfv=>Option.rec (motive:=λ_=>Prop) (oY H (.deferred false) λm H=>yG (eY ab n) fr.aa e as k fv K ⟨fr.aa,m::fr.bF,fr.bD⟩ H m) (λl=>tE H l λ_ _ _ _ _ _ _ d=>yG (eY ab n) fr.aa e as k fv K fr H d) fr.bD)=_;rw[iC];simp only[Go.ak.exec];cases o:fr.bD with|none=>show oY H (.deferred false) _=_;rw[vf];exact go ⟨fr.aa,H.next::fr.bF,none⟩ (H.new (.deferred false)) H.next fr.aa|some l=>show tE H l _=_;rw[A3];simp only;cases H.get l<;>(try rfl);exact go fr H _ fr.aa
 |exit id=>simp only[Go.ak.exec];rfl
 |ret=>simp only[Go.ak.exec];rfl
 |eB t=>show qL .none ab t (λg=>aE.rec (motive:=λ_=>Prop) False (λ_ _ _=>False) (λ_=>False) (CO fr H K) g)=_;rw[ze];simp only[Go.ak.exec];cases ab.bq .none t<;>(try rfl);rename_i g;show CO fr H K g=_;unfold CO;show jP (g fr.aa H) _=_;simp only;cases g fr.aa H<;>rfl
theorem TJ{n:Nat}(h:A4 ab n)(l:List aS)(fr:Fr)(H:af)(K:Fr→af→Prop):(eY ab (n+1)).az l fr H K=Go.ak.az False dF (ab.bq .none) (n+1) l fr H K:=by
 cases l with
 |nil=>simp only[Go.ak.az];rfl
 |cons o l=>
  show Fz fr.aa o.guard (FF (eY ab n) o.op fr.aa H o.jv (after (eY ab n) l K o.dst o.re fr.aa fr.bF fr.bD)) (CM fr.aa o.dst .aiw λaa=>(eY ab n).az l ⟨aa,fr.bF,fr.bD⟩ H K)=_;rw[TF,LR,h.az];simp only[Go.ak.az];congr 1;have b:∀(s:List (ac×b9))(v:AV)(H:af),after (eY ab n) l K o.dst o.re fr.aa fr.bF fr.bD v (d8 H s)=if fh (aM fr.aa o.dst v) (d8 H s) o.re=true then Go.ak.az False dF (ab.bq .none) n l {fr with aa:=aM fr.aa o.dst v} (d8 H s) K else False:=by intro s v H;unfold after;rw[LR,TE,h.az]
  have i:FF (eY ab n) o.op fr.aa H o.jv (after (eY ab n) l K o.dst o.re fr.aa fr.bF fr.bD)=yD o.op (eY ab n) fr.aa (eM fr.aa H o.jv).1 λv H'=>after (eY ab n) l K o.dst o.re fr.aa fr.bF fr.bD v (d8 H' (eM fr.aa H o.jv).2):=by cases o.jv<;>rfl
  rw[i];have j:(λv H'=>after (eY ab n) l K o.dst o.re fr.aa fr.bF fr.bD v (d8 H' (eM fr.aa H o.jv).2))=λv H'=>if fh (aM fr.aa o.dst v) (d8 H' (eM fr.aa H o.jv).2) o.re=true then Go.ak.az False dF (ab.bq .none) n l {fr with aa:=aM fr.aa o.dst v} (d8 H' (eM fr.aa H o.jv).2) K else False:=by funext v H';exact b _ v H'
  rw[j];split;·rename_i f args a;rw[a,TB,h.call]
  ·rename_i g a;rw[a,TC];rfl
  rename_i c d;rw[TA _ _ _ _ _ (by cases a:o.op<;>first|rfl|exact absurd a (c _ _)) (λg e=>d g e)];cases aB o.op fr.aa (eM fr.aa H o.jv).1<;>rfl
theorem TK{n:Nat}(h:A4 ab n)(f:AV)(args:List AV)(H:af)(K:KV):(eY ab (n+1)).call f args H K=gS False dF (ab.bq .none) (n+1) f args H K:=by
 cases f<;>(try(simp only[gS];rfl))
 ·rename_i f first a;show qL .none ab f (λg=>nM (first++args++a) λall=>aE.rec (motive:=λ_=>Prop) False (CP (eY ab n) H K all) (CQ H K all) (λ_=>False) g)=_;rw[ze,qY];simp only[gS];cases ab.bq .none f<;>(try rfl)
  ·rename_i o k body;show CP (eY ab n) H K (first++args++a) o k body=_;unfold CP;rw[ix,ud,LS,h.exec];simp only;congr 2;funext j fr H;have m:FG k K fr H=(match jw H fr.bF with
    |some H=>match gG fr.aa H k with|some l=>K (iu l) H|none=>False
    |none=>False):=by show FC H fr.bF (λH=>Ap fr.aa H k λl=>FB l λv=>K v H)=_;rw[TH];cases jw H fr.bF with|none=>rfl|some q=>rw[AY,GB];simp only;cases gG fr.aa q k with|none=>rfl|some l=>rw[AY,TG]
   unfold Ke;rw[A0,m];cases j<;>rfl
  rename_i g;show CQ H K (first++args++a) g=_;unfold CQ;simp only;cases g (first++args++a) H with|none=>rfl|some p=>exact wN p.1 λv=>K v p.2
 rename_i l;show FI (eY ab n) args H K l=_;unfold FI;rw[A3];simp only[gS];cases H.get l<;>(try rfl);rename_i st cq fn aa b as c d;show Aq st (eN (agQ (nN args) (nN b)) ((eY ab n).exec as ⟨ow b args aa,[],some l⟩ H (Ar (eY ab n) l c K)) False) False False=_;cases st<;>(try rfl);show eN (agQ (nN args) (nN b)) ((eY ab n).exec as ⟨ow b args aa,[],some l⟩ H (Ar (eY ab n) l c K)) False=_;rw[ix,ud,ud,h.exec];simp only;have r:Ar (eY ab n) l c K=λj fr H=>match j,H.get l with
  |.none,.loop .ready cq fn aa b as bd' d=>Go.ak.exec False dF (ab.bq .none) n c fr (H.set l (.loop .busy cq fn aa b as bd' d)) λj _ H=>match H.get l with
   |.loop _ _ fn aa b as c d=>match j with|.none=>K (.bool true) (H.set l (.loop .ready .none fn aa b as c d))|j=>K (.bool false) (H.set l (.loop .done j fn aa b as c d))
   |_=>False
  |_,_=>False:=by funext j fr H;unfold Ar;rw[A0];cases j with|none=>simp only;unfold Kf;rw[A3];cases H.get l<;>(try rfl);rename_i st cq fn aa b as bd' d;show Aq st _ False False=_;cases st<;>(try rfl);show qM H l (.loop .busy cq fn aa b as bd' d) (λH=>(eY ab n).exec c fr H (FH l K))=_;rw[zf,h.exec];simp only;congr 1;funext j s H;unfold FH;rw[A3];cases H.get l<;>(try rfl);unfold GC;simp only;rw[A0];cases j<;>simp only[zf]|exit i=>cases H.get l<;>rfl|ret=>cases H.get l<;>rfl
 rw[r];by_cases hl:args.length=b.length;·rw[aH (by rw[hl];exact ahQ _),aH hl];rfl
 rw[an (λe=>hl (agO e)),an hl]
theorem Dm(ab:am aE):∀n,A4 ab n|0=>⟨λc fr H K=>by rfl,λl fr H K=>by rfl,λf args H K=>by rfl⟩|n+1=>⟨TI (Dm ab n),TJ (Dm ab n),TK (Dm ab n)⟩
end
end Go.ak.K
namespace Go.ak
section
variable{ab:Nat→aE}
structure Do(ab:Nat→aE)(n:Nat):Prop where
 exec:∀{c fr H K K' m},n≤m→(∀j fr H,K j fr H→K' j fr H)→exec False dF ab n c fr H K→exec False dF ab m c fr H K'
 az:∀{l fr H K K' m},n≤m→(∀fr H,K fr H→K' fr H)→Go.ak.az False dF ab n l fr H K→Go.ak.az False dF ab m l fr H K'
 call:∀{f args H K K' m},n≤m→(∀v H,K v H→K' v H)→gS False dF ab n f args H K→gS False dF ab m f args H K'
theorem TL{n:Nat}(h:Do ab n){c:bp}{fr:Fr}{H:af}{K q:cG→Fr→af→Prop}{m:Nat}(g:n≤m)(e:∀j fr H,K j fr H→q j fr H)(he:exec False dF ab (n+1) c fr H K):exec False dF ab (m+1) c fr H q:=by
 cases c with
 |skip=>simp only[exec]at he⊢;exact e _ _ _ he
 |region l=>simp only[exec]at he⊢;exact h.az g (e _) he
 |seq a b=>simp only[exec]at he⊢;refine h.exec g (λj fr H hj=>?_) he;cases j with|none=>exact h.exec g e hj|exit i=>exact e _ _ _ hj|ret=>exact e _ _ _ hj
 |cond c a b=>
  simp only[exec]at he⊢;split at he;·exact h.exec g e he
  ·exact h.exec g e he
  exact he.elim
 |block id b=>simp only[exec]at he⊢;refine h.exec g (λj fr H hj=>?_) he;cases j with|none=>exact e _ _ _ hj|exit i=>simp only at hj⊢;split at hj<;>rename_i hi<;>simp only[hi,bm,bK,ac6]<;>exact e _ _ _ hj|ret=>exact e _ _ _ hj
 |loop b=>simp only[exec]at he⊢;refine h.exec g (λj fr H hj=>?_) he;cases j with|none=>exact h.exec g e hj|exit i=>exact e _ _ _ hj|ret=>exact e _ _ _ hj
 |rangeFunc f o as p=>
  simp only[exec]at he⊢;have go:∀(fr:Fr)(l:ac)(v:AV)(H':af),(match H'.get l with
   |.loop st cq fn aa o as p d=>match st with|.busy=>False|_=>K cq fr (H'.set l (.loop .exhausted cq fn aa o as p d))
   |_=>False)→(match H'.get l with
   |.loop st cq fn aa o as p d=>match st with|.busy=>False|_=>q cq fr (H'.set l (.loop .exhausted cq fn aa o as p d))
   |_=>False):=by
   intro fr l v H' k;cases r:H'.get l with
   |loop st cq fn aa o as p d=>rw[r]at k;cases st<;>first|exact k.elim|exact e _ _ _ k
   |_=>rw[r]at k;exact k.elim
  cases s:fr.bD with
  |none=>rw[s]at he;exact h.call g (λv H' k=>go _ _ v H' k) he
  |some l=>
   rw[s]at he;simp only at he⊢;split at he;·exact h.call g (λv H' k=>go _ _ v H' k) he
   exact he.elim
 |exit id=>simp only[exec]at he⊢;exact e _ _ _ he
 |ret=>simp only[exec]at he⊢;exact e _ _ _ he
 |eB t=>
  simp only[exec]at he⊢;split at he
  ·split at he;·exact e _ _ _ he
   exact he.elim
  exact he.elim
theorem TM{n:Nat}(h:Do ab n){l:List aS}{fr:Fr}{H:af}{K c:Fr→af→Prop}{m:Nat}(d:n≤m)(e:∀fr H,K fr H→c fr H)(he:Go.ak.az False dF ab (n+1) l fr H K):Go.ak.az False dF ab (m+1) l fr H c:=by
 cases l with
 |nil=>simp_all[Go.ak.az]
 |cons o l=>
  simp only[Go.ak.az]at he⊢;have b:∀(s:List (ac×b9))(v:AV)(H:af),(if fh (aM fr.aa o.dst v) (d8 H s) o.re=true then Go.ak.az False dF ab n l {fr with aa:=aM fr.aa o.dst v} (d8 H s) K else False)→(if fh (aM fr.aa o.dst v) (d8 H s) o.re=true then Go.ak.az False dF ab m l {fr with aa:=aM fr.aa o.dst v} (d8 H s) c else False):=by
   intro s v H a;split at a;·rename_i f;rw[aH f];exact h.az d e a
   exact a.elim
  split at he
  ·rename_i hg;rw[aH hg];split at he;·exact h.call d (λv H' a=>b _ v H' a) he
   all_goals grind
  rename_i hg;rw[an hg];split at he;·rename_i hd;rw[aH hd];exact h.az d e he
  grind
theorem TN{n:Nat}(h:Do ab n){f:AV}{args:List AV}{H:af}{K e:AV→af→Prop}{m:Nat}(a:n≤m)(b:∀v H,K v H→e v H)(he:gS False dF ab (n+1) f args H K):gS False dF ab (m+1) f args H e:=by
 cases f<;>(try(simp only[gS]at he;done))
 ·simp only[gS]at he⊢;split at he;·omega
  ·omega
  ·grind
  split at he;·rename_i c;rw[aH c];refine h.exec a (λj fr H hj=>?_) he;grind
  grind
 rename_i l;simp only[gS]at he⊢;split at he
 ·split at he
  ·split at he
   ·rename_i hl;rw[aH hl];refine h.exec a (λj fr H hj=>?_) he;split at hj
    ·refine h.exec a (λj fr H hj=>?_) hj;split at hj
     ·split at hj;·exact b _ _ hj
      cases j<;>first|exact b _ _ hj|skip
      all_goals first|exact b _ _ hj|(rename_i d;exact absurd rfl d)
     exact hj.elim
    exact hj.elim
   exact he.elim
  exact he.elim
 exact he.elim
theorem mono(ab:Nat→aE):∀n,Do ab n|0=>⟨λ_ _ he=>by trivial,λ_ _ he=>by trivial,λ_ _ he=>by trivial⟩|n+1=>by have h:=mono ab n;refine⟨λb a he=>?_,λb a he=>?_,λb a he=>?_⟩;all_goals rename_i m;cases m with|zero=>omega|succ m=>first|exact TL h (by omega) a he|exact TM h (by omega) a he|exact TN h (by omega) a he
end
section
variable[Ov]
variable{ab:Nat→aE}
abbrev Xc(ab:Nat→aE)(n:Nat)(c:bp)(fr:Fr)(H:af)(K:cG→Fr→af→Prop):Prop:=exec False dF ab n c fr H K
abbrev Xo(ab:Nat→aE)(n:Nat)(l:List aS)(fr:Fr)(H:af)(K:Fr→af→Prop):Prop:=Go.ak.az False dF ab n l fr H K
abbrev Xf(ab:Nat→aE)(n:Nat)(f:AV)(args:List AV)(H:af)(K:AV→af→Prop):Prop:=gS False dF ab n f args H K
theorem Xo.nil{n:Nat}{fr:Fr}{H:af}{K:Fr→af→Prop}(h:K fr H):Xo ab (n+1) [] fr H K:=by trivial
theorem Xo.op{n:Nat}{d:Option ac}{op:bO}{l:List aS}{aa:am AV}{bF:List ac}{bD:Option ac}{H H':af}{v:AV}{K:Fr→af→Prop}(he:aB op aa H=some (v,H'))(h:Xo ab n l ⟨aM aa d v,bF,bD⟩ H' K):Xo ab (n+1) (⟨d,op,none,[],[]⟩::l) ⟨aa,bF,bD⟩ H K:=by simp only[Xo,Go.ak.az,ft,eM,d8,fh,bm];grind[aB]
theorem Xo.next{n:Nat}{d:Option ac}{a:aG}{l:List aS}{aa:am AV}{bF:List ac}{bD:Option ac}{H:af}{cs:List (Option aR)}{aft:Option aR→AV×af}{K:Fr→af→Prop}(he:tz H (gv aa a)=some (cs,aft))(h:∀c∈cs,Xo ab n l ⟨aM aa d (aft c).1,bF,bD⟩ (aft c).2 K):Xo ab (n+1) (⟨d,.lx a,none,[],[]⟩::l) ⟨aa,bF,bD⟩ H K:=by simp only[Xo,Go.ak.az,ft,eM,d8,fh,bm,he];grind
theorem Xo.call{n:Nat}{d:Option ac}{f:aG}{args:List aG}{l:List aS}{aa:am AV}{bF:List ac}{bD:Option ac}{H:af}{K:Fr→af→Prop}(h:Xf ab n (gv aa f) (args.map (gv aa)) H λv H'=>Xo ab n l ⟨aM aa d v,bF,bD⟩ H' K):Xo ab (n+1) (⟨d,.call f args,none,[],[]⟩::l) ⟨aa,bF,bD⟩ H K:=by trivial
theorem Xc.region{n:Nat}{l:List aS}{fr:Fr}{H:af}{K:cG→Fr→af→Prop}(h:Xo ab n l fr H (K .none)):Xc ab (n+1) (.region l) fr H K:=by trivial
theorem Xc.seq{n:Nat}{a b:bp}{fr:Fr}{H:af}{K:cG→Fr→af→Prop}(h:Xc ab n a fr H λj fr H=>match j with|.none=>Xc ab n b fr H K|j=>K j fr H):Xc ab (n+1) (.seq a b) fr H K:=by trivial
theorem Xc.mono{n m:Nat}(h:n≤m){c:bp}{fr:Fr}{H:af}{K a:cG→Fr→af→Prop}(b:∀j fr H,K j fr H→a j fr H)(he:Xc ab n c fr H K):Xc ab m c fr H a:=(Go.ak.mono ab n).exec h b he
theorem Xo.mono{n m:Nat}(h:n≤m){l:List aS}{fr:Fr}{H:af}{K a:Fr→af→Prop}(b:∀fr H,K fr H→a fr H)(he:Xo ab n l fr H K):Xo ab m l fr H a:=(Go.ak.mono ab n).az h b he
theorem Xf.mono{n m:Nat}(h:n≤m){f:AV}{args:List AV}{H:af}{K a:AV→af→Prop}(b:∀v H,K v H→a v H)(he:Xf ab n f args H K):Xf ab m f args H a:=(Go.ak.mono ab n).call h b he
theorem Xc.loop{n:Nat}{b:bp}{fr:Fr}{H:af}{K:cG→Fr→af→Prop}(h:Xc ab n b fr H λj fr H=>match j with|.none=>Xc ab n (.loop b) fr H K|j=>K j fr H):Xc ab (n+1) (.loop b) fr H K:=by trivial
theorem Xc.oD{n:Nat}{c:aG}{a b:bp}{fr:Fr}{H:af}{K:cG→Fr→af→Prop}(d:gv fr.aa c=.bool true)(h:Xc ab n a fr H K):Xc ab (n+1) (.cond c a b) fr H K:=by simp[d,h,Xc,exec]
theorem Xc.mQ{n:Nat}{c:aG}{a b:bp}{fr:Fr}{H:af}{K:cG→Fr→af→Prop}(d:gv fr.aa c=.bool false)(h:Xc ab n b fr H K):Xc ab (n+1) (.cond c a b) fr H K:=by simp[d,h,Xc,exec]
theorem Xc.block{n:Nat}{id:Nat}{b:bp}{fr:Fr}{H:af}{K:cG→Fr→af→Prop}(h:Xc ab n b fr H λj fr H=>match j with|.exit i=>if agQ i id then K .none fr H else K (.exit i) fr H|j=>K j fr H):Xc ab (n+1) (.block id b) fr H K:=by trivial
theorem Xc.skip{n:Nat}{fr:Fr}{H:af}{K:cG→Fr→af→Prop}(h:K .none fr H):Xc ab (n+1) .skip fr H K:=by trivial
theorem Xc.exit{n id:Nat}{fr:Fr}{H:af}{K:cG→Fr→af→Prop}(h:K (.exit id) fr H):Xc ab (n+1) (.exit id) fr H K:=by trivial
theorem Xc.ret{n:Nat}{fr:Fr}{H:af}{K:cG→Fr→af→Prop}(h:K .ret fr H):Xc ab (n+1) .ret fr H K:=by trivial
theorem Xc.jf{n m:Nat}{a b:bp}{fr:Fr}{H:af}{K:cG→Fr→af→Prop}{k:Nat}(c:n≤k)(d:m≤k)(h:Xc ab n a fr H λj fr H=>match j with|.none=>Xc ab m b fr H K|j=>K j fr H):Xc ab (k+1) (.seq a b) fr H K:=by refine Xc.seq (h.mono c λj fr H hj=>?_);cases j with|none=>exact hj.mono d λ_ _ _ h=>h|exit i=>omega|ret=>omega
def qZ(a c:Nat)(d b ok e ex kv:ac)(body:bp):bp:=
 .block a (.loop (.seq (.region [⟨some b,.lx (.t d),none,[],[]⟩,⟨some ok,.extract (.t b) 0,none,[],[]⟩])
   (.seq (.cond (.t ok) .skip (.exit a)) (.block c (.seq (.region [⟨some e,.tq (.t d),none,[],[]⟩,⟨some ex,.extract (.t e) 0,none,[],[]⟩,⟨some kv,.bg (.t ex),none,[],[]⟩]) body)))))
theorem LW:∀{es:List aR}{e:aR}(i0:Nat),e∈es→(es.map (·.born)).Nodup→∃i,pG e.born es i0=some (i0+i)∧es[i]?=some e
 |[],_,_,h,_=>by grind
 |a::es,e,i0,h,b=>by
  rw[agN,ahg]at b;rcases adC.1 h with h|h;·simp[h,pG,ahQ]
  have c:¬a.born=e.born:=λhe=>b.1 (by rw[he];exact ag5 h);obtain⟨i,h1,h2⟩:=LW (i0+1) h b.2;refine⟨i+1,?_,by grind⟩;have:agQ a.born e.born=false:=by cases hb:agQ a.born e.born with|false=>rfl|true=>exact absurd (agO hb) c
  simp only[pG,this,ac6,bK,h1];grind
def kz(es:List aR)(seen:List Nat):List aR:=es.filter λe=>!seen.contains e.born
theorem TO{es:List aR}{seen:List Nat}{e:aR}(he:e∈kz es seen):(kz es (seen++[e.born])).length<(kz es seen).length:=by
 have h1:kz es (seen++[e.born])=(kz es seen).filter λx=>!(x.born==e.born):=by simp only[kz,List.filter_filter];congr 1;funext x;simp only[List.contains_append,Bool.not_or,List.contains_cons,List.contains_nil,Bool.or_false];rw[Bool.and_comm]
 rw[h1];refine List.length_filter_lt_length_iff_exists.2 ⟨e,he,by simp⟩
theorem LX{H:af}{id m:ac}{es:List aR}{b:Nat}{seen:List Nat}(hi:H.get id=.mapIter (some m) b seen b)(g:H.get m=.map es b)(d:∀e∈es,e.born<b):∃f,tz H (.aw id 0)=some ((if(kz es seen).isEmpty then[none]else[])++(kz es seen).map some,f)∧f none=(.tuple [.bool false],H)∧∀e,f (some e)=(.tuple [.bool true,e.key,e.val],H.set id (.mapIter (some m) b (seen++[e.born]) b)):=by
 have eS:¬((!seen.isEmpty&&!es.isEmpty&&es.all λe=>ahG b e.born)=true):=by intro h;simp only[agM,ah1]at h;cases es with|nil=>simp at h|cons a es=>have:=agT (h.2 a (adc ..));have:=d a (adc ..);omega
 have h1:(kz es seen).filter (λe=>aha e.born b)=kz es seen:=List.filter_eq_self.2 λe he=>aiu ahF (d e (aik.1 he).1);have h2:(kz es seen).filter (λe=>!aha e.born b)=[]:=List.filter_eq_nil_iff.2 λe he=>by have:aha e.born b=true:=aiu ahF (d e (aik.1 he).1);simp[this]
 refine⟨λc=>match c with|some e=>(.tuple [.bool true,e.key,e.val],H.set id (.mapIter (some m) b (seen++[e.born]) b))|none=>(.tuple [.bool false],H),?_,rfl,λe=>rfl⟩;simp only[tz,hi,g];rw[an eS];show some ((if((kz es seen).filter (λe=>aha e.born b)).isEmpty then[none]else[])++((kz es seen).filter (λe=>aha e.born b)++(kz es seen).filter (λe=>!aha e.born b)).map some,_)=_;grind
theorem LY{g r:Nat}{p f ok u ex kv:ac}{body:bp}(X:g≠r)(R:p≠f)(S:p≠ok)(Y:f≠ok)(Z:u≠ex){es:List aR}{b:Nat}{id m:ac}(hb:(es.map (·.born)).Nodup)(w:∀e∈es,e.born<b){bF:List ac}{bD:Option ac}{K:cG→Fr→af→Prop}(I:List Nat→am AV→af→Prop)(y:∀seen aa H,I seen aa H→aa.get .aiw p=.aw id 0∧H.get id=.mapIter (some m) b seen b∧H.get m=.map es b)(d:Nat)(step:∀seen aa H e,I seen aa H→e∈es→e.born∉seen→Xc ab d body ⟨((((aa.set .aiw f (.tuple [.bool true,e.key,e.val])).set .aiw ok (.bool true)).set .aiw u (.tuple [e.key,e.val])).set .aiw ex e.key).set .aiw kv e.key,bF,bD⟩ (H.set id (.mapIter (some m) b (seen++[e.born]) b)) λj fr H'=>j=.none∧fr.bF=bF∧fr.bD=bD∧I (seen++[e.born]) fr.aa H')(aq:∀seen aa H,I seen aa H→(∀e∈es,e.born∈seen)→K .none ⟨(aa.set .aiw f (.tuple [.bool false])).set .aiw ok (.bool false),bF,bD⟩ H):∀(k:Nat)seen aa H,I seen aa H→(kz es seen).length≤k→Xc ab (d+15+k) (qZ g r p f ok u ex kv body) ⟨aa,bF,bD⟩ H K:=by
 have A:∀(k:Nat)seen aa H,I seen aa H→(kz es seen).length≤k→Xc ab (d+14+k) (.loop (.seq (.region [⟨some f,.lx (.t p),none,[],[]⟩,⟨some ok,.extract (.t f) 0,none,[],[]⟩]) (.seq (.cond (.t ok) .skip (.exit g)) (.block r (.seq (.region [⟨some u,.tq (.t p),none,[],[]⟩,⟨some ex,.extract (.t u) 0,none,[],[]⟩,⟨some kv,.bg (.t ex),none,[],[]⟩]) body))))) ⟨aa,bF,bD⟩ H λj fr H=>j=.exit g∧K .none fr H:=by
  intro k;induction k with
  |zero=>intro seen aa H s C;obtain⟨h1,h2,h3⟩:=y seen aa H s;obtain⟨F,B,D,a3⟩:=LX h2 h3 w;have n:kz es seen=[]:=ahp (by omega);rw[n]at B;refine Xc.loop (n:=d+13) ?_;refine Xc.seq (n:=d+12) (Xc.region (n:=d+11) (Xo.next (n:=d+10) (by rw[show gv aa (.t p)=aa.get .aiw p from rfl,h1];exact B) ?_));intro c o;simp only[List.isEmpty_nil,bm,ahX,ahx,ac3]at o;subst o;rw[D];refine Xo.op (n:=d+9) (v:=.bool false) (H':=H) (by simp[aB,gv,aM,am.aD,pH]) (Xo.nil (n:=d+8) ?_);refine Xc.seq (n:=d+11) (Xc.mQ (n:=d+10) (by simp[gv,aM,am.aD]) (Xc.exit (n:=d+9) ?_));refine⟨by trivial,aq seen aa H s λe he=>?_⟩;apply ahe;intro v;have:e∈kz es seen:=aik.2 ⟨he,by simpa using v⟩;rw[n]at this;cases this
  |succ k T=>
   intro seen aa H s C;obtain⟨h1,h2,h3⟩:=y seen aa H s;obtain⟨F,B,D,a3⟩:=LX h2 h3 w;refine Xc.loop (n:=d+14+k) ?_;refine Xc.mono (n:=d+14) (K:=λj fr H=>match j with|.none=>exec False dF ab (d+14+k) (.loop (.seq (.region [⟨some f,.lx (.t p),none,[],[]⟩,⟨some ok,.extract (.t f) 0,none,[],[]⟩]) (.seq (.cond (.t ok) .skip (.exit g)) (.block r (.seq (.region [⟨some u,.tq (.t p),none,[],[]⟩,⟨some ex,.extract (.t u) 0,none,[],[]⟩,⟨some kv,.bg (.t ex),none,[],[]⟩]) body))))) fr H λj fr H=>j=.exit g∧K .none fr H|j=>j=.exit g∧K .none fr H) (by omega) (λ_ _ _ h=>h) ?_;refine Xc.seq (n:=d+13) (Xc.region (n:=d+12) (Xo.next (n:=d+11) (by rw[show gv aa (.t p)=aa.get .aiw p from rfl,h1];exact B) ?_));intro c o;cases c with
   |none=>
    have n:kz es seen=[]:=by cases hu:kz es seen with|nil=>rfl|cons a l=>rw[hu]at o;simp at o
    rw[D];refine Xo.op (n:=d+10) (v:=.bool false) (H':=H) (by simp[aB,gv,aM,am.aD,pH]) (Xo.nil (n:=d+9) ?_);refine Xc.seq (n:=d+12) (Xc.mQ (n:=d+11) (by simp[gv,aM,am.aD]) (Xc.exit (n:=d+10) ?_));refine⟨by trivial,aq seen aa H s λe he=>?_⟩;apply ahe;intro v;have:e∈kz es seen:=aik.2 ⟨he,by simpa using v⟩;rw[n]at this;cases this
   |some e=>
    have q:e∈kz es seen:=by
     rw[agI]at o;rcases o with o|o;·split at o<;>simp at o
     rw[ag3]at o;obtain⟨x,V,E⟩:=o;injection E with E;subst E;exact V
    have kI:e∈es:=(aik.1 q).1;have G:e.born∉seen:=by have:=(aik.1 q).2;simpa using this
    rw[a3];refine Xo.op (n:=d+10) (v:=.bool true) (H':=H.set id (.mapIter (some m) b (seen++[e.born]) b)) (by simp[aB,gv,aM,am.aD,pH]) (Xo.nil (n:=d+9) ?_);refine Xc.seq (n:=d+12) (Xc.oD (n:=d+11) (by simp[gv,aM,am.aD]) (Xc.skip (n:=d+10) ?_));refine Xc.block (n:=d+11) ?_;obtain⟨i,z,J⟩:=LW 0 kI hb;rw[agW]at z;have L:id≠m:=λe=>by rw[e,h3]at h2;cases h2
    have M:(H.set id (.mapIter (some m) b (seen++[e.born]) b)).get id=.mapIter (some m) b (seen++[e.born]) b:=by rw[af.aD,aH rfl]
    have N:(H.set id (.mapIter (some m) b (seen++[e.born]) b)).get m=.map es b:=by rw[af.aD,an (λh=>L h.symm)];exact h3
    refine Xc.seq (n:=d+10) (Xc.region (n:=d+9) ?_);refine Xo.op (n:=d+8) (v:=.tuple [e.key,e.val]) (H':=H.set id (.mapIter (some m) b (seen++[e.born]) b)) ?_ ?_;·simp only[aB,gv,aM,am.aD,an S,an R,h1,M,N,List.getLast?_append,List.getLast?_singleton,Option.some_or,ahQ,bm,z,J]
    refine Xo.op (n:=d+7) (v:=e.key) (H':=H.set id (.mapIter (some m) b (seen++[e.born]) b)) (by simp[aB,gv,aM,am.aD,pH]) ?_;refine Xo.op (n:=d+6) (v:=e.key) (H':=H.set id (.mapIter (some m) b (seen++[e.born]) b)) (by simp[aB,gv,aM,am.aD]) (Xo.nil (n:=d+5) ?_);refine Xc.mono (n:=d) (m:=d+10) (by omega) ?_ (step seen aa H e s kI G);rintro j fr H'⟨rfl,P,Q,W⟩;have O:fr=⟨fr.aa,bF,bD⟩:=by cases fr;simp only at P Q;subst P;subst Q;rfl
    rw[O];refine T (seen++[e.born]) fr.aa H' W ?_;have:=TO q;omega
 intro k seen aa H s C;rw[show d+15+k=d+14+k+1 by omega];refine Xc.block (n:=d+14+k) (Xc.mono (adW _) ?_ (A k seen aa H s C));simp_all
end
section
def GD:AV→AV→Bool
 |.bool a,.bool b=>a==b
 |.int j (.ofNat a),.int k (.ofNat b)=>agQ j k&&agQ a b
 |.cL,.cL=>true
 |.aP,.aP=>true
 |_,_=>false
def jT:aG→aG→Bool
 |.t p,.t q=>ac.beq p q
 |.c a,.c b=>GD a b
 |_,_=>false
def zg:List aG→List aG→Bool
 |[],[]=>true
 |a::l,b::m=>jT a b&&zg l m
 |_,_=>false
def GF:bO→bO→Bool
 |.bg x,.bg y=>jT x y
 |.extract x i,.extract y j=>jT x y&&agQ i j
 |.tq x,.tq y=>jT x y
 |.lx x,.lx y=>jT x y
 |.oh x,.oh y=>jT x y
 |.aW x,.aW y=>jT x y
 |.dk s x i,.dk t y j=>agQ s t&&jT x y&&jT i j
 |.arith .neq k x i,.arith .neq l y j=>agQ k l&&jT x y&&jT i j
 |.ju .int x i u,.ju .int y j v=>jT x y&&jT i j&&jT u v
 |.eq a .map x i,.eq b .map y j=>(a==b)&&jT x y&&jT i j
 |.j7,.j7=>true
 |.store n x i,.store m y j=>agQ n m&&jT x y&&jT i j
 |.jM n x,.jM m y=>agQ n m&&jT x y
 |.jN x,.jN y=>jT x y
 |.call f l,.call g m=>jT f g&&zg l m
 |_,_=>false
def GG:Option ac→Option ac→Bool
 |none,none=>true
 |some p,some q=>ac.beq p q
 |_,_=>false
def GH:aS→aS→Bool
 |⟨d,o,none,[],[]⟩,⟨e,p,none,[],[]⟩=>GG d e&&GF o p
 |_,_=>false
def zh:List aS→List aS→Bool
 |[],[]=>true
 |a::l,b::m=>GH a b&&zh l m
 |_,_=>false
def lY:bp→bp→Bool
 |.skip,.skip=>true
 |.region l,.region m=>zh l m
 |.seq a b,.seq c d=>lY a c&&lY b d
 |.cond x a b,.cond y c d=>jT x y&&lY a c&&lY b d
 |.block i a,.block j b=>agQ i j&&lY a b
 |.loop a,.loop b=>lY a b
 |.exit i,.exit j=>agQ i j
 |.eB i,.eB j=>agQ i j
 |_,_=>false
theorem TP{a b:AV}(h:GD a b=true):a=b:=by unfold GD at h;split at h;all_goals simp_all
theorem pd{a b:aG}(h:jT a b=true):a=b:=by unfold jT at h;grind[ac.gT,TP]
theorem LZ:∀{l m:List aG},zg l m=true→l=m|[],[],_=>rfl|a::l,b::m,h=>by simp only[zg,agM]at h;rw[pd h.1,LZ h.2]|[],_::_,h=>by simp[zg]at h|_::_,[],h=>by simp[zg]at h
theorem TQ{a b:bO}(h:GF a b=true):a=b:=by unfold GF at h;split at h<;>(try simp only[agM,beq_iff_eq]at h)<;>first|(cases h;done)|rfl|(rw[pd h];done)|(rw[pd h.1,agO h.2];done)|(rw[agO h.1.1,pd h.1.2,pd h.2];done)|(rw[pd h.1.1,pd h.1.2,pd h.2];done)|(rw[h.1.1,pd h.1.2,pd h.2];done)|(rw[agO h.1,pd h.2];done)|(rw[pd h.1,LZ h.2];done)
theorem TR{a b:Option ac}(h:GG a b=true):a=b:=by unfold GG at h;grind[ac.gT]
theorem TS{a b:aS}(h:GH a b=true):a=b:=by
 unfold GH at h;split at h;·simp only[agM]at h;grind[TR,TQ]
 grind
theorem L8:∀{l m:List aS},zh l m=true→l=m|[],[],_=>rfl|a::l,b::m,h=>by simp only[zh,agM]at h;rw[TS h.1,L8 h.2]|[],_::_,h=>by simp[zh]at h|_::_,[],h=>by simp[zh]at h
theorem TT:∀{a b:bp},lY a b=true→a=b:=by intro a;induction a with|skip=>intro b h;cases b<;>simp[lY]at h;rfl|region l=>intro b h;cases b<;>simp[lY]at h;rw[L8 h]|seq x y d e=>intro b h;cases b<;>simp[lY]at h;rw[d h.1,e h.2]|cond c x y d e=>intro b h;cases b<;>simp[lY]at h;rw[pd h.1.1,d h.1.2,e h.2]|block i x g=>intro b h;cases b<;>simp[lY]at h;rw[h.1,g h.2]|loop x g=>intro b h;cases b<;>simp[lY]at h;rw[g h]|exit i=>intro b h;cases b<;>simp[lY]at h;rw[h]|eB i=>intro b h;cases b<;>simp[lY]at h;rw[h]|rangeFunc f j as k _ _=>intro b h;cases b<;>simp[lY]at h|ret=>intro b h;cases b<;>simp[lY]at h
def zi(b:bp):List (Nat×bp)→Option Nat
 |[]=>none
 |(t,c)::l=>if lY b c then some t else zi b l
def A5(t:Nat):List (Nat×bp)→bp
 |[]=>.skip
 |(u,c)::l=>if agQ u t then c else A5 t l
theorem TU(l:List (Nat×bp))(a:(l.map (·.1)).Nodup)(b:bp)(t:Nat)(h:zi b l=some t):b=A5 t l:=by
 induction l with
 |nil=>trivial
 |cons p l d=>
  obtain⟨u,c⟩:=p;simp only[zi]at h;rw[agN,ahg]at a;split at h;·rename_i he;injection h with h;subst h;simp only[A5,ahQ,bm];exact TT he
  have e:t∈l.map (·.1):=by
   clear d a;induction l with
   |nil=>simp[zi]at h
   |cons q l d=>
    obtain⟨g,c2⟩:=q;simp only[zi]at h;split at h;·injection h with h;subst h;simp
    exact adD _ (d h)
  have f:agQ u t=false:=by cases hb:agQ u t with|false=>rfl|true=>exact absurd (agO hb▸e) a.1
  simp_all[A5,ac6,bK]
@[reducible]def TV(l:List (Nat×bp))(a:(l.map (·.1)).Nodup):Ov:=⟨λb=>zi b l,λt=>A5 t l,TU l a⟩
def eJ:b9→Option (List aR)
 |.map es _=>some es
 |.dB es=>some es
 |_=>none
def jA:List aR→Option (List Int)
 |[]=>some []
 |e::es=>match e.key,jA es with
  |.int 3 k,some l=>some (k::l)
  |_,_=>none
def ue:List aR→Option (List Int)
 |[]=>some []
 |e::es=>match e.key,e.val,ue es with
  |.int 3 k,.bool true,some l=>some (k::l)
  |_,_,_=>none
def ib(x:Int):List Int→Bool
 |[]=>false
 |y::l=>iB x y||ib x l
def A6:List Int→Bool
 |[]=>true
 |x::l=>!ib x l&&A6 l
def pe(x:Int)(l:List Int):List Int:=if ib x l then l else l++[x]
def gU:List Int→List Int→List Int
 |[],l=>l
 |x::a,l=>gU a (pe x l)
def eE(l:List Int):List aR:=l.map λk=>⟨.int 3 k,.bool true,0⟩
def kJ(aa:am AV):List ac→am AV
 |[]=>aa
 |p::l=>kJ (aa.set .aiw p .bX) l
def jB(H:af)(i:ac):Option (List Int):=
 match eJ (H.get i)with
 |some es=>match ue es with
  |some l=>if A6 l then some l else none
  |none=>none
 |none=>none
def jC(H:af)(i:ac):Option (List Int):=
 match eJ (H.get i)with
 |some es=>match jA es with
  |some l=>if A6 l then some l else none
  |none=>none
 |none=>none
def bh(H:af)(i:ac)(o:Nat):Option AV:=
 match H.get i with
 |.cells c n _ _ _ _=>if aha o n then some (c.bq .aiw o)else none
 |_=>none
def pf(H:af):AV→Option AV
 |.aw i o=>bh H i o
 |_=>none
def mR(H:af)(s:AV)(x:Int):Option AV:=
 match s,x with
 |.slice i o n _ _,.ofNat j=>if aha j n then bh H i (o+j)else none
 |_,_=>none
def wP(H:af)(s:AV):List Int→Option (List Int)
 |[]=>some []
 |x::l=>match mR H s x,wP H s l with
  |some (.int 3 r),some a=>some (r::a)
  |_,_=>none
def af.skip(H:af):af:=⟨H.t,H.next.succ⟩
variable[Ov]
theorem su(x:Int):∀l:List Int,ib x l=true↔x∈l|[]=>by simp[ib]|y::l=>by simp only[ib,ahT,su x l,adC];simp[fA]
theorem wQ:∀l:List Int,A6 l=true↔l.Nodup|[]=>by trivial|x::l=>by simp only[A6,agM,ahA,wQ l,ahg,←su];simp
theorem A7(x y:Int)(l:List Int):y∈pe x l↔y=x∨y∈l:=by unfold pe;split;all_goals simp_all[su,id,or_comm]
theorem TW{x:Int}{l:List Int}(h:l.Nodup):(pe x l).Nodup:=by grind[pe,su,ahy,ac3]
theorem oE(y:Int):∀(a l:List Int),y∈gU a l↔y∈a∨y∈l|[],l=>by simp[gU]|x::a,l=>by simp only[gU,oE y a,A7,adC];grind
theorem rc:∀(a:List Int){l:List Int},l.Nodup→(gU a l).Nodup|[],_,h=>h|_::a,_,h=>rc a (TW h)
end
abbrev sl(t:Nat):ac:=ac.dj t
abbrev bL(d:Nat)(o:bO):aS:=⟨some (sl d),o,none,[],[]⟩
abbrev qP(o:bO):aS:=⟨none,o,none,[],[]⟩
abbrev tt(t:Nat):aG:=.t (sl t)
def TX:bp:=.region [bL 42 (.bg (tt 6)),bL 43 (.aW (tt 4)),bL 44 (.bg (tt 7)),bL 45 (.dk 1 (tt 43) (tt 44)),bL 46 (.aW (tt 45)),qP (.ju .int (tt 42) (tt 46) (.c (.bool true)))]
def TY:bp:=.region [bL 33 (.aW (tt 3)),bL 34 (.bg (tt 5)),bL 35 (.dk 1 (tt 33) (tt 34)),bL 36 (.aW (tt 35)),bL 37 (.oh (tt 36))]
def TZ:bp:=qZ 2 3 (sl 37) (sl 38) (sl 39) (sl 40) (sl 41) (sl 7) TX
def T0:bp:=.seq TY TZ
def Dp:List ac:=[sl 7,sl 33,sl 34,sl 35,sl 36,sl 37,sl 38,sl 39,sl 40,sl 41,sl 42,sl 43,sl 44,sl 45,sl 46]
def A8(aa:am AV)(H:af):Option (am AV×af):=
 match pf H (aa.get .aiw (sl 3)),aa.get .aiw (sl 5),pf H (aa.get .aiw (sl 4)),aa.get .aiw (sl 6)with
 |some a,.int _ v,some b,.map N=>match mR H a v with
  |some (.map m)=>if ac.beq m N then none else match jC H m,jB H N with
   |some ks,some t0=>match wP H b ks with
    |some c=>some (kJ aa Dp,(H.set N (.dB (eE (gU c t0)))).skip)
    |none=>none
   |_,_=>none
  |_=>none
 |_,_,_,_=>none
def T1:bp:=.seq (.region [bL 37 (.bg (tt 6)),bL 38 (.bg (tt 5)),bL 39 (.arith .neq 3 (tt 37) (tt 38))])
  (.cond (tt 39) (.region [bL 40 (.aW (tt 3)),bL 41 (.bg (tt 5)),bL 42 (.dk 1 (tt 40) (tt 41)),bL 43 (.aW (tt 42)),bL 44 (.bg (tt 6)),qP (.ju .int (tt 43) (tt 44) (.c (.bool true)))]) .skip)
def T2:bp:=.region [bL 31 (.bg (tt 4)),bL 32 (.oh (tt 31))]
def T3:bp:=qZ 4 5 (sl 32) (sl 33) (sl 34) (sl 35) (sl 36) (sl 6) T1
def T4:bp:=.seq T2 T3
def uf:List ac:=[sl 6,sl 31,sl 32,sl 33,sl 34,sl 35,sl 36,sl 37,sl 38,sl 39,sl 40,sl 41,sl 42,sl 43,sl 44]
def im(v:Int):List Int→List Int
 |[]=>[]
 |x::l=>if iB x v then im v l else x::im v l
def ug(aa:am AV)(H:af):Option (am AV×af):=
 match aa.get .aiw (sl 4),aa.get .aiw (sl 5),pf H (aa.get .aiw (sl 3))with
 |.map m,.int 3 v,some a=>match mR H a v with
  |some (.map N)=>if ac.beq m N then none else match jC H m,jB H N with
   |some ks,some t0=>some (kJ aa uf,(H.set N (.dB (eE (gU (im v ks) t0)))).skip)
   |_,_=>none
  |_=>none
 |_,_,_=>none
def L9:bp:=.seq (.seq (.region [bL 22 (.aW (tt 3)),bL 23 (.bg (tt 5)),bL 24 (.dk 1 (tt 22) (tt 23)),bL 25 (.aW (tt 24)),bL 26 (.eq false .map (tt 25) (.c .cL))])
   (.cond (tt 26) (.region [bL 27 (.aW (tt 3)),bL 28 (.bg (tt 5)),bL 29 .j7,bL 30 (.dk 1 (tt 27) (tt 28)),qP (.store 1 (tt 30) (tt 29))]) .skip)) (.eB 1001)
def T5:bp:=.region [bL 16 (.bg (tt 4)),bL 17 (.oh (tt 16))]
def T6:bp:=qZ 2 3 (sl 17) (sl 18) (sl 19) (sl 20) (sl 21) (sl 5) L9
def T7:bp:=.seq T5 T6
def pM:List ac:=[sl 5,sl 6]++(agV 29).map λi=>sl (16+i)
def vh(c:am AV)(o n:Nat)(m:ac)(ks:List Int)(b:af):List Int→am AV→af→Option (am AV×af)
 |[],a,H'=>some (a,H')
 |k::l,a,H'=>
  match k with
  |.ofNat j=>if aha j n then match c.bq .aiw (o+j)with
    |.cL=>vh c o n m ks b l (fD a (o+j) [.map H'.next]) (H'.new (.dB (eE (im k ks))))
    |.map N=>if ac.beq N m then none else match jB b N with
     |some t0=>vh c o n m ks b l a (H'.set N (.dB (eE (gU (im k ks) t0))))
     |none=>none
    |_=>none
   else none
  |_=>none
def kK(c:am AV)(o:Nat):List Int→List ac
 |[]=>[]
 |k::l=>match c.bq .aiw (o+k.toNat)with
  |.map N=>N::kK c o l
  |_=>kK c o l
def zj(p:ac):List ac→Bool
 |[]=>false
 |q::l=>ac.beq p q||zj p l
def Dq:List ac→Bool
 |[]=>true
 |p::l=>!zj p l&&Dq l
def wR(aa:am AV)(H:af):Option (am AV×af):=
 match aa.get .aiw (sl 4),aa.get .aiw (sl 3)with
 |.map m,.aw i3 o3=>match bh H i3 o3 with
  |some (.slice i o n _ _)=>match jB H m,H.get i with
   |some ks,.cells c a e true [] fz=>if !ac.beq i3 i&&ahG fz o&&ahG (o+n) a&&Dq (kK c o ks)then
     match vh c o n m ks H ks c H with
     |some (b,H')=>some (kJ aa pM,((H'.set i (.cells b a e true [] fz)).set m (.dB (eE ks))).skip)
     |none=>none
    else none
   |_,_=>none
  |_=>none
 |_,_=>none
def T8:bp:=.region [bL 62 (.aW (tt 11)),bL 63 (.bg (tt 16)),bL 64 (.jM 1 (tt 7)),bL 65 (.aW (tt 64)),bL 66 (.jN (tt 65)),bL 67 (.call (tt 62) [tt 63,tt 66])]
def Ma:bp:=.region [bL 53 (.aW (tt 5)),bL 54 (.bg (tt 15)),bL 55 (.dk 1 (tt 53) (tt 54)),bL 56 (.aW (tt 55)),bL 57 (.oh (tt 56))]
def Mb:bp:=qZ 6 7 (sl 57) (sl 58) (sl 59) (sl 60) (sl 61) (sl 16) T8
def T9:bp:=.seq Ma Mb
def A9:List ac:=sl 16::(agV 15).map λi=>sl (53+i)
def T':bp:=.region [bL 85 (.aW (tt 11)),bL 86 (.bg (tt 19)),bL 87 (.call (tt 85) [tt 86,.c (.int 3 (.ofNat 0))])]
def Mc:bp:=.region [bL 76 (.aW (tt 5)),bL 77 (.bg (tt 17)),bL 78 (.dk 1 (tt 76) (tt 77)),bL 79 (.aW (tt 78)),bL 80 (.oh (tt 79))]
def Me:bp:=qZ 8 9 (sl 80) (sl 81) (sl 82) (sl 83) (sl 84) (sl 19) T'
def Ua:bp:=.seq Mc Me
def Ba:List ac:=sl 19::(agV 12).map λi=>sl (76+i)
def kX(H:af)(i:ac):Option (List (Int×Int)):=
 match eJ (H.get i)with
 |some es=>go es
 |none=>none
where go:List aR→Option (List (Int×Int))
 |[]=>some []
 |e::es=>match e.key,e.val,go es with
  |.int 3 k,.int 3 v,some l=>some ((k,v)::l)
  |_,_,_=>none
def fB(pl:List (Int×Int))(bC:Int):List Int→List Int
 |[]=>[]
 |v::l=>if rf pl bC v then v::fB pl bC l else fB pl bC l
where rf(pl:List (Int×Int))(bC v:Int):Bool:=
 match pl with
 |[]=>true
 |(k,g)::pl=>if iB v k then !ly g bC else rf pl bC v
def lZ(t0:List Int):List Int→Bool
 |[]=>false
 |v::l=>!ib v t0||lZ t0 l
def l6(H:af)(q:ac):AV→Option AV
 |.aw i o=>if ac.beq i q then none else bh H i o
 |_=>none
def uh(H:af)(q:ac)(s:AV)(x:Int):Option AV:=
 match s with
 |.slice i _ _ _ _=>if ac.beq i q then none else mR H s x
 |_=>none
def zk(ee:Nat)(bC:ac→Option Int)(to:Nat)(cH:List ac)(aa:am AV)(H:af):Option (am AV×af):=
 match pf H (aa.get .aiw (sl 11))with
 |some (.func f [] [c1,c2,c3,.aw a no])=>if agQ f ee then
  match l6 H a (aa.get .aiw (sl 5)),aa.get .aiw (sl to),l6 H a (aa.get .aiw (sl 11)),l6 H a c1,l6 H a c2,l6 H a c3,bC a with
  |some g,.int _ t,some _,some (.map d),some h,some (.int _ b),some bC=>
   match uh H a g t,uh H a h b,H.get a with
   |some (.map m),some (.map N),.cells c n e true [] fz=>
    if ac.beq d N||ac.beq m d||!(ahG fz no&&aha no n)then none else
    match jC H m,jC H d,kX H d,jB H N,c.bq .aiw no with
    |some ks,some _,some pl,some t0,.bool i=>
     some (kJ aa cH,((H.set N (.dB (eE (gU (fB pl bC ks) t0)))).set a (.cells (fD c no [.bool (i||lZ t0 (fB pl bC ks))]) n e true [] fz)).skip)
    |_,_,_,_,_=>none
   |_,_,_=>none
  |_,_,_,_,_,_,_=>none
  else none
 |_=>none
def Bb(ee:Nat)(aa:am AV)(H:af):Option (am AV×af):=
 zk ee (λa=>match aa.get .aiw (sl 7)with
 |.aw i o=>if ac.beq i a then none else match bh H i (o+1)with
  |some (.slice _ _ n _ _)=>some (.ofNat n)
  |some .aP=>some (.ofNat 0)
  |_=>none
 |_=>none) 15 A9 aa H
def Bc(ee:Nat)(aa:am AV)(H:af):Option (am AV×af):=zk ee (λ_=>some (.ofNat 0)) 17 Ba aa H
def mS(x:Int):List Int→List Int
 |[]=>[x]
 |y::l=>if ly y x then y::mS x l else x::y::l
def fN:List Int→List Int
 |[]=>[]
 |x::l=>mS x (fN l)
def wS(args:List AV)(H:af):Option (AV×af):=
 match args with
 |[.cL]=>some (.aP,H)
 |[.map m]=>match jC H m with
  |some []=>some (.aP,H)
  |some ks=>if ahG ks.length 1000 then some (.slice H.next 0 ks.length ks.length false,H.new (.cells (cM ((fN ks).map λn=>.int 3 n)) ks.length 3 true [] 0))else none
  |none=>none
 |_=>none
def wT(args:List AV)(H:af):Option (AV×af):=
 match args with
 |[.iface t (.map m)]=>match H.get m with
  |.map es c=>some (.iface t (.map H.next),H.new (.map es c))
  |_=>none
 |_=>none
def Ub:List (Nat×bp):=[(1001,T4),(1002,T7),(1003,T0),(1004,T9),(1005,Ua)]
instance agd:Ov:=TV Ub (by decide)
section
variable[Ov]
variable{P:Program}{d:cJ}{ρ:aL}{H:af}{w:World}{nt:Nat}
theorem Bd:∀(l:List ac)(aa:am AV)(t:ac),(kJ aa l).get .aiw t=if t∈l then .bX else aa.get .aiw t
 |[],aa,t=>by simp[kJ]
 |p::l,aa,t=>by
  rw[kJ,Bd l,am.aD];by_cases h:t∈l;·simp[h]
  by_cases e:t=p<;>simp[h,e]
theorem Mf:j9 P λ_=>.none:=by refine⟨?_,?_,?_⟩<;>(intros;rename_i h;cases h)
theorem Uc{ab:Nat→aE}(q:j9 P ab){c1 c2:Code}{x y:bp}(h1:eO P nt c1=some x)(h2:eO P nt c2=some y){n:Nat}{fr:Fr}{K:cG→Fr→af→Prop}{b:Frame}{a:Act}(he:Xc ab n (.seq x y) fr H K)(r:iv ρ nt fr b.roundOf a)(s:bt P d ρ H w)(k:List Item)(cs:List Frame):iV P d ρ nt w b k cs (lone (b.atR a (.code (.seq c1 c2)::k)) cs w) K:=by cases n with|zero=>trivial|succ n=>have c:yY P ab n:=(AT q n).2.1;obtain⟨j,e,H',f,p,w',t,g,h,i,l,m,o,u⟩:=c h1 he r s (.code c2::k) cs;refine .iJ (.one stepR_seq) (.iJ u ?_);cases j with|none=>rw[show t=.code c2::k from o];exact .uX h m (c h2 g i l k cs)|exit id=>exact⟨.exit id,e,H',f,p,w',t,g,h,i,l,m,o.sn (λ_ _=>rfl) trivial,Steps.refl _ _⟩|ret=>exact⟨.ret,e,H',f,p,w',t,g,h,i,l,m,o.sn (λ_ _=>rfl) trivial,Steps.refl _ _⟩
theorem Mg(h:bt P d ρ H w){m:ac}{es:List aR}{f:Nat}(j:H.get m=.map es f):(es.map (·.born)).Nodup∧∀e∈es,e.born<f:=by
 obtain⟨b,x,k,e,hl,hb,g⟩:=h.aF (i:=m) (by grind);rw[j]at g;cases k<;>simp only[OR]at g;obtain⟨_,rfl,gJ,i⟩:=g;have key:∀{es:List aR}{l:List MapEntry},ch ρ es l→es.map (·.born)=l.map (·.born):=by intro es;induction es with|nil=>intro l h;cases l<;>simp[ch]at h;rfl|cons a es n=>intro l h;cases l with|nil=>simp[ch]at h|cons c l=>simp only[ch]at h;simp[h.2.2.1,n h.2.2.2]
 refine⟨by rw[key i];exact gJ.1,λa o=>?_⟩;have:a.born∈es.map (·.born):=ag5 o;rw[key i,ag3]at this;obtain⟨c,p,e⟩:=this;rw[←e];exact gJ.2 c p
theorem Mh(l:bt P d ρ H w){m:ac}{es:List aR}(f:eJ (H.get m)=some es):∃(b:List aR)(a:Nat),bt P d ρ (H.set m (.map b a)) w∧(b.map aR.kv).Perm (es.map aR.kv)∧(b.map (·.born)).Nodup∧(∀e∈b,e.born<a)∧∀{g:cJ}{h:aL}{n:af}{w':World},bt P g h n w'→n.get m=.map b a→bt P g h (n.set m (H.get m)) w':=by cases k:H.get m with|map i c=>rw[k]at f;simp only[eJ,acm]at f;subst f;have hb:=Mg l k;refine⟨i,c,l.congr rfl λj=>?_,ais _,hb.1,hb.2,λh2 hg=>h2.congr rfl λj=>?_⟩;all_goals simp_all[af.aD]|dB i=>rw[k]at f;simp only[eJ,acm]at f;subst f;obtain⟨o,b,a,p1,p2,h1⟩:=KP l k;have hb:=Mg h1 (m:=m) (by rw[af.aD,aH rfl]);grind[F9]|_=>simp_all[eJ]
theorem zl:∀{es:List aR}{ks:List Int},jA es=some ks→(∀e∈es,∃k∈ks,e.key=.int 3 k)∧∀k∈ks,∃e∈es,e.key=.int 3 k
 |[],ks,h=>by simp_all[jA,acm]
 |a::es,ks,h=>by
  simp only[jA]at h;split at h;·rename_i k l b hl;injection h with h;subst h;obtain⟨c,f⟩:=zl hl;grind
  grind
theorem Ud{es a:List aR}{ks:List Int}(i:jA es=some ks)(h:(a.map aR.kv).Perm (es.map aR.kv)):(∀e∈a,∃k∈ks,e.key=.int 3 k)∧∀k∈ks,∃e∈a,e.key=.int 3 k:=by
 obtain⟨j,l⟩:=zl i;constructor;·intro e he;have:e.kv∈es.map aR.kv:=h.mem_iff.1 (ag5 he);rw[ag3]at this;obtain⟨f,b,c⟩:=this;obtain⟨k,h1,h2⟩:=j f b;have:e.key=f.key:=(congrArg Prod.fst c).symm;exact⟨k,h1,this.trans h2⟩
 intro k g;obtain⟨e,he,h2⟩:=l k g;have:e.kv∈a.map aR.kv:=h.mem_iff.2 (ag5 he);rw[ag3]at this;obtain⟨f,b,c⟩:=this;have:f.key=e.key:=congrArg Prod.fst c;exact⟨f,b,this.trans h2⟩
theorem wU{m:ac}{ks:List Int}(h:jC H m=some ks):∃es,eJ (H.get m)=some es∧jA es=some ks∧ks.Nodup:=by grind[jC,wQ]
def sk(k:Int):AV×AV:=(.int 3 k,.bool true)
def gK(o:b9)(ks:List Int):Prop:=ks.Nodup∧∃es,eJ o=some es∧es.map aR.kv=ks.map sk
theorem Mi:∀{es:List aR}{ks:List Int},ue es=some ks→es.map aR.kv=ks.map sk
 |[],ks,h=>by simp_all[ue,acm]
 |a::es,ks,h=>by
  simp only[ue]at h;split at h;·rename_i k l h1 h2 hl;injection h with h;subst h;simp only[agN,Mi hl,aR.kv,h1,h2,sk]
  grind
theorem pN{N:ac}{ks:List Int}(h:jB H N=some ks):gK (H.get N) ks:=by
 unfold jB at h;split at h
 ·rename_i es kI;split at h
  ·rename_i l hl;split at h;·rename_i a;injection h with h;subst h;exact⟨(wQ _).1 a,es,kI,Mi hl⟩
   grind
  grind
 grind
theorem GI(l:List Int):(eE l).map aR.kv=l.map sk:=by simp[eE,aR.kv,sk]
theorem wV{l:List Int}(h:l.Nodup):gK (.dB (eE l)) l:=⟨h,eE l,rfl,GI l⟩
theorem bt.wX(h:bt P d ρ H w){N:ac}{ks ks2:List Int}(hs:gK (H.get N) ks)(j:ks.Perm ks2):bt P d ρ (H.set N (.dB (eE ks2))) w:=by
 obtain⟨_,es,he,g⟩:=hs;have f:(eE ks).Perm (eE ks2):=j.map _;have b:es.map aR.kv=(eE ks).map aR.kv:=by rw[g,GI]
 cases a:H.get N with|map i c=>rw[a]at he;simp only[eJ,acm]at he;subst he;exact F9 h a f b|dB i=>rw[a]at he;simp only[eJ,acm]at he;subst he;refine h.KO (by rw[a];simp) (by rw[a];rfl) (by rw[a];rfl) rfl ?_;intro x k e;rw[a]at e;cases k<;>simp only[OR]at e⊢;obtain⟨h1,h2,l,h3,m⟩:=e;obtain⟨n,p1,p2⟩:=dG.C6 f (dG.kv b m);exact⟨⟨h1,h2,n,p1.trans h3,p2⟩,λq=>by simp[gB]⟩|_=>rw[a]at he;simp[eJ]at he
theorem GJ{k:Int}:∀{es:List aR}{ks:List Int},es.map aR.kv=ks.map sk→∀i0,(k∉ks→findKey .int (.int 3 k) es i0=some none)∧(k∈ks→∃i,findKey .int (.int 3 k) es i0=some (some (i0+i,.bool true))∧i<es.length∧kF (.bool true) (.int 3 k) es i=es)
 |[],[],_,i0=>by simp[findKey]
 |e::es,x::ks,h,i0=>by
  simp only[agN,ag4,aR.kv,sk,age]at h;obtain⟨⟨h1,h2⟩,h3⟩:=h;obtain⟨f,c⟩:=GJ (k:=k) h3 (i0+1);have b:dZ 64 .int (.int 3 k) (.int 3 x)=some (iB k x):=by simp[dZ]
  by_cases a:k=x
  ·subst a;refine⟨λh=>absurd (adc ..) h,λ_=>⟨0,?_,by simp,?_⟩⟩;·simp[h1,b,h2,findKey,fA,beq_self_eq_true,ail]
   simp only[kF,←h1,←h2]
  have g:iB k x=false:=by rw[fA];simpa using a
  refine⟨λh=>?_,λh=>?_⟩;·simp_all[findKey,adD]
  obtain⟨i,j,l,m⟩:=c ((adC.1 h).resolve_left a);refine⟨i+1,?_,by grind,?_⟩;all_goals grind[findKey,kF]
 |[],_::_,h,_=>by grind
 |_::_,[],h,_=>by grind
theorem GK{k:Int}:∀{es:List aR}{ks:List Int},ks.Nodup→es.map aR.kv=ks.map sk→(k∉ks→gf.go .int (.int 3 k) es=some none)∧(k∈ks→gf.go .int (.int 3 k) es=some (some (.bool true))∧(lz .int (.int 3 k) (.bool true) es).map aR.kv=ks.map sk)
 |[],[],_,_=>by simp[gf.go]
 |e::es,x::ks,c,h=>by
  rw[ahg]at c;simp only[agN,ag4,aR.kv,sk,age]at h;obtain⟨⟨h1,h2⟩,h3⟩:=h;obtain⟨f,g⟩:=GK (k:=k) c.2 h3;have b:dZ 64 .int (.int 3 k) (.int 3 x)=some (iB k x):=by simp[dZ]
  by_cases a:k=x
  ·subst a;have hg:=f c.1;refine⟨λh=>absurd (adc ..) h,λ_=>⟨?_,?_⟩⟩;·simp[h1,b,hg,h2,gf.go,fA,beq_self_eq_true]
   simp only[lz,mf,h1,b,fA,beq_self_eq_true,bm,(yU (v:=.bool true) hg).1,agN,aR.kv,sk];grind
  have i:iB k x=false:=by rw[fA];simpa using a
  refine⟨λh=>?_,λh=>?_⟩;·simp_all[gf.go,adD]
  obtain⟨j,l⟩:=g ((adC.1 h).resolve_left a);simp_all[gf.go,lz,mf,ac6,bK,agN,aR.kv,sk]
 |[],_::_,_,h=>by grind
 |_::_,[],_,h=>by grind
theorem zm(aa:am AV)(v:AV):gv aa (.c v)=v:=rfl
theorem GL{aa:am AV}{om ok_:aG}{N:ac}{x:Int}{ks:List Int}(q:gv aa om=.map N)(r:gv aa ok_=.int 3 x)(hs:gK (H.get N) ks):∃H',aB (.ju .int om ok_ (.c (.bool true))) aa H=some (.aiw,H')∧H'.next=H.next∧(∀j,j≠N→H'.get j=H.get j)∧gK (H'.get N) (pe x ks)∧∀es c,H.get N=.map es c→∃y A,H'.get N=.map y A∧(x∈ks→H'.get N=H.get N):=by
 obtain⟨p,es,he,l⟩:=hs;have f:ib x ks=true↔x∈ks:=su x ks;cases m:H.get N with
 |map g c=>
  rw[m]at he;simp only[eJ,acm]at he;subst he;obtain⟨t,u⟩:=GJ (k:=x) l 0;by_cases k:x∈ks
  ·obtain⟨i,s,v,z⟩:=u k;rw[agW]at s;refine⟨H.set N (.map (kF (.bool true) (.int 3 x) g i) c),?_,rfl,λj hj=>by rw[af.aD,an hj],?_,λn c2 e2=>⟨_,_,by rw[af.aD,aH rfl],λ_=>by rw[af.aD,aH rfl,z]⟩⟩;·have o:ww .int (.int 3 x) g i=true:=Ga rfl _ _ _ v;simp only[aB,jk,ag9,ac6,bK,q,r,m,s,o,bm,zm]
   rw[af.aD,aH rfl];unfold pe;rw[aH (f.2 k)];exact⟨p,_,rfl,by rw[z];exact l⟩
  refine⟨H.set N (.map (g++[⟨.int 3 x,.bool true,c⟩]) (c+1)),?_,rfl,λj hj=>by rw[af.aD,an hj],?_,λn c2 e2=>⟨_,_,by rw[af.aD,aH rfl],λh=>absurd h k⟩⟩;·simp only[aB,jk,ag9,ac6,bK,q,r,m,t k,zm]
  rw[af.aD,aH rfl];unfold pe;rw[an (λh=>k (f.1 h))];refine⟨?_,_,rfl,by simp[l,aR.kv,sk]⟩;rw[ahy];exact⟨p,by simp,λa w b hb=>by simp only[ac3]at hb;subst hb;exact λe=>k (e▸w)⟩
 |dB g=>
  rw[m]at he;simp only[eJ,acm]at he;subst he;obtain⟨t,u⟩:=GK (k:=x) p l;by_cases k:x∈ks
  ·obtain⟨s,v⟩:=u k;refine⟨H.set N (.dB (lz .int (.int 3 x) (.bool true) g)),?_,rfl,λj hj=>by rw[af.aD,an hj],?_,λn c2 e2=>by cases e2⟩;·simp only[aB,jk,ag9,ac6,bK,q,r,m,gf,tx,bm,s,zm]
   rw[af.aD,aH rfl];unfold pe;rw[aH (f.2 k)];exact⟨p,_,rfl,v⟩
  refine⟨H.set N (.dB (g++[⟨.int 3 x,.bool true,0⟩])),?_,rfl,λj hj=>by rw[af.aD,an hj],?_,λn c2 e2=>by cases e2⟩;·simp only[aB,jk,ag9,ac6,bK,q,r,m,gf,tx,bm,t k,zm]
  rw[af.aD,aH rfl];unfold pe;rw[an (λh=>k (f.1 h))];refine⟨?_,_,rfl,by simp[l,aR.kv,sk]⟩;rw[ahy];exact⟨p,by simp,λa w b hb=>by simp only[ac3]at hb;subst hb;exact λe=>k (e▸w)⟩
 |_=>rw[m]at he;simp[eJ]at he
theorem Mj{aa:am AV}{om ok_:aG}{N:ac}{x:Int}{ks:List Int}(a:gv aa om=.map N)(b:gv aa ok_=.int 3 x)(hs:gK (H.get N) ks):∃H',aB (.ju .int om ok_ (.c (.bool true))) aa H=some (.aiw,H')∧H'.next=H.next∧(∀j,j≠N→H'.get j=H.get j)∧gK (H'.get N) (pe x ks):=by grind[GL]
theorem Ml{aa:am AV}{k a:aG}{N:ac}{x:Int}{ks:List Int}(l:gv aa k=.map N)(m:gv aa a=.int 3 x)(hs:gK (H.get N) ks):aB (.lookup .int (.bool false) false k a) aa H=some (.bool (ib x ks),H):=by
 obtain⟨p,es,he,b⟩:=hs;have e:ib x ks=true↔x∈ks:=su x ks;have hb:∀q:Bool,(x∈ks↔q=true)→ib x ks=q:=λq s=>by cases q<;>cases h:ib x ks<;>simp_all
 cases f:H.get N with
 |map j c=>
  rw[f]at he;simp only[eJ,acm]at he;subst he;obtain⟨n,o⟩:=GJ (k:=x) b 0;by_cases g:x∈ks;·obtain⟨i,r,_⟩:=o g;simp[l,m,f,r,e,g,aB,jk,ag9,ac6,bK]
  simp[l,m,f,n,g,hb,aB,jk,ag9,ac6,bK]
 |dB j=>rw[f]at he;simp only[eJ,acm]at he;subst he;obtain⟨n,o⟩:=GK (k:=x) p b;by_cases g:x∈ks;all_goals simp_all[aB,jk,ag9,ac6,bK,gf,tx,bm]
 |_=>simp_all[eJ]
theorem wY{i:ac}{o:Nat}{v:AV}(h:bh H i o=some v):∃c n e a aK fz,H.get i=.cells c n e a aK fz∧o<n∧c.bq .aiw o=v:=by grind[bh,Eq.mp,ahF]
theorem pg{H':af}{i:ac}(h:H'.get i=H.get i)(o:Nat):bh H' i o=bh H i o:=by simp[h,bh]
theorem jm{aa:am AV}{x:aG}{i:ac}{o:Nat}{v:AV}(a:gv aa x=.aw i o)(h:bh H i o=some v):aB (.aW x) aa H=some (v,H):=by obtain⟨c,n,e,b,aK,fz,h1,h2,h3⟩:=wY h;simp[a,h1,h2,h3,aB,ja,fj,ip]
theorem vi{a v:AV}(h:pf H a=some v):∃i o,a=.aw i o∧bh H i o=some v:=by unfold pf at h;grind
theorem Be{s v:AV}{x:Int}(h:mR H s x=some v):∃i o n c e j,s=.slice i o n c e∧x=.ofNat j∧j<n∧bh H i (o+j)=some v:=by
 unfold mR at h;split at h
 ·split at h;·rename_i a;exact⟨_,_,_,_,_,_,rfl,rfl,Eq.mp ahF a,h⟩
  grind
 grind
theorem vj{aa:am AV}{x y:aG}{i:ac}{o n c:Nat}{e:Bool}{j k:Nat}(a:gv aa x=.slice i o n c e)(b:gv aa y=.int k (.ofNat j))(hj:j<n):aB (.dk 1 x y) aa H=some (.aw i (o+j),H):=by have:aha j n=true:=aiu ahF hj;simp[a,b,this,aB]
end
section
mutual
theorem VR.gj{r p:aL}(h:cz r p):∀(v:AV)(c0 c:Value),VR r v c0→VR p v c→VR r v c
 |.tuple l,c0,c,d,k=>by
  cases c0<;>simp only[VR]at d
  cases c<;>simp only[VR]at k⊢
  exact be.gj h l _ _ d k
 |.agg l,c0,c,d,k=>by
  cases c0<;>simp only[VR]at d
  cases c<;>simp only[VR]at k⊢
  exact be.gj h l _ _ d k
 |.bool _,c0,c,_,k=>by cases c<;>simp only[VR]at k⊢;exact k
 |.int _ _,c0,c,_,k=>by cases c<;>simp only[VR]at k⊢;exact k
 |.aC _,c0,c,_,k=>by cases c<;>simp only[VR]at k⊢;exact k
 |.aw i o,c0,c,d,k=>by
  cases c0 with
  |pointer a0=>
   cases a0 with
   |none=>simp[VR]at d
   |some a0=>
    obtain⟨q,s,j,_⟩:=d
    cases c with
    |pointer a=>
     cases a with
     |none=>simp[VR]at k
     |some a=>
      obtain⟨b,x,e,A⟩:=k
      have:=(h _ _ j).1.symm.trans e
      injection this with this;injection this with u w
      subst u;subst w
      exact⟨_,_,j,A⟩
    |_=>simp[VR]at k
  |_=>simp[VR]at d
 |.ls,c0,c,_,k=>by
  cases c with
  |pointer a=>cases a<;>simp[VR]at k⊢
  |_=>simp[VR]at k
 |.slice i o len cap ex,c0,c,d,k=>by
  cases c0 with
  |slice a0 G H=>
   cases a0 with
   |none=>simp[VR]at d
   |some a0=>
    obtain⟨_,_,_,_,q,s,j,_⟩:=d
    cases c with
    |slice a n m=>
     cases a with
     |none=>simp[VR]at k
     |some a=>
      obtain⟨h1,h2,h3,B,b,x,e,C,z⟩:=k
      have:=(h _ _ j).1.symm.trans e
      injection this with this;injection this with u w
      subst u;subst w
      have D:=(h _ _ j).2
      rw[D]at z
      exact⟨h1,h2,h3,B,_,_,j,C,z⟩
    |_=>simp[VR]at k
  |_=>simp[VR]at d
 |.aP,c0,c,_,k=>by
  cases c with
  |slice a n m=>
   unfold VR at k⊢
   split at k<;>first|trivial|(exact absurd k (by simp))|exact k
  |_=>simp[VR]at k
 |.map i,c0,c,d,k=>by
  cases c0 with
  |map q=>
   cases q with
   |none=>simp[VR]at d
   |some q=>
    cases c with
    |map b=>
     cases b with
     |none=>simp[VR]at k
     |some b=>
      simp only[VR]at k⊢
      have:=(h _ _ d).1.symm.trans k
      rw[d];exact this
    |_=>simp[VR]at k
  |_=>simp[VR]at d
 |.cL,c0,c,_,k=>by
  cases c with
  |map b=>cases b<;>simp[VR]at k⊢
  |_=>simp[VR]at k
 |.func f a b,c0,c,d,k=>by
  cases c0 with
  |func t0 s E=>
   cases t0 with
   |func F=>
    simp only[VR]at d
    cases c with
    |func t x y=>
     cases t with
     |func g=>
      simp only[VR]at k⊢
      exact⟨k.1,be.gj h a _ _ d.2.1 k.2.1,be.gj h b _ _ d.2.2 k.2.2⟩
     |_=>simp[VR]at k
    |_=>simp[VR]at k
   |_=>simp[VR]at d
  |_=>simp[VR]at d
 |.yield i,c0,c,d,k=>by
  cases c0 with
  |func t0 s E=>
   cases t0 with
   |yield F=>
    simp only[VR]at d
    cases c with
    |func t x y=>
     cases t with
     |yield g=>
      simp only[VR]at k⊢
      have:=(h _ _ d.1).1.symm.trans k.1
      exact⟨by rw[d.1];exact this,k.2⟩
     |_=>simp[VR]at k
    |_=>simp[VR]at k
   |_=>simp[VR]at d
  |_=>simp[VR]at d
 |.nilFunc,c0,c,_,k=>by cases c<;>simp only[VR]at k⊢
 |.iface t v,c0,c,d,k=>by
  cases c0<;>simp only[VR]at d
  cases c<;>simp only[VR]at k⊢
  exact⟨k.1,VR.gj h v _ _ d.2 k.2⟩
 |.nilIface,c0,c,_,k=>by cases c<;>simp only[VR]at k⊢
 |.bX,c0,c,_,_=>by simp only[VR]
theorem be.gj{e b:aL}(h:cz e b):∀(l:List AV)(a m:List Value),be e l a→be b l m→be e l m
 |[],a,m,_,k=>by cases m<;>simp only[be]at k⊢
 |v::l,a,m,d,k=>by
  cases a with
  |nil=>simp[be]at d
  |cons c0 a=>
   cases m with
   |nil=>simp[be]at k
   |cons c m=>
    simp only[be]at d k⊢
    exact⟨VR.gj h v _ _ d.1 k.1,be.gj h l _ _ d.2 k.2⟩
end
theorem mi.gj{c b:aL}(h:cz c b):∀{l:List ac}{a m:List Deferred},mi c l a→mi b l m→mi c l m|[],a,m,_,k=>by grind[mi]|i::l,a,m,e,k=>by cases a with|nil=>trivial|cons n a=>cases m with|nil=>trivial|cons d m=>obtain⟨⟨o,f,_⟩,e⟩:=e;obtain⟨⟨r,g,j⟩,k⟩:=k;have:=(h _ _ f).1.symm.trans g;exact⟨⟨r,by grind,j⟩,mi.gj h e k⟩
end
section
variable[Ov]
variable{P:Program}
theorem iv.off{d c:aL}{e:Nat}{fr b:Fr}{ro:Option Nat}{a f:Act}{cH:List ac}(h0:iv d e fr ro a)(g:cz d c)(h:iv c e b ro f)(hs:∀t,t∉cH→b.aa.get .aiw t=fr.aa.get .aiw t)(j:b.bF=fr.bF):iv d e {fr with aa:=Go.ak.kJ fr.aa cH} ro f:=by
 refine⟨⟨h.E.1,λt i=>?_⟩,?_,h0.R⟩
 ·rw[Bd];split;·trivial
  rename_i k;have:=h.E.2 t i;rw[hs _ k]at this;exact VR.gj g _ _ _ (h0.E.2 t i) this
 have:=h.D;rw[j]at this;exact mi.gj g h0.D this
theorem GM:∀{l:List aR},(l.map (·.born)).Nodup→∀{x y:aR},x∈l→y∈l→x.born=y.born→x=y
 |[],_,_,_,a,_,_=>by grind
 |c::l,b,x,y,a,d,h=>by
  rw[agN,ahg]at b;rcases adC.1 a with e1|e1<;>rcases adC.1 d with e2|e2;·grind
  ·grind
  ·grind
  exact GM b.2 e1 e2 h
theorem GN{ab:Nat→aE}(ht:j9 P ab){Q:cJ}{F:aL}{H I:af}{w:World}{R:Nat}{fr:Fr}{b:Frame}{a:Act}{c1 c2:Code}{V body:bp}{v x:Nat}{i g ok A ex kv:ac}(h1:eO P R c1=some V)(h2:eO P R c2=some (qZ v x i g ok A ex kv body))(ag:v≠x)(d1:i≠g)(d2:i≠ok)(d3:g≠ok)(d4:i≠A)(d5:A≠ex)(d6:i≠ex)(d7:i≠kv){cH:List ac}(s1:g∈cH)(s2:ok∈cH)(s3:A∈cH)(s4:ex∈cH)(s5:kv∈cH)(hF:iv F R fr b.roundOf a)(hI:bt P Q F H w){m:ac}{es:List aR}{ks:List Int}(hm:eJ (H.get m)=some es)(hk:jA es=some ks)(W S:Nat)(N:∀d c,Xc ab W V fr (H.set m (.map d c)) λj fr1 H1=>j=.none∧fr1.bF=fr.bF∧fr1.bD=fr.bD∧(∀t,t∉cH→fr1.aa.get .aiw t=fr.aa.get .aiw t)∧fr1.aa.get .aiw i=.aw H.next 0∧H1=(H.set m (.map d c)).new (.mapIter (some m) c [] c))(J:List aR→Nat→List Int→af→Prop)(J0:∀d c,(d.map aR.kv).Perm (es.map aR.kv)→J d c [] ((H.set m (.map d c)).new (.mapIter (some m) c [] c)))(ar:∀d c l H1 o,J d c l H1→J d c l (H1.set H.next o))(Jm:∀d c l H1,J d c l H1→H1.get m=.map d c)(z:∀d c l aa H1 k,k∈ks→J d c l H1→(∀t,t∉cH→aa.get .aiw t=fr.aa.get .aiw t)→aa.get .aiw kv=.int 3 k→Xc ab S body ⟨aa,fr.bF,fr.bD⟩ H1 λj fr1 r=>j=.none∧fr1.bF=fr.bF∧fr1.bD=fr.bD∧(∀t,t∉cH→fr1.aa.get .aiw t=fr.aa.get .aiw t)∧fr1.aa.get .aiw i=aa.get .aiw i∧r.get H.next=H1.get H.next∧J d c (l++[k]) r)(aq:∀d c l H1 h w',(∀k,k∈l↔k∈ks)→J d c l H1→cz F h→bt P Q h H1 w'→(∀{K:cJ}{h:aL}{r:af}{w':World},bt P K h r w'→r.get m=.map d c→bt P K h (r.set m (H.get m)) w')→∃p,cz F p∧bt P Q p I w')(k:List Item)(cs:List Frame):iV P Q F R w b k cs (lone (b.atR a (.code (.seq c1 c2)::k)) cs w) λj fr1 H1=>j=.none∧fr1={fr with aa:=kJ fr.aa cH}∧H1=I:=by
 obtain⟨d,c,av,hp,hb,ax,gj⟩:=Mh hI hm;obtain⟨ay,a2⟩:=Ud hk hp;have run:Xc ab (W+(S+15+d.length)+1) (.seq V (qZ v x i g ok A ex kv body)) fr (H.set m (.map d c)) λj fr1 H1=>j=.none∧fr1.bF=fr.bF∧(∀t,t∉cH→fr1.aa.get .aiw t=fr.aa.get .aiw t)∧∃l,(∀k,k∈l↔k∈ks)∧J d c l H1:=by
  refine Xc.jf (n:=W) (m:=S+15+d.length) (by omega) (by omega) ((N d c).mono (adW _) ?_);rintro j fr1 H1⟨rfl,g1,g2,g3,g4,rfl⟩;have O:fr1=⟨fr1.aa,fr.bF,fr.bD⟩:=by cases fr1;simp only at g1 g2;subst g1;subst g2;rfl
  rw[O];refine LY ag d1 d2 d3 d5 hb ax (id:=H.next) (m:=m) (I:=λseen aa H1=>(∀t,t∉cH→aa.get .aiw t=fr.aa.get .aiw t)∧aa.get .aiw i=.aw H.next 0∧H1.get H.next=.mapIter (some m) c seen c∧∃l,(∀k,k∈l→k∈ks)∧(∀e∈d,e.born∈seen→∃k∈l,e.key=.int 3 k)∧J d c l H1) ?_ S ?_ ?_ d.length [] fr1.aa _ ?_ ?_;·rintro seen aa H1⟨T,s,G,l,B,C,u⟩;exact⟨s,G,Jm _ _ _ _ u⟩
  ·rintro seen aa H1 e⟨T,s,G,l,B,C,u⟩he a8;obtain⟨X,L,q⟩:=ay e he;refine(z d c l _ _ X L (ar _ _ _ _ _ u) ?_ ?_).mono (adW _) ?_;·intro t f;have Y:t≠g:=λe=>f (e▸s1);have Z:t≠ok:=λe=>f (e▸s2);have n3:t≠A:=λe=>f (e▸s3);have n4:t≠ex:=λe=>f (e▸s4);have n5:t≠kv:=λe=>f (e▸s5);simp only[am.aD,an Y,an Z,an n3,an n4,an n5];exact T t f
   ·rw[am.aD,aH rfl];exact q
   rintro j ba r⟨r1,r2,r3,r4,r5,r6,r7⟩;refine⟨r1,r2,r3,r4,?_,?_,l++[X],?_,?_,r7⟩;·rw[r5];simp only[am.aD,an d1,an d2,an d4,an d6,an d7];exact s
   ·rw[r6,af.aD,aH rfl]
   ·intro D y;rcases agI.1 y with n|n;·exact B D n
    rw[ac3]at n;rw[n];exact L
   intro e' M a6;rcases agI.1 a6 with n|n;·obtain⟨D,a1,E⟩:=C e' M n;exact⟨D,agU _ a1,E⟩
   rw[ac3]at n;have:e'=e:=by exact GM hb M he n
   subst this;exact⟨X,ag7 _ (ac3.2 rfl),q⟩
  ·rintro seen aa H1⟨T,s,G,l,B,C,u⟩eS;refine⟨rfl,rfl,?_,l,λD=>⟨B D,λy=>?_⟩,u⟩;·intro t f;have Y:t≠g:=λe=>f (e▸s1);have Z:t≠ok:=λe=>f (e▸s2);simp only[am.aD,an Y,an Z];exact T t f
   obtain⟨e,he,q⟩:=a2 D y;obtain⟨k2,a1,E⟩:=C e he (eS e he);rw[q]at E;injection E with _ E;rw[E];exact a1
  ·exact⟨g3,g4,by rw[af.dt,af.fR,aH rfl],[],by simp,by simp,J0 d c hp⟩
  exact List.length_filter_le ..
 obtain⟨j,fr1,H1,h,a',w',t,⟨rfl,e1,e2,l,e3,e4⟩,s,G,B,C,u,q7⟩:=Uc ht h1 h2 run hF av k cs;obtain⟨p,x2,I2⟩:=aq d c l H1 h w' e3 e4 s B gj;exact⟨.none,_,_,p,a',w',t,⟨rfl,rfl,rfl⟩,x2,(iv.off hF s G e2 e1).mono x2,I2,C,u,q7⟩
end
section
section
variable[Ov]
variable{P:Program}
theorem Mm{ab:Nat→aE}(ht:j9 P ab){Wr:cJ}{R:aL}{H:af}{w:World}{M:Nat}{fr:Fr}{b:Frame}{a:Act}{c1 c2:Code}{xh body:bp}{G I:Nat}{i r ok O ex kv:ac}(h1:eO P M c1=some xh)(h2:eO P M c2=some (qZ G I i r ok O ex kv body))(V:G≠I)(d1:i≠r)(d2:i≠ok)(d3:r≠ok)(d4:i≠O)(d5:O≠ex)(d6:i≠ex)(d7:i≠kv){cH:List ac}(s1:r∈cH)(s2:ok∈cH)(s3:O∈cH)(s4:ex∈cH)(s5:kv∈cH)(hF:iv R M fr b.roundOf a)(Q:bt P Wr R H w){m N:ac}{ks t0 s:List Int}(hk:jC H m=some ks)(hN:jB H N=some t0)(y:m≠N)(nh fb:Nat)(L:∀f c,Xc ab nh xh fr (H.set m (.map f c)) λj fr1 H1=>j=.none∧fr1.bF=fr.bF∧fr1.bD=fr.bD∧(∀t,t∉cH→fr1.aa.get .aiw t=fr.aa.get .aiw t)∧fr1.aa.get .aiw i=.aw H.next 0∧H1=(H.set m (.map f c)).new (.mapIter (some m) c [] c))(one:Int→Int→Prop)(A:∀aa H1 k d,k∈ks→(∀j,j≠N→j≠m→j≠H.next→H1.get j=H.get j)→gK (H1.get N) d→(∀t,t∉cH→aa.get .aiw t=fr.aa.get .aiw t)→aa.get .aiw kv=.int 3 k→Xc ab fb body ⟨aa,fr.bF,fr.bD⟩ H1 λj fr1 H2=>j=.none∧fr1.bF=fr.bF∧fr1.bD=fr.bD∧(∀t,t∉cH→fr1.aa.get .aiw t=fr.aa.get .aiw t)∧fr1.aa.get .aiw i=aa.get .aiw i∧H2.next=H1.next∧(∀j,j≠N→H2.get j=H1.get j)∧∃g,gK (H2.get N) g∧∀x,x∈g↔x∈d∨one k x)(hx:s.Nodup)(W:∀x,x∈s↔x∈t0∨∃k∈ks,one k x)(k:List Item)(cs:List Frame):iV P Wr R M w b k cs (lone (b.atR a (.code (.seq c1 c2)::k)) cs w) λj fr1 H1=>j=.none∧fr1={fr with aa:=kJ fr.aa cH}∧H1=(H.set N (.dB (eE s))).skip:=by
 obtain⟨es,S,X,ax⟩:=wU hk;have J:=pN hN;have z:N≠H.next:=λe=>by have:=(Q.dV H.next (adW _)).1;obtain⟨_,q,n,_⟩:=J;rw[e,this]at n;simp[eJ]at n
 have K:m≠H.next:=λe=>by have:=(Q.dV H.next (adW _)).1;rw[←e]at this;rw[this]at S;simp[eJ]at S
 refine GN ht h1 h2 V d1 d2 d3 d4 d5 d6 d7 s1 s2 s3 s4 s5 hF Q S X nh fb L (J:=λf c l H1=>H1.next=H.next.succ∧(∀j,j≠N→j≠m→j≠H.next→H1.get j=H.get j)∧H1.get m=.map f c∧∃d,gK (H1.get N) d∧∀x,x∈d↔x∈t0∨∃k∈l,one k x) ?_ ?_ ?_ ?_ ?_ k cs
 ·intro f c _;refine⟨rfl,λj D E B=>?_,?_,t0,?_,by simp⟩;·rw[af.dt,af.fR,an B,af.aD,an E]
  ·rw[af.dt,af.fR,an K,af.aD,aH rfl]
  rw[af.dt,af.fR,an z,af.aD,an (aio y)];exact J
 ·rintro f c l H1 o⟨n,u,v,d,C,F⟩;refine⟨n,λj D E B=>?_,?_,d,?_,F⟩;·rw[af.aD,an B];exact u j D E B
  ·rw[af.aD,an K];exact v
  rw[af.aD,an z];exact C
 ·rintro f c l H1⟨n,u,v,_⟩;exact v
 ·rintro f c l aa H1 kk Y⟨n,u,v,d,C,F⟩he Z;refine(A aa H1 kk d Y u C he Z).mono (adW _) ?_;rintro j fr1 H2⟨r1,r2,r3,r4,r5,r6,T,g,r8,r9⟩;refine⟨r1,r2,r3,r4,r5,T _ (aio z),r6.trans n,λj D E B=>(T j D).trans (u j D E B),(T m y).trans v,g,r8,λx=>?_⟩;rw[r9,F];simp only[agI,ac3];constructor
  ·rintro((h|⟨p,h1,h2⟩)|h);·exact .inl h
   ·exact .inr ⟨p,.inl h1,h2⟩
   exact .inr ⟨kk,.inr rfl,h⟩
  rintro(h|⟨p,h1|h1,h2⟩);·exact .inl (.inl h)
  ·exact .inl (.inr ⟨p,h1,h2⟩)
  exact .inr (h1▸h2)
 rintro f c l H1 ag w' hl⟨n,u,v,d,C,F⟩ar av gj;refine⟨ag,ar,?_⟩;have i1:=gj av v;have hp:d.Perm s:=(List.perm_ext_iff_of_nodup C.1 hx).2 λx=>by
  rw[F,W];constructor
  ·rintro(h|⟨p,h1,h2⟩);·exact .inl h
   exact .inr ⟨p,(hl p).1 h1,h2⟩
  rintro(h|⟨p,h1,h2⟩);·exact .inl h
  exact .inr ⟨p,(hl p).2 h1,h2⟩
 have i2:=i1.wX (N:=N) (ks:=d) (ks2:=s) (by rw[af.aD,an (aio y)];exact C) hp;refine i2.sub (H2:=(H.set N (.dB (eE s))).skip) (by exact n.symm) λj=>?_;show(H.set N (.dB (eE s))).get j=_∨(H.set N (.dB (eE s))).get j=_;simp only[af.aD];by_cases e1:j=N;·left;simp[e1]
 by_cases e2:j=m;·left;simp[e1,e2]
 by_cases e3:j=H.next;·right;simp only[an e1];rw[e3];exact(Q.dV _ (adW _)).1
 left;simp only[an e1,an e2];exact(u j e1 e2 e3).symm
theorem kY{H:af}{i m:ac}{o:Nat}{v:AV}(h:bh H i o=some v){es:List aR}(b:eJ (H.get m)=some es):i≠m:=by obtain⟨c,n,e,a,aK,fz,h1,_⟩:=wY h;rintro rfl;simp_all[eJ]
theorem wZ{P:Program}{a:cJ}{b:aL}{H:af}{w:World}(d:bt P a b H w){i:ac}{o:Nat}{v:AV}(h:bh H i o=some v):i≠H.next:=by obtain⟨c,n,e,f,aK,fz,h1,_⟩:=wY h;rintro rfl;rw[(d.dV _ (adW _)).1]at h1;cases h1
theorem Bf{H:af}{N:ac}{t:List Int}(h:jB H N=some t):∃es,eJ (H.get N)=some es:=by obtain⟨_,es,h,_⟩:=pN h;grind
theorem Ds{H:af}{N:ac}{t:List Int}(h:jC H N=some t):∃es,eJ (H.get N)=some es:=by grind[wU]
theorem zn{H:af}{i m:ac}{o:Nat}{x:b9}(h:i≠m):bh (H.set m x) i o=bh H i o:=pg (by rw[af.aD,an h]) o
theorem Mn{H:af}{s:AV}:∀{ks b:List Int},wP H s ks=some b→∀x,x∈b↔∃k∈ks,mR H s k=some (.int 3 x)
 |[],b,h,x=>by simp only[wP,acm]at h;subst h;simp
 |y::l,b,h,x=>by
  simp only[wP]at h;split at h
  ·rename_i r d h1 h2;injection h with h;subst h;rw[adC,Mn h2 x];constructor
   ·rintro(rfl|⟨k,c,a⟩);·exact⟨y,adc ..,h1⟩
    exact⟨k,adD _ c,a⟩
   rintro⟨k,c,a⟩;rcases adC.1 c with e|e;·subst e;rw[h1]at a;injection a with a;injection a with _ a;exact .inl a.symm
   exact .inr ⟨k,e,a⟩
  cases h
theorem Mo{H:af}{s:AV}:∀{ks a:List Int},wP H s ks=some a→∀k∈ks,∃x,mR H s k=some (.int 3 x)
 |[],_,_,k,b=>by grind
 |y::l,a,h,k,b=>by
  simp only[wP]at h;split at h
  ·rename_i r c h1 h2;rcases adC.1 b with e|e;·grind
   exact Mo h2 k e
  grind
end
theorem bH{a b:Nat}:ac.dj a=ac.dj b↔a=b:=⟨ac.bH,λh=>h▸rfl⟩
theorem Ue{P:Program}:wK P 1003 A8:=by
 intro Wr ρ H H' w nt fr c1 c2 x y Q b a C i D hg R u k cs;injection D with S T;subst S;subst T;unfold A8 at hg;split at hg;case h_2=>cases hg
 rename_i V W v q N X Y Z g4;split at hg;case h_2=>cases hg
 rename_i m g5;split at hg;·cases hg
 rename_i l;have l:m≠N:=λe=>l (by rw[e];exact ac.gT.2 rfl);split at hg;case h_2=>cases hg
 rename_i ks t0 L z;split at hg;case h_2=>cases hg
 rename_i rs M;injection hg with hg;injection hg with E F;subst E;subst F;obtain⟨i3,o3,e3,c3⟩:=vi X;obtain⟨i4,o4,e4,c4⟩:=vi Z;obtain⟨is,os,ns,ag,ar,js,e5,e6,e7,c5⟩:=Be g5;obtain⟨ms,f⟩:=Ds L;obtain⟨Ns,o⟩:=Bf z;have av:fr=⟨fr.aa,fr.bF,fr.bD⟩:=rfl;refine(Mm Mf C i (cH:=Dp) (by decide) (by decide) (by decide) (by decide) (by decide) (by decide) (by decide) (by decide) (by decide) (by decide) (by decide) (by decide) (by decide) R u L z l 20 20 ?_ (λk x=>mR H q k=some (.int 3 x)) ?_ (rc rs (pN z).1) ?_ k cs).mono ?_
 ·intro d c;refine Xo.op (n:=18) (v:=V) (H':=H.set m (.map d c)) (jm e3 (by rw[zn (kY c3 f)];exact c3)) ?_;refine Xo.op (n:=17) (v:=.int W v) (H':=H.set m (.map d c)) (by simp[aB,gv,aM,am.aD,bH,Y]) ?_;refine Xo.op (n:=16) (v:=.aw is (os+js)) (H':=H.set m (.map d c)) (vj (by simp[gv,aM,am.aD,bH];exact e5) (by simp[gv,aM,am.aD,bH];exact⟨rfl,e6⟩) e7) ?_;refine Xo.op (n:=15) (v:=.map m) (H':=H.set m (.map d c)) (jm (by simp[gv,aM,am.aD,bH];exact⟨rfl,rfl⟩) (by rw[zn (kY c5 f)];exact c5)) ?_;refine Xo.op (n:=14) (v:=.aw H.next 0) (H':=(H.set m (.map d c)).new (.mapIter (some m) c [] c)) (by simp[aB,gv,aM,am.aD,bH,af.aD];rfl) (Xo.nil (n:=13) ?_);refine⟨rfl,rfl,rfl,?_,?_,rfl⟩;·intro t n;simp only[Dp,adC,ag0,or_false,not_or]at n;simp[aM,am.aD,n]
  simp[aM,am.aD,bH]
 ·intro aa H1 A G I g p he J;obtain⟨r,O⟩:=Mo M A I;obtain⟨i2,o2,n2,ax,ay,B,b1,b2,b3,s⟩:=Be O;have K:bh H1 i4 o4=some q:=by rw[pg (g i4 (kY c4 o) (kY c4 f) (wZ u c4))];exact c4
  have i:bh H1 i2 (o2+B)=some (.int 3 r):=by rw[pg (g i2 (kY s o) (kY s f) (wZ u s))];exact s
  have h6:aa.get .aiw (sl 6)=.map N:=by rw[he _ (by decide)];exact g4
  have h4:aa.get .aiw (sl 4)=.aw i4 o4:=by rw[he _ (by decide)];exact e4
  obtain⟨H2,u1,u2,u3,u4⟩:=Mj (H:=H1) (N:=N) (x:=r) (ks:=G) (aa:=((((aa.set .aiw (sl 42) (.map N)).set .aiw (sl 43) q).set .aiw (sl 44) (.int 3 A)).set .aiw (sl 45) (.aw i2 (o2+B))).set .aiw (sl 46) (.int 3 r)) (om:=tt 42) (ok_:=tt 46) (by simp[gv,am.aD,bH]) (by simp[gv,am.aD,bH]) p;refine Xo.op (n:=18) (v:=.map N) (H':=H1) (by simp[aB,gv,h6]) ?_;refine Xo.op (n:=17) (v:=q) (H':=H1) (jm (by simp[gv,aM,am.aD,bH];exact h4) K) ?_;refine Xo.op (n:=16) (v:=.int 3 A) (H':=H1) (by simp[aB,gv,aM,am.aD,bH];exact J) ?_;refine Xo.op (n:=15) (v:=.aw i2 (o2+B)) (H':=H1) (vj (by simp[gv,aM,am.aD,bH];exact b1) (by simp[gv,aM,am.aD,bH];exact⟨rfl,b2⟩) b3) ?_;refine Xo.op (n:=14) (v:=.int 3 r) (H':=H1) (jm (by simp[gv,aM,am.aD,bH]) i) ?_;refine Xo.op (n:=13) (v:=.aiw) (H':=H2) u1 (Xo.nil (n:=12) ?_);refine⟨rfl,rfl,rfl,?_,?_,u2,u3,_,u4,?_⟩;·intro t n;rw[←he t n];simp only[Dp,adC,ag0,or_false,not_or]at n;simp[aM,am.aD,n]
  ·simp[aM,am.aD,bH]
  intro x;rw[A7,O];constructor
  ·rintro(h|h);·exact .inr (h▸rfl)
   exact .inl h
  rintro(h|h);·exact .inr h
  injection h with h;injection h with _ h;exact .inl h.symm
 ·intro x;rw[oE,Mn M,or_comm]
 rintro j fr1 H1⟨rfl,rfl,rfl⟩;exact⟨rfl,rfl,rfl⟩
end
theorem ui(v y:Int):∀l:List Int,y∈im v l↔y∈l∧y≠v
 |[]=>by simp[im]
 |x::l=>by
  simp only[im];split
  ·rename_i h;rw[fA]at h;have h:x=v:=by simpa using h
   rw[ui v y l,adC];constructor;·rintro⟨h1,h2⟩;exact⟨.inr h1,h2⟩
   rintro⟨h1|h1,h2⟩;·exact absurd (h1.trans h) h2
   exact⟨h1,h2⟩
  rename_i h;rw[fA]at h;have h:x≠v:=by simpa using h
  rw[adC,ui v y l,adC];constructor
  ·rintro(h1|⟨h1,h2⟩);·exact⟨.inl h1,h1▸h⟩
   exact⟨.inr h1,h2⟩
  rintro⟨h1|h1,h2⟩;·exact .inl h1
  exact .inr ⟨h1,h2⟩
theorem Dt{v:Int}:∀{l:List Int},l.Nodup→(im v l).Nodup
 |[],_=>by trivial
 |x::l,h=>by
  rw[ahg]at h;simp only[im];split;·exact Dt h.2
  rw[ahg,ui];exact⟨λq=>h.1 q.1,Dt h.2⟩
theorem Mp{P:Program}:wK P 1001 ug:=by
 intro Wr ρ H H' w nt fr c1 c2 x y M b a C D E hg O u k cs;injection E with Q R;subst Q;subst R;unfold ug at hg;split at hg;case h_2=>cases hg
 rename_i m v z S T V;split at hg;case h_2=>cases hg
 rename_i N W;split at hg;·cases hg
 rename_i n;have n:m≠N:=λe=>n (by rw[e];exact ac.gT.2 rfl);split at hg;case h_2=>cases hg
 rename_i ks t0 K A;injection hg with hg;injection hg with F G;subst F;subst G;obtain⟨i3,o3,X,c3⟩:=vi V;obtain⟨is,os,ns,ag,ar,B,Y,Z,e7,c5⟩:=Be W;obtain⟨ms,o⟩:=Ds K;obtain⟨Ns,p⟩:=Bf A;have av:fr=⟨fr.aa,fr.bF,fr.bD⟩:=rfl;refine(Mm Mf C D (cH:=uf) (by decide) (by decide) (by decide) (by decide) (by decide) (by decide) (by decide) (by decide) (by decide) (by decide) (by decide) (by decide) (by decide) O u K A n 20 30 ?_ (λk x=>x=k∧k≠v) ?_ (rc (im v ks) (pN A).1) ?_ k cs).mono ?_
 ·intro q c;refine Xo.op (n:=18) (v:=.map m) (H':=H.set m (.map q c)) (by simp[aB,gv,S]) ?_;refine Xo.op (n:=17) (v:=.aw H.next 0) (H':=(H.set m (.map q c)).new (.mapIter (some m) c [] c)) (by simp[aB,gv,aM,am.aD,bH,af.aD];rfl) (Xo.nil (n:=16) ?_);refine⟨rfl,rfl,rfl,?_,?_,rfl⟩;·intro t f;simp only[uf,adC,ag0,or_false,not_or]at f;simp[aM,am.aD,f]
  simp[aM,am.aD,bH]
 ·intro aa H1 g r ax i l he s;have I:bh H1 i3 o3=some z:=by rw[pg (i i3 (kY c3 p) (kY c3 o) (wZ u c3))];exact c3
  have J:bh H1 is (os+B)=some (.map N):=by rw[pg (i is (kY c5 p) (kY c5 o) (wZ u c5))];exact c5
  have L:aa.get .aiw (sl 5)=.int 3 v:=by rw[he _ (by decide)];exact T
  have h3:aa.get .aiw (sl 3)=.aw i3 o3:=by rw[he _ (by decide)];exact X
  refine Xc.jf (n:=28) (m:=28) (k:=29) (by omega) (by omega) (Xc.region (n:=27) ?_);refine Xo.op (n:=26) (v:=.int 3 g) (H':=H1) (by simp[aB,gv];exact s) ?_;refine Xo.op (n:=25) (v:=.int 3 v) (H':=H1) (by simp[aB,gv,aM,am.aD,bH];exact L) ?_;by_cases d:g=v
  ·have hb:iB g v=true:=by rw[fA];simpa using d
   refine Xc.mQ (n:=27) (by simp[gv,aM,am.aD,bH,hb]) (Xc.skip (n:=26) ?_);refine⟨rfl,rfl,rfl,?_,?_,rfl,λ_ _=>rfl,r,l,λx=>⟨.inl,λh=>h.elim id λh=>absurd d h.2⟩⟩;·intro t f;rw[←he t f];simp only[uf,adC,ag0,or_false,not_or]at f;simp[aM,am.aD,f]
   simp[aM,am.aD,bH]
  have hb:iB g v=false:=by rw[fA];simpa using d
  obtain⟨H2,u1,u2,u3,u4⟩:=Mj (H:=H1) (N:=N) (x:=g) (ks:=r) (aa:=((((((((aa.set .aiw (sl 37) (.int 3 g)).set .aiw (sl 38) (.int 3 v)).set .aiw (sl 39) (.bool (!iB g v))).set .aiw (sl 40) z).set .aiw (sl 41) (.int 3 v)).set .aiw (sl 42) (.aw is (os+B))).set .aiw (sl 43) (.map N)).set .aiw (sl 44) (.int 3 g))) (om:=tt 43) (ok_:=tt 44) (by simp[gv,am.aD,bH]) (by simp[gv,am.aD,bH]) l;refine Xc.oD (n:=27) (by simp[gv,aM,am.aD,bH,hb]) (Xc.region (n:=26) ?_);refine Xo.op (n:=25) (v:=z) (H':=H1) (jm (by simp[gv,aM,am.aD,bH];exact h3) I) ?_;refine Xo.op (n:=24) (v:=.int 3 v) (H':=H1) (by simp[aB,gv,aM,am.aD,bH];exact L) ?_;refine Xo.op (n:=23) (v:=.aw is (os+B)) (H':=H1) (vj (by simp[gv,aM,am.aD,bH];exact Y) (by simp[gv,aM,am.aD,bH];exact⟨rfl,Z⟩) e7) ?_;refine Xo.op (n:=22) (v:=.map N) (H':=H1) (jm (by simp[gv,aM,am.aD,bH]) J) ?_;refine Xo.op (n:=21) (v:=.int 3 g) (H':=H1) (by simp[aB,gv,aM,am.aD,bH];exact s) ?_;refine Xo.op (n:=20) (v:=.aiw) (H':=H2) u1 (Xo.nil (n:=19) ?_);refine⟨rfl,rfl,rfl,?_,?_,u2,u3,_,u4,λx=>?_⟩;·intro t f;rw[←he t f];simp only[uf,adC,ag0,or_false,not_or]at f;simp[aM,am.aD,f]
  ·simp[aM,am.aD,bH]
  rw[A7];constructor
  ·rintro(h|h);·exact .inr ⟨h,d⟩
   exact .inl h
  rintro(h|h);·exact .inr h
  exact .inl h.1
 ·intro x;rw[oE,ui];constructor
  ·rintro(⟨h,h'⟩|h);·exact .inr ⟨x,h,rfl,h'⟩
   exact .inl h
  rintro(h|⟨k,h1,h2,h3⟩);·exact .inr h
  exact .inl ⟨h2▸h1,h2▸h3⟩
 rintro j fr1 H1⟨rfl,rfl,rfl⟩;exact⟨rfl,rfl,rfl⟩
section
def Bg(a:Nat):bp:=.seq (.region [bL 11 (.aW (tt 2)),bL 12 (.bg (tt 0)),bL 13 (.lookup .int (.int 3 (.ofNat 0)) true (tt 11) (tt 12)),bL 10 (.bg (tt 13)),bL 14 (.extract (tt 10) 0),bL 15 (.extract (tt 10) 1),bL 8 (.bg (tt 14)),bL 9 (.bg (tt 15))])
  (.seq (.region [bL 16 (.bg (tt 9)),bL 17 (.unary .not (tt 16)),bL 18 (.bg (tt 17)),⟨some (sl 19),.bg (tt 8),some (sl 18,false),[],[]⟩,⟨some (sl 20),.bg (tt 1),some (sl 18,false),[],[]⟩,⟨some (sl 21),.arith .geq 3 (tt 19) (tt 20),some (sl 18,false),[],[]⟩,bL 22 (.pick (tt 18) (.c (.bool true)) (tt 21))])
  (.cond (tt 22) (.region [bL 23 (.aW (tt 3)),bL 24 (.aW (tt 4)),bL 25 (.dk 1 (tt 23) (tt 24)),bL 26 (.aW (tt 25)),bL 27 (.bg (tt 0)),bL 28 (.call (.c (.func a [] [])) [tt 26,tt 27]),bL 29 (.bg (tt 28)),⟨some (sl 30),.aW (tt 5),some (sl 29,false),[],[]⟩,bL 31 (.pick (tt 29) (.c (.bool true)) (tt 30)),qP (.store 1 (tt 5) (tt 31))]) .skip))
def zo:bp:=.seq (.region [bL 4 (.bg (.c (.bool false)))]) (.seq (.region [bL 6 (.bg (tt 0)),bL 7 (.bg (tt 1)),bL 8 (.lookup .int (.bool false) false (tt 6) (tt 7)),bL 9 (.unary .not (tt 8)),bL 5 (.bg (tt 9))])
  (.seq (.region [bL 10 (.bg (tt 0)),bL 11 (.bg (tt 1)),qP (.ju .int (tt 10) (tt 11) (.c (.bool true)))]) (.seq (.region [bL 12 (.bg (tt 5)),bL 4 (.bg (tt 12))]) .ret)))
def ph(ee a:Nat):Nat→aE:=λf=>if agQ f ee then .code 32 [] (Bg a)else if agQ f a then .code 13 [.tmp (sl 4)] zo else .none
section
variable[Ov]
variable{ab:Nat→aE}
theorem Xo.Du{n:Nat}{d:Option ac}{op:bO}{g:Option (ac×Bool)}{l:List aS}{aa:am AV}{bF:List ac}{bD:Option ac}{H H':af}{v:AV}{K:Fr→af→Prop}(hg:ft aa g=true)(he:aB op aa H=some (v,H'))(h:Xo ab n l ⟨aM aa d v,bF,bD⟩ H' K):Xo ab (n+1) (⟨d,op,g,[],[]⟩::l) ⟨aa,bF,bD⟩ H K:=by simp only[Xo,Go.ak.az,hg,eM,d8,fh,bm];grind[aB]
theorem Xo.Dv{n:Nat}{d:Option ac}{op:bO}{g:Option (ac×Bool)}{l:List aS}{aa:am AV}{bF:List ac}{bD:Option ac}{H:af}{K:Fr→af→Prop}(hg:ft aa g=false)(hd:lA aa g=true)(h:Xo ab n l ⟨aM aa d .aiw,bF,bD⟩ H K):Xo ab (n+1) (⟨d,op,g,[],[]⟩::l) ⟨aa,bF,bD⟩ H K:=by simp[hg,hd,h,Xo,Go.ak.az,ac6,bK,bm]
theorem Xf.code{n b:Nat}{f:Nat}{first args a:List AV}{c:List iH}{body:bp}{H:af}{K:AV→af→Prop}(d:ab f=.code b c body)(hl:(first++args++a).length≤b)(h:Xc ab n body ⟨kx (first++args++a) .xH .aJ,[],none⟩ H λj fr H'=>(match j with|.exit _=>False|_=>True)∧fr.bF=[]∧∃l,gG fr.aa H' c=some l∧K (iu l) H'):Xf ab (n+1) (.func f first a) args H K:=by simp only[Xf,gS,d];rw[aH (ahi hl)];refine Xc.mono (adW _) ?_ h;rintro j fr H'⟨h1,h2,l,h3,e⟩;grind[jw]
def jg(pl:List (Int×Int))(v:Int):Int×Bool:=
 match pl with
 |[]=>(0,false)
 |(k,g)::pl=>if iB v k then(g,true)else jg pl v
theorem Mq(bC v:Int):∀pl,fB.rf pl bC v=(!(jg pl v).2||!ly (jg pl v).1 bC)
 |[]=>by rfl
 |(k,g)::pl=>by
  simp only[fB.rf,jg];split;·rfl
  exact Mq bC v pl
theorem Uf{pl:List (Int×Int)}{v:Int}(h:v∉pl.map (·.1)):jg pl v=(0,false):=by
 induction pl with
 |nil=>rfl
 |cons a pl b=>
  obtain⟨k,g⟩:=a;simp only[agN,adC,not_or]at h;have:iB v k=false:=by rw[fA];simpa using h.1
  simp[this,b,h,jg,ac6,bK]
theorem Mr:∀{es:List aR}{pl:List (Int×Int)}{ks:List Int},kX.go es=some pl→jA es=some ks→ks=pl.map (·.1)
 |[],pl,ks,h,b=>by simp only[kX.go,jA,acm]at h b;subst h;subst b;rfl
 |a::es,pl,ks,h,b=>by
  simp only[kX.go]at h;split at h
  ·rename_i k v l h1 h2 h3;injection h with h;subst h;simp only[jA,h1]at b;split at b;·rename_i e f c d;injection b with b;subst b;injection c with _ c;rw[agN,←Mr h3 d,c]
   cases b
  cases h
theorem Mt{v:Int}:∀{es:List aR}{pl:List (Int×Int)},kX.go es=some pl→∀i0,((jg pl v).2=false→findKey .int (.int 3 v) es i0=some none)∧((jg pl v).2=true→∃i,findKey .int (.int 3 v) es i0=some (some (i,.int 3 (jg pl v).1)))
 |[],pl,h,i0=>by simp_all[kX.go,acm,jg,findKey]
 |a::es,pl,h,i0=>by
  simp only[kX.go]at h;split at h
  ·rename_i k g l h1 h2 h3;injection h with h;subst h;have b:dZ 64 .int (.int 3 v) (.int 3 k)=some (iB v k):=by simp[dZ]
   cases hb:iB v k with|true=>simp[hb,h1,b,h2,jg,bm,findKey]|false=>simp only[jg,hb,ac6,bK,findKey,h1,b];exact Mt h3 (i0+1)
  grind
theorem Mu{v:Int}:∀{es:List aR}{pl:List (Int×Int)},kX.go es=some pl→(pl.map (·.1)).Nodup→((jg pl v).2=false→gf.go .int (.int 3 v) es=some none)∧((jg pl v).2=true→gf.go .int (.int 3 v) es=some (some (.int 3 (jg pl v).1)))
 |[],pl,h,_=>by simp_all[kX.go,acm,jg,gf.go]
 |a::es,pl,h,b=>by
  simp only[kX.go]at h;split at h
  ·rename_i k g l h1 h2 h3;injection h with h;subst h;simp only[agN,ahg]at b;have c:dZ 64 .int (.int 3 v) (.int 3 k)=some (iB v k):=by simp[dZ]
   obtain⟨d,e⟩:=Mu (v:=v) h3 b.2;cases hb:iB v k with|true=>simp_all[fA,Uf,jg,bm,gf.go]|false=>simp_all[jg,ac6,bK,gf.go]
  grind
theorem Ug{aa:am AV}{n b:aG}{H:af}{e:ac}{v:Int}{pl:List (Int×Int)}{l:List Int}(o:gv aa n=.map e)(p:gv aa b=.int 3 v)(h1:kX H e=some pl)(h2:jC H e=some l):aB (.lookup .int (.int 3 (.ofNat 0)) true n b) aa H=some (.tuple [.int 3 (jg pl v).1,.bool (jg pl v).2],H):=by
 obtain⟨es,e1,e2,r⟩:=wU h2;unfold kX at h1;rw[e1]at h1;have d:(pl.map (·.1)).Nodup:=by rw[←Mr h1 e2];exact r
 obtain⟨q,f⟩:=Mt (v:=v) h1 0;obtain⟨s,t⟩:=Mu (v:=v) h1 d;have u:(jg pl v).2=false→(jg pl v).1=0:=by
  clear q f s t h1 d;induction pl with
  |nil=>intro _;rfl
  |cons a pl w=>
   obtain⟨k,g⟩:=a;simp only[jg];split;·intro h;cases h
   exact w
 cases j:H.get e with
 |map m c=>rw[j]at e1;simp only[eJ,acm]at e1;subst e1;cases hb:(jg pl v).2 with|true=>obtain⟨i,f⟩:=f hb;simp[o,p,j,f,aB,jk,ag9,ac6,bK,bm]|false=>simp[u,hb,o,p,j,q,aB,jk,ag9,ac6,bK,bm]
 |dB m=>rw[j]at e1;simp only[eJ,acm]at e1;subst e1;cases hb:(jg pl v).2 with|true=>simp_all[aB,jk,ag9,ac6,bK,gf,tx,bm]|false=>simp_all[aB,jk,ag9,ac6,bK,gf,tx,bm]
 |_=>simp_all[eJ]
end
end
end Go.ak
end
