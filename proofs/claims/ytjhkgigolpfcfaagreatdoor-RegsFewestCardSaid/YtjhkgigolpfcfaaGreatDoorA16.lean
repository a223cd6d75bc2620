/- A part of the proof. No conditions. -/
import Derived.Test.YtjhkgigolpfcfaaGreatDoorA15
import Derived.Test.YtjhkgigolpfcfaaGreatDoorA11
set_option linter.all false
set_option maxHeartbeats 16000000
open Option.some renaming injEq->adG
open List renaming mem_singleton->aep,mem_cons_of_mem->aey,mem_cons_self->aeU,range->ake,length_map->akg,nodup_cons->akz,length_cons->akA,length_singleton->akC,length_take->akF,nodup_append->akI,getElem?_cons_succ->ak6,nodup_nil->alD
open Nat renaming le_of_ble_eq_true->akc,blt_eq->akY
open Eq renaming mpr->alN
open Prod renaming fst->alO
noncomputable section
namespace Go.am.R
section
variable{ac:Nat->aG}
def aeX(g:G.bu)(come:List Bool)(os:List (List bV))(b:Nat)(p:Int×Int):Prop:=
 ∃t:Nat,p.1=(t:Int)/\t<(jZ g).length/\((t:Int)<g.params\/(((jZ g).getD t (-1, -1)).1=(b:Int)/\((jZ g).getD t (-1, -1)).2<p.2)\/∃s:Nat,((jZ g).getD t (-1, -1)).1=(s:Int)/\s≠b/\come.getD s false=true/\gO (wW g os) s b)
structure yT(g:G.bu)(come:List Bool)(os:List (List bV)):Prop where
 en:∀b,come.getD b false=true->(g.al.getD b default).aA.op=68->∃o,(os.getD b []).getLast?=some o/\0<=na g o/\na g o<g.al.length/\(g.al.getD (na g o).toNat default).params.length=(g.al.getD b default).aA.args.length
 rt:∀b,come.getD b false=true->(g.al.getD b default).aA.op=69->os.getD b []=[]
 rd:∀b,come.getD b false=true->∀p∈kF (g.al.getD b default),aeX g come os b p
section
variable{g:G.bu}{d f:AV}{a:ab}{H:ai}{come:List Bool}{os:List (List bV)}{h:List AV}
def sE(g:G.bu)(a e i j k:ab)(up:List Int)(b c:AV):List Th:=[tB wA k [c],tB ND j [b],tB mE e [.az a 0],tB 4 i [.bool false],tS nN 2 (iV (jZ g)) (jZ g).length true c,tS 3 1 ((up.set 0 (-1)).map aI) g.al.length true b]
theorem Ru.cut{c:Cx}{s:List SI}{x:SI}{L:Kn}{H:ai}{P:ai->Prop}(e:List ab)(h1:∀H',P H'->Ru ac c s (pk L e) H')(h2:(∀H' b,P H'->ky (pk L e) b->Ru ac c s b H')->Ru ac c (x::s) L H):Ru ac c (x::s) L H:=h2 λH' b g hl=>(h1 H' g).rZ hl
theorem aeY(T:Tb ac)(Q:G.Sm g)(hE:jm g)(i:GX g H a d f come os h)(hK:cX g come os)(hF:yT g come os)(a6:0<=g.bp)(a8:g.bp<=6000)(hG:∀b∈g.al,∀p∈dC b,0<=p.1/\p.1<g.bp){K:KT}(e4:∀H',bm H H'->K (.bool true) H'):YN ac Xl [.az a 0] H K:=by
 have c':=Q.nb;have⟨hd,_,_,hn⟩:=i.bl.all;have ar:=i.kS.aH;have a9:=i.c6;have m:=i.kS.lt;refine YF.code T.ace aB ?_;refine au ?_;refine RO.dL (aj.dc H) λH1 E U=>?_;refine RO.gI U λH2 B U=>?_;refine ah ?_;refine RO.aW ?_ (v:=.bool false) (hc:=by rw[U.gr.bh m];exact a9);refine ah ?_;refine RO.gI U λH3 n U=>?_;refine RO.gI U λH4 q U=>?_;have a':=U.AU (e:=ND) (q:=n) (vs:=[.aS]) 1;have ba:=U.AU (e:=wA) (q:=q) (vs:=[.aS]) 0;have N:∀j∈ [q,n],j.an<H4.next.an:=λj hj=>by
  simp only[aeV,aki,or_false]at hj;rcases hj with rfl|rfl;·exact ba.2
  exact a'.2
 have O:∀HY H0:ai,bm H HY->H0.next=HY.next->(∀j,j∉ [q,n]->H0.get j=HY.get j)->bm H H0:=λHY H0 av h1 h2=>⟨by rw[h1];exact av.nx,λj hj=>by rw[h2 j ?_,av.dT j hj];simp only[aeV,aki,or_false,not_or];exact⟨λe=>by rw[e]at hj;omega,λe=>by rw[e]at hj;omega⟩⟩;refine RO.CH (is:=[q,n]) (Q:=λv ns=>∃ak c up,e9 g come os ak/\Rk (wW g os) ak c/\oz (wW g os) ak c g.al.length up/\(∀b∈ak,0<=up.getD b (-1))/\ns=[tS 3 1 ((up.set 0 (-1)).map aI) g.al.length true v]) U N (λH0 R hs=>aeL T Q hE (i.cI (O _ _ U.gr R hs)) hK λH' v ak c up h1 h2 h3 h4 U=>⟨_,U,ak,c,up,h1,h2,h3,h4,rfl⟩) (λC ns HU hQ bb U=>?_);obtain⟨ak,c,up,hO,hR,hC,eZ,rfl⟩:=hQ;have⟨dr,ds,dv,aw⟩:=(U.sl (e:=3) (size:=1) (sv:=C) (vs:=(up.set 0 (-1)).map aI) (n:=g.al.length) (full:=true) 0).all;refine⟨λaa ax=>il (v:=.az a 0) ax rfl rfl rfl (by simp[iy,gz,ab.ip]) (by obtain⟨_,hp⟩:=U.get 4 rfl;exact tB.cell hp rfl) rfl,?_⟩;refine RO.CH (is:=[q,n]) (Q:=λv ns=>ns=[tS nN 2 (iV (jZ g)) (jZ g).length true v]) U (λj hj=>ako (N j hj) bb.nx) (λH0 R hs=>aeW T Q (i.cI (O _ _ U.gr R hs)) a6 a8 hG λH' v U=>⟨_,U,rfl⟩) (λD ns dx hQ c3 U=>?_);subst hQ;have⟨dy,dz,dD,dE⟩:=(U.sl (e:=nN) (size:=2) (sv:=D) (vs:=iV (jZ g)) (n:=(jZ g).length) (full:=true) 0).all;refine⟨λaa ax=>rfl,?_⟩;refine RO.gG U 3 (λH5 U=>?_);refine RO.gG U 2 (λH6 U=>?_);refine ah ?_;have U:aj H H6 (sE g a E B n q up C D++i9 []):=(((U.gk 4 rfl).gk 5 rfl).gk 5 rfl).gk 5 rfl;refine RO.gU U 2 ?_;refine ah ?_;refine RO.aW ?_ (v:=d) (hc:=by rw[U.gr.bh m];exact ar);refine ah ?_;have ag:∀b∈ak,b<g.al.length:=λb hb=>hK.lt ((hO.mem b).1 hb);refine Ru.nm λS M hS hM=>?_;refine Ru.cC hM (Go.am.up (P:=λk=>∀HX I,aj H HX (sE g a E B n q up C D++i9 I)->Ru ac ⟨pu [.cell p2 false 1] K,I,none⟩ S ([(bY,aN k)]++pk M [p1,p2,p3,p4,bT,ch]) HX) g.al.length (λk hk ih HX I U=>?_) 0 af _ [] U);subst hS;subst hM;refine Ru.loop ?_;refine au ?_;refine Ru.cond (λA=>?_) (λA=>?_)
 .have V:=agB A;have d0:=Q.bl _ V;refine ah ?_;refine RO.cZ U.gr i.bl (λq5 o5 e2 hj W d1 hat hrd=>?_);have a4:=W.one;have bc:=W;obtain⟨vp,vs,jc,rfl,_,_,bd⟩:=W;obtain⟨va,vk,vg,rfl,bv,_,_⟩:=bd;have⟨d2,_,_,d3⟩:=bv.all;refine ah ?_;refine RO.gI U λH7 q5 U=>?_;refine RO.gI U λH8 q6 U=>?_;refine RO.gG U 1 (λH9 U=>?_);refine RO.iT U 0 (λbS U=>?_);refine ah ?_;have⟨d4,_,_,_⟩:=i.cm.all;have d5:=hK.cl;refine RO.aW ?_ (v:=f) (hc:=by rw[U.gr.bh m];exact i.c4);refine ah ?_;refine RO.lg U.gr i.cm (λq7 o7 d6 x=>?_) (j:=k) (hj:=by omega);have b0:come[k]'af=come.getD k false:=(bF _ _).symm;rw[b0]at x;cases u:come.getD k false with
  |false=>rw[u]at x;refine RO.aW ?_ (hc:=x);refine ah ?_;refine Ru.exitTo ?_;refine ah ?_;exact Ru.wk (ih (k+1) af af bS I U.tail.tail)
  |true=>
   rw[u]at x;refine RO.aW ?_ (hc:=x);refine ah ?_;have X:k<os.length:=by rw[hK.ol];exact A
   have J:os.getD k []=os[k]:=bF X _;have hs:=i.kS.bH k X;have⟨d7,_,_,d'⟩:=hs.all;obtain⟨ov,b3,ay⟩:=i.kS.jY;have⟨ea,_,_,_⟩:=ay.all;have L:g.al.getD k default=g.al[k]:=bF A _;refine Ru.cut (P:=λH'=>aj H H' (tB dW q6 [vp,vs,aU (g.al[k]).aA.op,va,.str (g.al[k]).aA.name,vk,vg]::tB 3 q5 [aN k]::(sE g a E B n q up C D++i9 I))) [p1,p2,p3,p4,p5,p6,bT,ch,bY] (λH' U=>?_) (λy=>?_)
   .have eh:=Q.st _ V;have b4:=Q.ed _ V;have hrd:=hF.rd k u;rw[L]at hrd;refine ah ?_;refine RO.eQ U 0 ?_;refine RO.cl (Pz T (cs:=[vp,vs,aU (g.al[k]).aA.op,va,.str (g.al[k]).aA.name,vk,vg]) a4 λH8 q8 hl=>?_);have U:aj H H8 ([tB dW q8 [vp,vs,aU (g.al[k]).aA.op,va,.str (g.al[k]).aA.name,vk,vg]]++(tB 3 q5 [aN k]::sE g a E B n q up C D)++i9 I):=U.tail.fC hl;refine ah ?_;refine Ru.wk (L:=[(ir,.func EB [] [.az q8 0]),(p1,.az E 0),(p2,.az B 0),(p3,.az n 0),(p4,.az q 0),(p5,.az q5 0),(bT,d),(ch,aN g.al.length),(bY,aN k)]) ?_;refine Ru.pG (J:=λ_ ts=>ts=tB 3 q5 [aN k]::sE g a E B n q up C D) (Dn:=λ_ _=>False) U (PA T bc af (λs hs=>by have:=(eh s hs).1;omega) af af (λe he=>by have:=b4 e he;omega)) (λ_ _=>trivial) rfl (λk args ws e4=>by obtain⟨_,_,rfl⟩:=e4;rfl) (λ_ _ _ _ _ _=>trivial) (λj args ws ts us l o1 o2 H' hj b5 hJ U=>?_) (λH' b6 dm hJ U=>?_) (λj H' b6 dm _ e4=>e4.elim)
    .obtain⟨rfl,b',rfl⟩:=b5;subst hJ;have hr:=hrd _ (agB b');generalize(kF g.al[k])[j]=w at*;obtain⟨w1,w2⟩:=w;obtain⟨t,ht,a0,z⟩:=hr;simp only at ht z;subst ht;refine au ?_;refine Ru.dN U λH2 U=>?_;refine ah ?_;refine RO.cZ (bm.refl _) (SlD.r (U.sl (e:=nN) (size:=2) (sv:=D) (vs:=iV (jZ g)) (n:=(jZ g).length) (full:=true) 5)) (λq9 o9 c9 eb ca ec hat hrd=>?_) (j:=t) (hj:=a0);have cd:c9=[aI ((jZ g).getD t (-1, -1)).1,aI ((jZ g).getD t (-1, -1)).2]:=by rw[bF a0];exact ca
     subst cd;generalize(jZ g).getD t (-1, -1)=pw at*;obtain⟨wb,wa⟩:=pw;simp only at z;refine ah ?_;refine RO.fx U λei ej U=>?_;refine ah ?_;rcases z with hA|⟨cf,cn⟩|⟨sb,cp,Y,Z,a5⟩
     .refine RO.de (λ_=>?_) (λ_=>?_);·refine ah ?_;refine RO.aW ?_ (v:=aI g.params) (hc:=by rw[U.gr.bh m];exact i.c1);refine ah ?_;refine RO.de (λ(e4:g.params<=(t:Int))=>absurd hA af) (λ_=>?_);refine ah ?_;exact Ru.bG (ts:=_::sE g a E B n q up C D) U.tail rfl
      refine ah ?_;refine RO.aW ?_ (v:=aI g.params) (hc:=by rw[U.gr.bh m];exact i.c1);refine ah ?_;refine RO.de (λ(e4:g.params<=(t:Int))=>absurd hA af) (λ_=>?_);refine ah ?_;exact Ru.bG (ts:=_::sE g a E B n q up C D) U.tail rfl
     .refine RO.de (λ_=>?_) (λe4=>absurd cf e4);refine ah ?_;refine RO.aW ?_ (v:=aI g.params) (hc:=by rw[U.gr.bh m];exact i.c1);rw[show decide (wa<w2)=true from decide_eq_true cn];refine ah ?_;refine RO.de (λ(e4:g.params<=(t:Int))=>?_) (λ_=>?_);·refine ah ?_;exact Ru.bG (ts:=_::sE g a E B n q up C D) U.tail rfl
      refine ah ?_;exact Ru.bG (ts:=_::sE g a E B n q up C D) U.tail rfl
     subst cp;have ek:=(hO.mem sb).2 Z;refine RO.de (λ(e4:(sb:Int)=(k:Int))=>absurd af Y) (λ_=>?_);refine ah ?_;refine RO.aW ?_ (v:=aI g.params) (hc:=by rw[U.gr.bh m];exact i.c1);refine ah ?_;refine RO.de (λ(e4:g.params<=(t:Int))=>?_) (λ_=>?_)
     .refine ah ?_;refine RO.de (λ(e4:sb=k)=>absurd e4 Y) (λ_=>?_);refine ah ?_;refine RO.aW ?_ (v:=f) (hc:=by rw[U.gr.bh m];exact i.c4);refine ah ?_;refine RO.lg U.gr i.cm (λel er P x=>?_) (j:=sb) (hj:=E2 Z aB);have cv:come[sb]'P=true:=by rw[<-bF P false];exact Z
      rw[cv]at x;refine ah ?_;refine RO.cl (aeR T hR hC eZ ag (bm.refl _) (U.sl (e:=3) (size:=1) (sv:=C) (vs:=(up.set 0 (-1)).map aI) (n:=g.al.length) (full:=true) 7) ((hO.mem k).2 u) a5 Y ?_);refine ah ?_;exact Ru.bG (ts:=_::sE g a E B n q up C D) U.tail rfl
     refine ah ?_;exact Ru.bG (ts:=_::sE g a E B n q up C D) U.tail rfl
    subst hJ;refine ah ?_;exact Ru.wk (ih (k+1) af af H' (dm::I) U.tail)
   refine Ru.cond (λ(a1:(g.al[k]).aA.op=68)=>?_) (λ(a1:¬(g.al[k]).aA.op=68)=>?_);·obtain⟨o,ho,et,cx,F⟩:=hF.en k u (by rw[L];exact a1);rw[J]at ho;rw[L]at F;refine ah ?_;refine RO.cl (Pc T Q i.bl U.gr (i.kS.cI U.gr) X (by rw[<-J];exact(hE.jY (hK.dO k u)).1) (by rw[<-J];have:=(hE.jY (hK.dO k u)).2;omega) ?_);simp only[ho];obtain⟨t,ht⟩:∃t:Nat,na g o=(t:Int):=⟨(na g o).toNat,af⟩;rw[ht]at cx F⊢;rw[aj3]at F;have aw:t<g.al.length:=af;rw[bF aw]at F;refine ah ?_;refine RO.aW ?_ (v:=d) (hc:=by rw[U.gr.bh m];exact ar);refine ah ?_;refine RO.cZ U.gr i.bl (λq8 o8 e3 ev cy _ hat _=>?_) (j:=t);obtain⟨ew,ey,eP,rfl,cE,_,_⟩:=cy;have⟨c5,_,_,c8⟩:=cE.all;refine ah ?_;refine Ru.cond (λa2=>absurd F a2) (λ_=>?_);refine Ru.skip ?_;exact y _ _ U fB
   refine ah ?_;refine Ru.cond (λ(a3:(g.al[k]).aA.op=69)=>?_) (λ(a3:¬(g.al[k]).aA.op=69)=>?_)
   .have e0:=hF.rt k u (by rw[L];exact a3);rw[J]at e0;have e1:os[k].length=0:=by rw[e0];rfl
    refine ah ?_;refine RO.aW ?_ (v:=ov) (hc:=by rw[U.gr.bh m];exact b3);refine ah ?_;refine RO.vu U.gr ay (λq8 o8 cK _=>?_) (j:=k);refine RO.aW ?_ (hc:=cK);refine ah ?_;refine Ru.cond (λ(a2:0<os[k].length)=>by omega) (λ_=>?_);refine Ru.skip ?_;exact y _ _ U fB
   refine Ru.skip ?_;exact y _ _ U fB
 refine Ru.exitTo ?_;refine ah ?_;refine RO.gG U 3 (λH7 U=>?_);refine ah ?_;refine Ru.mI (M:=I) (ts:=[_,_,_,tB 4 B [.bool true],_,_]) (U.cM (akH (l₁:=[_,_,_,_,_,_]) (l₂:=i9 I))) λH' U=>⟨[.bool true],⟨⟨_,_,rfl,U.one 3⟩,trivial⟩,e4 H' U.gr⟩
end
end
section
variable{g:G.bu}{come:List Bool}{os:List (List bV)}
abbrev aH(g:G.bu)(b:Nat):G.gV:=g.al.getD b default
structure vC(g:G.bu):Prop where
 v0:0<=g.bp
 p0:0<=g.params
 qA:∀b∈g.al,∀p∈dC b,g.params<=p.1/\p.1<g.bp
 nd:∀b∈g.al,((dC b).map (·.1)).Nodup
 one:∀i j,i<g.al.length->j<g.al.length->∀v p q,(v,p)∈dC (aH g i)->(v,q)∈dC (aH g j)->i=j
 all:∀v:Int,g.params<=v->v<g.bp->∃i p,i<g.al.length/\(v,p)∈dC (aH g i)
theorem oC{b:Nat}(h:b<g.al.length):aH g b∈g.al:=by grind
theorem alX{l:List (Int×Int)}(h:(l.map (·.1)).Nodup){v p q:Int}(h1:(v,p)∈l)(h2:(v,q)∈l):p=q:=by
 induction l with
 |nil=>cases h1
 |cons a l d=>
  rw[aj7,akz]at h;rcases aeV.1 h1 with e1|b<;>rcases aeV.1 h2 with e2|c;·rw[<-e1]at e2;injection e2 with _ e;exact e.symm
  .exact(h.1 (by rw[<-e1];have:=akp (f:=λx:Int×Int=>x.1) c;exact this)).elim
  .exact(h.1 (by rw[<-e2];have:=akp (f:=λx:Int×Int=>x.1) b;exact this)).elim
  exact d h.2 b c
theorem JD{k:Nat}{v:Int}(b:0<=v):∀(l a:List (Int×Int)),(∀p∈l,0<=p.1/\p.1≠v)->(qz k a l).getD v.toNat (-1, -1)=a.getD v.toNat (-1, -1)|[],a,_=>rfl|p::l,a,h=>by have h1:=h p (aeU ..);show(qz k (a.set p.1.toNat ((k:Int),p.2)) l).getD _ _=_;rw[JD b l _ λq c=>h q (aey _ c)];simp only[akm,List.getElem?_set];rw[aq af]
theorem PF{k:Nat}{v p:Int}:∀(l a:List (Int×Int)),(l.map (·.1)).Nodup->(∀q∈l,0<=q.1/\q.1.toNat<a.length)->(v,p)∈l->(qz k a l).getD v.toNat (-1, -1)=((k:Int),p)
 |[],a,_,_,h=>by cases h
 |q::l,a,c,d,h=>by
  rw[aj7,akz]at c;have f:=d q (aeU ..);show(qz k (a.set q.1.toNat ((k:Int),q.2)) l).getD _ _=_;rcases aeV.1 h with rfl|h;·rw[JD f.1 l _ λr b=>⟨(d r (aey _ b)).1,λe=>c.1 (by rw[<-e];exact akp b)⟩,fu f.2,aK rfl]
  exact PF l _ c.2 (λr b=>by have:=d r (aey _ b);rw[ak4];exact this) h
theorem vC.at(h:vC g){i:Nat}{v p:Int}(hi:i<g.al.length)(c:(v,p)∈dC (aH g i)):(jZ g).getD v.toNat (-1, -1)=((i:Int),p):=by
 have f:=h.qA _ (oC hi) _ c;have h0:=h.p0;have key:∀k,k<=g.al.length->i<k->(mj g g.bp.toNat k).getD v.toNat (-1, -1)=((i:Int),p):=by
  intro k;induction k with
  |zero=>intro _ h;omega
  |succ k j=>
   intro m l;have a:=oC (g:=g) (b:=k) af;have d:∀q∈dC (aH g k),0<=q.1/\q.1.toNat<(mj g g.bp.toNat k).length:=λq b=>by have:=h.qA _ a q b;rw[E8];simp only at*;omega
   show(qz k _ (dC (aH g k))).getD _ _=_;by_cases e:i=k;·subst e;exact PF _ _ (h.nd _ a) d c
   rw[JD (by simp only at f;omega) _ _ λq b=>⟨(d q b).1,λe2=>e (h.one i k hi af v p q.2 c (by rw[<-e2];exact b))⟩];exact j af af
 exact key _ (afb _) hi
theorem PG:∀(l:List G.ic)(i:Nat)(p:Int×Int),p∈ja l i->(i:Int)<=p.2/\p.2<i+l.length
 |[],i,p,h=>by cases h
 |s::l,i,p,h=>by
  simp only[ja,ahp]at h;rcases h with h|h;·grind
  have:=PG l (i+1) p h;grind
theorem aeZ{b:G.gV}{v p:Int}(h:(v,p)∈dC b):p= -1\/0<=p/\p<b.aD.length:=by
 simp only[dC,ahp,akk]at h;rcases h with⟨x,_,h⟩|h;·grind
 have:=PG _ _ _ h;omega
def rq(g:G.bu)(b:Nat)(v bH:Int):Prop:=∀p,(v,p)∈dC (aH g b)->bH<=p
def oD(g:G.bu)(o:List bV):Option Int:=(o.reverse.find? λx=>x.2==0).map λx=>((aH g x.1.toNat).aA.go.getD 1 default).block
inductive Lv(g:G.bu)(os:List (List bV)):Nat->Int->Prop
 |qQ{b:Nat}{v bH:Int}(h:(v,bH)∈kF (aH g b))(hn:rq g b v bH):Lv g os b v
 |ls{b w:Nat}{v:Int}(hw:w∈wW g os b)(h:Lv g os w v)(hn:rq g b v (aH g b).aD.length):Lv g os b v
 |sC{b:Nat}{t v:Int}(ht:oD g (os.getD b [])=some t)(h:Lv g os t.toNat v)(hn:rq g b v 0):Lv g os b v
theorem ae0{o:List bV}{t:Int}(h:oD g o=some t):∃x∈o,x.2=0/\t=((aH g x.1.toNat).aA.go.getD 1 default).block:=by unfold oD at h;cases h2:o.reverse.find? λx=>x.2==0 with|none=>grind|some x=>grind
theorem pI.ne{W:Nat->List Nat}{d b:Nat}(h:pI W d b):b≠d:=by cases h with|zero h=>omega|step _ _ h=>omega
theorem gO.JE{W:Nat->List Nat}{d:Nat}:gO W d d:=λh=>h.ne rfl
theorem gO.trans{W:Nat->List Nat}{a b c:Nat}(h1:gO W a b)(h2:gO W b c):gO W a c:=by
 intro h;have key:∀x,pI W a x->pI W a b\/pI W b x:=λx f=>by
  induction f with
  |zero h=>
   by_cases e:0=b;·left;rw[<-e];exact .zero h
   exact .inr (.zero e)
  | @step x y f g i d=>
   rcases d with d|d;·exact .inl d
   by_cases e:y=b;·left;rw[<-e];exact .step f g i
   exact .inr (.step d g e)
 rcases key c h with h|h;all_goals trivial
theorem cX.sF(c:jm g)(a:cX g come os){b:Nat}{o:List bV}(h:lN g b o):come.getD b false=true/\os.getD b []=o:=by induction h with|zero=>exact⟨a.c0,c.E1 (a.dO 0 a.c0) .zero⟩| @step b o w h d e=>obtain⟨h1,h2⟩:=e;have h3:=a.dn b h1 w (by rw[h2];exact d);exact⟨h3,c.E1 (a.dO _ h3) (.step h d)⟩
theorem cX.ind(d:jm g)(a:cX g come os){P:Nat->Prop}(h0:P 0)(h1:∀y x,P y->x∈wW g os y->P x){c:Nat}(f:come.getD c false=true):P c:=by
 have key:∀b o,lN g b o->P b:=λb o h=>by induction h with|zero=>exact h0| @step b o w h i j=>obtain⟨_,e⟩:=a.sF d h;refine h1 b _ j ?_;simp only[wW,mK,e];exact akp i
 exact key c _ (a.dO c f)
theorem E9{b:Nat}{w:Int×List bV}(a:w∈cS g b (os.getD b [])):w.1.toNat∈wW g os b:=akp a
theorem JF{b:Nat}{o:List bV}{w:Int×List bV}(a:w∈cS g b o){x:bV}(c:x∈w.2):x∈o\/x.1=b/\(aH g b).aA.op=67:=by simp only[cS]at a;grind
theorem lN.ae1(a:jm g)(c:cX g come os){b:Nat}{o:List bV}(h:lN g b o):∀x∈o,∃t:Nat,x.1=t/\come.getD t false=true/\(aH g t).aA.op=67:=by
 induction h with
 |zero=>simp
 | @step b o w h d f=>
  intro x e;rcases JF d e with h1|⟨h1,h2⟩;·grind
  exact⟨b,h1,(c.sF a h).1,h2⟩
theorem pI.xx(i:jm g)(f:cX g come os){d b:Nat}(h:pI (wW g os) d b):come.getD b false=true/\∀x∈os.getD b [],x.1≠(d:Int):=by
 induction h with
 |zero h=>refine⟨f.c0,λx c=>?_⟩;rw[(f.sF i .zero).2]at c;cases c
 | @step a x h c m l=>
  obtain⟨h1,h2⟩:=l;refine⟨f.ls h1 c,λy j=>?_⟩;simp only[wW,mK,akk]at c;obtain⟨w,k,rfl⟩:=c;have hl:=f.dO a h1;rw[(f.sF i (.step hl k)).2]at j;rcases JF k j with h3|⟨h3,_⟩;·exact h2 y h3
  rw[h3];exact λe=>h.ne af
theorem PH(a:jm g)(c:cX g come os){b t:Nat}{k:Nat}(h:(((t:Int),k):bV)∈os.getD b []):gO (wW g os) t b:=λd=>(d.xx a c).2 _ h rfl
theorem ae2{ak:List Nat}(i:e9 g come os ak){cO a:List Nat}{t:Nat}(e:ak=cO++t::a):∀(n x:Nat),cO[n]?=some x->pI (wW g os) t x:=by
 have c:=i.nd;have d:∀x∈cO,x≠t:=λx b h=>by rw[e]at c;exact(akI.1 c).2.2 x b t (aeU ..) h
 intro n;induction n using Nat.strongRecOn with
 |ind n k=>
  intro x b;obtain⟨j,b⟩:=akR.1 b;have f:=d x (by rw[<-b];exact agB j);have e2:ak=cO.take n++x::(cO.drop (n+1)++t::a):=by
   rw[e];conv=>lhs;rw[<-ala n cO,aj9 j,b]
   simp
  rcases i.aM _ _ _ e2 with h|⟨y,l,o⟩;·rw[h];exact .zero af
  obtain⟨m,p,rfl⟩:=aka l;rw[akF]at p;refine .step (k m af _ ?_) o f;rw[List.getElem_take,akP af]
theorem ae3(d:jm g)(c:cX g come os){ak:List Nat}(f:e9 g come os ak){b t:Nat}{k:Nat}(hb:come.getD b false=true)(h:(((t:Int),k):bV)∈os.getD b []):t≠b:=by
 rintro rfl;obtain⟨cO,n,e⟩:=List.append_of_mem ((f.mem t).2 hb);rcases f.aM _ _ _ e with h0|⟨y,o,a⟩;·subst h0;rw[(c.sF d .zero).2]at h;cases h
 obtain⟨m,p,rfl⟩:=aka o;have j:=ae2 f e m _ (akP p);obtain⟨h1,h2⟩:=j.xx d c;simp only[wW,mK,akk]at a;obtain⟨w,a,q⟩:=a;have l:=(c.sF d (.step (c.dO _ h1) a)).2;rw[q]at l;rw[l]at h;rcases JF a h with i|⟨i,_⟩;·exact h2 _ i rfl
 exact j.ne (by simp only at i;omega)
theorem e9.rk{ak:List Nat}(a:e9 g come os ak)(n:Nat)(c:∀b∈ak,b<n):Rk (wW g os) ak ((ake n).map λb=>ak.idxOf b):=by refine⟨a.nd,a.hd,a.aM,λi h=>?_⟩;have hi:=c _ (agB h);rw[bF (by grind)];simp only[akN,alA];exact a.nd.idxOf_getElem i h
theorem gO.ae4(h:cX g come os){ak:List Nat}(e:e9 g come os ak){a b:Nat}(i:come.getD a false=true)(hb:come.getD b false=true)(h1:gO (wW g os) a b)(h2:gO (wW g os) b a):a=b:=by have f:=e.rk g.al.length λb hb=>h.lt ((e.mem b).1 hb);have c:=(e.mem a).2 i;have d:=(e.mem b).2 hb;exact f.inj c d (Nat.le_antisymm (f.fH _ b rfl d h1) (f.fH _ a rfl c h2))
abbrev AY(g:G.bu)(v:Int):Int:=((jZ g).getD v.toNat (-1, -1)).1
def yU(g:G.bu)(come:List Bool)(os:List (List bV))(b:Nat)(v:Int):Prop:=0<=v/\v<g.bp/\(v<g.params\/∃s:Nat,AY g v=s/\come.getD s false=true/\gO (wW g os) s b)
def Far(g:G.bu)(come:List Bool)(os:List (List bV))(b:Nat)(v:Int):Prop:=0<=v/\v<g.bp/\(v<g.params\/∃s:Nat,AY g v=s/\s≠b/\come.getD s false=true/\gO (wW g os) s b)
theorem E'(h:0<=g.bp):((jZ g).length:Int)=g.bp:=by grind[jZ,E8]
theorem vC.kq(a:vC g){v:Int}(h0:g.params<=v)(h1:v<g.bp):∃i p,i<g.al.length/\(v,p)∈dC (aH g i)/\(jZ g).getD v.toNat (-1, -1)=((i:Int),p):=by obtain⟨i,p,hi,b⟩:=a.all v h0 h1;exact⟨i,p,hi,b,a.at hi b⟩
theorem vD(f:jm g)(c:cX g come os){b:Nat}{t:Int}(hb:come.getD b false=true)(i:oD g (os.getD b [])=some t):∃u:Nat,(((u:Int),0):bV)∈os.getD b []/\come.getD u false=true/\t.toNat∈wW g os u/\come.getD t.toNat false=true/\0<=t:=by
 obtain⟨x,j,d,rfl⟩:=ae0 i;obtain⟨u,hu,a,e⟩:=(c.dO b hb).ae1 f c x j;have k:x=((u:Int),0):=by rw[<-hu,<-d]
 rw[hu,aj3];have h:(((aH g u).aA.go.getD 1 default).block,os.getD u []++[((u:Int),1)])∈cS g u (os.getD u []):=by simp only[cS];rw[aK e];simp
 have h2:=E9 h;refine⟨u,by grind,a,h2,c.ls a h2,(f.CP (c.dO u a) _ h).1⟩
theorem Lv.CS(n:jm g)(c:cX g come os)(F:yT g come os)(o:vC g){ak:List Nat}(B:e9 g come os ak){b:Nat}{v:Int}(h:Lv g os b v):come.getD b false=true->Far g come os b v:=by
 induction h with
 | @qQ b v bH h k=>
  intro hb;obtain⟨t,q,G,C⟩:=F.rd b hb _ h;subst q;have d:(t:Int)<g.bp:=by have:=E' o.v0;omega
  refine⟨aB,d,?_⟩;rcases C with C|⟨h1,h2⟩|⟨s,h1,h2,h3,a⟩;·omega
  .by_cases D:(t:Int)<g.params;·omega
   obtain⟨i,p,hi,l,he⟩:=o.kq (v:=(t:Int)) af d;rw[aj3]at he;rw[he]at h1 h2;have:i=b:=af;subst this;have:=k p l;omega
  exact .inr ⟨s,by grind,h2,h3,a⟩
 | @ls b w v E h k r=>
  intro hb;obtain⟨h0,h1,h2⟩:=r (c.ls hb E);by_cases D:v<g.params;·exact⟨h0,h1,.inl D⟩
  refine⟨h0,h1,h2.imp id λ⟨s,h3,a,x,m⟩=>⟨s,h3,λe=>?_,x,m.cO E a⟩⟩;subst e;obtain⟨i,p,hi,l,he⟩:=o.kq af h1;rw[AY,he]at h3;have:i=s:=af;subst this;have I:=k p l;have J:=aeZ l;omega
 | @sC b t v q h k r=>intro hb;obtain⟨u,hu,y,f,z,H⟩:=vD n c hb q;obtain⟨h0,h1,h2⟩:=r z;have A:=ae3 n c B hb hu;have j:=PH n c hu;refine⟨h0,h1,h2.imp id λ⟨s,h3,a,x,m⟩=>⟨s,h3,λe=>?_,x,(m.cO f a).trans j⟩⟩;subst e;exact A (gO.ae4 c B y hb j (m.cO f a))
end
section
variable{ac:Nat->aG}{b:Type}
def ae6(size:Nat)(ld:bW):bt:=(.seq (.region [O p4 (.aW (T p1)),O p5 (.j7 (T p4)),O p6 (.arith .sub 3 (T p5) (I 3 1)),O p3 (.bg (T p6))]) (.block 0 (.loop (.seq (.seq (.region [O p7 (.bg (T p3)),O p8 (.arith .geq 3 (T p7) (I 3 0))]) (.cond (T p8) .skip (.exit 0))) (.seq (.block 1 (.seq (.region [O aR (.bg (T p0)),O aY (.bg (T p3)),O aX (.aW (T p1)),O bi (.bg (T p3)),O bk (.dG size (T aX) (T bi)),O bo ld,O aZ (.call (T aR) [(T aY),(T bo)]),O br (.unary .not (T aZ))]) (.cond (T br) .ret .skip))) (.region [O p9 (.bg (T p3)),O aO (.arith .sub 3 (T p9) (I 3 1)),O p3 (.bg (T aO))]))))))
def ae7(R:b->List AV->Prop)(agg:Bool)(a:List b)(k:Nat)(args:List AV)(c:List Th):Prop:=c=[]/\∃(h:a.length - 1 - k<a.length)(cs:List AV),R a[a.length - 1 - k] cs/\args=[aN (a.length - 1 - k),vn agg cs]
theorem Fb{A:ai}{size nt f e:Nat}{agg:Bool}{R:b->List AV->Prop}{la:List b}{sv:AV}{j:ab}(x:ac f=.code nt [] (ae6 size (Cs size agg (am.T bk))))(F:2<=nt)(hl:la.length<=1000000)(h1:agg=false->size=1)(hd:∀a cs,R a cs->(vn agg cs).bB=true):yI ac A (.func f [] [.az j 0]) la.length (ae7 R agg la) [tB e j [sv]] (λH=>dV size (λ_=>R) H la sv) (λH=>dV size (λ_=>R) H la sv):=by
 intro y J D c us H K G I L n g i U z d;have⟨N,_,_,P⟩:=z.all;refine YF.code x (by grind) ?_;refine ah ?_;refine RO.sub (a:=(la.length:Int)) (b:=1) ?_;refine ah ?_;refine Ru.nm λS M B u=>?_;refine Ru.cC u (up (P:=λk=>∀l c,J k c->aj A l (tB e j [sv]::(c++us))->Ru ac _ S ([(p3,aI ((la.length:Int) - 1 - k))]++pk M [p0,p1]) l) la.length (λk Q C l c i U=>?_) 0 af _ c i U) (by simp;exact⟨rfl,trivial⟩);subst B;subst u;refine Ru.loop ?_;refine ah ?_;refine Ru.cond (λ(p:(0:Int)<=(la.length:Int) - 1 - k)=>?_) (λ(p:¬(0:Int)<=(la.length:Int) - 1 - k)=>?_)
 .obtain⟨t,E⟩:∃t:Nat,(la.length:Int) - 1 - k=(t:Int):=⟨la.length - 1 - k,af⟩;have r:t=la.length - 1 - k:=af;rw[E];have hs:=n k c (tB e j [sv]::us) l i U.Ej;refine ah ?_;refine RO.cZ (bm.refl _) hs (λq o cs hj w m hat hrd=>?_) (j:=t);have O:=hd _ _ w;refine RO.OA m h1 hat hrd ?_;subst r;refine RO.cl ((g k [aN (la.length - 1 - k),vn agg cs] [] c _ _ af ⟨rfl,hj,cs,w,rfl⟩ i U.Ej).mono ?_);rintro v V⟨s,U,m⟩;rcases m with⟨rfl,h⟩|⟨rfl,h⟩;·refine ah ?_;refine RO.sub (a:=((la.length - 1 - k:Nat):Int)) (b:=1) ?_;refine ah ?_;have e1:(((la.length - 1 - k:Nat):Int) - 1:Int)=(la.length:Int) - 1 - (k+1:Nat):=af;rw[e1];exact Ru.wk (C (k+1) af af _ _ h U.wy)
  refine ah ?_;exact Ru.mD (vs:=[]) trivial (d _ s _ U.wy.tail (.inr h))
 refine Ru.exitTo ?_;refine ah ?_;refine Ru.aA (vs:=[]) trivial (d _ c _ U.tail (.inl ?_));rw[show la.length=k by omega];exact i
theorem Fc{f c e cl:Nat}{a:AV}{H:ai}(g:ac f=.code c [.tmp p2] (.seq (.region [O p1 (.box e (am.T p0)),O p2 (.bg (C .nilFunc))]) (.seq (.region [O p3 (.iP cl [] [(am.T p1)]),O p2 (.bg (am.T p3))]) .ret)))(i:1<=c)(hd:a.bB=true)(h1:a.ee=true)(d:a.cells=[a]){K:KT}(h:∀H' q,aj H H' [tB e q [a]]->K (.func cl [] [.az q 0]) H'):YN ac f [a] H K:=by refine YF.code g (by simp;omega) ?_;refine au ?_;refine RO.dL (aj.dc H) (λH1 q U=>?_) (ho:=by rw[d];exact ao h1 rfl);rw[d]at U;refine au ?_;exact Ru.aV (h _ q U)
end
end Go.am.R
namespace Go.am
section
def tM(ex:Bool)(q:ab)(S:Int->Prop):Th where
 P H a:=q∈a/\(∀j∈a,j=q)/\(∃ks,ib (H.get q) ks/\∀x,x∈ks↔S x)/\(ex=true->∃es c,H.get q=.map es c)/\q.an<H.next.an
 fr h b hg:=⟨h.1,h.2.1,by rw[hg _ h.1];exact h.2.2.1,by rw[hg _ h.1];exact h.2.2.2.1,ako h.2.2.2.2 b⟩
 lt h:=by intro j hj;rw[h.2.1 j hj];exact h.2.2.2.2
def ik(p:Int×Int):AV×AV:=(.int 3 p.1,.int 3 p.2)
def tI(q:ab)(pl:List (Int×Int)):Th where
 P H a:=q∈a/\(∀j∈a,j=q)/\(∃es c,H.get q=.map es c/\es.map aT.kv=pl.map ik)/\(pl.map alO).Nodup/\q.an<H.next.an
 fr h b hg:=⟨h.1,h.2.1,by rw[hg _ h.1];exact h.2.2.1,h.2.2.2.1,ako h.2.2.2.2 b⟩
 lt h:=by intro j hj;rw[h.2.1 j hj];exact h.2.2.2.2
section
variable{A H:ai}{ts:List Th}{q:ab}{S S':Int->Prop}{ex:Bool}{pl:List (Int×Int)}{z y:Int}
variable{ac:Nat->aG}{c:Cx}{s:List SI}{L:Kn}{d:Option ab}{l:List be}
theorem aj.uh{t t':Th}(U:aj A H ts)(i:Nat)(hi:ts[i]?=some t){H':ai}(b:H'.next=H.next)(hg:∀j,j≠q->H'.get j=H.get j)(h1:∀a,t.P H a->q∈a)(h2:t'.P H' [q]):aj A H' (ts.set i t'):=by obtain⟨a,c,_,hu⟩:=U.ki i hi;refine hu (fp':=[q]) ⟨Nat.le_of_eq (by grind),λj hj=>?_,λj hj b=>?_⟩ h2;all_goals grind
theorem aj.nf(U:aj A H ts)(i:Nat)(hi:ts[i]?=some (tM ex q S):=by rfl):(∃ks,ib (H.get q) ks/\∀x,x∈ks↔S x)/\(ex=true->∃es c,H.get q=.map es c)/\q.an<H.next.an:=by obtain⟨b,a⟩:=U.get i hi;exact a.2.2
theorem aj.Fe(U:aj A H ts)(i:Nat)(hi:ts[i]?=some (tI q pl):=by rfl):(∃es c,H.get q=.map es c/\es.map aT.kv=pl.map ik)/\(pl.map alO).Nodup/\q.an<H.next.an:=by obtain⟨b,a⟩:=U.get i hi;exact a.2.2
theorem aj.CT(U:aj A H ts)(i:Nat)(hi:ts[i]?=some (tM ex q S))(h:∀x,S x↔S' x):aj A H (ts.set i (tM ex q S')):=U.as i hi λb a=>⟨a.1,a.2.1,a.2.2.1.imp λks h2=>⟨h2.1,λx=>(h2.2 x).trans (h x)⟩,a.2.2.2⟩
theorem aj.PJ(U:aj A H ts){o:cq}{S:Int->Prop}{ks:List Int}(hs:ib o ks)(a:∀x,x∈ks↔S x)(b:ex=true->∃es c,o=.map es c):aj A (H.new o) (tM ex H.next S::ts):=U.push (fp:=[H.next]) (bm.new H o) ⟨aep.2 rfl,λj hj=>aep.1 hj,⟨ks,by rw[ai.dJ,aK rfl];exact hs,a⟩,λh=>by rw[ai.dJ,aK rfl];exact b h,by rw[ai.nK];omega⟩ (uU H)
theorem RO.Ff(U:aj A H ts)(h:∀H' q,aj A H' (tM true q (λ_=>False)::ts)->RO ac c l s (bC L d (.map q)) H'):RO ac c (⟨d,.jK,none,[],[]⟩::l) s L H:=RO.jK (h _ _ (U.PJ (ks:=[]) ⟨alD,[],rfl,rfl⟩ (λx=>by simp) λ_=>⟨[],0,rfl⟩))
theorem RO.PK(U:aj A H ts)(i:Nat){x y:aJ}(h:∀H',aj A H' (ts.set i (tM ex q λx=>x=z\/S x))->RO ac c l s (bC L d .alR) H')(hi:ts[i]?=some (tM ex q S):=by rfl)(g:bf L x=.map q:=by exact cw)(k:bf L y=.int 3 z:=by exact cw):RO ac c (⟨d,.jy .int x y (.c (.bool true)),none,[],[]⟩::l) s L H:=λaa a=>by
 obtain⟨⟨ks,hs,m⟩,he,b⟩:=U.nf i hi;obtain⟨H',o,f,p,r,v⟩:=Hu (a.gv g rfl) (a.gv k rfl) hs;have e:=U.uh (q:=q) i hi (t':=tM ex q λx=>x=z\/S x) f p (λw t=>t.1) ⟨aep.2 rfl,λj hj=>aep.1 hj,⟨_,r,λx=>by rw[BV,m]⟩,λh=>?_,by rw[f];exact b⟩;·obtain⟨n,u⟩:=h H' e _ (a.set d .alR);exact⟨n+1,Xo.op o u⟩
 grind
theorem RO.CU(U:aj A H ts)(i:Nat){x y:aJ}(h:∀t:Bool,(t=true↔S z)->RO ac c l s (bC L d (.bool t)) H)(hi:ts[i]?=some (tM ex q S):=by rfl)(b:bf L x=.map q:=by exact cw)(e:bf L y=.int 3 z:=by exact cw):RO ac c (⟨d,.lookup .int (.bool false) false x y,none,[],[]⟩::l) s L H:=by obtain⟨⟨ks,hs,g⟩,he,f⟩:=U.nf i hi;exact RO.op (λaa a=>MX (a.gv b rfl) (a.gv e rfl) hs) (h (iA z ks) (by grind[ta]))
theorem PL{k:Int}:∀{es:List aT}{pl:List (Int×Int)},es.map aT.kv=pl.map ik->k∉pl.map alO->∀i0,findKey .int (.int 3 k) es i0=some none
 |[],_,_,_,_=>rfl
 |e::es,[],h,_,_=>by grind
 |e::es,p::pl,h,a,i0=>by
  simp only[aj7,akn,aT.kv,ik,aj1]at h;simp only[aj7,aeV,not_or]at a;have c:iQ k p.1=false:=by rw[fQ];simpa using a.1
  have b:eA 64 .int (.int 3 k) (.int 3 p.1)=some (iQ k p.1):=by simp[eA]
  simp only[findKey,h.1.1,b,c];exact PL h.2 a.2 _
theorem RO.ae8(U:aj A H ts)(h:∀H' q,aj A H' (tI q []::ts)->RO ac c l s (bC L d (.map q)) H'):RO ac c (⟨d,.jK,none,[],[]⟩::l) s L H:=RO.jK (h _ _ (U.push (fp:=[H.next]) (bm.new H _) ⟨aep.2 rfl,λj hj=>aep.1 hj,⟨[],0,by rw[ai.dJ,aK rfl],rfl⟩,alD,by rw[ai.nK];omega⟩ (uU H)))
theorem RO.ae9(U:aj A H ts)(i:Nat){x w:aJ}(k:z∉pl.map alO)(h:∀H',aj A H' (ts.set i (tI q (pl++[(z,y)])))->RO ac c l s (bC L d .alR) H')(hi:ts[i]?=some (tI q pl):=by rfl)(o:bf L x=.map q:=by exact cw){m:aJ}(p:bf L m=.int 3 z:=by exact cw)(r:bf L w=.int 3 y:=by exact cw):RO ac c (⟨d,.jy .int x m w,none,[],[]⟩::l) s L H:=by
 obtain⟨⟨es,cc,he,n⟩,t,g⟩:=U.Fe i hi;refine RO.op (λaa f=>?_) (h (H.set q (.map (es++[⟨.int 3 z,.int 3 y,cc⟩]) (cc+1))) (U.uh (q:=q) i hi rfl (λj hj=>by rw[ai.aF,aq hj]) (λB u=>u.1) ⟨aep.2 rfl,λj hj=>aep.1 hj,⟨_,_,by rw[ai.aF,aK rfl],by simp[n,aT.kv,ik]⟩,?_,by rw[ai.gD];exact g⟩));·simp only[aE,jA,aku,aes,bP,f.gv o rfl,f.gv p rfl,f.gv r rfl,he,PL n k 0]
 simp only[akE,aj7,ali];rw[akI];exact⟨t,aB,λa v b hb=>by simp only[aep]at hb;subst hb;exact λe=>k (e▸v)⟩
theorem PM:∀{es:List aT}{pl:List (Int×Int)},es.map aT.kv=pl.map ik->lA.go es=some pl/\jR es=some (pl.map alO)|[],[],_=>⟨rfl,rfl⟩|[],_::_,h=>by grind|_::_,[],h=>by grind|e::es,p::pl,h=>by simp only[aj7,akn,aT.kv,ik,aj1]at h;obtain⟨h1,h2⟩:=PM h.2;simp[h,h1,h2,lA.go,jR,aj7,and_self]
theorem aj.uf(U:aj A H ts)(i:Nat)(hi:ts[i]?=some (tI q pl):=by rfl):lA H q=some pl/\jT H q=some (pl.map alO):=by obtain⟨⟨es,cc,he,a⟩,b,c⟩:=U.Fe i hi;obtain⟨h1,h2⟩:=PM a;simp[he,h1,h2,b,lA,jT,eS,xL,bq,and_self]
theorem PN:∀{es:List aT}{ks:List Int},es.map aT.kv=ks.map sk->uN es=some ks/\jR es=some ks|[],[],_=>⟨rfl,rfl⟩|[],_::_,h=>by grind|_::_,[],h=>by grind|e::es,p::pl,h=>by simp only[aj7,akn,aT.kv,sk,aj1]at h;obtain⟨h1,h2⟩:=PN h.2;simp[h,h1,h2,uN,jR,and_self]
theorem yV{ks:List Int}(h:ib (H.get q) ks):jS H q=some ks/\jT H q=some ks:=by obtain⟨a,es,he,b⟩:=h;obtain⟨h1,h2⟩:=PN b;simp[he,h1,h2,a,jS,jT,xL,bq,and_self]
theorem PO{k:Int}:∀{es:List aT}{ks:List Int},es.map aT.kv=ks.map sk->ks.Nodup->∀i0,findKey .int (.int 3 k) es i0=some none/\k∉ks\/∃i,findKey .int (.int 3 k) es i0=some (some (i0+i,.bool true))/\∃a:List Int,(pN es i).map aT.kv=a.map sk/\a.Nodup/\∀x,x∈a↔x∈ks/\x≠k
 |[],[],_,_,_=>.inl ⟨rfl,aB⟩
 |[],_::_,h,_,_=>by grind
 |_::_,[],h,_,_=>by grind
 |e::es,x::ks,h,j,i0=>by
  simp only[aj7,akn,aT.kv,sk,aj1]at h;obtain⟨⟨h1,h2⟩,h3⟩:=h;obtain⟨m,c⟩:=akz.1 j;have d:eA 64 .int (.int 3 k) (.int 3 x)=some (iQ k x):=by simp[eA]
  by_cases b:k=x
  .subst b;refine .inr ⟨0,?_,ks,by trivial,c,λy=>?_⟩;·simp[h1,d,h2,findKey,fQ,beq_self_eq_true,alG]
   grind
  have l:iQ k x=false:=by rw[fQ];simpa using b
  rcases PO (k:=k) h3 c (i0+1)with⟨f,g⟩|⟨i,f,a,g,n,o⟩;·simp[b,g,h1,d,l,f,findKey]
  refine .inr ⟨i+1,?_,x::a,?_,?_,λy=>?_⟩;all_goals grind[findKey,pN,aT.kv,sk,akz]
theorem RO.afa(U:aj A H ts)(i:Nat){x y:aJ}(h:∀H',aj A H' (ts.set i (tM true q λx=>S x/\x≠z))->RO ac c l s (bC L d .alR) H')(hi:ts[i]?=some (tM true q S):=by rfl)(p:bf L x=.map q:=by exact cw)(r:bf L y=.int 3 z:=by exact cw):RO ac c (⟨d,.delete .int x y,none,[],[]⟩::l) s L H:=by
 obtain⟨⟨ks,hs,k⟩,he,f⟩:=U.nf i hi;obtain⟨es,cc,e⟩:=he rfl;obtain⟨t,C,b,u⟩:=hs;rw[e]at b;simp only[eS,adG]at b;subst b;rcases PO (k:=z) u t 0 with⟨g,m⟩|⟨j,g,o,m,v,w⟩
 .refine RO.op (λaa a=>?_) (h (H.set q (.map es cc)) (U.uh (q:=q) i hi rfl (λj hj=>by rw[ai.aF,aq hj]) (λB n=>n.1) ⟨aep.2 rfl,λj hj=>aep.1 hj,⟨ks,by rw[ai.aF,aK rfl];exact⟨t,es,rfl,u⟩,λx=>?_⟩,λ_=>⟨es,cc,by rw[ai.aF,aK rfl]⟩,by rw[ai.gD];exact f⟩));·simp only[aE,jA,aku,aes,bP,a.gv p rfl,a.gv r rfl,e,g]
  rw[k];exact⟨λh=>⟨h,λe=>m (by rw[<-e,k];exact h)⟩,λh=>h.1⟩
 rw[akh]at g;refine RO.op (λaa a=>?_) (h (H.set q (.map (pN es j) cc)) (U.uh (q:=q) i hi rfl (λj hj=>by rw[ai.aF,aq hj]) (λB n=>n.1) ⟨aep.2 rfl,λj hj=>aep.1 hj,⟨o,by rw[ai.aF,aK rfl];exact⟨v,_,rfl,m⟩,λx=>?_⟩,λ_=>⟨_,cc,by rw[ai.aF,aK rfl]⟩,by rw[ai.gD];exact f⟩));·simp only[aE,jA,aku,aes,bP,a.gv p rfl,a.gv r rfl,e,g]
 rw[w,k]
def CV(cQ:List ab):Kn->Kn->Prop
 |[],_=>True
 |(p,v)::l,m=>zY p cQ=false/\lk m p=v/\CV cQ l m
theorem CV.le{cQ:List ab}{aa:ap AV}(b:Le L aa):∀{M:Kn},CV cQ M L->Le M (kL aa cQ)|[],_=>λp v h=>.inl h.symm|(q,w)::M,h=>λp v a=>by simp only[lk]at a;cases hb:ab.beq q p with|true=>rw[hb]at a;obtain rfl:=ab.ip.1 hb;rw[B0,aq λc=>by have h0:=h.1;grind[HI]];exact b q v (h.2.1.trans a)|false=>rw[hb]at a;exact CV.le b h.2.2 p v a
theorem Ru.ez{t:Nat}{g:ap AV->ai->Option (ap AV×ai)}{cQ:List ab}{M:Kn}{H':ai}(b:ac t=.ez g)(hg:∀aa,Le L aa->g aa H=some (kL aa cQ,H'))(h:Ru ac c s M H')(hl:CV cQ M L:=by repeat'(first|exact trivial|refine⟨rfl,rfl,?_⟩)):Ru ac c (.code (.ez t)::s) L H:=λaa a=>by refine⟨1,?_⟩;simp only[Xc,exec,b,hg aa a];exact h _ (hl.le a)
end
end
end Go.am
namespace Go.am.R
section
variable{ac:Nat->aG}
section
theorem PP{g:G.bu}{o:List bV}(b:∀j(hj:o.length - 1 - j<o.length),j<o.length->o[o.length - 1 - j].2≠0):oD g o=none:=by
 unfold oD;rw[List.find?_eq_none.2];·rfl
 intro x a;obtain⟨i,hi,rfl⟩:=aka (List.mem_reverse.1 a);have:=b (o.length - 1 - i) af af;simp only[show o.length - 1 - (o.length - 1 - i)=i by omega]at this;simpa using this
theorem PQ{g:G.bu}{o:List bV}{k:Nat}(b:o.length - 1 - k<o.length)(a:k<o.length)(e:∀j(hj:o.length - 1 - j<o.length),j<k->o[o.length - 1 - j].2≠0)(h0:o[o.length - 1 - k].2=0):oD g o=some ((aH g o[o.length - 1 - k].1.toNat).aA.go.getD 1 default).block:=by
 unfold oD;rw[(List.find?_eq_some_iff_getElem (b:=o[o.length - 1 - k])).2];·rfl
 refine⟨by simpa using h0,k,by simpa using a,by rw[List.getElem_reverse],λj hj=>?_⟩;rw[List.getElem_reverse];simpa using e j af hj
abbrev OpR:bV->List AV->Prop:=λo cs=>cs=[aI o.1,aU o.2]
section
variable{g:G.bu}{f h:AV}{c:ab}{H:ai}{come:List Bool}{os:List (List bV)}{d:List AV}
theorem afc(T:Tb ac)(hB:G.Sm g)(hE:jm g)(o:GX g H c f h come os d)(D:cX g come os){b:Nat}(hb:come.getD b false=true){K:KT}(a9:∀H',bm H H'->K (match oD g (os.getD b [])with|some t=>.tuple [aI t,.bool true]|none=>.tuple [aI (-1),.bool false]) H'):YN ac Xr [.az c 0,aN b] H K:=by
 have av:=hB.nb;have I:=D.lt hb;have p:b<os.length:=by rw[D.ol];exact I
 have⟨Y,J⟩:=hE.jY (D.dO b hb);have L:os.getD b []=os[b]:=bF p _;rw[L]at a9 Y J;have hs:=o.kS.bH b p;have⟨M,N,O,aw⟩:=hs.all;have s:=o.kS.lt;have P:=o.kS.aH;obtain⟨ov,Q,u⟩:=o.kS.jY;have⟨ax,_,_,_⟩:=u.all;have⟨ay,_,_,_⟩:=o.bl.all;refine YF.code T.acl aB ?_;refine au ?_;refine RO.dL (aj.dc H) λH1 z U=>?_;refine RO.gI U λH2 A U=>?_;refine RO.gI U λH3 B U=>?_;refine ah ?_;refine RO.aW ?_ (v:=ov) (hc:=by rw[U.gr.bh s];exact Q);refine ah ?_;refine RO.vu U.gr u (λq8 o8 a0 _=>?_) (j:=b);refine ah ?_;refine RO.cl (Fc T.acG bA M N O λH4 q hl=>?_);have U:=U.fC hl;refine ah ?_;refine Ru.wk (L:=[(bk,.func XK [] [.az q 0]),(p2,.az z 0),(p4,.az A 0),(p5,.az B 0)]) ?_;have U:aj H H4 ([tB Ij q [d.getD b .co]]++[tB 4 B [.bool false],tB 3 A [aI 0],tB mE z [.az c 0]]++[]):=U;refine Ru.pG (J:=λk ts=>ts=[tB 4 B [.bool false],tB 3 A [aI 0],tB mE z [.az c 0]]/\∀j(hj:os[b].length - 1 - j<os[b].length),j<k->os[b][os[b].length - 1 - j].2≠0) (Dn:=λj ts=>j=.ret/\∃t,oD g os[b]=some t/\ts=[tB 4 B [.bool true],tB 3 A [aI t],tB mE z [.az c 0]]) U (Fb (R:=OpR) (agg:=true) (size:=2) (la:=os[b]) (sv:=d.getD b .co) (e:=Ij) (nt:=19) T.acV bA af (λa9=>by cases a9) (λa cs a9=>by cases a9;rfl)) (λH2 hg=>mh.r ((U.gr.trans hg).sl hs)) ⟨rfl,λj _ hj=>absurd hj af⟩ (λk args ws a9=>by obtain⟨_,_,_,_,rfl⟩:=a9;rfl) (λk ts us H' C U=>mh.r (U.gr.sl hs)) (λk args ws ts us l o1 o2 H' hk R C U=>?_) (λH' S E C U=>?_) (λj H' S E hj hD U=>?_)
 .obtain⟨rfl,v,cs,V,rfl⟩:=R;obtain⟨rfl,eZ⟩:=C;have W:=agB v;generalize i:os[b][os[b].length - 1 - k]=oo at*;obtain⟨Z,m⟩:=oo;subst V;refine ah ?_;refine RO.fx U λH5 q7 U=>?_;refine ah ?_;refine Ru.dN (xs:=[_,_,_,_]) U λH6 U=>?_;refine ah ?_;refine Ru.cond (λ(h0:m=0)=>?_) (λ(h0:¬m=0)=>?_)
  .obtain⟨g1,g2,F⟩:=Y.ok _ W;simp only at g1 g2 F;obtain⟨t,rfl⟩:∃t:Nat,Z=(t:Int):=⟨Z.toNat,af⟩;rw[aj3]at F;have w:t<g.al.length:=af;have g4:g.al[t].aA.go.length=3:=by rw[<-F,bF w]
   refine ah ?_;refine RO.aW ?_ (v:=f) (hc:=by rw[U.gr.bh s];exact P);refine ah ?_;refine RO.cZ U.gr o.bl (λq9 o9 c9 a1 X a2 hat _=>?_) (j:=t);obtain⟨vp,vs,jc,rfl,_,_,va,vk,vg,rfl,_,_,x⟩:=X;have⟨a3,_,_,_⟩:=x.all;refine ah ?_;refine RO.aW (v:=vg) ?_ (hc:=hat 6 _ rfl);refine RO.cZ U.gr x (λa4 a5 a6 ag y ar n _=>?_) (j:=1) (hj:=by omega);obtain⟨ve,rfl,_⟩:=y;refine ah ?_;refine RO.aW ?_ (hc:=n 0 _ rfl);refine RO.gG U 2 (λH7 U=>?_);refine RO.gG U 1 (λH8 U=>?_);refine ah ?_;have U:=U.tail (t:=tB Ii q7 [aN t,aU m]);refine Ru.OL (ts:=[_,_,_]) U ⟨rfl,_,PQ v hk eZ (by rw[i];exact h0),?_⟩;rw[i];simp only[aH,aj3,bF w];rw[bF af];rfl
  refine ah ?_;refine Ru.bG (ts:=[_,_,_]) U.tail ⟨rfl,λj hj a8=>?_⟩;by_cases e:j=k;·subst e;rw[i];exact h0
  exact eZ j hj af
 .obtain⟨rfl,eZ⟩:=C;refine ah ?_;refine RO.gG U 1 (λH5 U=>?_);refine RO.gG U 0 (λH6 U=>?_);refine ah ?_;rw[PP eZ]at a9;refine Ru.mI (M:=[E]) (ts:=[_,_,_]) (U.cM (akj (l₁:=[_,_,_]))) λH' U=>⟨[aI (-1),.bool false],⟨⟨_,_,rfl,U.one 1⟩,⟨_,_,rfl,U.one 0⟩,trivial⟩,a9 H' U.gr⟩
 obtain⟨rfl,t,ht,rfl⟩:=hD;rw[ht]at a9;exact RJ.wp (RJ.mI (M:=[E]) (ts:=[_,_,_]) (.inr rfl) (U.cM (akj (l₁:=[_,_,_]))) λH' U=>⟨[aI t,.bool true],⟨⟨_,_,rfl,U.one 1⟩,⟨_,_,rfl,U.one 0⟩,trivial⟩,a9 H' U.gr⟩)
structure Vd(g:G.bu):Prop where
 sm:G.Sm g
 fm:I7 g g.bp.toNat
 jx:uc g=false
 dO:jm g
 gv:vC g
 sG:∀come os,cX g come os->yT g come os
theorem Vd.qA(V:Vd g):∀b∈g.al,∀p∈dC b,0<=p.1/\p.1<g.bp:=λb hb p a=>by have:=V.gv.qA b hb p a;have:=V.gv.p0;omega
theorem PR(T:Tb ac)(V:Vd g){cs:List AV}(hg:iG H g cs){K:KT}(o:∀H' c f h come os d,bm H H'->GX g H' c f h come os d->cX g come os->K (.tuple [.az c 0,aI 0]) H'):YN ac W8 [.agg cs] H K:=by have n:=hg.one;have i:=V.jx;obtain⟨a,rfl,cA⟩:=hg;refine YF.code T.ab1 aB ?_;refine au ?_;refine RO.dL (aj.dc H) λH1 q U=>?_;refine ah ?_;refine RO.eQ U 0 ?_;refine RO.cl (aei T (cs:=[.str g.name,aI g.params,aI g.bp,a]) ⟨a,rfl,dQ.block.jU U.gr cA⟩ V.sm λs j=>?_);have U:=U.cI j;rw[i];refine ah ?_;refine RO.eQ U 0 ?_;refine RO.cl (aeb T (cs:=[.str g.name,aI g.params,aI g.bp,a]) V.fm V.sm ⟨a,rfl,dQ.block.jU U.gr cA⟩ λt k=>?_);have U:=U.cI k;refine ah ?_;refine RO.eQ U 0 ?_;refine RO.cl (aeC T V.sm V.dO V.fm.ne (cs:=[.str g.name,aI g.params,aI g.bp,a]) ⟨a,rfl,dQ.block.jU U.gr cA⟩ λu c f h come os d l m b=>?_);refine ah ?_;have p:=V.fm.fv;refine RO.cl (aeY T V.sm V.dO m b (V.sG come os b) V.gv.v0 p.h2 V.qA λr e=>?_);refine ah ?_;exact Ru.tk (o r c f h come os d ((U.gr.trans l).trans e) (m.cI e) b)
theorem afd(T:Tb ac)(V:Vd g){cs:List AV}(hg:iG H g cs){fv:AV}(m:fv.bB=true){K:KT}(k:∀H' c f h come os d,bm H H'->GX g H' c f h come os d->cX g come os->YF ac fv [.az c 0] H' λv b=>v.bB=true/\K (.tuple [v,aI 0]) b):YN ac WS [.agg cs,fv] H K:=by have j:=hg.one;obtain⟨a,rfl,cA⟩:=hg;refine YF.code T.abH aB ?_;refine au ?_;refine RO.dL (aj.dc H) λH1 q U=>?_;refine ah ?_;refine RO.eQ U 0 ?_;refine RO.cl (PR T V (cs:=[.str g.name,aI g.params,aI g.bp,a]) ⟨a,rfl,dQ.block.jU U.gr cA⟩ λb c f h come os d e l i=>?_);refine ah ?_;refine RO.cl ((k b c f h come os d (U.gr.trans e) l i).mono λv o p=>?_);obtain⟨n,p⟩:=p;refine ah ?_;exact Ru.tk p
theorem afe(T:Tb ac)(V:Vd g){cs:List AV}(hg:iG H g cs){fv:AV}(m:fv.bB=true){K:KT}(k:∀H' c f h come os d,bm H H'->GX g H' c f h come os d->cX g come os->YF ac fv [.az c 0] H' λv b=>v.bB=true/\K (.tuple [v,aI 0]) b):YN ac WU [.agg cs,fv] H K:=by have j:=hg.one;obtain⟨a,rfl,cA⟩:=hg;refine YF.code T.abJ aB ?_;refine au ?_;refine RO.dL (aj.dc H) λH1 q U=>?_;refine ah ?_;refine RO.eQ U 0 ?_;refine RO.cl (PR T V (cs:=[.str g.name,aI g.params,aI g.bp,a]) ⟨a,rfl,dQ.block.jU U.gr cA⟩ λb c f h come os d e l i=>?_);refine ah ?_;refine RO.cl ((k b c f h come os d (U.gr.trans e) l i).mono λv o p=>?_);obtain⟨n,p⟩:=p;refine ah ?_;exact Ru.tk p
theorem aff(T:Tb ac)(V:Vd g){cs:List AV}(hg:iG H g cs){K:KT}(k:∀H' v come os ak,cX g come os->e9 g come os ak->aj H H' [tS 3 1 (ak.map aN) ak.length true v]->K (.tuple [v,aI 0]) H'):YN ac WG [.agg cs] H K:=by have j:=hg.one;obtain⟨a,rfl,cA⟩:=hg;refine YF.code T.abr aB ?_;refine au ?_;refine RO.dL (aj.dc H) λH1 q U=>?_;refine ah ?_;refine RO.eQ U 0 ?_;refine RO.cl (afd T V (cs:=[.str g.name,aI g.params,aI g.bp,a]) ⟨a,rfl,dQ.block.jU U.gr cA⟩ rfl λo c f h come os d e l b=>Jq T V.sm V.dO l b λm v ak n hl=>?_);have⟨i,_,_,_⟩:=(hl.sl (e:=3) (size:=1) (sv:=v) (vs:=ak.map aN) (n:=ak.length) (full:=true) 0).all;refine⟨i,?_⟩;refine ah ?_;exact Ru.tk (k m v come os ak b n (hl.Nz (U.gr.trans e)))
end
end
section
def lP(h:ab)(n:Nat)(vs:List AV)(ids:Nat->ab)(ak:List Nat)(S:Nat->Int->Prop):List Th:=tS NF 1 vs n true (.slice h 0 n n true)::ak.map λb=>tM false (ids b) (S b)
structure AZ(n:Nat)(vs:List AV)(ids:Nat->ab)(ak:List Nat):Prop where
 len:vs.length=n
 nd:ak.Nodup
 bH:∀b∈ak,b<n/\vs.getD b .co=.map (ids b)
def fh(S:Nat->Int->Prop)(b:Nat)(P:Int->Prop):Nat->Int->Prop:=λx=>if x=b then P else S x
section
variable{n:Nat}{vs:List AV}{ids:Nat->ab}{ak:List Nat}{S:Nat->Int->Prop}{P:Int->Prop}{h:ab}{b:Nat}{xs us:List Th}
theorem afj{l:List Nat}(a:l.Nodup){i b:Nat}(hi:i<l.length)(hb:b∈l):l.idxOf b=i↔l[i]=b:=by grind
theorem afk(a:ak.Nodup)(hb:b∈ak):(lP h n vs ids ak S).set (ak.idxOf b+1) (tM false (ids b) P)=lP h n vs ids ak (fh S b P):=by simp only[lP,List.set_cons_succ];congr 1;apply alg aB;intro i h1 h2;rw[akg]at h2;rw[List.getElem_set,akN,akN];by_cases e:ak.idxOf b=i;all_goals simp_all[aK,afj,fh,aq]
theorem Fh(hb:b∈ak):(lP h n vs ids ak S)[ak.idxOf b+1]?=some (tM false (ids b) (S b)):=by simp[hb,List.idxOf_lt_length_of_mem,lP,ak6,aks,akP,List.getElem_idxOf,akt]
theorem rr{l m:List Th}{i:Nat}{t:Th}(a:l[i]?=some t):(xs++(l++m))[xs.length+i]?=some t:=by grind
theorem PW{l m:List Th}{i:Nat}{t:Th}(a:i<l.length):(xs++(l++m)).set (xs.length+i) t=xs++(l.set i t++m):=by grind
theorem afl(hb:b∈ak):ak.idxOf b+1<(lP h n vs ids ak S).length:=by simp[hb,List.idxOf_lt_length_of_mem,lP,akA,akg]
theorem JG{H:ai}{q:ab}{n j:Nat}{vs:List AV}{v:AV}(c:Sl H 1 vs n (.slice q 0 n n true))(hj:j<n)(a:vs.getD j .co=v):l6 H (.slice q 0 n n true) (.ofNat j)=some v:=by have hl:=c.length;obtain⟨i,o,cap,ex,e,_,_,b,_⟩:=c.at af;simp_all[l6,alN,akY,bq,bF]
end
theorem PX{pl:List (Int×Int)}{bH v:Int}(b:(pl.map alO).Nodup):fR.rY pl bH v=true↔∀i,(v,i)∈pl->bH<=i:=by
 induction pl with
 |nil=>simp[fR.rY]
 |cons a pl e=>
  obtain⟨k,g⟩:=a;simp only[aj7,akz]at b;simp only[fR.rY];by_cases c:v=k
  .subst c;rw[aK (by simp[fQ])];have f:(!lV g bH)=true↔bH<=g:=by rw[nG];simp
   grind
  simp[c,e,b,aq,fQ,aeV,absurd,aey]
def iv(s p d u pm h:ab)(n b:Nat)(pl:List (Int×Int))(w:Bool)(vs:List AV)(ids:Nat->ab)(ak:List Nat)(S:Nat->Int->Prop):List Th:=[tB 4 d [.bool w],tB 3 s [aN b],tB wB p [.slice h 0 n n true],tB Ek u [.map pm],tI pm pl]++lP h n vs ids ak S
abbrev eD(s p d u:ab):AV:=.func Iw [] [.az u 0,.az p 0,.az s 0,.az d 0]
section
variable{A H:ai}{n b:Nat}{vs:List AV}{ids:Nat->ab}{ak:List Nat}{S:Nat->Int->Prop}{s p d u pm h:ab}{pl:List (Int×Int)}{w:Bool}{us:List Th}
theorem tB.JH{H:ai}{q:ab}{e:Nat}{vs:List AV}{f:List ab}(a:(tB e q vs).P H f):∃c,H.get q=.cells c vs.length e true [] 0/\(∀j(a:j<vs.length),c.bw .alR j=vs[j])/\q.an<H.next.an:=a.2.2
theorem aj.mC(o:AZ n vs ids ak)(hb:b∈ak)(U:aj A H (iv s p d u pm h n b pl w vs ids ak S++us)){H2:ai}{ks:List Int}{c:ap AV}{nw2:Bool}{P:Int->Prop}(q:H.next.an<=H2.next.an)(hg:∀j,j≠ids b->j≠d->H2.get j=H.get j)(h1:ib (H2.get (ids b)) ks)(r:∀x,x∈ks↔P x)(h2:H2.get d=.cells c 1 4 true [] 0)(h3:c.bw .alR 0=.bool nw2):aj A H2 (iv s p d u pm h n b pl nw2 vs ids ak (fh S b P)++us):=by
 have hat:(iv s p d u pm h n b pl w vs ids ak S++us)[5+(ak.idxOf b+1)]?=some (tM false (ids b) (S b)):=by simp only[iv,aj2];exact rr (xs:=[_,_,_,_,_]) (Fh hb)
 obtain⟨_,_,g⟩:=U.nf _ hat;have i:d.an<H.next.an:=by obtain⟨_,a⟩:=U.get 0 rfl;obtain⟨_,_,_,_,_,v⟩:=a;exact v
 let f:ai:=H.set (ids b) (H2.get (ids b));have ga:∀j,f.get j=if j=ids b then H2.get (ids b)else H.get j:=λj=>ai.aF .. ;have e:aj A f ((iv s p d u pm h n b pl w vs ids ak S++us).set (5+(ak.idxOf b+1)) (tM false (ids b) P)):=by refine U.uh (q:=ids b) _ hat rfl (λj hj=>by rw[ga,aq hj]) (λt a=>a.1) ⟨aep.2 rfl,λj hj=>aep.1 hj,⟨ks,?_,r⟩,(λv=>by cases v),g⟩;rw[ga,aK rfl];exact h1
 have e1:(iv s p d u pm h n b pl w vs ids ak S++us).set (5+(ak.idxOf b+1)) (tM false (ids b) P)=iv s p d u pm h n b pl w vs ids ak (fh S b P)++us:=by simp only[iv,aj2];refine(PW (xs:=[_,_,_,_,_]) (afl hb)).trans ?_;rw[afk o.nd hb]
 rw[e1]at e;let l:ai:=f.set d (H2.get d);have m:∀j,l.get j=if j=d then H2.get d else f.get j:=λj=>ai.aF .. ;have k:aj A l (iv s p d u pm h n b pl nw2 vs ids ak (fh S b P)++us):=by
  refine e.uh (q:=d) 0 rfl (t':=tB 4 d [.bool nw2]) rfl (λj hj=>by rw[m,aq hj]) (λt a=>a.1) ⟨aep.2 rfl,λj hj=>aep.1 hj,c,?_,λj hj=>?_,i⟩;·rw[m,aK rfl];exact h2
  simp only[akC]at hj;obtain rfl:j=0:=af;exact h3
 refine k.cI ⟨q,λj _=>?_⟩;grind
theorem afm(T:Tb ac)(D:AZ n vs ids ak)(hb:b∈ak)(U:aj A H (iv s p d u pm h n b pl w vs ids ak S++us)){v bH:Int}{K:KT}(E:∀r H' P g,(∀x,P x↔S b x\/x=v/\∀Y,(v,Y)∈pl->bH<=Y)->(g=true↔w=true\/∃x,P x/\¬S b x)->aj A H' (iv s p d u pm h n b pl g vs ids ak (fh S b P)++us)->K r H'):YF ac (eD s p d u) [aI v,aI bH] H K:=by
 have hat:(iv s p d u pm h n b pl w vs ids ak S++us)[5+(ak.idxOf b+1)]?=some (tM false (ids b) (S b)):=by simp only[iv,aj2];exact rr (xs:=[_,_,_,_,_]) (Fh hb)
 obtain⟨⟨ks,l,f⟩,_,V⟩:=U.nf _ hat;obtain⟨⟨_,_,_,_⟩,m,_⟩:=U.Fe 4 rfl;obtain⟨o,t⟩:=U.uf 4 rfl;obtain⟨y,z⟩:=D.bH b hb;have j:∀(i:Nat){e:Nat}{q:ab}{v:AV},(iv s p d u pm h n b pl w vs ids ak S++us)[i]?=some (tB e q [v])->pq H (.az q 0)=some v:=λi _ _ _ hi=>by obtain⟨_,F⟩:=U.get i hi;exact tB.cell F rfl
 obtain⟨W,B⟩:=U.get 0 rfl;obtain⟨c,G,I,_⟩:=tB.JH B;refine⟨80,M9 (pm:=pm) (s2:=.slice h 0 n n true) (kb:=3) (b:=.ofNat b) (N:=ids b) (ks:=ks) (q:=w) (fz:=0) T.aci T.acj (j 3 rfl) (j 2 rfl) (j 1 rfl) o t (JG (U.sl 5) y z) G (Nat.zero_le _) aB (I 0 aB) l λr J C c2 L M N k O _ Q _=>?_⟩;have a:=PX (bH:=bH) (v:=v) m;refine E r J (λx=>x∈C) _ (λx=>?_) ?_ (aj.mC D hb U (by rw[L];exact afb _) M N (λx=>Iff.rfl) O Q);·rw[k,f,a]
 rw[alf,aj6,a,akU];have R:iA v ks=false↔¬S b v:=by rw[<-f,<-ta];simp
 rw[R];constructor
 .rintro(X|⟨h1,h2⟩);·exact .inl X
  exact .inr ⟨v,(k v).2 (.inr ⟨rfl,a.2 h1⟩),h2⟩
 rintro(X|⟨x,h1,h2⟩);·exact .inl X
 rcases(k x).1 h1 with X|⟨rfl,X⟩;·exact absurd ((f x).1 X) h2
 exact .inr ⟨a.1 X,h2⟩
theorem wU{i j:ab}(a:i≠j):ab.beq i j=false:=by grind[ab.beq,absurd,ab.ip]
theorem afn{H:ai}{i q:ab}{o:Nat}{v:AV}(b:i≠q)(a:bh H i o=some v):mB H q (.az i o)=some v:=by simp[b,a,mB,wU,aes,bP]
theorem PY(y:AZ n vs ids ak)(hb:b∈ak){to:Nat}(g:to∈ak){a:ab}(U:aj A H (tB nP a [eD s p d u]::(iv s p d u pm h n b pl w vs ids ak S++us))){bH:Int}{tos:Nat}{cQ:List ab}:∃H' P m,(∀aa k,aa.get .alR (sl 11)=.az a 0->aa.get .alR (sl 5)=.az p 0->aa.get .alR (sl tos)=aN to->k d=some bH->zZ Iw k tos cQ aa H=some (kL aa cQ,H'))/\(∀x,P x↔S b x\/S to x/\∀ar,(x,ar)∈pl->bH<=ar)/\(m=true↔w=true\/∃x,P x/\¬S b x)/\aj A H' (tB nP a [eD s p d u]::(iv s p d u pm h n b pl m vs ids ak (fh S b P)++us)):=by
 have hat:∀x,x∈ak->(tB nP a [eD s p d u]::(iv s p d u pm h n b pl w vs ids ak S++us))[6+(ak.idxOf x+1)]?=some (tM false (ids x) (S x)):=λx l=>by simp only[iv,aj2];exact rr (xs:=[_,_,_,_,_,_]) (Fh l)
 obtain⟨⟨t0,o,r⟩,_,_⟩:=U.nf _ (hat b hb);obtain⟨⟨ks,z,B⟩,_,_⟩:=U.nf _ (hat to g);obtain⟨_,C,_⟩:=U.Fe 5 rfl;obtain⟨D,E⟩:=U.uf 5 rfl;obtain⟨F,G⟩:=y.bH b hb;obtain⟨I,J⟩:=y.bH to g;obtain⟨k1,Z⟩:=yV z;obtain⟨s1,s2⟩:=yV o;have X:∀(i:Nat){e:Nat}{q:ab}{v:AV},(tB nP a [eD s p d u]::(iv s p d u pm h n b pl w vs ids ak S++us))[i]?=some (tB e q [v])->bh H q 0=some v:=λi _ _ _ hi=>by obtain⟨_,hp⟩:=U.get i hi;exact tB.cell hp rfl
 have l:∀(i:Nat){e:Nat}{q:ab}{v:AV},(tB nP a [eD s p d u]::(iv s p d u pm h n b pl w vs ids ak S++us))[i]?=some (tB e q [v])->i≠1->mB H d (.az q 0)=some v:=λi _ _ _ hi K=>afn (U.ne i 1 hi rfl K (λf ag=>ag.1) (λf ag=>ag.1)) (X i hi);have L:h≠d:=U.ne 6 1 rfl rfl af (λf ag=>tS.wT ag) (λf ag=>ag.1);have M:pm≠ids b:=U.ne 5 _ rfl (hat b hb) af (λf ag=>ag.1) (λf ag=>ag.1);have N:ids to≠pm:=U.ne _ 5 (hat to g) rfl af (λf ag=>ag.1) (λf ag=>ag.1);have O:ids b≠d:=U.ne _ 1 (hat b hb) rfl af (λf ag=>ag.1) (λf ag=>ag.1);have he:∀x,x<n->∀v,vs.getD x .co=v->uR H d (.slice h 0 n n true) (.ofNat x)=some v:=λx h1 v h2=>by simp only[uR,wU L,aes,bP];exact JG (U.sl 6) h1 h2
 obtain⟨f6,Q⟩:=U.get 1 rfl;obtain⟨c,h6,h7,_⟩:=tB.JH Q;have R:c.bw .alR 0=.bool w:=h7 0 aB;have Y:([AV.bool w]:List AV).length=1:=rfl;refine⟨((H.set (ids b) (.dI (eG (gT (fR pl bH ks) t0)))).set d (.cells (fX c 0 [.bool (w||mA t0 (fR pl bH ks))]) 1 4 true [] 0)).skip,λx=>x∈gT (fR pl bH ks) t0,w||mA t0 (fR pl bH ks),λaa k T e5 et ea=>?_,λx=>?_,?_,?_⟩;·unfold zZ;rw[T,e5,et];have V:pq H (.az a 0)=some (.func Iw [] [.az u 0,.az p 0,.az s 0,.az d 0]):=X 0 rfl;rw[V];simp only[ald,bq,l 3 rfl aB,l 0 rfl aB,l 4 rfl aB,l 2 rfl aB,ea,he to I _ J,he b F _ G,h6,wU M,wU N,Z,D,E,s1,R];rfl
 .simp[r,B,C,gT,fR,oQ,B6,PX,or_comm]
 .rw[alf,Hz];constructor
  .rintro(ag|⟨x,h1,h2⟩);·grind
   exact .inr ⟨x,(oQ ..).2 (.inl h1),λag=>h2 ((r x).2 ag)⟩
  rintro(ag|⟨x,h1,h2⟩);all_goals grind[oQ,absurd]
 have W:aj A H (iv s p d u pm h n b pl w vs ids ak S++(us++[tB nP a [eD s p d u]])):=by rw[<-aj2];exact U.cM (akH (l₁:=[_]))
 have t:=aj.mC (c:=fX c 0 [.bool (w||mA t0 (fR pl bH ks))]) (nw2:=w||mA t0 (fR pl bH ks)) (P:=λx=>x∈gT (fR pl bH ks) t0) (ks:=gT (fR pl bH ks) t0) (H2:=((H.set (ids b) (.dI (eG (gT (fR pl bH ks) t0)))).set d (.cells (fX c 0 [.bool (w||mA t0 (fR pl bH ks))]) 1 4 true [] 0)).skip) y hb W (by show H.next.an<=H.next.succ.an;rw[ab.gK];omega) (λj h1 h2=>by show((H.set (ids b) _).set d _).get j=_;rw[ai.aF,aq h2,ai.aF,aq h1]) (by show ib (((H.set (ids b) _).set d _).get (ids b)) _;rw[ai.aF,aq O,ai.aF,aK rfl];exact wc (qK _ o.1)) (λx=>Iff.rfl) (by show((H.set (ids b) _).set d _).get d=_;rw[ai.aF,aK rfl]) (by rw[nD];simp);rw[<-aj2]at t;exact t.cM (akH (l₂:=[_]))
end
end
end
end Go.am.R
end
