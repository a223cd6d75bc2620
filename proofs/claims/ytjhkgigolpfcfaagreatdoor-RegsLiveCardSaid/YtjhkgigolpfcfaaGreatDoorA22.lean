/- A part of the proof. No conditions. -/
import Derived.Test.YtjhkgigolpfcfaaGreatDoorA21
set_option linter.all false
set_option maxHeartbeats 16000000
open Option.some renaming injEq->adG
open List renaming mem_singleton->aep,mem_cons_of_mem->aey,mem_cons_self->aeU,replicate->ahr,range->ake,length_map->akg,getElem?_append_left->akw,length_singleton->akC,length_take->akF,nodup_append->akI,range_succ->alb
open Nat renaming le_of_ble_eq_true->akc,le_trans->alj
noncomputable section
namespace Go.am.R
section
variable{ac:Nat->aG}
section
def ZO:ai->List Bool->List AV->Prop:=λH l cs=>∃v,cs=[v]/\Sl H 1 (l.map .bool) l.length v
abbrev IR(H:ai)(m:List (List Bool))(v:AV):Prop:=dV 1 ZO H m v
abbrev bS(l:List Bool)(v:Nat):Prop:=l.getD v false=true
structure me(nb n:Nat)(m:List (List Bool)):Prop where
 len:m.length=nb
 row:∀b,b<nb->(m.getD b []).length=n
def mY(g:G.bu)(aC:List (List Int))(m:List (List Bool))(b v:Nat):Prop:=∃w∈lu g b (aC.getD b []),bS (m.getD w.1.toNat []) v
def mZ(g:G.bu)(aC:List (List Int))(m:List (List Bool))(b v:Nat):Prop:=∃t,ig g (aC.getD b [])=some t/\bS (m.getD t.toNat []) v
theorem ZP{g:G.bu}(a:G.Sm g){b:Nat}(hb:b<g.al.length){o:List Int}:(lu g b o).length<=12:=by
 have:=(a.bl _ (agB hb)).2.2.2.2.1;unfold lu;split;·simp
 split;·split<;>simp
 rw[akg,aH,bF hb];omega
theorem ZQ{g:G.bu}(b:mL g){o:List Int}(c:wX g o){t:Int}(h:ig g o=some t):1<=t/\t<=(g.al.length:Int) - 1:=by unfold ig at h;cases a:o.reverse.find? λx=>x % 2==0 with|none=>rw[a]at h;cases h|some x=>rw[a]at h;simp only[akt,adG]at h;have d:=List.mem_reverse.1 (List.mem_of_find?_eq_some a);obtain⟨_,h2,h3⟩:=c x d;subst h;rw[bF af];exact b.rg _ h2 _ (agB _)
theorem m9{l:List Bool}{k v:Nat}{b:Bool}(a:k<l.length):bS (l.set k b) v↔if v=k then b=true else bS l v:=by unfold bS;rw[fu a];split<;>rfl
section
variable{g:G.bu}{H:ai}{cs:List AV}
theorem O4(T:Tb ac)(hg:iG H g cs)(hB:G.Sm g)(hS:mL g){n:Nat}(hn:g.bp=n)(cd:n<=6000){M N o iv:AV}(a6:M.ee=true)(a8:o.ee=true){aC:List (List Int)}(O:CX H aC N)(cf:aC.length=g.al.length){m:List (List Bool)}(P:IR H m iv)(X:me g.al.length n m){b:Nat}(hb:b<g.al.length)(ag:(aC.getD b []).length<=1000)(hO:wX g (aC.getD b [])){K:KT}(h:∀H' q vh a hr,a.length=n->hr.length=n->(∀v,v<n->(bS a v↔mY g aC m b v))->(∀v,v<n->(bS hr v↔mZ g aC m b v))->Sl H' 1 (hr.map .bool) n vh->aj H H' [tS 4 1 (a.map .bool) n true (.slice q 0 n n true)]->K (.tuple [.slice q 0 n n true,vh]) H'):YN ac Za [.agg cs,.agg [M,N,o],iv,aN b] H K:=by
 have b4:=hg.one;have y:=hg;obtain⟨Y,rfl,cA⟩:=hg;have⟨cn,_,_,b5⟩:=cA.all;have⟨cp,a9,_,cv⟩:=O.all;have⟨cx,_,_,cy⟩:=P.all;have cE:=hB.nb;refine YF.code T.Zp aB ?_;refine ah ?_;refine RO.dL (aj.dc H) λH1 Z U=>?_;refine ah ?_;refine RO.dL U (v:=.agg [M,N,o]) (λH2 q5 U=>?_) (ho:=ao a6 (ao a9 (ao a8 rfl)));have U:aj H H2 [tB Ap q5 [M,N,o],tB fI Z [.str g.name,aI g.params,aI g.bp,Y]]:=U;have y:∀{u},bm H u->iG u g [.str g.name,aI g.params,aN n,Y]:=λhg=>by have:=dQ.nM hg y;rw[hn]at this;exact this
 rw[hn]at U;refine ah ?_;refine RO.oT U (n:=n) (λH3 r U=>?_) (hz:=by rw[iZ];simp);rw[iZ]at U;refine ah ?_;obtain⟨_,a'⟩:=U.get 2 rfl;have ba:Z∉ [r]:=λh=>U.ne 2 0 rfl rfl af (λf h=>h.1) (λf h=>(dU.mem h).1) (aep.1 h);refine RO.wO (o:=2) (v:=aN n) (tB.cell a' rfl) ba (λHU g1 g2=>?_);have U:=U.bX g2 g1;refine RO.oT U (n:=n) (λH4 Q U=>?_) (hz:=by rw[iZ];simp);rw[iZ]at U;refine ah ?_;refine RO.eQ U 3 ?_;refine ah ?_;refine RO.cZ U.gr O (λq8 o8 c8 av d aw l E=>?_) (j:=b);rw[show aC[b]=aC.getD b []from(bF _ _).symm]at d;obtain⟨v8,rfl,k⟩:=d;have⟨F,_,_,I⟩:=k.all;refine RO.aW (v:=v8) ?_ (hc:=l 0 _ rfl);refine RO.cl (afE T (y U.gr) hB hb (hS.t3 b hb) (U.gr.sl k) ag hO λH5 wv vs Fw c3 hl=>?_);have U:=U.fC hl;have c5:=ZP hB hb (o:=aC.getD b []);have a3:=vE hS hb hO;have U:aj H H5 (tS nO 2 (rA (lu g b (aC.getD b [])) vs) (lu g b (aC.getD b [])).length true wv::tS 4 1 ((ahr n false).map .bool) n true (.slice Q 0 n n true)::tS 4 1 ((ahr n false).map .bool) n true (.slice r 0 n n true)::[tB Ap q5 [M,N,o],tB fI Z [.str g.name,aI g.params,aN n,Y]]):=by rw[alz];exact U.tail
 have R:=(U.sl (e:=nO) (size:=2) (sv:=wv) (full:=true) (vs:=rA (lu g b (aC.getD b [])) vs) (n:=(lu g b (aC.getD b [])).length) 0).all;have c9:=R.2.2.2;have R:=R.1;refine ah ?_;unfold mY at h;generalize c':lu g b (aC.getD b [])=w at*;refine Ru.nm λS1 M1 bb ax=>?_;refine Ru.cC ax (up (P:=λi=>∀u a,a.length=n->(∀v,v<n->(bS a v↔∃j,∃hj:j<w.length,j<i/\bS (m.getD w[j].1.toNat []) v))->aj H u (tS nO 2 (rA w vs) w.length true wv::tS 4 1 ((ahr n false).map .bool) n true (.slice Q 0 n n true)::tS 4 1 (a.map .bool) n true (.slice r 0 n n true)::[tB Ap q5 [M,N,o],tB fI Z [.str g.name,aI g.params,aN n,Y]])->Ru ac _ S1 ([(aX,aN i)]++pk M1 [p2,p3,p4,p5,aO,aR,aY]) u) w.length (λi hi ih u a S J U=>?_) 0 af _ (ahr n false) aB (λv hv=>by simp[bS,akm,ak8,hv]) U);subst bb;subst ax;refine Ru.loop ?_;refine ah ?_;refine Ru.cond (λs=>?_) (λs=>?_)
 .have ih:=ih (i+1) af af;obtain⟨⟨dm,dr⟩,_,_⟩:=a3 _ (agB s);obtain⟨V,ds⟩:=afJ (vs:=vs) s;rw[bF s]at V;obtain⟨t,ht⟩:∃t:Nat,w[i].1=t:=⟨w[i].1.toNat,af⟩;have bc:∀v,(∃j,∃hj:j<w.length,j<i+1/\bS (m.getD w[j].1.toNat []) v)↔(∃j,∃hj:j<w.length,j<i/\bS (m.getD w[j].1.toNat []) v)\/bS (m.getD t []) v:=λv=>by
   constructor
   .rintro⟨j,hj,h1,h2⟩;by_cases e:j=i;·subst e;rw[ht,aj3]at h2;exact .inr h2
    exact .inl ⟨j,hj,af,h2⟩
   rintro(⟨j,hj,h1,h2⟩|h2);·exact⟨j,hj,af,h2⟩
   exact⟨i,s,af,by rw[ht,aj3];exact h2⟩
  rw[ht]at V;have A:t<g.al.length:=af;have bd:=X.len;obtain⟨qw,cap,ex,rfl⟩:=U.uT (e:=nO) (size:=2) (n:=w.length) (full:=true) (sv:=wv) 0 rfl af;refine ah ?_;refine Ru.nm λS2 M2 bv ay=>?_;refine Ru.cC ay (up (P:=λx=>∀u o2,o2.length=n->(∀v,v<n->(bS o2 v↔bS a v\/v<x/\bS (m.getD t []) v))->aj H u (tS nO 2 (rA w vs) w.length true (.slice qw 0 w.length cap ex)::tS 4 1 ((ahr n false).map .bool) n true (.slice Q 0 n n true)::tS 4 1 (o2.map .bool) n true (.slice r 0 n n true)::[tB Ap q5 [M,N,o],tB fI Z [.str g.name,aI g.params,aN n,Y]])->Ru ac _ S2 ([(bi,aN x)]++pk M2 [p2,p3,p4,p5,aO,aR,aY,aX]) u) n (λx hx B u o2 c p U=>?_) 0 af _ a S (λv hv=>by simp) U);subst bv;subst ay;refine Ru.loop ?_;refine ah ?_;refine Ru.cond (λa4=>?_) (λa4=>?_)
  .have B:=B (x+1) af af;have C:=iD (l:=o2) (k:=x) c af;have aA:∀z:Bool,(z=true↔bS o2 x\/bS (m.getD t []) x)->∀v,v<n->(bS (o2.set x z) v↔bS a v\/v<x+1/\bS (m.getD t []) v):=λz hz v hv=>by
    rw[m9 af];by_cases e:v=x;·subst e;rw[aK rfl,hz,p v hv];simp
    rw[aq e,p v hv];have:v<x+1↔v<x:=af;rw[this]
   refine ah ?_;cases D:o2.getD x false with|true=>rw[D]at C;refine RO.fD U 2 (hv:=C) ?_;refine ah ?_;refine RO.lC (f:=.bool) (zs:=o2) U 2 true c (λH9 U=>?_);refine ah ?_;exact Ru.wk (B _ _ (by simpa using c) (aA true ⟨λ_=>.inl D,λ_=>rfl⟩) U)|false=>rw[D]at C;refine RO.fD U 2 (hv:=C) ?_;refine ah ?_;refine RO.fD U 0 (hv:=V) ?_;refine ah ?_;refine RO.cZ U.gr P (λq8 o8 c8 av d aw l E=>?_) (j:=t);rw[show m[t]=m.getD t []from(bF _ _).symm]at d;obtain⟨v8,rfl,k⟩:=d;have⟨F,_,_,I⟩:=k.all;refine ah ?_;refine RO.aW (v:=v8) ?_ (hc:=l 0 _ rfl);refine ah ?_;refine RO.lg U.gr k (λq9 o9 a0 b0=>?_) (j:=x) (hj:=by rw[X.row t A];omega);rw[show(m.getD t [])[x]'a0=(m.getD t []).getD x false from(bF _ _).symm]at b0;refine ah ?_;refine ah ?_;refine RO.lC (f:=.bool) (zs:=o2) U 2 ((m.getD t []).getD x false) c (λH9 U=>?_);refine ah ?_;exact Ru.wk (B _ _ (by simpa using c) (aA _ ⟨λh9=>.inr h9,λh9=>h9.resolve_left (by rw[bS,D];simp)⟩) U)
  refine Ru.exitTo ?_;refine ah ?_;exact Ru.wk (ih _ o2 c (λv hv=>by rw[bc,<-J v hv,p v hv];have:v<x:=af;simp[this]) U)
 refine Ru.exitTo ?_;have L:∀v,v<n->(bS a v↔∃w'∈w,bS (m.getD w'.1.toNat []) v):=λv hv=>by
  rw[J v hv];constructor;·rintro⟨j,hj,_,h2⟩;exact⟨_,agB hj,h2⟩
  rintro⟨w',b3,h2⟩;obtain⟨j,hj,rfl⟩:=aka b3;exact⟨j,hj,af,h2⟩
 refine ah ?_;refine RO.eQ U 4 ?_;refine ah ?_;refine RO.cZ U.gr O (λq8 o8 c8 av d aw l E=>?_) (j:=b);rw[show aC[b]=aC.getD b []from(bF _ _).symm]at d;obtain⟨v8,rfl,k⟩:=d;have⟨F,_,_,I⟩:=k.all;refine RO.aW (v:=v8) ?_ (hc:=l 0 _ rfl);refine RO.cl (ZN T (y U.gr) hB (U.gr.sl k) ag hO λH9 hg=>?_);have U:=U.cI hg;unfold mZ at h;cases W:ig g (aC.getD b [])with|none=>dsimp only;refine ah ?_;have U:=U.tail;refine Ru.tk (h _ r _ a (ahr n false) S aB L (λv hv=>?_) (U.sl (e:=4) (size:=1) (n:=n) (full:=true) (vs:=(ahr n false).map .bool) 0) (U.tail.sub (.cons_cons _ (.cons _ (.cons _ .slnil)))));rw[W];simp[bS,akm,ak8,hv]|some tt=>obtain⟨k1,k2⟩:=ZQ hS hO W;obtain⟨t,rfl⟩:∃t:Nat,tt=t:=⟨tt.toNat,af⟩;have A:t<g.al.length:=af;have bd:=X.len;dsimp only;refine ah ?_;refine RO.cZ U.gr P (λq9 o9 dx a0 a1 dv a5 b6=>?_) (j:=t);rw[show m[t]=m.getD t []from(bF _ _).symm]at a1;obtain⟨v9,rfl,a2⟩:=a1;have⟨b',_,_,ca⟩:=a2.all;refine RO.aW (v:=v9) ?_ (hc:=a5 0 _ rfl);refine ah ?_;refine Ru.tk (h _ r v9 a (m.getD t []) S (X.row t A) L (λv hv=>?_) (by have:=U.gr.sl a2;rw[X.row t A]at this;exact this) (U.tail.tail.sub (.cons_cons _ (.cons _ (.cons _ .slnil)))));rw[W];simp
end
end
section
def ui(j:G.lD):List Int:=j.args++j.go.flatMap (·.args)
theorem JR(l:List G.ic):(eU l).length<=l.length:=alj (List.length_filter_le _ _) aB
section
variable{g:G.bu}{H:ai}{cs:List AV}
theorem afK(T:Tb ac){B:G.gV}(hb:kj H B cs)(hl:B.params.length<=12/\B.aD.length<=40){K:KT}(h:∀w v,aj H w [tS 3 1 ((gX B).map aI) (gX B).length true v]->K v w):YN ac WC [.agg cs] H K:=by
 have F:=hb.one;obtain⟨y,i,jc,rfl,o,f,z,A,C,rfl,R,S,V⟩:=hb;have⟨W,_,_,_⟩:=f.all;refine YF.code T.abo aB ?_;refine au ?_;refine RO.dL (aj.dc H) λH1 q U=>?_;refine ah ?_;refine RO.qS U 1 λH2 I U=>?_;have⟨X,_,_,_⟩:=(U.sl (e:=3) (size:=1) (sv:=I) (vs:=[]) (n:=0) (full:=true) 0).all;refine ah ?_;refine RO.pZ U 0 (U.gr.sl o) (λJ D U=>?_) (h1:=qP _);have U:aj H J [tS 3 1 ((B.params++eU (B.aD.take 0)).map aI) (B.params++eU (B.aD.take 0)).length true D,tB dW q [y,i,aU B.aA.op,z,.str B.aA.name,A,C]]:=by rw[alm,show eU []=[]from rfl,akT];rw[akh]at U;exact U
 have⟨Y,_,_,_⟩:=(U.sl (e:=3) (size:=1) (sv:=D) (full:=true) (vs:=(B.params++eU (B.aD.take 0)).map aI) (n:=(B.params++eU (B.aD.take 0)).length) 0).all;refine ah ?_;refine Ru.nm λL M p k=>?_;refine Ru.cC k (up (P:=λj=>∀n g,aj H n [tS 3 1 ((B.params++eU (B.aD.take j)).map aI) (B.params++eU (B.aD.take j)).length true g,tB dW q [y,i,aU B.aA.op,z,.str B.aA.name,A,C]]->Ru ac _ L ([(p4,aN j),(p3,g)]++pk M [p1]) n) B.aD.length (λj hj d n g U=>?_) 0 af _ _ U);subst p;subst k;have⟨Z,_,_,r⟩:=(U.sl (e:=3) (size:=1) (sv:=g) (vs:=(B.params++eU (B.aD.take j)).map aI) (n:=(B.params++eU (B.aD.take j)).length) (full:=true) 0).all;refine Ru.loop ?_;refine ah ?_;refine Ru.cond (λc=>?_) (λc=>?_)
 .have d:=d (j+1) af af;rw[(akd c).symm,Jt,<-aj2]at d;have ag:(B.params++eU (B.aD.take j)).length<=100:=by have:=JR (B.aD.take j);rw[akF]at this;rw[aj8];omega
  generalize B.params++eU (B.aD.take j)=N at*;refine ah ?_;refine RO.cZ U.gr f (λO P c7 s b t a l=>?_) (j:=j);generalize Q:B.aD[j]=x at*;obtain⟨u,rfl,m⟩:=b;refine ah ?_;refine RO.aW (v:=aI x.to) ?_ (hc:=a 1 _ rfl);refine ah ?_;refine Ru.cond (λe=>?_) (λe=>?_);·have e:0<=x.to:=e;rw[aK e]at d;refine ah ?_;refine RO.cZ U.gr f (λO P c7 s b t a l=>?_) (j:=j);rw[Q]at b;obtain⟨u,rfl,m⟩:=b;refine ah ?_;refine RO.aW (v:=aI x.to) ?_ (hc:=a 1 _ rfl);refine RO.push U 0 (λw0 H9 E U=>?_) (ws:=[aI x.to]);have⟨av,aw,ax,_⟩:=(U.sl (e:=3) (size:=1) (n:=N.length+1) (full:=true) (sv:=E) 0).all;refine ah ?_;exact Ru.wk (d _ E (by rw[akE,aj8];exact U))
  have e:¬0<=x.to:=e;rw[aq e,akT]at d;refine ah ?_;exact Ru.wk (d _ g U)
 refine Ru.exitTo ?_;rw[akl af]at U r;refine ah ?_;exact Ru.aV (h _ g (U.sub (.cons_cons _ (.cons _ .slnil))))
theorem afL(T:Tb ac){j:G.lD}(hj:tw H j cs)(hl:j.args.length<=12/\j.go.length<=12)(m:∀e∈j.go,e.args.length<=12){K:KT}(h:∀s v,aj H s [tS 3 1 ((ui j).map aI) (ui j).length true v]->K v s):YN ac Ww [.agg cs] H K:=by
 have z:=hj.one;obtain⟨t,u,w,rfl,n,J,c⟩:=hj;have⟨L,_,_,_⟩:=c.all;refine YF.code T.abg aB ?_;refine au ?_;refine RO.dL (aj.dc H) λH1 q U=>?_;refine ah ?_;refine RO.qS U 1 λZ B U=>?_;have⟨M,_,_,_⟩:=(U.sl (e:=3) (size:=1) (sv:=B) (vs:=[]) (n:=0) (full:=true) 0).all;refine ah ?_;refine RO.pZ U 0 (U.gr.sl n) (λC x U=>?_) (h1:=qP _);have U:aj H C [tS 3 1 ((j.args++(j.go.take 0).flatMap (·.args)).map aI) (j.args++(j.go.take 0).flatMap (·.args)).length true x,tB tx q [aU j.op,t,.str j.name,u,w]]:=by rw[alm,List.flatMap_nil,akT];rw[akh]at U;exact U
 have⟨N,_,_,_⟩:=(U.sl (e:=3) (size:=1) (sv:=x) (full:=true) (vs:=(j.args++(j.go.take 0).flatMap (·.args)).map aI) (n:=(j.args++(j.go.take 0).flatMap (·.args)).length) 0).all;refine ah ?_;refine Ru.nm λD E o d=>?_;refine Ru.cC d (up (P:=λk=>∀l b,(j.args++(j.go.take k).flatMap (·.args)).length<=12+12*k->aj H l [tS 3 1 ((j.args++(j.go.take k).flatMap (·.args)).map aI) (j.args++(j.go.take k).flatMap (·.args)).length true b,tB tx q [aU j.op,t,.str j.name,u,w]]->Ru ac _ D ([(p4,aN k),(p3,b)]++pk E [p1]) l) j.go.length (λk hk i l b O U=>?_) 0 af _ _ (by simp;omega) U);subst o;subst d;have⟨P,_,_,p⟩:=(U.sl (e:=3) (size:=1) (sv:=b) (vs:=(j.args++(j.go.take k).flatMap (·.args)).map aI) (n:=(j.args++(j.go.take k).flatMap (·.args)).length) (full:=true) 0).all;refine Ru.loop ?_;refine ah ?_;refine Ru.cond (λa=>?_) (λa=>?_);·have i:=i (k+1) af af;have Q:=m _ (agB a);rw[(akd a).symm,akD,akK,<-aj2]at i;generalize j.args++(j.go.take k).flatMap (·.args)=F at*;refine ah ?_;refine RO.cZ U.gr c (λq7 o7 c7 R r S g A=>?_) (j:=k);generalize j.go[k]=e at*;obtain⟨I,rfl,f⟩:=r;have⟨V,_,_,_⟩:=f.all;refine ah ?_;refine RO.aW (v:=I) ?_ (hc:=g 1 _ rfl);refine RO.pZ U 0 (U.gr.sl f) (λH9 y U=>?_) (h1:=qP _);have⟨W,X,Y,_⟩:=(U.sl (e:=3) (size:=1) (n:=F.length+e.args.length) (full:=true) (sv:=y) 0).all;refine ah ?_;exact Ru.wk (i _ y (by rw[aj8];omega) (by rw[akE,aj8];exact U))
 refine Ru.exitTo ?_;rw[akl af]at U p;refine ah ?_;exact Ru.aV (h _ b (U.sub (.cons_cons _ (.cons _ .slnil))))
structure sH(n np:Nat)(gl:List Int)(hist:List (Int×Nat)):Prop where
 len:gl.length=n
 aM:∀v:Nat,v<np->gl.getD v 0= -1
 bH:∀p∈hist,gl.getD p.1.toNat 0=(p.2:Int)
theorem sH.add{n c:Nat}{gl:List Int}{a:List (Int×Nat)}(h:sH n c gl a){v k:Nat}(i:v<n)(j:c<=v)(f:(v:Int)∉a.map (·.1))(b:∀x∈a.map (·.1),(0:Int)<=x):sH n c (gl.set v (k:Int)) (a++[((v:Int),k)]):=by
 have hl:=h.len;refine⟨by grind,λx g=>?_,λp d=>?_⟩;·rw[fu af,aq af];exact h.aM x g
 rw[fu af];rcases ahp.1 d with h2|h2;·have h3:=akp (f:=(·.1)) h2;have l:=b _ h3;rw[aq λe=>f (by grind)];exact h.bH p h2
 grind
def pd(g:G.bu)(k:Nat):List (Int×Nat):=(ake k).flatMap λi=>(gX (aH g i)).map λv=>(v,i)
theorem Fk(g:G.bu):∀k,k<=g.al.length->(pd g k).map (·.1)=(g.al.take k).flatMap gX|0,_=>rfl|k+1,h=>by rw[pd,alb,akD,akK,akE,<-pd,Fk g k af,(akd (show k<g.al.length by omega)).symm,akD,akK,alx,aH,bF af];congr 1;exact List.map_id _
theorem afM(T:Tb ac)(hg:iG H g cs)(hB:G.Sm g)(O:sD g)(V:g.bp<=6000){K:KT}(h:∀H' q gl,sH g.bp.toNat g.params.toNat gl (pd g g.al.length)->aj H H' [tS 3 1 (gl.map aI) g.bp.toNat true (.slice q 0 g.bp.toNat g.bp.toNat true)]->K (.slice q 0 g.bp.toNat g.bp.toNat true) H'):YN ac Wn [.agg cs] H K:=by
 have E:=hg.one;obtain⟨P,rfl,cA⟩:=hg;have⟨aw,_,_,ax⟩:=cA.all;have ay:=hB.nb;have h0:=O.p0;have h1:=O.p1;obtain⟨n,Q⟩:∃n:Nat,g.bp=n:=⟨g.bp.toNat,af⟩;obtain⟨j,u⟩:∃n:Nat,g.params=n:=⟨g.params.toNat,af⟩;have o:=O.rg;have w:=O.nd;rw[Q,u]at h h1 o E;rw[Q]at V;simp only[aj3]at h;refine YF.code T.aa7 aB ?_;rw[Q,u];refine ah ?_;refine RO.dL (aj.dc H) λH1 q U=>?_;refine ah ?_;refine RO.oT U (n:=n) (λH2 s U=>?_) (hz:=by rw[iZ];simp);have U:aj H H2 [tS 3 1 ((ahr n (0:Int)).map aI) n true (.slice s 0 n n true),tB fI q [.str g.name,aI j,aI n,P]]:=by rw[iZ]at U;rw[alz];exact U
 refine ah ?_;refine Ru.nm λS0 M hS hM=>?_;refine Ru.cC hM (up (P:=λk=>∀c gl,sH n k gl []->aj H c [tS 3 1 (gl.map aI) n true (.slice s 0 n n true),tB fI q [.str g.name,aI j,aI n,P]]->Ru ac _ S0 ([(p4,aN k)]++pk M [p1,p3]) c) j (λk hk r c gl a U=>?_) 0 af _ _ ⟨aB,λv hv=>by omega,λp R=>by cases R⟩ U);subst hS;subst hM;have d:=a.len;refine Ru.loop ?_;refine ah ?_;refine Ru.cond (λb=>?_) (λb=>?_)
 .refine ah ?_;refine RO.lC (f:=aI) U 0 (-1) d (λH4 U=>?_) (k:=k);refine ah ?_;exact Ru.wk (r (k+1) af af H4 _ ⟨by simpa using d,λv hv=>by
   rw[fu af];by_cases e:v=k;·rw[aK e]
   rw[aq e];exact a.aM v af,λp R=>by cases R⟩ U)
 refine Ru.exitTo ?_;obtain rfl:j=k:=af;refine ah ?_;refine Ru.nm λS1 M1 W y=>?_;refine Ru.cC y (up (P:=λk=>∀c gl,sH n j gl (pd g k)->aj H c [tS 3 1 (gl.map aI) n true (.slice s 0 n n true),tB fI q [.str g.name,aI j,aI n,P]]->Ru ac _ S1 ([(p5,aN k)]++pk M1 [p1,p3]) c) g.al.length (λk hk r c gl a U=>?_) 0 af _ _ a U);subst W;subst y;have d:=a.len;refine Ru.loop ?_;refine ah ?_;refine Ru.cond (λb=>?_) (λb=>?_)
 .have X:=agB b;have a0:=hB.bl _ X;have F:=Fk g k af;have I:aH g k=g.al[k]:=by rw[aH,bF b]
  have eZ:(pd g k).map (·.1)++(gX g.al[k]++(g.al.drop (k+1)).flatMap gX)=g.al.flatMap gX:=by rw[F];conv=>rhs;rw[<-ala k g.al,akD,aj9 b,alp]
  have r:=r (k+1) af af;rw[pd,alb,akD,akK,<-pd,I]at r;refine ah ?_;refine RO.cZ U.gr cA (λq1 o1 c1 a1 A a2 hat hrd=>?_) (j:=k);have J:=A;generalize g.al[k]=B at*;have av:=A.one;refine ah ?_;refine RO.cl (afK T (dQ.block U.gr J) ⟨af,af⟩ λH5 S hl=>?_);have U:=U.fC hl;have⟨a3,_,_,a4⟩:=(U.sl (e:=3) (size:=1) (sv:=S) (vs:=(gX B).map aI) (n:=(gX B).length) (full:=true) 0).all;have a5:(gX B).length<=100:=by have:=JR B.aD;rw[gX,aj8];omega
  generalize gX B=l at*;refine ah ?_;refine Ru.nm λS2 M2 Y C=>?_;refine Ru.cC C (up (P:=λm=>∀c gl,sH n j gl (pd g k++(l.take m).map λv=>(v,k))->aj H c [tS 3 1 (l.map aI) l.length true S,tS 3 1 (gl.map aI) n true (.slice s 0 n n true),tB fI q [.str g.name,aI j,aI n,P]]->Ru ac _ S2 ([(p7,aN m)]++pk M2 [p1,p3,p5,p6]) c) l.length (λm hm i c gl a U=>?_) 0 af _ gl (by rw[alm,ali,akT];exact a) U);subst Y;subst C;have d:=a.len;have Z:=U.sl (e:=3) (size:=1) (sv:=S) (vs:=l.map aI) (n:=l.length) (full:=true) 0;refine Ru.loop ?_;refine ah ?_;refine Ru.cond (λf=>?_) (λf=>?_)
  .have i:=i (m+1) af af;rw[(akd f).symm,akE,List.map_singleton,<-aj2]at i;have D:((l.take m).map λv=>(v,k)).map (λp:Int×Nat=>p.1)=l.take m:=by rw[alx];exact List.map_id _
   have L:l[m]∉(pd g k++(l.take m).map λv=>(v,k)).map (·.1):=by
    have h9:=eZ;rw[show l=l.take m++l[m]::l.drop (m+1)from by rw[<-aj9 f,ala]]at h9;rw[<-h9]at w;have h8:(((pd g k).map (·.1)++l.take m)++(l[m]::(l.drop (m+1)++(g.al.drop (k+1)).flatMap gX))).Nodup:=by simpa only[aj2,akV]using w
    rw[akI]at h8;intro t;rw[akE,D]at t;refine h8.2.2 l[m] ?_ l[m] (aeU ..) rfl;rcases ahp.1 t with h|h;·exact akf _ h
    exact akq _ h
   have ag:l[m]∈g.al.flatMap gX:=by rw[<-eZ];exact akq _ (akf _ (agB _))
   have hr:=o _ ag;have N:∀x∈(pd g k++(l.take m).map λv=>(v,k)).map (·.1),(0:Int)<=x:=λx t=>by
    have:x∈g.al.flatMap gX:=by
     rw[<-eZ];rw[akE,D]at t;rcases ahp.1 t with h|h;·exact akf _ h
     refine akq _ (akf _ ?_);exact List.mem_of_mem_take h
    have:=o x this;omega
   refine ah ?_;refine RO.lg (bm.refl _) Z (λq9 o9 a6 a8=>?_) (j:=m);generalize l[m]=z at*;obtain⟨v,rfl⟩:∃v:Nat,z=v:=⟨z.toNat,af⟩;refine ah ?_;refine RO.lC (f:=aI) U 1 (k:Int) d (λH9 U=>?_) (k:=v) (ho:=by omega);refine ah ?_;exact Ru.wk (i _ _ (a.add af af L N) U)
  refine Ru.exitTo ?_;rw[akl af]at a;refine ah ?_;exact Ru.wk (r _ gl a U.tail)
 refine Ru.exitTo ?_;obtain rfl:k=g.al.length:=af;refine ah ?_;exact Ru.aV (h _ s gl a (U.sub (.cons_cons _ (.cons _ .slnil))))
end
end
section
structure CZ(dm:List (List Bool))(vsl:List AV)(F:List Th):Prop where
 len:vsl.length=dm.length
 mem:∀b,b<dm.length->tR 1 ((dm.getD b []).map .bool) (dm.getD b []).length (vsl.getD b .co)∈F
theorem CZ.wY{c:List (List Bool)}{a:List AV}{F:List Th}(h:CZ c a F){l:List Bool}{v:AV}:CZ (c++[l]) (a++[v]) (tR 1 (l.map .bool) l.length v::F):=by
 have hl:=h.len;refine⟨by simp[hl],λb hb=>?_⟩;simp only[aj8,akC]at hb;by_cases e:b=c.length
 .subst e;have e1:(c++[l]).getD c.length []=l:=aB;have e2:(a++[v]).getD c.length .co=v:=by rw[<-hl];simp
  rw[e1,e2];exact aeU ..
 have e1:(c++[l]).getD b []=c.getD b []:=by simp[akw (show b<c.length by omega)]
 have e2:(a++[v]).getD b .co=a.getD b .co:=by simp[akw (show b<a.length by omega)]
 rw[e1,e2];exact aey _ (h.mem b af)
def vF(c d:List Bool)(a b:Nat):Bool:=c.getD a false&&c.getD b false&&(decide (a=b)||!d.getD b false)
structure Qh(g:G.bu)(come:List Bool)(a:Nat)(row:List Bool):Prop where
 len:row.length=g.al.length
 ex:∃ca oa ot,lw g (a:Int) ca oa/\(∀b,oF g (a:Int) ca oa ot b)/\∀b,b<g.al.length->row.getD b false=vF come ca a b
structure JS(g:G.bu)(dm:List (List Bool)):Prop where
 len:dm.length=g.al.length
 ex:∃come aC oth,lw g (-1) come aC/\(∀b,oF g (-1) come aC oth b)/\∀a,a<g.al.length->Qh g come a (dm.getD a [])
section
variable{g:G.bu}
theorem lR.mono(a:mL g){e:Int}{b:Nat}{o:List Int}(h:lR g e b o):lR g (-1) b o:=by induction h with|zero _=>exact .zero bA|step h c _ d=>obtain⟨h3,f⟩:=d.ok a;have:=(vE a h3 f _ c).1;exact .step d c af
theorem lR.nil(a:mL g){c:Int}{b:Nat}{o:List Int}(h:lR g c b o)(hb:b=0):o=[]:=by cases h with|zero _=>rfl|step h d _=>obtain⟨h3,e⟩:=h.ok a;have:=(vE a h3 e _ d).1;omega
theorem lR.comp(c:mL g){c1:List Bool}{o1:List (List Int)}(a:lw g (-1) c1 o1)(d:∀b,oF g (-1) c1 o1 false b){b:Nat}{o:List Int}(h:lR g (-1) b o):c1.getD b false=true/\o1.getD b []=o:=by
 induction h with
 |zero h=>have h1:=a.c0 h;exact⟨h1,(a.snd 0 h1).nil c rfl⟩
 | @step b o w h e f i=>
  obtain⟨h1,h2⟩:=i;rcases d b h1 w (by rw[h2];exact e)with h3|⟨h3,j⟩;·exact absurd h3 f
  exact⟨h3,j rfl⟩
theorem lR.Qv(c:mL g){c1:List Bool}{o1:List (List Int)}(i:lw g (-1) c1 o1)(j:∀b,oF g (-1) c1 o1 false b){d:Int}{e:List Bool}{k:List (List Int)}{m:Bool}(a:lw g d e k)(f:∀b,oF g d e k m b){b:Nat}{o:List Int}(h:lR g d b o):e.getD b false=true:=by
 induction h with
 |zero h=>exact a.c0 h
 | @step b o w h n p l=>
  have e1:=((a.snd b l).mono c).comp c i j;have e2:=(h.mono c).comp c i j;rcases f b l w (by rw[<-e1.2,e2.2];exact n)with h3|⟨h3,_⟩;·exact absurd h3 p
  exact h3
theorem JS.eq(l:mL g){c1:List Bool}{o1:List (List Int)}(m:lw g (-1) c1 o1)(n:∀b,oF g (-1) c1 o1 false b){c d:List (List Bool)}(h:JS g c)(q:JS g d){a b:Nat}(r:a<g.al.length)(hb:b<g.al.length):(c.getD a []).getD b false=(d.getD a []).getD b false:=by
 have key:∀{c:List (List Bool)},JS g c->((c.getD a []).getD b false=true↔(∃o,lR g (-1) a o)/\(∃o,lR g (-1) b o)/\(a=b\/¬∃o,lR g (a:Int) b o)):=by intro c h;obtain⟨f,aC,u,p,k,s⟩:=h.ex;obtain⟨t,v,w,e,i,j⟩:=(s a r).ex;have e1:∀x,f.getD x false=true↔∃o,lR g (-1) x o:=λx=>⟨λh=>⟨_,p.snd x h⟩,λ⟨o,h⟩=>h.Qv l m n p k⟩;have e2:t.getD b false=true↔∃o,lR g (a:Int) b o:=⟨λh=>⟨_,e.snd b h⟩,λ⟨o,h⟩=>h.Qv l m n e i⟩;rw[j b hb,vF,<-e1,<-e1,<-e2];simp[and_assoc]
 rw[alE,key h,key q]
end
section
variable{g:G.bu}{H:ai}{cs:List AV}
theorem afN(T:Tb ac)(hg:iG H g cs)(hB:G.Sm g)(Y:mL g)(s:g.al.length<=30){K:KT}(h:∀H' v d F m,JS g m->CZ m d F->aj H H' [tZ F,tS 61 1 d g.al.length true v]->K v H'):YN ac Wm [.agg cs] H K:=by
 have a2:=hg.one;have C:=hg;obtain⟨vb,rfl,cA⟩:=hg;have⟨a4,_,_,a5⟩:=cA.all;have a6:=Y.ne;refine YF.code T.aa6 aB ?_;refine au ?_;refine RO.dL (aj.dc H) λH1 q U=>?_;refine ah ?_;refine RO.eQ U 0 ?_;refine RO.cl (JQ T (dQ.nM U.gr C) hB Y s (wo:= -1) λH2 S qs a8 Fo c aC z hI ag a9 hl=>?_);have U:=(U.fC hl).sub (.cons _ (.cons _ (.cons_cons _ (akL _))));have D:=hI.lc;refine RO.qS U 1 λH3 E U=>?_;have⟨a',_,_,_⟩:=(U.sl (e:=61) (size:=1) (sv:=E) (vs:=[]) (n:=0) (full:=true) 0).all;refine RO.fx U λH4 q3 U=>?_;refine ah ?_;have U:=U.rl;refine Ru.nm λS0 M av hM=>?_;refine Ru.cC hM (up (P:=λa=>∀y d F m v,m.length=a->CZ m d F->(∀x,x<a->Qh g c x (m.getD x []))->aj H y [tZ F,tB Ap q3 [.slice S 0 g.al.length g.al.length true,.slice qs 0 g.al.length g.al.length true,.bool z],tS 61 1 d a true v,tS 4 1 (c.map .bool) g.al.length true (.slice S 0 g.al.length g.al.length true),tB fI q [.str g.name,aI g.params,aI g.bp,vb]]->Ru ac _ S0 ([(p5,aN a),(p4,v)]++pk M [p1,p3]) y) g.al.length (λa ha Z y d F m v A I u U=>?_) 0 af _ [] [] [] E rfl ⟨rfl,λb hb=>absurd hb aB⟩ (λx hx=>by omega) U);subst av;subst hM;have⟨ba,bb,bc,_⟩:=(U.sl (e:=61) (size:=1) (sv:=v) (vs:=d) (n:=a) (full:=true) 2).all;refine Ru.loop ?_;refine ah ?_;refine Ru.cond (λJ=>?_) (λJ=>?_)
 .have Z:=Z (a+1) af af;refine ah ?_;refine RO.eQ U 4 ?_;refine ah ?_;refine RO.cl (JQ T (dQ.nM U.gr C) hB Y s (wo:=(a:Int)) λH5 qa qo bd Fa r oa ot L Q a3 hl=>?_);have U:=(U.fC hl).sub (.cons _ (.cons _ (.cons_cons _ (akL _))));have aw:=L.lc;refine RO.qS U 1 λH6 N U=>?_;have⟨bv,_,_,_⟩:=(U.sl (e:=4) (size:=1) (sv:=N) (vs:=[]) (n:=0) (full:=true) 0).all;refine RO.fx U λH7 q6 U=>?_;refine ah ?_;refine Ru.nm λS1 M1 ax O=>?_;refine Ru.cC O (up (P:=λb=>∀y(row:List Bool)w,row.length=b->(∀x,x<b->row.getD x false=vF c r a x)->aj H y [tB Ap q6 [.slice qa 0 g.al.length g.al.length true,.slice qo 0 g.al.length g.al.length true,.bool ot],tS 4 1 (row.map .bool) b true w,tS 4 1 (r.map .bool) g.al.length true (.slice qa 0 g.al.length g.al.length true),tZ F,tB Ap q3 [.slice S 0 g.al.length g.al.length true,.slice qs 0 g.al.length g.al.length true,.bool z],tS 61 1 d a true v,tS 4 1 (c.map .bool) g.al.length true (.slice S 0 g.al.length g.al.length true),tB fI q [.str g.name,aI g.params,aI g.bp,vb]]->Ru ac _ S1 ([(p8,aN b),(p7,w)]++pk M1 [p1,p3,p4,p5,p6]) y) g.al.length (λb hb n y row w f P U=>?_) 0 af _ [] N rfl (λx hx=>by omega) U);subst ax;subst O;have R:=U.sl (e:=4) (size:=1) (sv:=w) (vs:=row.map .bool) (n:=b) (full:=true) 1;have⟨ay,b0,a0,_⟩:=R.all;refine Ru.loop ?_;refine ah ?_;refine RO.gU U 7 ?_;refine ah ?_;refine Ru.cond (λo=>?_) (λo=>?_)
  .have n:=n (b+1) af af;have iD:∀(l:List Bool)(k:Nat),l.length=g.al.length->k<g.al.length->(l.map AV.bool)[0+k*1]?=some (.bool (l.getD k false)):=λl k h1 h2=>by rw[show 0+k*1=k by omega,aks,getElem?_pos l k af,bF af];rfl
   have j:∀t,t=vF c r a b->∀x,x<b+1->(row++[t]).getD x false=vF c r a x:=λt ht x hx=>by
    by_cases e:x=b;·subst e;rw[<-ht,<-f];simp
    rw[<-P x af];simp[akw (show x<row.length by omega)]
   refine ah ?_;refine RO.fD U 6 (hv:=iD c a D J) ?_;refine RO.bg ?_;refine RO.tq (λB=>?_) (λB=>?_)
   .refine ah ?_;refine RO.fD U 6 (hv:=iD c b D o) ?_;refine ah ?_;refine RO.tq (λV=>?_) (λV=>?_)
    .refine ah ?_;refine RO.de (λg3=>?_) (λg3=>?_);·refine ah ?_;refine RO.push U 1 (λW X i U=>?_) (ws:=[.bool true]);have⟨p,_,_,_⟩:=(U.sl (e:=4) (size:=1) (n:=b+1) (full:=true) (sv:=i) 1).all;refine ah ?_;exact Ru.wk (n _ (row++[true]) i (by simp[f]) (j _ (by rw[vF,B,V,decide_eq_true g3];rfl)) (by rw[akE];exact U))
     refine ah ?_;refine RO.fD U 2 (hv:=iD r b aw o) ?_;refine ah ?_;refine RO.push U 1 (λW X i U=>?_) (ws:=[.bool (!r.getD b false)]);have⟨p,_,_,_⟩:=(U.sl (e:=4) (size:=1) (n:=b+1) (full:=true) (sv:=i) 1).all;refine ah ?_;exact Ru.wk (n _ (row++[(!r.getD b false)]) i (by simp[f]) (j _ (by rw[vF,B,V,decide_eq_false g3];rfl)) (by rw[akE];exact U))
    refine ah ?_;refine RO.push U 1 (λW X i U=>?_) (ws:=[.bool false]);have⟨p,_,_,_⟩:=(U.sl (e:=4) (size:=1) (n:=b+1) (full:=true) (sv:=i) 1).all;refine ah ?_;exact Ru.wk (n _ (row++[false]) i (by simp[f]) (j _ (by rw[vF,B,V];rfl)) (by rw[akE];exact U))
   refine ah ?_;refine RO.push U 1 (λW X i U=>?_) (ws:=[.bool false]);have⟨p,_,_,_⟩:=(U.sl (e:=4) (size:=1) (n:=b+1) (full:=true) (sv:=i) 1).all;refine ah ?_;exact Ru.wk (n _ (row++[false]) i (by simp[f]) (j _ (by rw[vF,B];rfl)) (by rw[akE];exact U))
  refine Ru.exitTo ?_;obtain rfl:b=g.al.length:=af;refine ah ?_;have a1:=(((U.sub (.cons _ (.cons_cons _ (.cons _ (akL _))))).as (t':=tR 1 (row.map .bool) row.length w) 0 rfl λfp hp=>by have h9:=tS.mg hp;rw[<-f]at h9;exact h9)).lq;refine RO.push a1 2 (λW X i U=>?_) (ws:=[w]) (hl:=kG rfl ay a0 rfl rfl rfl);have⟨p,_,_,_⟩:=(U.sl (e:=61) (size:=1) (n:=a+1) (full:=true) (sv:=i) 2).all;refine ah ?_;exact Ru.wk (Z _ (d++[w]) _ (m++[row]) i (by simp[A]) I.wY (λx hx=>by
   by_cases e:x=a
   .subst e;have e1:(m++[row]).getD x []=row:=by rw[<-A];simp
    rw[e1];exact⟨f,r,oa,ot,L.toFlI,Q,P⟩
   have e1:(m++[row]).getD x []=m.getD x []:=by simp[akw (show x<m.length by omega)]
   rw[e1];exact u x af) U)
 refine Ru.exitTo ?_;obtain rfl:a=g.al.length:=af;refine ah ?_;exact Ru.aV (h _ v d F m ⟨A,c,aC,z,hI.toFlI,ag,u⟩ I (U.sub (.cons_cons _ (.cons _ (.cons_cons _ (.cons _ (.cons _ .slnil)))))))
end
end
end
end Go.am.R
end
