/- A part of the proof. No conditions. -/
import Derived.Test.YtjhkgigolpfcfaaGreatDoorA30
import Derived.ChangeArms
import Derived.DataReads
set_option linter.all false
set_option maxHeartbeats 16000000
open Option renaming bind_eq_some_iff->aed
open List renaming range->ake,length_map->akg,length_take->akF,length_drop->alC
open Nat renaming le_of_ble_eq_true->akc,add_assoc->alo
open Array renaming getD_eq_getD_getElem?->akJ
open UInt8 renaming toNat->alv
noncomputable section
namespace Go.am.R
section
variable{ac:Nat->aG}
section
section
variable{g:G.bu}{H:ai}
theorem so.ne{e:Int}(h:so g e):e≠0:=by rcases h with⟨h,_⟩|⟨h,_⟩|⟨h,_⟩<;>omega
theorem aat(T:Tb ac)(i:¬Vd g)(j:EW g)(k:CQ g){cs:List AV}(hg:iG H g cs){K:KT}(l:∀c e,so g e->bm H c->K (.tuple [.lS,aI e]) c):YN ac NU [.agg cs] H K:=by have f:=hg.one;obtain⟨d,rfl,cA⟩:=hg;refine YF.code T.aa9 aB ?_;refine au ?_;refine RO.dL (aj.dc H) λH1 m U=>?_;refine ah ?_;refine RO.eQ U 0 ?_;refine RO.cl (aam T i j k (cs:=[.str g.name,aI g.params,aI g.bp,d]) ⟨d,rfl,dQ.block.jU U.gr cA⟩ λn e he a=>?_);have b:=he.ne;refine ah ?_;refine Ru.cond (λ_=>?_) (λh=>absurd b h);refine ah ?_;exact Ru.mD (vs:=[.lS,aI e]) ⟨rfl,rfl,rfl,rfl,trivial⟩ (l _ e he (U.gr.trans a))
theorem aau(T:Tb ac)(i:¬Vd g)(j:EW g)(k:CQ g){cs:List AV}(hg:iG H g cs){z:Int}{K:KT}(l:∀c e,so g e->bm H c->K (.tuple [.aS,aI e]) c):YN ac aoq [.agg cs,aI z] H K:=by have f:=hg.one;obtain⟨d,rfl,cA⟩:=hg;refine YF.code T.aoY aB ?_;refine au ?_;refine RO.dL (aj.dc H) λH1 m U=>?_;refine ah ?_;refine RO.eQ U 0 ?_;refine RO.cl (aat T i j k (cs:=[.str g.name,aI g.params,aI g.bp,d]) ⟨d,rfl,dQ.block.jU U.gr cA⟩ λn e he a=>?_);have b:=he.ne;refine ah ?_;refine Ru.cond (λ_=>?_) (λh=>absurd b h);refine ah ?_;exact Ru.mD (vs:=[.aS,aI e]) ⟨rfl,rfl,rfl,rfl,trivial⟩ (l _ e he (U.gr.trans a))
theorem aaw(T:Tb ac)(V:Vd g){cs:List AV}(hg:iG H g cs){z:Int}(s:¬(0<=z/\z<g.al.length)){K:KT}(h:∀c a os,cX g a os->bm H c->K (.tuple [.aS,aI 7]) c):YN ac aoq [.agg cs,aI z] H K:=by have e:=hg.one;have i:=V.sm.nb;have j:=V.fm.ne;obtain⟨d,rfl,cA⟩:=hg;have⟨k,l,m,n⟩:=cA.all;refine YF.code T.aoY aB ?_;refine au ?_;refine RO.dL (aj.dc H) λH1 t U=>?_;refine ah ?_;refine RO.eQ U 0 ?_;refine RO.cl (Qf T V (cs:=[.str g.name,aI g.params,aI g.bp,d]) ⟨d,rfl,dQ.block.jU U.gr cA⟩ λu v o w x p q a os ak y f A r b B=>?_);have U:=U.cI b;refine ah ?_;refine RO.arith (v:=aN (g.al.length - 1)) ?_ (hv:=px (k:=g.al.length) af af);refine ah ?_;refine RO.cl (agG T (a:=0) (b:=((g.al.length - 1:Nat):Int)) (n:=z) ?_);rw[decide_eq_false (show¬((0:Int)<=z/\z<=((g.al.length - 1:Nat):Int))by omega)];refine ah ?_;exact Ru.mD (vs:=[.aS,aI 7]) ⟨rfl,rfl,rfl,rfl,trivial⟩ (h _ a os f U.gr)
end
end
section
section
variable{g:G.bu}{H:ai}{cs:List AV}
theorem x7{H:ai}{v:AV}(h:Sl H 1 [] 0 v):CX H [] v:=⟨[],h,λk a=>absurd a aB⟩
theorem X0(T:Tb ac)(V:Vd g){a:List Bool}{os:List (List bV)}(c:cX g a os)(hg:iG H g cs){K:KT}(h:∀b,JT g->bm H b->K (aI 0) b):YN ac Wg [.agg cs] H K:=aga T hg V.aaz V.byt (λb hg d=>h b d.right hg) (λb hg e=>by have:=V.jx;rw[e]at this;cases this) (λb hg _ f=>absurd V.C6 f) λb hg _ _ i j=>absurd (aac V.C6 (Kc V.aaz V.jx).1 i V.dO V.gv c (V.sG a os c)) j
theorem aax(T:Tb ac)(f:EW g)(i:CQ g){e:Int}(he:so g e)(hg:iG H g cs){K:KT}(h:∀a,bm H a->K (aI e) a):YN ac Wg [.agg cs] H K:=by
 refine aga T hg f i (λa hg c=>?_) (λa hg b=>?_) (λa hg h1 d=>?_) λa hg h1 h2 _ j=>?_
 .rcases he with⟨rfl,h1⟩|⟨rfl,_,h1⟩|⟨rfl,_,_,h1⟩;·have:=c.Kb;rw[h1]at this;cases this
  .exact absurd c.C6 h1
  exact absurd c.right h1
 .rcases he with⟨rfl,_⟩|⟨rfl,h1,_⟩|⟨rfl,h1,_⟩;·exact h _ hg
  .rw[b]at h1;cases h1
  rw[b]at h1;cases h1
 .rcases he with⟨rfl,b⟩|⟨rfl,_⟩|⟨rfl,_,h2,_⟩;·rw[b]at h1;cases h1
  .exact h _ hg
  exact absurd h2 d
 rcases he with⟨rfl,b⟩|⟨rfl,_,d⟩|⟨rfl,_⟩;·rw[b]at h1;cases h1
 .exact absurd h2 d
 exact h _ hg
theorem aay(T:Tb ac)(j:∀{H:ai}{K:KT},(∀o,bm H o->K (.bool true) o)->YN ac NT [] H K)(hg:iG H g cs)(t:CQ g){z:Int}{K:KT}(h:∀o,bm H o->K (.bool true) o):YN ac Y6 [.agg cs,aI z] H K:=by
 have a4:=hg.one;have d:=hg;obtain⟨vb,rfl,cA⟩:=hg;have⟨a6,_,_,a8⟩:=cA.all;refine YF.code T.Zl aB ?_;refine ah ?_;refine RO.dL (aj.dc H) λH1 q2 U=>?_;refine ah ?_;refine RO.eQ U 0 ?_;refine RO.cl (DE T (dQ.nM U.gr d) (λH2 hg=>?_) (λH2 hg J=>?_));·have U:=U.cI hg;refine ah ?_;refine RO.cl (j λH3 hg=>?_);have U:=U.cI hg;refine ah ?_;exact Ru.aV (h _ U.gr)
 have U:=U.cI hg;have p:=J.sm;have a9:=p.nb;refine ah ?_;refine RO.eQ U 0 ?_;refine RO.cl (Kh T (dQ.nM U.gr d) af (λb hb=>⟨p.bl b hb,p.st b hb,p.ed b hb⟩) λH3 a' hg a=>?_);have U:=U.cI hg;have a1:=a.one;have Z:=a;obtain⟨wb,rfl,ba⟩:=Z;refine RO.fx (aj.dc H3) λH4 q5 hl=>?_;have a:=dQ.nM hl.gr a;have U:aj H H4 [tB fI q5 [.str g.name,aI g.params,aI g.bp,wb],tB fI q2 [.str g.name,aI g.params,aI g.bp,vb]]:=U.fC hl;refine ah ?_;refine RO.eQ U 0 ?_;refine ah ?_;by_cases V:Vd g;rotate_left;·refine RO.cl (aau T V J t a (z:=z) λH5 e he hg=>?_);have A:=he.ne;have U:=U.cI hg;have a:=dQ.nM hg a;refine ah ?_;refine RO.eQ U 1 ?_;refine RO.cl (aax T J t he (dQ.nM U.gr d) λy hg=>?_);have U:=U.cI hg;have a:=dQ.nM hg a;refine RO.qS (aj.dc y) 1 λP l hl=>?_;have f:=x7 (hl.sl (e:=eH) (size:=1) (sv:=l) (vs:=[]) (n:=0) (full:=true) 0);have⟨B,_,_,_⟩:=f.all;have U:=U.cI hl.gr;have a:=dQ.nM hl.gr a;refine ah ?_;refine RO.de (λc=>absurd c A) (λ_=>?_);refine ah ?_;refine Ru.cond (λc=>absurd c A) (λ_=>?_);refine ah ?_;refine RO.eQ U 0 ?_;refine RO.eQ U 1 ?_;refine RO.cl (AO T a (dQ.nM U.gr d) t p λQ hg=>?_);have U:=U.cI hg;refine ah ?_;refine RO.de (λ_=>?_) (λc=>absurd rfl c);refine ah ?_;refine RO.cl (zz T (x7 (.inl ⟨rfl,rfl,rfl⟩)) (dQ.P5.jU hg f) aB aB (λ_=>?_) (λc=>absurd rfl c));refine ah ?_;refine RO.cl (j λR hg=>?_);have U:=U.cI hg;refine ah ?_;exact Ru.aV (h _ U.gr)
 have L:=V.C6;have bb:=L.p0;have bc:=L.p1;obtain⟨E,bd⟩:=Kc J V.jx;obtain⟨n,N⟩:∃n:Nat,g.bp=n:=⟨g.bp.toNat,af⟩;by_cases hz:0<=z/\z<g.al.length;rotate_left
 .refine RO.cl (aaw T V a hz λH5 G os u hg=>?_);have U:=U.cI hg;have a:=dQ.nM hg a;refine ah ?_;refine RO.eQ U 1 ?_;refine RO.cl (X0 T V u (dQ.nM U.gr d) λy r hg=>?_);have U:=U.cI hg;have a:=dQ.nM hg a;refine RO.qS (aj.dc y) 1 λP l hl=>?_;have f:=x7 (hl.sl (e:=eH) (size:=1) (sv:=l) (vs:=[]) (n:=0) (full:=true) 0);have⟨B,_,_,_⟩:=f.all;have U:=U.cI hl.gr;have a:=dQ.nM hl.gr a;refine ah ?_;by_cases C:z<0;·refine RO.de (λ_=>?_) (λc=>absurd C c);refine ah ?_;refine RO.eQ U 0 ?_;refine RO.eQ U 1 ?_;refine RO.cl (AO T a (dQ.nM U.gr d) t p λQ hg=>?_);have U:=U.cI hg;refine ah ?_;refine RO.cl (zz T (x7 (.inl ⟨rfl,rfl,rfl⟩)) (dQ.P5.jU hg f) aB aB (λ_=>?_) (λc=>absurd rfl c));refine ah ?_;refine RO.cl (j λR hg=>?_);have U:=U.cI hg;refine ah ?_;exact Ru.aV (h _ U.gr)
  refine RO.de (λc=>absurd c C) (λ_=>?_);refine ah ?_;refine Ru.cond (p:=(g.al.length:Int)<=z) (λ_=>?_) (λc=>absurd (show(g.al.length:Int)<=z by omega) c);refine ah ?_;refine RO.eQ U 0 ?_;refine RO.eQ U 1 ?_;refine RO.cl (AO T a (dQ.nM U.gr d) t p λQ hg=>?_);have U:=U.cI hg;refine ah ?_;refine RO.cl (zz T (x7 (.inl ⟨rfl,rfl,rfl⟩)) (dQ.P5.jU hg f) aB aB (λ_=>?_) (λc=>absurd rfl c));refine ah ?_;refine RO.cl (j λR hg=>?_);have U:=U.cI hg;refine ah ?_;exact Ru.aV (h _ U.gr)
 obtain⟨b,rfl⟩:∃b:Nat,z=b:=⟨z.toNat,af⟩;have hb:b<g.al.length:=af;refine RO.cl (apr T V a N af hb λH5 bv pl G os ak lv u hO D s hg i=>?_);have⟨b0,_,_,_⟩:=i.all;have U:=U.cI hg;have a:=dQ.nM hg a;refine ah ?_;refine RO.eQ U 1 ?_;refine RO.cl (X0 T V u (dQ.nM U.gr d) λy r hg=>?_);have U:=U.cI hg;have a:=dQ.nM hg a;have i:=dQ.P5.jU hg i;refine RO.qS (aj.dc y) 1 λP l hl=>?_;have⟨B,_,_,_⟩:=(hl.sl (e:=eH) (size:=1) (sv:=l) (vs:=[]) (n:=0) (full:=true) 0).all;have U:=U.cI hl.gr;have a:=dQ.nM hl.gr a;have i:=dQ.P5.jU hl.gr i;refine ah ?_;refine Ru.cond (p:=g.al.length<=b) (λc=>absurd c af) (λ_=>?_);refine ah ?_;refine RO.eQ U 1 ?_;refine ah ?_;have q:pl.length<=1000000/\∀x∈pl,x.length<=1000000:=by
  rcases s with⟨O,hl,hp⟩|⟨_,rfl⟩
  .have ag:=af2 V u hO D O;have b3:(aH g b).aD.length<=40:=by rw[aH,bF hb];exact(p.bl _ (agB hb)).2.1
   refine⟨af,λx S=>?_⟩;obtain⟨k,W,rfl⟩:=aka S;obtain⟨a2,a3⟩:=hp k af;rw[bF W]at a2 a3;have:=Kl (n:=n) (a2.imp λh=>Int.ne_of_lt h) λx S=>by rw[<-N];exact ag _ af x ((a3 x).1 S)
   omega
  simp
 refine RO.cl ((Z4 (K:=λv o=>CX o pl v/\bm P o) T (dQ.nM U.gr d) p L E N af hb (λo v cR oR av F X Y O m w=>⟨?_,m.gr⟩) (λo v b4 vsl F cR oR av M c2 o2 a5 X Y aw ax hM I ay w m=>⟨?_,m.gr⟩)).mono ?_)
 .have W:=runK L r V.dO u X Y;rcases s with⟨a0,_⟩|⟨_,rfl⟩;·rw[(W.cm b).2 a0]at O;cases O
  exact Rj (pl:=[]) (vsl:=[]) m 0 rfl ⟨rfl,λb hb=>absurd hb aB⟩ w
 .rw[aas V r u hO D N hb s X Y aw ax hM I];exact Rj m 0 rfl ay w
 rintro v Q⟨w,hg⟩;have⟨b5,_,_,_⟩:=w.all;have U:=U.cI hg;have a:=dQ.nM hg a;have i:=dQ.P5.jU hg i;refine ah ?_;refine RO.eQ U 0 ?_;refine RO.eQ U 1 ?_;refine RO.cl (AO T a (dQ.nM U.gr d) t p λR hg=>?_);have U:=U.cI hg;refine ah ?_;refine RO.cl (zz T (dQ.P5.jU hg i) (dQ.P5.jU hg w) q.1 q.2 (λ_=>?_) (λc=>absurd rfl c));refine ah ?_;refine RO.cl (j λb6 hg=>?_);have U:=U.cI hg;refine ah ?_;exact Ru.aV (h _ U.gr)
end
end
end
end Go.am.R
namespace Go.am
section
variable[Ov]
section
variable{P:Program}
def agN(w:World):cU:=⟨λb=>w.heap.size<=b,λ_=>True,λ_=>False,λ_=>False⟩
end
section
variable{P:Program}
def nj(n c:Nat):Value->AV
 |.int k m=>.int (kc k) m
 |.bool b=>.bool b
 |.string t=>.str (t.data.toList.map alv)
 |.slice none 0 0=>.aS
 |.slice (some a) len cap=>if len<=cap then(if cap=0 then(if 0<c then .slice (ab.dF n) 0 0 0 true else .co)else match a with
   |⟨b,off,none⟩=>if b<c then .slice (ab.dF (n+b)) off len cap true else .co
   |_=>.co)else .co
 |_=>.co
def y9(P:Program)(n:Nat)(w:World):aP:=⟨λj=>if j.an<=n then some (j.an - 1,0)else if j.an<=n+w.heap.size then some (j.an - n - 1,0)else none,λb=>match w.heap[b]? with
 |some (.cells cs e _)=>(cs.size,(fY P e).getD 0)
 |_=>(0,0)⟩
theorem Ko{n b:Nat}{w:World}(h:b<w.heap.size):y9 P n w (ab.dF (n+b))=some (b,0):=by show(if(ab.dF (n+b)).an<=n then _ else _)=_;rw[ab.ml,aq af,aK af];congr 2;omega
theorem Q3{n:Nat}{w:World}(v:Value):VR (y9 P n w) (nj n w.heap.size v) v:=by
 unfold nj;split;·trivial
 .rfl
 .rfl
 .trivial
 .split
  .rename_i h1;split
   .rename_i h2;subst h2;split;·rename_i h3;simp only[VR];exact⟨af,afb _,afb _,λ_=>trivial,0,0,by have:=Ko (P:=P) (n:=n) h3;omega,λh=>absurd rfl h,λh=>by simp⟩
    trivial
   split;·rename_i b off;split;all_goals simp_all[VR,trivial,afb,Ko,akh]
   trivial
  trivial
 trivial
def rE(n:Nat)(w:World)(b:Nat):cq:=match w.heap[b]? with
 |some (.cells cs e _)=>.cells (db (cs.toList.map (nj n w.heap.size))) cs.size e false [] 0
 |_=>.none
def Fy(n:Nat)(w:World):Nat->ap cq
 |0=>.aL
 |k+1=>(Fy n w k).set .none (ab.dF (n+k)) (rE n w k)
def nk(n:Nat)(w:World):ai:=⟨Fy n w w.heap.size,ab.dF (n+w.heap.size)⟩
theorem Q4(n:Nat)(w:World)(j:ab):∀k,ap.get cq.none j (Fy n w k)=if n<j.an/\j.an<=n+k then rE n w (j.an - n - 1)else .none
 |0=>by rw[aq af];exact rT j j
 |k+1=>by
  rw[Fy,ap.aF,Q4 n w j k];have e:j=ab.dF (n+k)↔j.an=n+k+1:=⟨λe=>by rw[e,ab.ml],λe=>ab.uC (by rw[ab.ml];exact e)⟩;by_cases h:j.an=n+k+1;·rw[aK (e.2 h),aK af];congr 1;omega
  rw[aq λa=>h (e.1 a)];by_cases h2:n<j.an/\j.an<=n+k;·rw[aK h2,aK af]
  rw[aq h2,aq af]
theorem Q5(n:Nat)(w:World)(j:ab):(nk n w).get j=if n<j.an/\j.an<=n+w.heap.size then rE n w (j.an - n - 1)else .none:=Q4 n w j _
theorem Q6{n b:Nat}{w:World}(h:b<w.heap.size):(nk n w).get (ab.dF (n+b))=rE n w b:=by rw[Q5,ab.ml,aK af];congr 1;omega
theorem agO{n b:Nat}{w:World}{cs:Array Value}{e:TypeId}{fr:Nat×Nat}(h:w.heap[b]?=some (.cells cs e fr)):OR P (y9 P n w) (rE n w b) 0 (.cells cs e fr):=by simp only[rE,h,OR];simp_all[trivial,i,akh,getElem?_pos,Ao,akN,Array.getElem_toList,Q3]
theorem agP{n:Nat}{w:World}(E:P.globals.size=n)(F:n<=w.heap.size):bz P (agN w) (y9 P n w) (nk n w) w:=by
 have hg:=Q5 n w;have key:∀i,(nk n w).get i≠.none->∃b c e f,i.an=n+b+1/\b<w.heap.size/\w.heap[b]?=some (.cells c e f)/\(nk n w).get i=rE n w b/\y9 P n w i=some (b,0):=by
  intro i hi;have r:=hg i;rw[r]at hi;split at hi
  .rename_i h;have hb:i.an - n - 1<w.heap.size:=af;have p:=hi;unfold rE at p;split at p;·rename_i cs e f z;refine⟨i.an - n - 1,cs,e,f,af,hb,z,by rw[r,aK h],?_⟩;rw[show i=ab.dF (n+(i.an - n - 1))from ab.uC (by rw[ab.ml];omega)];have:=Ko (P:=P) (n:=n) hb;rw[this,ab.ml];congr 2;omega
   exact absurd rfl p
  exact absurd rfl hi
 have l:∀b c e f,w.heap[b]?=some (.cells c e f)->rE n w b=.cells (db (c.toList.map (nj n w.heap.size))) c.size e false [] 0:=λb c e f h=>by simp only[rE,h]
 have s:∀i j,i∉((nk n w).get j).aM:=λi j h=>by
  by_cases hj:(nk n w).get j=.none;·rw[hj]at h;cases h
  obtain⟨b,c,e,f,_,_,h3,o,_⟩:=key j hj;rw[o,l b c e f h3]at h;cases h
 refine⟨λi hi=>?_,λi j b x y u hi hj a m=>?_,λi j h=>absurd h (s i j),λi b x hi v q=>?_,λi hi=>?_,λk A=>⟨A,trivial⟩,λg h=>?_,λi b x G hi a m=>?_,λi b x q=>?_,λi b x _ _=>trivial,λi h=>h.elim,λi h=>h.elim⟩;·obtain⟨b,c,e,f,_,_,h3,o,t⟩:=key i hi;exact⟨b,0,_,t,h3,by rw[o];exact agO h3⟩
 .exfalso;obtain⟨b1,_,_,_,H,_,_,_,B⟩:=key i hi;obtain⟨b2,_,_,_,I,_,_,_,C⟩:=key j hj;rw[B]at a;rw[C]at m;injection a with a;injection a with a;injection m with m;injection m with m;exact u (ab.uC af)
 .obtain⟨b1,c,e,f,_,_,h3,o,_⟩:=key i hi;rw[o,l b1 c e f h3]at v;cases v
 .have D:n+w.heap.size+1<=i.an:=by have:(ab.dF (n+w.heap.size)).an<=i.an:=hi;rw[ab.ml]at this;exact this
  refine⟨by rw[hg,aq af],?_⟩;show(if i.an<=n then _ else _)=_;rw[aq af,aq af]
 .show(if(ab.dF g).an<=n then _ else _)=_;rw[ab.ml,aK af];simp
 .obtain⟨b1,c,e,f,_,_,h3,o,t⟩:=key i hi;rw[t]at a;injection a with a;injection a with a;subst a;rw[h3]at m;injection m with m;subst m;rw[o,l b1 c e f h3];simp only[gS];show(match w.heap[b1]? with|some (.cells cs e _)=>(cs.size,(fY P e).getD 0)|_=>(0,0))=_;rw[h3]
 have d:(if i.an<=n then some (i.an - 1,0)else if i.an<=n+w.heap.size then some (i.an - n - 1,0)else none)=some (b,x):=q;have:=ab.uB i;split at d;·injection d with d;injection d with d;omega
 split at d;·injection d with d;injection d with d;omega
 cases d
end
section
variable{P:Program}{K:Type}{eL:TypeId×Value->K}{w:World}{n:Nat}
def oG(eL:TypeId×Value->K)(P:Program)(w:World)(t:TypeId)(cs:List Value):Prop:=∃a x,DataW.trod eL P w 0 (λ_=>true) true a t cs=some x
theorem Q7{a:Addr}{v:Value}(h:w.cell? a=some v):∃c e f,a.spot=none/\w.heap[a.block]?=some (.cells c e f)/\c[a.off]?=some v:=by unfold World.cell? at h;split at h;all_goals simp_all
theorem Q8{b off i:Nat}:(⟨b,off,none⟩:Addr).add i=⟨b,off+i,none⟩:=by simp[Addr.add]
theorem Q9{c:Type}{Q:Nat->c->Prop}:∀{len:Nat},(∀i,i<len->∃a,Q i a)->∃b:List c,b.length=len/\∀i(h:i<b.length),Q i b[i]|0,_=>⟨[],rfl,λi h=>absurd h aB⟩|len+1,h=>by obtain⟨b,h1,h2⟩:=Q9 (len:=len) λi hi=>h i af;obtain⟨a,d⟩:=h len aB;refine⟨b++[a],by grind,λi hi=>?_⟩;grind
theorem C'{M:Type}{R:ai->M->List AV->Prop}{X:M->Prop}{t e:TypeId}{size:Nat}(ht:P.underlying t=some (.slice e))(A:P.cellsOf e=size)(S:0<size)(hg:∃c e f,w.heap[0]?=some (.cells c e f))(T:∀cs,oG eL P w e cs->∃a:M,R (nk n w) a (cs.map (nj n w.heap.size))/\X a){cs:List Value}(h:oG eL P w t cs):∃v N,cs=[v]/\dV size R (nk n w) N (nj n w.heap.size v)/\∀a∈N,X a:=by
 obtain⟨ax,x,h⟩:=h;obtain⟨c0,e0,f0,V⟩:=hg;have B:0<w.heap.size:=(Array.getElem?_eq_some_iff.1 V).1;rcases DataW.trod_slice ht h with⟨rfl,_⟩|⟨a,len,cap,r,I,m,_,rfl,_,_,C,_,ay,J,s,_⟩;·exact⟨_,[],rfl,⟨[],.inl ⟨rfl,rfl,rfl⟩,λk l=>absurd l aB⟩,λa h=>by grind⟩
 have D:∀i,i<cap->∃cs,w.cells? 0 (a.add (i*size)) size=some cs/\(i<len->∃y,DataW.trod eL P w 0 (λ_=>true) true m e cs=some y):=λi hi=>by
  by_cases hl:i<len;·have h1:=J i hl;rw[getElem?_pos r i af,aed]at h1;obtain⟨cs,h2,h3⟩:=h1;rw[A]at h2;exact⟨cs,h2,λ_=>⟨_,h3⟩⟩
  obtain⟨h0,h1⟩:=s rfl;have h1:=h1 (i - len) af;rw[getElem?_pos I _ af,aed]at h1;obtain⟨cs,h2,_⟩:=h1;rw[A,show len+(i - len)=i by omega]at h2;exact⟨cs,h2,λh=>absurd h hl⟩
 by_cases E:cap=0
 .subst E;obtain rfl:len=0:=af;refine⟨_,[],rfl,⟨[],?_,λk l=>absurd l aB⟩,λa h=>by grind⟩;simp only[nj,afb,bq,B];refine .inr ⟨ab.dF n,0,0,true,db (c0.toList.map (nj n w.heap.size)),c0.size,e0,false,[],0,rfl,?_,aB,aB,λj hj=>absurd hj aB,?_,afb _⟩;·have:=Q6 (n:=n) B;simp_all[alG,rE]
  show(ab.dF n).an<(ab.dF (n+w.heap.size)).an;simp_all[ab.ml]
 obtain⟨W,h1,_⟩:=D 0 af;obtain⟨_,a0,Y⟩:=World.cells?_some h1;have F:=Y 0 S;rw[getElem?_pos W 0 af]at F;obtain⟨c,e',f',q,d,g⟩:=Q7 F;have Z:(a.add (0*size)).add 0=a:=by rw[Nat.zero_mul];unfold Addr.add;simp
 rw[Z]at q d g;obtain⟨b,off,sp⟩:=a;simp only at q d g;subst q;have cA:b<w.heap.size:=(Array.getElem?_eq_some_iff.1 d).1;have cell:∀i,i<cap->∃cs,cs.length=size/\(∀j(h:j<cs.length),c[off+i*size+j]?=some cs[j])/\(i<len->∃y,DataW.trod eL P w 0 (λ_=>true) true m e cs=some y):=λi hi=>by obtain⟨cs,O,u⟩:=D i hi;obtain⟨_,z,Q⟩:=World.cells?_some O;refine⟨cs,z,λj hj=>?_,u⟩;have g5:=Q j af;rw[getElem?_pos cs j hj,Q8,Q8]at g5;obtain⟨c',_,_,_,o,g7⟩:=Q7 g5;simp only at o g7;rw[d]at o;injection o with o;injection o with o;subst o;exact g7
 have K:off+len*size<=c.size:=by
  by_cases ag:len=0;·subst ag;have:=(Array.getElem?_eq_some_iff.1 g).1;omega
  obtain⟨cs,O,u,_⟩:=cell (len - 1) af;have:=(Array.getElem?_eq_some_iff.1 (u (size - 1) af)).1;have e:len*size=(len - 1)*size+size:=by conv=>lhs;rw[show len=len - 1+1 by omega,Nat.succ_mul]
  omega
 have L:nj n w.heap.size (.slice (some ⟨b,off,none⟩) len cap)=.slice (ab.dF (n+b)) off len cap true:=by simp only[nj,C,E,cA,bq,bP]
 let p:List AV:=(ake (len*size)).map λj=>nj n w.heap.size (c.getD (off+j) default);have G:p.length=len*size:=by simp[p]
 have av:∀i,i<len->∃a:M,R (nk n w) a ((p.drop (i*size)).take size)/\X a:=λi hi=>by
  obtain⟨cs,O,u,z⟩:=cell i af;obtain⟨y,z⟩:=z hi;obtain⟨a,r1,r2⟩:=T cs ⟨m,y,z⟩;refine⟨a,?_,r2⟩;suffices e:(p.drop (i*size)).take size=cs.map (nj n w.heap.size)by rw[e];exact r1
  have a1:i*size+size<=len*size:=by rw[<-Nat.succ_mul];exact aky _ hi
  apply alg;·rw[akF,alC,G,akg,O];omega
  intro j h1 h2;rw[akg]at h2;have Q:=u j h2;simp only[List.getElem_take,List.getElem_drop,p,akN,alA];rw[<-alo,akJ,Q];rfl
 obtain⟨N,aw,hq⟩:=Q9 av;refine⟨_,N,rfl,⟨p,?_,λk l=>(hq k l).1⟩,λa ha=>?_⟩
 .rw[L,aw];refine .inr ⟨ab.dF (n+b),off,cap,true,db (c.toList.map (nj n w.heap.size)),c.size,e',false,[],0,rfl,?_,K,G,λj hj=>?_,?_,C⟩;·rw[Q6 cA];simp only[rE,d]
  .have H:off+j<c.size:=af;rw[Ao (by simpa using H)];simp only[akN,Array.getElem_toList,p,alA];rw[akJ,getElem?_pos c _ H];rfl
  show(ab.dF (n+b)).an<(ab.dF (n+w.heap.size)).an;rw[ab.ml,ab.ml];omega
 obtain⟨k,l,rfl⟩:=aka ha;exact(hq k l).2
end
section
variable{P:Program}{K:Type}{eL:TypeId×Value->K}{w:World}{n:Nat}
def A6(P:Program)(t:TypeId)(l:List (TypeId×Nat)):Prop:=∃fs,P.underlying t=some (.struct fs)/\fs.toList.map (λf=>(f.type,f.offset))=l
theorem Da{t:TypeId}{l:List (TypeId×Nat)}(d:A6 P t l){cs:List Value}(h:oG eL P w t cs):cs.length=P.cellsOf t/\∀p∈l,oG eL P w p.1 ((cs.drop p.2).take (P.cellsOf p.1)):=by
 obtain⟨fs,e,rfl⟩:=d;obtain⟨c,x,h⟩:=h;obtain⟨g,m,_,_,h1,h2,h3⟩:=DataW.trod_struct e h;refine⟨h1,λp j=>?_⟩;obtain⟨f,a,rfl⟩:=akk.1 j;obtain⟨i,hi,rfl⟩:=aka a;have b:i<fs.size:=by simpa using hi
 have:=h3 i fs[i] (getElem?_pos fs i b);rw[getElem?_pos g i af]at this;exact⟨m,_,this⟩
structure Q'(P:Program)where
 i:TypeId
 u:TypeId
 s:TypeId
 is:TypeId
 us:TypeId
 e:TypeId
 es:TypeId
 st:TypeId
 Db:TypeId
 j:TypeId
 b:TypeId
 bs:TypeId
 g:TypeId
 hi:P.underlying i=some (.int .i64)
 hu:P.underlying u=some (.int .u8)
 hs:P.underlying s=some .string
 ji:P.underlying is=some (.slice i)
 Ra:P.underlying us=some (.slice u)
 k7:P.underlying es=some (.slice e)
 Rb:P.underlying Db=some (.slice st)
 cA:P.underlying bs=some (.slice b)
 he:A6 P e [(i,0),(is,1)]
 eh:A6 P st [(u,0),(i,1),(is,2),(i,3),(i,4),(s,5)]
 hj:A6 P j [(u,0),(is,1),(s,2),(us,3),(es,4)]
 hb:A6 P b [(is,0),(Db,1),(j,2)]
 hg:A6 P g [(s,0),(i,1),(i,2),(bs,3)]
 ci:P.cellsOf i=1
 cu:P.cellsOf u=1
 cs:P.cellsOf s=1
 Dc:P.cellsOf is=1
 Rc:P.cellsOf us=1
 bx:P.cellsOf es=1
 Re:P.cellsOf Db=1
 Rf:P.cellsOf bs=1
 ce:P.cellsOf e=2
 Kq:P.cellsOf st=6
 cj:P.cellsOf j=5
 cb:P.cellsOf b=7
 cg:P.cellsOf g=4
abbrev AW(n:Nat)(w:World)(cs:List Value):List AV:=cs.map (nj n w.heap.size)
theorem dV.Rg{g:Type}{f:g->AV}{H:ai}{c:List g}{v:AV}(h:dV 1 (λ_ a cs=>cs=[f a]) H c v):Sl H 1 (c.map f) c.length v:=by
 obtain⟨i,h1,h2⟩:=h;have hl:=h1.length;have e:i=c.map f:=by apply alg (by rw[hl,akg];omega);intro k d b;rw[akg]at b;have:=h2 k b;rw[alt,aj9 d]at this;simp only[als,alm,akn,and_true]at this;rw[akN,this]
 grind
variable(Y:Q' P)
section
variable{Y}
theorem za{cs:List Value}(h:oG eL P w Y.i cs):∃m:Int,AW n w cs=[aI m]:=by obtain⟨a,x,h⟩:=h;obtain⟨m,rfl,_⟩:=DataW.trod_int Y.hi h;exact⟨m,rfl⟩
theorem Kr{cs:List Value}(h:oG eL P w Y.u cs):∃m:Nat,AW n w cs=[aU m]/\m<256:=by obtain⟨b,x,h⟩:=h;obtain⟨m,rfl,_,a⟩:=DataW.trod_int Y.hu h;simp only[Lit.wf,aj6,decide_eq_true_eq]at a;obtain⟨m,rfl⟩:∃k:Nat,m=k:=⟨m.toNat,by have:(0:Int)<=m:=a.1;omega⟩;exact⟨m,rfl,by have:(m:Int)<=255:=a.2;omega⟩
theorem Ks{cs:List Value}(h:oG eL P w Y.s cs):∃t:List Nat,AW n w cs=[.str t]/\∀c∈t,c<256:=by obtain⟨a,x,h⟩:=h;obtain⟨t,rfl,_⟩:=DataW.trod_string Y.hs h;exact⟨_,rfl,λc d=>by obtain⟨b,_,rfl⟩:=akk.1 d;exact b.toNat_lt⟩
variable(hg:∃c e f,w.heap[0]?=some (.cells c e f))
include hg
theorem Fz{cs:List Value}(h:oG eL P w Y.is cs):∃(v:AV)(l:List Int),AW n w cs=[v]/\fZ (nk n w) l v:=by obtain⟨v,a,rfl,h1,_⟩:=C' (n:=n) (R:=λ_(m:Int)cs=>cs=[aI m]) (X:=λ_=>True) Y.ji Y.ci aB hg (λcs h=>by obtain⟨m,e⟩:=za (Y:=Y) (n:=n) h;grind) h;exact⟨_,a,rfl,dV.Rg h1⟩
theorem agQ{cs:List Value}(h:oG eL P w Y.us cs):∃(v:AV)(l:List Nat),AW n w cs=[v]/\Ie (nk n w) l v/\∀c∈l,c<256:=by obtain⟨v,a,rfl,h1,h2⟩:=C' (n:=n) (R:=λ_(m:Nat)cs=>cs=[aU m]) (X:=λc=>c<256) Y.Ra Y.cu aB hg (λcs h=>by obtain⟨m,e,e2⟩:=Kr (Y:=Y) (n:=n) h;grind) h;exact⟨_,a,rfl,dV.Rg h1,h2⟩
theorem agR{cs:List Value}(h:oG eL P w Y.e cs):∃e:G.Edge,sa (nk n w) e (AW n w cs):=by obtain⟨hl,a⟩:=Da Y.he h;rw[Y.ce]at hl;match cs,hl with|[c0,c1],_=>have b:=a (Y.i,0) aB;have c:=a (Y.is,1) aB;simp only[Y.ci,Y.Dc]at b c;obtain⟨m,d⟩:=za (Y:=Y) (n:=n) b;obtain⟨v,l,e1,h1⟩:=Fz (Y:=Y) (n:=n) hg c;simp only[List.drop_zero,als,alm,aj7,ali,List.drop_succ_cons,akn,and_true]at d e1;exact⟨⟨m,l⟩,v,by grind,h1⟩
theorem agS{cs:List Value}(h:oG eL P w Y.st cs):∃s:G.ic,qT (nk n w) s (AW n w cs)/\∀c∈s.name,c<256:=by obtain⟨hl,a⟩:=Da Y.eh h;rw[Y.Kq]at hl;match cs,hl with|[c0,c1,c2,A,c4,B],_=>have b:=a (Y.u,0) aB;have d:=a (Y.i,1) aB;have e:=a (Y.is,2) aB;have f:=a (Y.i,3) aB;have g:=a (Y.i,4) aB;have j:=a (Y.s,5) aB;simp only[Y.ci,Y.Dc,Y.cu,Y.cs]at b d e f g j;obtain⟨k,m,_⟩:=Kr (Y:=Y) (n:=n) b;obtain⟨o,e1⟩:=za (Y:=Y) (n:=n) d;obtain⟨v,l,e2,h2⟩:=Fz (Y:=Y) (n:=n) hg e;obtain⟨p,q⟩:=za (Y:=Y) (n:=n) f;obtain⟨r,x⟩:=za (Y:=Y) (n:=n) g;obtain⟨t,y,z⟩:=Ks (Y:=Y) (n:=n) j;simp only[List.drop_zero,als,alm,aj7,ali,List.drop_succ_cons,akn,and_true]at m e1 e2 q x y;exact⟨⟨k,o,l,p,r,t⟩,⟨v,by grind,h2⟩,z⟩
theorem agT{cs:List Value}(h:oG eL P w Y.j cs):∃j:G.lD,tw (nk n w) j (AW n w cs)/\(∀c∈j.name,c<256)/\∀c∈j.b9,c<256:=by obtain⟨hl,a⟩:=Da Y.hj h;rw[Y.cj]at hl;match cs,hl with|[c0,c1,c2,A,c4],_=>have d:=a (Y.u,0) aB;have f:=a (Y.is,1) aB;have g:=a (Y.s,2) aB;have i:=a (Y.us,3) aB;have k:=a (Y.es,4) aB;simp only[Y.Dc,Y.cu,Y.cs,Y.Rc,Y.bx]at d f g i k;obtain⟨m,o,_⟩:=Kr (Y:=Y) (n:=n) d;obtain⟨p,q,e1,h1⟩:=Fz (Y:=Y) (n:=n) hg f;obtain⟨t,e2,h2⟩:=Ks (Y:=Y) (n:=n) g;obtain⟨r,v,x,h3,b⟩:=agQ (Y:=Y) (n:=n) hg i;obtain⟨B,y,l,z,_⟩:=C' (n:=n) (R:=sa) (X:=λ_=>True) Y.k7 Y.ce aB hg (λcs h=>by obtain⟨e,h⟩:=agR (Y:=Y) (n:=n) hg h;grind) k;simp only[List.drop_zero,als,alm,aj7,ali,List.drop_succ_cons,akn,and_true]at o e1 e2 x l;subst l;exact⟨⟨m,q,t,v,y⟩,⟨p,r,nj n w.heap.size c4,by grind,h1,h3,z⟩,h2,b⟩
structure Kt(b:G.gV):Prop where
 st:∀s∈b.aD,∀c∈s.name,c<256
 fn:∀c∈b.aA.name,c<256
 kd:∀c∈b.aA.b9,c<256
theorem agU{cs:List Value}(h:oG eL P w Y.b cs):∃b:G.gV,kj (nk n w) b (AW n w cs)/\Kt b:=by obtain⟨hl,a⟩:=Da Y.hb h;rw[Y.cb]at hl;match cs,hl with|[c0,c1,c2,p,c4,q,c6],_=>have g:=a (Y.is,0) aB;have i:=a (Y.Db,1) aB;have k:=a (Y.j,2) aB;simp only[Y.Dc,Y.Re,Y.cj]at g i k;obtain⟨v0,l,m,h0⟩:=Fz (Y:=Y) (n:=n) hg g;obtain⟨r,o,e1,h1,d⟩:=C' (n:=n) (R:=qT) (X:=λs=>∀c∈s.name,c<256) Y.Rb Y.Kq aB hg (λcs h=>agS (Y:=Y) (n:=n) hg h) i;obtain⟨j,h2,e,f⟩:=agT (Y:=Y) (n:=n) hg k;simp only[List.drop_zero,als,alm,aj7,ali,List.drop_succ_cons,akn,and_true]at m e1 h2;subst e1;exact⟨⟨l,o,j⟩,⟨v0,nj n w.heap.size c1,_,by simp_all,h0,h1,h2⟩,d,e,f⟩
structure Rh(g:G.bu):Prop where
 nm:∀c∈g.name,c<256
 bl:∀b∈g.al,Kt b
theorem agV{cs:List Value}(h:oG eL P w Y.g cs):∃g:G.bu,iG (nk n w) g (AW n w cs)/\Rh g:=by obtain⟨hl,a⟩:=Da Y.hg h;rw[Y.cg]at hl;match cs,hl with|[c0,c1,c2,k],_=>have c:=a (Y.s,0) aB;have d:=a (Y.i,1) aB;have e:=a (Y.i,2) aB;have f:=a (Y.bs,3) aB;simp only[Y.cs,Y.ci,Y.Rf]at c d e f;obtain⟨t,l,h0⟩:=Ks (Y:=Y) (n:=n) c;obtain⟨m,e1⟩:=za (Y:=Y) (n:=n) d;obtain⟨o,e2⟩:=za (Y:=Y) (n:=n) e;obtain⟨q,p,j,h3,b⟩:=C' (n:=n) (R:=kj) (X:=Kt) Y.cA Y.cb aB hg (λcs h=>agU (Y:=Y) (n:=n) hg h) f;simp only[List.drop_zero,als,alm,aj7,ali,List.drop_succ_cons,akn,and_true]at l e1 e2 j;subst j;exact⟨⟨t,m,o,p⟩,⟨nj n w.heap.size k,by grind,h3⟩,h0,b⟩
end
end
end
end Go.am
end
