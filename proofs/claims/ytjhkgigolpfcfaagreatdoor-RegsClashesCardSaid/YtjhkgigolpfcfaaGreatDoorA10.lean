/- A part of the proof. No conditions. -/
import Derived.Test.YtjhkgigolpfcfaaGreatDoorA09
set_option linter.all false
set_option maxHeartbeats 16000000
open Option.some renaming injEq→acm
open List renaming mem_singleton→ac3,mem_cons_self→adc,mem_cons→adC,mem_cons_of_mem→adD,getElem_mem→af0,replicate→af3,mem_append→agI,append_assoc→agJ,map_cons→agN,length_append→agP,drop_eq_getElem_cons→agR,getElem_of_mem→agS,mem_append_left→agU,range→agV,take_append_getElem→agX,getD_eq_getElem?_getD→agY,length_map→agZ,not_mem_nil→ag0,perm_middle→ag1,take_of_length_le→ag2,mem_map→ag3,mem_map_of_mem→ag5,mem_append_right→ag7,getElem?_map→ahc,getElem?_append_left→ahd,nodup_cons→ahg,length_cons→ahh,map_append→ahk,length_take→ahl,flatMap_append→ahn,eq_nil_of_length_eq_zero→ahp,getElem?_eq_getElem→ahr,getElem_map→aht,flatMap_singleton→ahu,getElem?_eq_some_iff→ahv,append_nil→ahx,nodup_append→ahy,cons_append→ahC,perm_append_comm→ahD,nil_append→ahH,getElem?_cons_succ→ahK,getElem?_replicate→ahL,length_replicate→ahM,length_set→ahN,take_append_drop→ahR,ext_getElem→ahU,map_nil→ahX,take_zero→ah0,take_length→ah2,mem_flatMap→ah6,flatMap_cons→ah8,map_replicate→aie,getElem_range→aif,map_map→aii,nodup_nil→aim
open Bool renaming false_eq_true→ac6,not_true→ag9
open Nat renaming le_refl→adW,le_of_ble_eq_true→agT,zero_add→agW,lt_of_lt_of_le→ag6,mul_le_mul_right→ahf,le_trans→ahY,add_assoc→ah3,mul_one→ah9,min_eq_left→aid,add_mul→aig,add_zero→ail
open Prod.mk renaming injEq→age
open Int renaming toNat_natCast→agK,ofNat_eq_natCast→agL,ofNat→ahI
open List.cons renaming injEq→ag4
open Classical renaming byContradiction→ahe
open List.Perm renaming cons→ahq,swap→ahw
open List.Sublist renaming refl→ahB,cons_cons→ahW
open BitVec renaming ofInt→ahJ
noncomputable section
namespace Go.ak.R
section
variable{ab:Nat→aE}
structure GX(g:G.bu)(H:af)(xq:ac)(vb cv:AV)(come:List Bool)(os:List (List bU))(svs:List AV):Prop where
 kB:xR H xq vb os svs
 bl:dL 7 jW H g.aj vb
 c0:bh H xq 0=some (.aC g.name)
 c1:bh H xq 1=some (aI g.params)
 c2:bh H xq 2=some (aI g.bi)
 c4:bh H xq 4=some cv
 c6:bh H xq 6=some (.bool false)
 cm:Sl H 1 (come.map .bool) come.length cv
theorem GX.cV{g:G.bu}{H H':af}{a:ac}{d h:AV}{come:List Bool}{os:List (List bU)}{c:List AV}(k:GX g H a d h come os c)(hg:bf H H'):GX g H' a d h come os c:=by have hl:=k.kB.lt;obtain⟨h1,h2,h3,b,e,f,i,j⟩:=k;exact⟨h1.cV hg,dH.block.jD hg h2,by rw[hg.bh hl];exact h3,by rw[hg.bh hl];exact b,by rw[hg.bh hl];exact e,by rw[hg.bh hl];exact f,by rw[hg.bh hl];exact i,hg.sl j⟩
structure dA(g:G.bu)(come:List Bool)(os:List (List bU)):Prop where
 cl:come.length=g.aj.length
 ol:os.length=g.aj.length
 c0:come.getD 0 false=true
 dP:∀b,come.getD b false=true→kP g b (os.getD b [])
 dn:∀b,come.getD b false=true→∀w∈cI g b (os.getD b []),come.getD w.1.toNat false=true
theorem adh(T:Tb ab){g:G.bu}{H:af}(q:G.Sm g)(r:iO g)(m:0<g.aj.length){cs:List AV}(hg:iD H g cs){K:AV→af→Prop}(s:∀H' a d h come os c,bf H H'→GX g H' a d h come os c→dA g come os→K (.aw a 0) H'):YF ab (.func Nl [] []) [.agg cs] H K:=by
 refine adg T q r m hg λH' a p t come os c d F us co j U=>?_;have i:∀(o:Nat)(v:AV),([.aC g.name,aI g.params,aI g.bi,d,.slice p 0 g.aj.length g.aj.length true,.slice t 0 g.aj.length g.aj.length true,.bool false]:List AV)[o]?=some v→bh H' a o=some v:=λo v u=>by obtain⟨_,l⟩:=U.get 0 rfl;exact tB.cell l u
 have n:a.al<H'.next.al:=by obtain⟨_,l⟩:=U.get 0 rfl;obtain⟨_,_,_,_,_,u⟩:=l;exact u
 have k:=j.ol;refine s H' a d (.slice p 0 g.aj.length g.aj.length true) come os c U.gr ⟨⟨n,i 3 _ rfl,⟨_,i 5 _ rfl,by rw[k];exact U.sl 1⟩,by rw[j.sl,k],λb hb=>?_⟩,dH.block.jD U.gr co,i 0 _ rfl,i 1 _ rfl,i 2 _ rfl,i 4 _ rfl,i 6 _ rfl,by rw[j.cl];exact U.sl 2⟩ ⟨j.cl,k,j.c0,j.dP,λb hb=>?_⟩;·have e:os.getD b []=os[b]:=bE hb _;cases i:come.getD b false with|true=>obtain⟨f,u,_⟩:=U.mC 3 rfl (j.fz b i);rw[e]at u;exact u|false=>obtain⟨h1,h2⟩:=j.nz b (by rw[←k];exact hb) i;rw[e]at h1;rw[h1,h2];exact .inl ⟨rfl,rfl,rfl⟩
 rcases j.dn b hb with u|u|u;·cases u
 ·cases u
 exact u
section
variable{g:G.bu}{d h:AV}{a:ac}{H:af}{come:List Bool}{os:List (List bU)}{c:List AV}
def lN(g:G.bu)(b:Nat)(e:List bU):List Nat:=(cI g b e).map λw=>w.1.toNat
theorem Eu{b:Nat}{now:List bU}(e:G.Sm g)(hb:b<g.aj.length):(cI g b now).length≤12:=by
 have:=(e.bl _ (af0 hb)).2.2.2.2.1;simp only[cI,bE hb];split;·simp
 split;·split<;>simp
 simp;omega
theorem IP(T:Tb ab)(E:G.Sm g)(m:iO g)(p:GX g H a d h come os c)(q:dA g come os){b:Nat}(hb:come.getD b false=true){K:AV→af→Prop}(W:∀H' v,ai H H' [tS 3 1 ((lN g b (os.getD b [])).map aN) (lN g b (os.getD b [])).length true v]→K v H'):YF ab (.func V' [] []) [.aw a 0,aN b] H K:=by
 have f:=q.dP b hb;have u:=Et hb (by simp);have i:b<os.length:=by rw[q.ol,←q.cl];exact u
 have x:∀w∈cI g b (os.getD b []),aI w.1=aN w.1.toNat:=λw M=>by obtain⟨h0,_⟩:=m.Cd f w M;obtain⟨t,N⟩:∃t:Nat,w.1=(t:Int):=⟨w.1.toNat,by omega⟩;rw[N];rfl
 have y:lM H (os.getD b []) (c.getD b .bX):=by rw[bE i];exact p.kB.bC b i
 have S:(cI g b (os.getD b [])).length≤100000:=by have:=Eu (now:=os.getD b []) E (m.aF f).lt;omega
 refine YF.code T.aaK (by simp) ?_;refine au ?_;refine RO.gk (ai.cW H) λH1 r U=>?_;refine au ?_;refine RO.cl (Oo T λs F I hl=>?_);have U:ai H s ([tB 3 I [aN b],tB l7 F [.aw a 0]]++[tS 3 1 [] 0 true .aP,tB gp r [.aP]]++[]):=(U.oG 3 1).fF hl;refine au ?_;refine Ru.wk (L:=[(p8,.func D1 [] [.aw F 0,.aw I 0]),(p4,.aw r 0)]) ?_;refine Ru.qz (J:=λk ts=>∃v,v.bB=true∧v.dQ=true∧v.cells=[v]∧ts=[tS 3 1 (((lN g b (os.getD b [])).take k).map aN) k true v,tB gp r [v]]) (Dn:=λ_ _=>False) U (Oq T E p.bl (b:=b) (now:=os.getD b []) (nv:=c.getD b .bX) (m.aF f) (m.jG f).1 (by have:=(m.jG f).2;omega)) (λs hg=>⟨os,c,p.kB.cV (U.gr.trans hg),i,(bE i _).symm,rfl⟩) ⟨_,rfl,rfl,rfl,rfl⟩ (λk args ws W=>by obtain⟨_,v,rfl,_⟩:=W;rfl) (λk ts us H' o U=>U.gr.sl y) (λk args ws ts us l o1 o2 H' V z o U=>?_) (λH' A J o U=>?_) (λj H' A J _ W=>W.elim)
 ·obtain⟨v,hd,h1,O,rfl⟩:=o;obtain⟨n,w,rfl,_⟩:=z;have U:=U.sub ((List.sublist_append_right _ _).append_right _);have P:=x _ (af0 n);rw[P];refine au ?_;refine Ru.dO U λs U=>?_;refine ah ?_;refine RO.push U 0 (λw H' L U=>?_) (ws:=[aN (cI g b (os.getD b []))[k].1.toNat]);have⟨B,C,D,_⟩:=(U.sl (e:=3) (size:=1) (n:=k+1) (full:=true) (sv:=L) 0).all;refine RO.fU U 1 (λQ U=>?_);refine ah ?_;refine Ru.bD (ts:=[_,_]) U ⟨L,B,C,D,?_⟩;have e:(lN g b (os.getD b [])).take (k+1)=(lN g b (os.getD b [])).take k++[(cI g b (os.getD b []))[k].1.toNat]:=by rw[List.take_succ];congr 1;rw[lN,ahc,ahr n];rfl
  rw[e,ahk];rfl
 obtain⟨v,hd,h1,O,rfl⟩:=o;have R:(cI g b (os.getD b [])).length=(lN g b (os.getD b [])).length:=by rw[lN,agZ]
 rw[R,ah2]at U;refine ah ?_;refine RO.fU U 1 (λQ U=>?_);refine ah ?_;refine Ru.nu (M:=[J]) (ts:=[_,_]) (U.cO (ag1 (l₁:=[_,_]))) λH' U=>⟨[v],⟨⟨_,_,rfl,U.one 1⟩,trivial⟩,W H' v (U.sub (List.Sublist.cons₂ _ (List.nil_sublist _)))⟩
end
end
section
structure kC(W:Nat→List Nat)(P:Nat→Prop)(been been':List Bool)(new:List Nat):Prop where
 len:been'.length=been.length
 bn:∀x,been'.getD x false=true↔been.getD x false=true∨x∈new
 nd:new.Nodup
 fr:∀x∈new,been.getD x false=false
 cl:∀x∈new,∀w∈W x,been'.getD w false=true
 sg:∀da x post,new=da++x::post→P x∨∃y∈post,x∈W y
variable{W:Nat→List Nat}{P Q:Nat→Prop}{a b c:List Bool}{d n2:List Nat}{k:Nat}
theorem kC.nil:kC W P a a []:=⟨rfl,λx=>by simp,aim,λ_ h=>by grind,λ_ h=>by grind,λda x b h=>by simp_all⟩
theorem kC.mono(h:kC W P a b d)(f:∀x,P x→Q x):kC W Q a b d:=⟨h.len,h.bn,h.nd,h.fr,h.cl,λda x c e=>(h.sg da x c e).imp_left (f x)⟩
theorem kC.vF(h:kC W P a b d)(h2:kC W P b c n2):kC W P a c (d++n2):=by
 refine⟨h2.len.trans h.len,λx=>?_,ahy.2 ⟨h.nd,h2.nd,λx f y i e=>?_⟩,λx f=>?_,λx f w j=>?_,λda x g e=>?_⟩;·rw[h2.bn,h.bn,agI,or_assoc]
 ·subst e;have h3:=h2.fr x i;rw[(h.bn x).2 (.inr f)]at h3;cases h3
 ·rcases agI.1 f with f|f;·exact h.fr x f
  have h3:=h2.fr x f;cases k:a.getD x false with|false=>rfl|true=>rw[(h.bn x).2 (.inl k)]at h3;cases h3
 ·rcases agI.1 f with f|f;·exact(h2.bn w).2 (.inl (h.cl x f w j))
  exact h2.cl x f w j
 rcases List.append_eq_append_iff.1 e with⟨l,rfl,e2⟩|⟨l,rfl,e2⟩;·exact h2.sg l x g e2
 cases l with
 |nil=>exact h2.sg [] x g (by simpa using e2.symm)
 |cons y l=>
  simp only[ahC,ag4]at e2;obtain⟨rfl,rfl⟩:=e2;rcases h.sg da x l rfl with h3|⟨y,i,h3⟩;·exact .inl h3
  exact .inr ⟨y,agU _ i,h3⟩
theorem kC.aq(hb:a.getD k false=false)(m:k<a.length)(h:kC W (·∈W k) (a.set k true) c d)(n:∀w∈W k,c.getD w false=true):kC W (·=k) a c (d++[k]):=by
 have e:∀x,(a.set k true).getD x false=true↔x=k∨a.getD x false=true:=λx=>by
  rw[e9 m];by_cases h:x=k;·simp[h]
  simp[h]
 have i:k∉d:=λo=>by have:=h.fr k o;rw[(e k).2 (.inl rfl)]at this;cases this
 refine⟨by rw[h.len];simp,λx=>?_,ahy.2 ⟨h.nd,by simp,λx b y g e=>?_⟩,λx b=>?_,λx b w f=>?_,λda x j e=>?_⟩
 ·rw[h.bn,e,agI,ac3];constructor
  ·rintro((h|h)|h);·exact .inr (.inr h)
   ·exact .inl h
   exact .inr (.inl h)
  rintro(h|h|h);·exact .inl (.inr h)
  ·exact .inr h
  exact .inl (.inl h)
 ·rw[ac3]at g;exact i (by rw[←g,←e];exact b)
 ·rcases agI.1 b with b|b;·have h3:=h.fr x b;cases p:a.getD x false with|false=>rfl|true=>rw[(e x).2 (.inr p)]at h3;cases h3
  rw[ac3]at b;subst b;exact hb
 ·rcases agI.1 b with b|b;·exact h.cl x b w f
  rw[ac3]at b;subst b;exact n w f
 rcases List.append_eq_append_iff.1 e with⟨l,rfl,e2⟩|⟨l,rfl,e2⟩;·cases l with|nil=>simp only[ahH,ag4]at e2;exact .inl e2.1.symm|cons y l=>simp at e2
 cases l with
 |nil=>simp only[ahH,ag4]at e2;exact .inl e2.1
 |cons y l=>
  simp only[ahC,ag4]at e2;obtain⟨rfl,rfl⟩:=e2;rcases h.sg da x l rfl with h3|⟨y,g,h3⟩;·exact .inr ⟨k,by simp,h3⟩
  exact .inr ⟨y,agU _ g,h3⟩
theorem kC.kQ(h:kC W P a b d)(g:∀x∈d,x<a.length):d.length+kQ b=kQ a:=by
 have h1:=h.len;have h2:=h.bn;have h3:=h.nd;have j:=h.fr;clear h;induction d generalizing a with
 |nil=>
  have:b=a:=by apply ahU h1;intro i hi hj;have:=h2 i;simp only[ag0,or_false]at this;rw[bE hi,bE hj]at this;cases k:b[i]<;>cases m:a[i]<;>simp[k,m]at this⊢
  subst this;simp
 |cons x l n=>
  have f:=g x (adc ..);have o:=j x (adc ..);have hs:=vZ f o;have e1:∀y,b.getD y false=true↔(a.set x true).getD y false=true∨y∈l:=λy=>by
   rw[h2,e9 f,adC];by_cases h:y=x;·simp[h]
   simp[h]
  have e2:∀y∈l,(a.set x true).getD y false=false:=λy c=>by rw[e9 f,an λe=>(ahg.1 h3).1 (by rw[←e];exact c)];exact j y (adD _ c)
  have p:=n (a:=a.set x true) (λy c=>by simpa using g y (adD _ c)) (by simpa using h1) e1 (ahg.1 h3).2 e2;simp only[ahh];omega
end
section
variable{ab:Nat→aE}
section
section
variable{g:G.bu}{j l:AV}{h a c d f i:ac}{H:af}{come:List Bool}{os:List (List bU)}{p:List AV}
def wW(g:G.bu)(os:List (List bU))(b:Nat):List Nat:=lN g b (os.getD b [])
theorem dA.lO(m:dA g come os){b w:Nat}(hb:come.getD b false=true)(e:w∈wW g os b):come.getD w false=true:=by simp only[wW,lN,ag3]at e;obtain⟨x,k,rfl⟩:=e;exact m.dn b hb x k
theorem dA.lt(e:dA g come os){b:Nat}(hb:come.getD b false=true):b<g.aj.length:=by rw[←e.cl];exact Et hb (by simp)
def Ow(a c d f:ac):AV:=.func V9 [] [.aw c 0,.aw a 0,.aw f 0,.aw d 0]
def zZ(h a c d f i:ac)(n:Nat)(e:List Bool)(b:List Nat)(g:AV):List Th:=[tS 3 1 (b.map aN) b.length true g,tB Vg f [Ow a c d f],tB gp d [g],tB Vh c [.slice i 0 n n true],tB l7 a [.aw h 0],tS 4 1 (e.map .bool) n true (.slice i 0 n n true)]
theorem adi(T:Tb ab)(Q:G.Sm g)(hE:iO g)(hX:GX g H h j l come os p)(F:dA g come os):∀(m b:Nat)(n:List Bool)(s:List Nat)(E:AV)(H':af)(us:List Th)(K:AV→af→Prop),kQ n≤m→come.getD b false=true→n.length=g.aj.length→s.length+kQ n≤g.aj.length→ai H H' (zZ h a c d f i g.aj.length n s E++us)→(∀H2 y new R ws,kC (wW g os) (·=b) n y new→y.getD b false=true→(∀x∈new,come.getD x false=true)→ai H H2 (zZ h a c d f i g.aj.length y (s++new) R++(ws++us))→K (iu []) H2)→YF ab (Ow a c d f) [aN b] H' K:=by
 intro m;induction m with
 |zero=>intro b n s E H' us K hm hb hl ho U bb;have J:=F.lt hb;refine YF.code T.NO (by simp) ?_;refine ah ?_;cases t:n.getD b false with|true=>refine RO.eH U 5 (v:=.bool true) (hv:=by rw[pS false (by omega),t]) ?_;refine ah ?_;refine Ru.nS (vs:=[]) trivial (bb H' n [] E [] kC.nil t (λ_ bb=>by simp at bb) (by rw[ahx];exact U))|false=>have:=vZ (k:=b) (by omega) t;omega
 |succ m ih=>
  intro b n s E H' us K hm hb hl ho U bb;have ax:=Q.nb;have J:=F.lt hb;refine YF.code T.NO (by simp) ?_;refine ah ?_;cases t:n.getD b false with
  |true=>refine RO.eH U 5 (v:=.bool true) (hv:=by rw[pS false (by omega),t]) ?_;refine ah ?_;refine Ru.nS (vs:=[]) trivial (bb H' n [] E [] kC.nil t (λ_ bb=>by simp at bb) (by rw[ahx];exact U))
  |false=>
   have ay:=vZ (k:=b) (by omega) t;have av:(wW g os b).length≤12:=by have:=Eu (now:=os.getD b []) Q J;simpa[wW,lN]using this
   refine RO.eH U 5 (v:=.bool false) (hv:=by rw[pS false (by omega),t]) ?_;refine ah ?_;refine RO.ml U 5 true hl (λH3 U=>?_) (k:=b);refine ah ?_;refine RO.cl (IP T Q hE (hX.cV U.gr) F hb λH4 v L=>?_);have U:=U.fF L;change ai H H4 ([tS 3 1 ((wW g os b).map aN) (wW g os b).length true v]++(zZ h a c d f i g.aj.length (n.set b true) s E++us))at U;have U:=ai.gC (xs:=[_]) (by rw[agJ];exact U);have⟨a1,_,_,a2⟩:=(L.sl (e:=3) (size:=1) (sv:=v) (vs:=(wW g os b).map aN) (n:=(wW g os b).length) (full:=true) 0).all;refine ah ?_;refine Ru.nm λS M hS hM=>?_;refine Ru.cA hM (up (P:=λk=>∀I r new C ws,kC (wW g os) (·∈wW g os b) (n.set b true) r new→(∀x∈new,come.getD x false=true)→(∀w∈(wW g os b).take k,r.getD w false=true)→ai H I (zZ h a c d f i g.aj.length r (s++new) C++(tS 3 1 ((wW g os b).map aN) (wW g os b).length true v::(ws++us)))→Ru ab _ S ([(bJ,aN k)]++pk M [p0,p3,p4,aY,bw]) I) (wW g os b).length (λk hk V I r new C ws P hc hw U=>?_) 0 (by omega) _ _ [] _ [] kC.nil (λ_ bb=>by simp at bb) (λ_ bb=>by simp at bb) (by rw[ahx];exact U));have a6:=P.kQ λx z=>by rw[ahN,hl];exact F.lt (hc x z)
   have W:r.length=g.aj.length:=by rw[P.len,ahN,hl]
   subst hS;subst hM;refine Ru.loop ?_;refine au ?_;refine Ru.cond (λX=>?_) (λX=>?_)
   ·refine ah ?_;refine RO.jX (bf.refl I) (U.sl (e:=3) (size:=1) (sv:=v) (vs:=(wW g os b).map aN) (n:=(wW g os b).length) (full:=true) 6) (λq o hj Y=>?_);refine RO.aW ?_ (hc:=Y);refine ah ?_;refine RO.cl (ih ((wW g os b)[k]) r (s++new) C I _ _ (by omega) (F.lO hb (af0 hj)) W (by rw[agP];omega) U λH5 A B Z D N ag ar U=>?_);refine ah ?_;have g1:∀x∈new++B,come.getD x false=true:=λx z=>by
     rcases agI.1 z with z|z;·exact hc x z
     exact ar x z
    have g2:∀w∈(wW g os b).take (k+1),A.getD w false=true:=λw u=>by
     rw[List.take_succ,ahr hj]at u;rcases agI.1 u with u|u;·exact(N.bn w).2 (.inl (hw w u))
     simp at u;rw[u];exact ag
    have U:=U.cO (List.Perm.append_left _ (ag1 (l₁:=D)));rw[agJ s,←agJ D]at U;exact Ru.wk (V (k+1) (by omega) (by omega) H5 A (new++B) Z (D++ws) (P.vF (N.mono λx bb=>by rw[bb];exact af0 hj)) g1 g2 U)
   refine Ru.exitTo ?_;refine ah ?_;refine RO.push U 0 (λw H6 v2 U=>?_) (ws:=[aN b]) (hb:=by rw[agP];omega) (hn:=by rw[agP];omega);have⟨a8,a',ba,_⟩:=(U.sl (e:=3) (size:=1) (n:=(s++new).length+1) (full:=true) (sv:=v2) 0).all;refine RO.fU U 2 (λH7 U=>?_);refine ah ?_;have O:=kC.aq t (by omega) P (λw u=>hw w (by rw[ag2 (by omega)];exact u));refine Ru.aq (vs:=[]) trivial (bb H7 r (new++[b]) v2 (tS 3 1 ((wW g os b).map aN) (wW g os b).length true v::ws) O ((O.bn b).2 (.inr (by simp))) (λx z=>?_) ?_)
   ·rcases agI.1 z with z|z;·exact hc x z
    rw[ac3]at z;rw[z];exact hb
   have e:((s++(new++[b])).map aN)=(s++new).map aN++[aN b]:=by simp
   have e2:(s++(new++[b])).length=(s++new).length+1:=by simp;omega
   simp only[zZ,e,e2];exact U
end
end
section
theorem adj{l:List Nat}{i j x a b:Nat}(hi:i<l.length)(hj:j<l.length):((l.set i a).set j b).getD x 0=if x=j then b else if x=i then a else l.getD x 0:=by rw[e9 (by simpa using hj),e9 hi]
theorem adk(T:Tb ab){A H:af}{us:List Th}{l:List Nat}{n cap:Nat}{q:ac}{ex:Bool}(o:l.length=n)(h0:0<n)(y:n<1000000)(U:ai A H (tS 3 1 (l.map aN) n true (.slice q 0 n cap ex)::us)){K:AV→af→Prop}(r:∀H',ai A H' (tS 3 1 (l.reverse.map aN) n true (.slice q 0 n cap ex)::us)→K (iu []) H'):YF ab (.func Wa [] []) [.slice q 0 n cap ex] H K:=by
 refine YF.code T.aaL (by simp) ?_;refine au ?_;refine RO.arith (v:=aN (n - 1)) ?_ (hv:=nU (k:=n) (by omega) (by omega));refine au ?_;refine Ru.nm λS M s p=>?_;refine Ru.cA p (up (P:=λk=>∀i a,a.length=n→(∀x,x<n→a.getD x 0=if x<k∨n≤x+k then l.getD (n - 1 - x) 0 else l.getD x 0)→ai A i (tS 3 1 (a.map aN) n true (.slice q 0 n cap ex)::us)→Ru ab _ S ([(p2,aN k),(p3,aN (n - 1 - k))]++pk M [p0]) i) (n - 1) (λk z t i a b g U=>?_) 0 (by omega) _ l o (λx g=>by rw[an (by omega)]) U);subst s;subst p;refine Ru.loop ?_;refine au ?_;refine Ru.cond (λj=>?_) (λj=>?_)
 ·refine sD ?_;refine RO.eH U 0 (hv:=pS 0 (by omega)) ?_;refine sD ?_;refine RO.eH U 0 (hv:=pS 0 (by omega)) ?_;refine sD ?_;refine RO.ml (f:=aN) U 0 (a.getD (n - 1 - k) 0) b (λB U=>?_) (k:=k);refine sD ?_;refine RO.ml (f:=aN) (zs:=a.set k (a.getD (n - 1 - k) 0)) (n:=n) U 0 (a.getD k 0) (by rw[ahN];exact b) (λu U=>?_) (k:=n - 1 - k) (ho:=by rw[ahN];omega);refine sD ?_;refine RO.arith (v:=aN (n - 1 - (k+1))) ?_ (hv:=by rw[show n - 1 - (k+1)=n - 1 - k - 1 by omega];exact nU (k:=n - 1 - k) (by omega) (by omega));refine au ?_;have v:∀x,x<n→((a.set k (a.getD (n - 1 - k) 0)).set (n - 1 - k) (a.getD k 0)).getD x 0=if x<k+1∨n≤x+(k+1)then l.getD (n - 1 - x) 0 else l.getD x 0:=λx m=>by
   rw[adj (by omega) (by omega)];by_cases h1:x=n - 1 - k;·rw[aH h1,aH (by omega),g k (by omega),an (by omega),h1];congr 1;omega
   rw[an h1];by_cases h2:x=k;·rw[aH h2,aH (by omega),g _ (by omega),an (by omega),h2]
   rw[an h2,g x m];by_cases h3:x<k∨n≤x+k;·rw[aH h3,aH (by omega)]
   rw[an h3,an (by omega)]
  have w:((a.set k (a.getD (n - 1 - k) 0)).set (n - 1 - k) (a.getD k 0)).length=n:=by simpa using b
  exact Ru.wk (t (k+1) (by omega) (by omega) u _ w v U)
 refine Ru.exitTo ?_;refine au ?_;have e:a=l.reverse:=by
  apply ahU (by simp[b,o]);intro x h1 h2;have h3:=g x (by omega);rw[bE h1]at h3;rw[h3,List.getElem_reverse];split;·rw[bE (by omega)];congr 1;omega
  rw[bE (by omega)];congr 1;omega
 subst e;exact Ru.aq (vs:=[]) trivial (r _ U)
section
variable{g:G.bu}{d f:AV}{c:ac}{H:af}{come:List Bool}{os:List (List bU)}{h:List AV}
structure iP(g:G.bu)(come:List Bool)(os:List (List bU))(ap:List Nat):Prop where
 nd:ap.Nodup
 mem:∀b,b∈ap↔come.getD b false=true
 hd:∃rest,ap=0::rest
 aK:∀da x post,ap=da++x::post→x=0∨∃y∈da,x∈wW g os y
theorem kC.ap(r:iO g)(m:dA g come os){a:List Bool}{n:Nat}{new:List Nat}(t:kC (wW g os) (·=0) (af3 n false) a new)(h0:a.getD 0 false=true)(p:∀x∈new,come.getD x false=true):iP g come os new.reverse:=by
 have j:∀x,a.getD x false=true↔x∈new:=λx=>by
  rw[t.bn];constructor
  ·rintro(t|t);·simp[agY,ahL]at t;split at t<;>cases t
   exact t
  exact .inr
 have hl:∀b o,kP g b o→b∈new:=λb o hl=>by induction hl with|zero=>exact(j 0).1 h0| @step b o w hb s q=>have e:=r.Es hb (m.dP b (p b q));refine(j _).1 (t.cl b q _ ?_);simp only[wW,lN,←e];exact ag5 s
 refine⟨List.pairwise_reverse.2 (t.nd.imp λt=>t.symm),λb=>?_,?_,λda x i e=>?_⟩;·rw[List.mem_reverse];exact⟨p b,λhb=>hl b _ (m.dP b hb)⟩
 ·have h1:=(j 0).1 h0;rcases List.eq_nil_or_concat new with rfl|⟨l,x,rfl⟩;·simp at h1
  rcases t.sg l x [] (by simp)with h2|⟨y,k,_⟩;·exact⟨l.reverse,by simp[h2]⟩
  simp at k
 have e2:new=i.reverse++x::da.reverse:=by have:=congrArg List.reverse e;simpa using this
 rcases t.sg _ _ _ e2 with h2|⟨y,k,h2⟩;·exact .inl h2
 exact .inr ⟨y,List.mem_reverse.1 k,h2⟩
theorem IQ(T:Tb ab)(m:G.Sm g)(n:iO g)(b:GX g H c d f come os h)(a:dA g come os){K:AV→af→Prop}(S:∀H' v ap,iP g come os ap→ai H H' [tS 3 1 (ap.map aN) ap.length true v]→K v H'):YF ab (.func VU [] []) [.aw c 0] H K:=by
 have E:=m.nb;have F:=a.lt a.c0;have⟨hd,_,_,I⟩:=b.bl.all;have i:=b.kB.aF;have j:=b.kB.lt;refine YF.code T.aat (by simp) ?_;refine au ?_;refine RO.dS (ai.cW H) λH1 t U=>?_;refine ah ?_;refine RO.aW ?_ (hc:=by rw[U.gr.bh j];exact i);refine ah ?_;refine RO.nV U (n:=g.aj.length) (λJ u U=>?_) (hz:=by rw[iM];simp);have w:fx [AV.bool false] g.aj.length=(af3 g.aj.length false).map .bool:=by rw[iM,aie]
 rw[w]at U;refine RO.fG U λL y U=>?_;refine ah ?_;refine RO.gk U λM z U=>?_;refine ah ?_;refine RO.gk U λN A U=>?_;refine ah ?_;refine RO.fU U 0 (λB U=>?_);refine ah ?_;have U:=(U.oG 3 1);have U:ai H B (zZ c t y z A u g.aj.length (af3 g.aj.length false) [] .aP++[]):=U.cO (List.Perm.append_left [_,_,_,_] (ahw ..));refine RO.cl (adi T m n b a _ 0 _ [] _ _ [] _ (adW _) a.c0 (by simp) (by rw[Ce];simp) U λO s new P Q o hb hc U=>?_);have p:=o.ap n a hb hc;have k:0<new.length:=by obtain⟨r,C⟩:=p.hd;have:=congrArg List.length C;simp at this;omega
 rw[ahH]at U;obtain⟨q,cap,ex,rfl⟩:=U.uj 0 rfl (by omega);have l:=o.kQ λx D=>by rw[ahM];exact a.lt (hc x D)
 rw[Ce]at l;refine ah ?_;refine RO.cl (adk T rfl k (by omega) U λR U=>?_);refine ah ?_;have e:new.reverse.length=new.length:=by simp
 rw[←e]at U;rw[←e];exact Ru.aT (S _ _ _ p (U.sub (ahW _ (List.nil_sublist _))))
end
end
theorem Ox{n:Nat}(h:n<18446744073709551616):(ck 7).wrap (.ofNat n)=.ofNat n:=by
 show IntKind.wrap (ck 7) _=_;have e1:(ck 7).bits=64:=rfl;have e2:(ck 7).signed=false:=rfl;unfold IntKind.wrap;simp only[e1,e2,Bool.false_and,ac6,bK];have a:(2:Int)^64=18446744073709551616:=by decide
 rw[a,agL];omega
theorem c7{n:Nat}(h:n<18446744073709551616):iq 7 (.ofNat n)=.ofNat n:=U4 (Ox h)
theorem m7{a b c:Nat}(h:a*b=c)(d:c<18446744073709551616):ir .mul 7 (.ofNat a) (.ofNat b)=some (.int 7 (.ofNat c)):=by show some (AV.int 7 (iq 7 (.ofNat (a*b))))=_;rw[h,c7 d]
theorem a7{a b c:Nat}(h:a+b=c)(d:c<18446744073709551616):ir .add 7 (.ofNat a) (.ofNat b)=some (.int 7 (.ofNat c)):=by show some (AV.int 7 (iq 7 (.ofNat (a+b))))=_;rw[h,c7 d]
theorem n7{a:Nat}(h:a<4294967296):ir .and 7 (.ofNat a) (.ofNat 4294967295)=some (.int 7 (.ofNat a)):=by
 have e:(ahJ (ck 7).bits (.ofNat a)&&&ahJ (ck 7).bits (.ofNat 4294967295)).toNat=a:=by
  show(ahJ 64 (.ofNat a)&&&ahJ 64 (.ofNat 4294967295)).toNat=a;rw[BitVec.toNat_and];have e1:(ahJ 64 (ahI a)).toNat=a:=by show(ahJ 64 ((a:Nat):Int)).toNat=a;rw[BitVec.ofInt_natCast,BitVec.toNat_ofNat];omega
  rw[e1,show(ahJ 64 (ahI 4294967295)).toNat=2^32 - 1 from rfl,Nat.and_two_pow_sub_one_eq_mod];omega
 simp only[ir,e,mI];exact congrArg (λx=>some (AV.int 7 x)) (Ox (by omega))
theorem s7{a:Nat}(h:a<4294967296):CC .shr (.int 7 (.ofNat a)) (.int 7 (.ofNat 32))=some (.int 7 (.ofNat 0)):=by
 show some (AV.int 7 ((ahI a).fdiv (2^32)))=_;have:(ahI a).fdiv (2^32)=0:=by rw[Int.fdiv_eq_ediv_of_nonneg _ (by decide)];exact Int.ediv_eq_zero_of_lt (by simp) (by simp;omega)
 rw[this];rfl
theorem RO.shift{c:Cx}{s:List SI}{L:Kn}{H:af}{d:Option ac}{l:List aS}{op:BinOp}{x y:aG}{a b v:AV}(h:RO ab c l s (bA L d v) H)(f:aV L x=a:=by(conv=>lhs;whnf)<;>rfl)(g:aV L y=b:=by(conv=>lhs;whnf)<;>rfl)(i:a.bB=true:=by rfl)(hb:b.bB=true:=by rfl)(hv:CC op a b=some v):RO ab c (⟨d,.shift op x y,none,[],[]⟩::l) s L H:=RO.op (λaa e=>by simp only[aB,e.gv f i,e.gv g hb,hv];rfl) h
theorem adl(T:Tb ab){H:af}{n:Nat}(b:n<4294967296){K:AV→af→Prop}(a:K (.tuple [.int 7 (.ofNat 0),.int 7 (.ofNat n)]) H):YF ab (.func Wf [] []) [.int 7 (.ofNat 1),.int 7 (.ofNat n)] H K:=by refine YF.code T.aaR (by simp) ?_;refine au ?_;refine RO.arith ?_ (hv:=n7 (a:=1) (by omega));refine au ?_;refine RO.shift ?_ (hv:=s7 (a:=1) (by omega));refine au ?_;refine RO.arith ?_ (hv:=n7 (a:=n) (by omega));refine au ?_;refine RO.shift ?_ (hv:=s7 (a:=n) (by omega));refine au ?_;refine RO.arith ?_ (hv:=m7 (a:=1) (b:=n) (c:=n) (by omega) (by omega));refine au ?_;refine RO.arith ?_ (hv:=m7 (a:=0) (b:=n) (c:=0) (by omega) (by omega));refine au ?_;refine RO.shift ?_ (hv:=s7 (a:=n) (by omega));refine au ?_;refine RO.arith ?_ (hv:=a7 (a:=0) (b:=0) (c:=0) (by omega) (by omega));refine au ?_;refine RO.arith ?_ (hv:=n7 (a:=0) (by omega));refine au ?_;refine RO.shift ?_ (hv:=s7 (a:=0) (by omega));refine au ?_;refine RO.arith ?_ (hv:=m7 (a:=1) (b:=0) (c:=0) (by omega) (by omega));refine au ?_;refine RO.arith ?_ (hv:=a7 (a:=0) (b:=0) (c:=0) (by omega) (by omega));refine au ?_;refine RO.arith ?_ (hv:=m7 (a:=0) (b:=0) (c:=0) (by omega) (by omega));refine au ?_;refine RO.arith ?_ (hv:=a7 (a:=0) (b:=0) (c:=0) (by omega) (by omega));refine au ?_;refine RO.shift ?_ (hv:=s7 (a:=0) (by omega));refine au ?_;refine RO.arith ?_ (hv:=a7 (a:=0) (b:=0) (c:=0) (by omega) (by omega));refine au ?_;refine RO.arith ?_ (hv:=m7 (a:=1) (b:=n) (c:=n) (by omega) (by omega));refine au ?_;exact Ru.sB a
theorem Oy(T:Tb ab){H:af}{n:Nat}(a:n<4294967296){K:AV→af→Prop}(b:K (.tuple [.int 7 (.ofNat 0),.int 7 (.ofNat n)]) H):YF ab (.func V7 [] []) [.int 7 (.ofNat 1),.int 7 (.ofNat n)] H K:=by refine YF.code T.aaI (by simp) ?_;refine au ?_;refine RO.cl (adl T a ?_);refine au ?_;exact Ru.sB b
end
end Go.ak.R
namespace Go.ak
section
variable{ab:Nat→aE}{c:Cx}{s:List SI}{L:Kn}{A H:af}{d:Option ac}{l:List aS}{ts:List Th}{q:ac}{e n m k o i cap f size:Nat}{u z a:AV}{full ex b:Bool}
def lP(u z:AV)(size k n:Nat):List AV:=af3 (k*size) u++af3 ((n - k)*size) z
theorem IR(h:k≤n):(lP u z size k n).length=n*size:=by simp only[lP,agP,ahM,←aig];grind
theorem Oz(h:k≤n){j:Nat}(hj:j<n*size):(lP u z size k n)[j]?=some (if j<k*size then u else z):=by rw[lP,List.getElem?_append];simp only[ahM];split;all_goals simp_all[ahL,aH,Nat.sub_mul]
theorem OA:lP u z size n n=af3 (n*size) u:=by simp[lP]
theorem RO.Ev(U:ai A H ts)(i:Nat){x y:aG}(hi:ts[i]?=some (tS e size (lP u z size k n) n full (.slice q 0 n cap ex)))(r:k≤n)(hu:u.dQ=true)(hs:Sl H size (af3 (m*size) u) m a)(C:min m (n - k)≠0)(D:o=k*size)(h:∀H',ai A H' (ts.set i (tS e size (lP u z size (k+min m (n - k)) n) n full (.slice q 0 n cap ex)))→RO ab c l s (bA L d (.int 3 (.ofNat (min m (n - k))))) H')(E:aV L x=.slice q o (n - k) f b:=by(conv=>lhs;whnf)<;>rfl)(F:aV L y=a:=by(conv=>lhs;whnf)<;>rfl):RO ab c (⟨d,.copy size x y,none,[],[]⟩::l) s L H:=by
 obtain⟨J,B,_,v⟩:=U.jV i hi;have p:n≤cap:=by
  rcases B with⟨_,_,_,h⟩|⟨K,M,aK,cap,b,rfl,h2,_,N,_⟩;·cases h
  injection h2 with _ _ _ h2;omega
 have g:k+min m (n - k)≤n:=by omega
 have w:(af3 (m*size) u).take (min m (n - k)*size)=af3 (min m (n - k)*size) u:=by rw[List.take_replicate,←Nat.mul_min_mul_right];congr 1;have:=ahf size (Nat.min_le_left m (n - k));omega
 have G:dI (af3 (min m (n - k)*size) u)=true:=by generalize min m (n - k)*size=t;induction t with|zero=>rfl|succ t I=>rw[List.replicate_succ];exact ao hu I
 have e1:(k+min m (n - k))*size=k*size+min m (n - k)*size:=aig .. ;have e2:(k+min m (n - k))*size≤n*size:=ahf _ g;have O:n*size≤cap*size:=ahf _ p;obtain⟨H',h1,h2,h3⟩:=dK.vD B (o:=o) (ws:=af3 (min m (n - k)*size) u) (us:=lP u z size (k+min m (n - k)) n) (by rw[ahM];omega) G (by rw[IR r,IR g]) λj hj=>by
  rw[IR r]at hj;rw[Oz g hj,Oz r hj,ahM,D];by_cases h1:k*size≤j∧j<k*size+min m (n - k)*size;·rw[aH h1,ahL,aH (by omega),aH (by omega)]
  rw[an h1];by_cases h2:j<k*size;·rw[aH h2,aH (by omega)]
  rw[an h2,an (by omega)]
 exact RO.copy E F hs.bB hs.iS C (by rw[w];exact h1) (h H' (v h2 h3))
end
end Go.ak
namespace Go.ak.R
section
variable{ab:Nat→aE}
theorem adm(T:Tb ab){H:af}{n:Nat}{u xv:AV}(hu:u.dQ=true)(hs:Sl H 1 (af3 (1*1) u) 1 xv)(o:n≤1000000){K:AV→af→Prop}(e:∀H' q,ai H H' [tS 3 1 (af3 (n*1) u) n true (.slice q 0 n n true)]→K (.slice q 0 n n true) H'):YF ab (.func VQ [] []) [xv,aN n] H K:=by
 have⟨hd,_,_,m⟩:=hs.all;refine YF.code T.aar (by simp) ?_;refine au ?_;refine RO.lu ?_;refine au ?_;refine RO.lu ?_;refine RO.cl (Oy T (n:=n) (by omega) ?_) (ha:=by show[AV.int 7 (iq 7 (.ofNat 1)),AV.int 7 (iq 7 (.ofNat n))]=_;rw[c7 (by omega),c7 (by omega)]);refine ah ?_;refine Ru.cond (λ(h:9223372036854775807<n)=>by omega) (λ_=>?_);refine ah ?_;refine RO.lu ?_;rw[pP (n:=.ofNat n) (by rw[agL];omega) (by rw[agL];omega)];refine RO.nV (ai.cW H) (n:=n) (λH1 q U=>?_) (hz:=by rw[iM];simp);have b:fx [.int 3 (.ofNat 0)] n=lP u (.int 3 (.ofNat 0)) 1 0 n:=by rw[iM];simp[lP]
 rw[b]at U;refine au ?_;rcases Nat.eq_zero_or_pos n with rfl|g;·refine RO.MQ (xv:=.slice q 0 0 0 true) rfl rfl hd (U.gr.sl hs).iS ⟨0,rfl,by simp⟩ ?_;refine au ?_;refine Ru.loop ?_;refine au ?_;refine Ru.exitTo ?_;refine au ?_;exact Ru.aT (e _ q U)
 refine RO.Ev U 0 rfl (Nat.zero_le n) hu (m:=1) (U.gr.sl hs) (by omega) (o:=0) (by omega) (λi U=>?_);rw[show min 1 (n - 0)=1 by omega,agW]at*;refine au ?_;refine Ru.nm λS M j f=>?_;refine Ru.cA f (up (P:=λk=>1≤k→∀c,ai H c [tS 3 1 (lP u (.int 3 (.ofNat 0)) 1 k n) n true (.slice q 0 n n true)]→Ru ab _ S ([(p8,aN k)]++pk M [p7]) c) n (λk p l h1 c U=>?_) 1 (by omega) (adW _) _ U);subst j;subst f;refine Ru.loop ?_;refine au ?_;refine Ru.cond (λd=>?_) (λd=>?_)
 ·refine au ?_;refine RO.gR (m:=n) (b:=n) (a:=k) rfl rfl rfl (by show nJ (aN k) n=_;exact sF (by omega)) rfl ?_;refine au ?_;refine RO.n8 (U.sl (e:=3) (size:=1) (n:=n) (full:=true) 0) (b:=k) ?_;have e1:(lP u (.int 3 (.ofNat 0)) 1 k n).take (k*1)=af3 (k*1) u:=by rw[lP,List.take_append_of_le_length (by simp),ag2 (by simp)]
  have a:=B6 (U.sl (e:=3) (size:=1) (n:=n) (full:=true) (sv:=.slice q 0 n n true) 0) (b:=k) (by omega);rw[e1]at a;refine RO.Ev U 0 rfl (by omega) hu a (by omega) (o:=if true&&decide (n=k)then 0 else 0+k*1) (by rw[an (by simp;omega)];omega) (λi U=>?_);refine RO.add ?_ (a:=.ofNat k) (b:=.ofNat (min k (n - k))) (h1:=by simp;omega) (h2:=by simp;omega);refine au ?_;exact Ru.wk (l (k+min k (n - k)) (by omega) (by omega) (by omega) _ U)
 refine Ru.exitTo ?_;refine au ?_;have:k=n:=by omega
 subst this;rw[OA]at U;exact Ru.aT (e _ q U)
theorem IS(z:AV):∀n,fx [z,z] n=af3 (n*2) z|0=>rfl|n+1=>by rw[show(n+1)*2=n*2+1+1 by omega,List.replicate_succ,List.replicate_succ,←IS z n];rfl
theorem adn(T:Tb ab){H:af}{n:Nat}{u xv:AV}(hu:u.dQ=true)(hs:Sl H 2 (af3 (1*2) u) 1 xv)(o:n≤1000000){K:AV→af→Prop}(e:∀H' q,ai H H' [tS mV 2 (af3 (n*2) u) n true (.slice q 0 n n true)]→K (.slice q 0 n n true) H'):YF ab (.func WF [] []) [xv,aN n] H K:=by
 have⟨hd,_,_,m⟩:=hs.all;refine YF.code T.abA (by simp) ?_;refine au ?_;refine RO.lu ?_;refine au ?_;refine RO.lu ?_;refine RO.cl (Oy T (n:=n) (by omega) ?_) (ha:=by show[AV.int 7 (iq 7 (.ofNat 1)),AV.int 7 (iq 7 (.ofNat n))]=_;rw[c7 (by omega),c7 (by omega)]);refine ah ?_;refine Ru.cond (λ(h:9223372036854775807<n)=>by omega) (λ_=>?_);refine ah ?_;refine RO.lu ?_;rw[pP (n:=.ofNat n) (by rw[agL];omega) (by rw[agL];omega)];refine RO.nV (ai.cW H) (n:=n) (λH1 q U=>?_) (hz:=by rw[IS];simp);have b:fx [.int 3 (.ofNat 0),.int 3 (.ofNat 0)] n=lP u (.int 3 (.ofNat 0)) 2 0 n:=by rw[IS];simp[lP]
 rw[b]at U;refine au ?_;rcases Nat.eq_zero_or_pos n with rfl|g;·refine RO.MQ (xv:=.slice q 0 0 0 true) rfl rfl hd (U.gr.sl hs).iS ⟨0,rfl,by simp⟩ ?_;refine au ?_;refine Ru.loop ?_;refine au ?_;refine Ru.exitTo ?_;refine au ?_;exact Ru.aT (e _ q U)
 refine RO.Ev U 0 rfl (Nat.zero_le n) hu (m:=1) (U.gr.sl hs) (by omega) (o:=0) (by omega) (λi U=>?_);rw[show min 1 (n - 0)=1 by omega,agW]at*;refine au ?_;refine Ru.nm λS M j f=>?_;refine Ru.cA f (up (P:=λk=>1≤k→∀c,ai H c [tS mV 2 (lP u (.int 3 (.ofNat 0)) 2 k n) n true (.slice q 0 n n true)]→Ru ab _ S ([(p8,aN k)]++pk M [p7]) c) n (λk p l h1 c U=>?_) 1 (by omega) (adW _) _ U);subst j;subst f;refine Ru.loop ?_;refine au ?_;refine Ru.cond (λd=>?_) (λd=>?_)
 ·refine au ?_;refine RO.gR (m:=n) (b:=n) (a:=k) rfl rfl rfl (by show nJ (aN k) n=_;exact sF (by omega)) rfl ?_;refine au ?_;refine RO.n8 (U.sl (e:=mV) (size:=2) (n:=n) (full:=true) 0) (b:=k) ?_;have e1:(lP u (.int 3 (.ofNat 0)) 2 k n).take (k*2)=af3 (k*2) u:=by rw[lP,List.take_append_of_le_length (by simp),ag2 (by simp)]
  have a:=B6 (U.sl (e:=mV) (size:=2) (n:=n) (full:=true) (sv:=.slice q 0 n n true) 0) (b:=k) (by omega);rw[e1]at a;refine RO.Ev U 0 rfl (by omega) hu a (by omega) (o:=if true&&decide (n=k)then 0 else 0+k*2) (by rw[an (by simp;omega)];omega) (λi U=>?_);refine RO.add ?_ (a:=.ofNat k) (b:=.ofNat (min k (n - k))) (h1:=by simp;omega) (h2:=by simp;omega);refine au ?_;exact Ru.wk (l (k+min k (n - k)) (by omega) (by omega) (by omega) _ U)
 refine Ru.exitTo ?_;refine au ?_;have:k=n:=by omega
 subst this;rw[OA]at U;exact Ru.aT (e _ q U)
end
section
inductive ny(W:Nat→List Nat)(d:Nat):Nat→Prop
 |zero(h:0≠d):ny W d 0
 |step{a x:Nat}(h:ny W d a)(hx:x∈W a)(hn:x≠d):ny W d x
def eU(W:Nat→List Nat)(d b:Nat):Prop:=¬ny W d b
theorem eU.da{W:Nat→List Nat}{d a b:Nat}(h:eU W d b)(c:b∈W a)(f:d≠b):eU W d a:=λg=>h (.step g c λe=>f e.symm)
theorem eU.zero{W:Nat→List Nat}{d:Nat}(h:eU W d 0):d=0:=ahe λa=>h (.zero λe=>a e.symm)
structure Rk(W:Nat→List Nat)(ap ranks:List Nat):Prop where
 nd:ap.Nodup
 hd:∃rest,ap=0::rest
 aK:∀da x post,ap=da++x::post→x=0∨∃y∈da,x∈W y
 rk:∀i(h:i<ap.length),ranks.getD ap[i] 0=i
variable{W:Nat→List Nat}{ap ranks:List Nat}{up:List Int}
theorem Rk.inj(h:Rk W ap ranks){a b:Nat}(c:a∈ap)(hb:b∈ap)(e:ranks.getD a 0=ranks.getD b 0):a=b:=by obtain⟨i,hi,rfl⟩:=agS c;obtain⟨j,hj,rfl⟩:=agS hb;rw[h.rk i hi,h.rk j hj]at e;subst e;rfl
theorem Rk.at(h:Rk W ap ranks){a:Nat}(b:a∈ap):∃hl:ranks.getD a 0<ap.length,ap[ranks.getD a 0]=a:=by obtain⟨i,hi,rfl⟩:=agS b;have e:=h.rk i hi;generalize ranks.getD ap[i] 0=j at*;subst e;exact⟨hi,rfl⟩
theorem Rk.da(h:Rk W ap ranks){b:Nat}(hb:b∈ap)(h0:b≠0):∃y∈ap,b∈W y∧ranks.getD y 0<ranks.getD b 0:=by
 obtain⟨hl,e⟩:=h.at hb;have e2:ap=ap.take (ranks.getD b 0)++b::ap.drop (ranks.getD b 0+1):=by conv=>lhs;rw[←ahR (ranks.getD b 0) ap,agR hl,e]
 rcases h.aK _ _ _ e2 with h1|⟨y,a,c⟩;·exact absurd h1 h0
 refine⟨y,List.mem_of_mem_take a,c,?_⟩;obtain⟨i,hi,rfl⟩:=agS a;rw[ahl]at hi;rw[List.getElem_take,h.rk i (by omega)];omega
theorem Rk.zero(h:Rk W ap ranks):0∈ap∧ranks.getD 0 0=0:=by obtain⟨r,a⟩:=h.hd;have:=h.rk 0 (by rw[a];simp);grind
theorem Rk.fu(h:Rk W ap ranks){d:Nat}:∀(n b:Nat),ranks.getD b 0=n→b∈ap→eU W d b→ranks.getD d 0≤n:=λn=>by
 induction n using Nat.strongRecOn with
 |ind n c=>
  intro b i hb hd;by_cases a:d=b;·grind
  by_cases h0:b=0;·subst h0;exact absurd hd.zero a
  obtain⟨y,e,f,g⟩:=h.da hb h0;have:=c _ (by omega) y rfl e (hd.da f a);omega
structure nB(W:Nat→List Nat)(ap ranks:List Nat)(n:Nat)(up:List Int):Prop where
 len:up.length=n
 u0:up.getD 0 (-1)=0
 rg:∀b, -1≤up.getD b (-1)
 ok:∀b,b≠0→0≤up.getD b (-1)→b∈ap∧∃a:Nat,up.getD b (-1)=a∧a∈ap∧ranks.getD a 0<ranks.getD b 0∧0≤up.getD a (-1)∧∀d,eU W d b→d≠b→eU W d a
structure xS(W:Nat→List Nat)(ap ranks:List Nat)(up:List Int)(a b m:Nat):Prop where
 mem:m∈ap
 df:0≤up.getD m (-1)
 ra:ranks.getD m 0≤ranks.getD a 0
 rb:ranks.getD m 0≤ranks.getD b 0
 fu:∀d,eU W d a→eU W d b→eU W d m
theorem xS.swap{a b m:Nat}(h:xS W ap ranks up a b m):xS W ap ranks up b a m:=⟨h.mem,h.df,h.rb,h.ra,λd h1 h2=>h.fu d h2 h1⟩
theorem nB.OB{n:Nat}(h:nB W ap ranks n up)(i:Rk W ap ranks){a b:Nat}(o:a∈ap)(hb:b∈ap)(j:0≤up.getD a (-1))(k:a≠b)(p:ranks.getD b 0≤ranks.getD a 0):∃c:Nat,up.getD a (-1)=c∧c∈ap∧0≤up.getD c (-1)∧ranks.getD c 0<ranks.getD a 0∧∀m,xS W ap ranks up c b m→xS W ap ranks up a b m:=by
 have l:ranks.getD b 0<ranks.getD a 0:=Nat.lt_of_le_of_ne p λe=>k (i.inj o hb e.symm);have h0:a≠0:=λe=>by subst e;rw[i.zero.2]at l;omega
 obtain⟨_,c,h1,h2,h3,q,r⟩:=h.ok a h0 j;refine⟨c,h1,h2,q,h3,λm f=>⟨f.mem,f.df,by have:=f.ra;omega,f.rb,λd hd g=>f.fu d (r d hd λe=>?_) g⟩⟩;subst e;have:=i.fu _ b rfl hb g;omega
theorem nB.set{n:Nat}(h:nB W ap ranks n up)(m:Rk W ap ranks){to b:Nat}(j:to∈ap)(k:to<n)(h0:to≠0)(i:b∈ap)(l:0≤up.getD b (-1))(o:ranks.getD b 0<ranks.getD to 0)(hd:∀d,eU W d to→d≠to→eU W d b):nB W ap ranks n (up.set to (b:Int)):=by
 have hl:=h.len;have e:∀x,(up.set to (b:Int)).getD x (-1)=if x=to then(b:Int)else up.getD x (-1):=λx=>e9 (by omega);have p:∀x,0≤up.getD x (-1)→0≤(up.set to (b:Int)).getD x (-1):=λx f=>by
  rw[e];split;·omega
  exact f
 refine⟨by grind,by rw[e,an λe=>h0 e.symm];exact h.u0,λx=>?_,λx f c=>?_⟩
 ·rw[e];split;·simp
  exact h.rg x
 rw[e]at c⊢;split;·grind
 rename_i g;rw[an g]at c;obtain⟨h1,a,h2,h3,q,r,s⟩:=h.ok x f c;grind
def qB(ranks:List Nat)(n:Nat)(up:List Int):Nat:=(up.map λx=>if x<0 then n else ranks.getD x.toNat 0).sum
theorem ado{l:List Nat}{k x:Nat}(b:k<l.length):(l.set k x).sum+l[k]=l.sum+x:=by induction l generalizing k with|nil=>grind|cons a l c=>cases k with|zero=>grind|succ k=>grind
theorem OC{n k now:Nat}(a:k<up.length)(hl:ranks.getD now 0<if up.getD k (-1)<0 then n else ranks.getD (up.getD k (-1)).toNat 0):qB ranks n (up.set k (now:Int))<qB ranks n up:=by unfold qB;rw[List.map_set];have h1:=ado (l:=up.map λx=>if x<0 then n else ranks.getD x.toNat 0) (k:=k) (x:=ranks.getD now 0) (by simpa using a);rw[bE a]at hl;simp only[aht]at h1;rw[an (show¬((now:Int)<0)by omega),agK];omega
theorem nB.G6{n:Nat}(h:nB W ap ranks n up)(eS:∀b∈ap,0≤up.getD b (-1)){d b:Nat}(hb:b∈ap)(hd:eU W d b)(c:d≠b):∃a:Nat,up.getD b (-1)=a∧b≠0∧a∈ap∧ranks.getD a 0<ranks.getD b 0∧eU W d a:=by
 have h0:b≠0:=λe=>by subst e;exact c hd.zero
 obtain⟨_,a,h1,h2,h3,_,f⟩:=h.ok b h0 (eS b hb);grind
end
section
variable{ab:Nat→aE}
section
variable{W:Nat→List Nat}{ap ranks:List Nat}{up:List Int}{n:Nat}{A H:af}{us:List Th}{d f g h:ac}{L:Kn}
theorem tc{a:List Int}{k:Nat}(z:Int)(b:k<a.length):(a.map aI)[0+k*1]?=some (aI (a.getD k z)):=pS z b
def xU(g h d f:ac)(n:Nat)(ranks:List Nat)(up:List Int):List Th:=[tB gp g [.slice d 0 n n true],tB gp h [.slice f 0 n n true],tS 3 1 (ranks.map aN) n true (.slice d 0 n n true),tS 3 1 (up.map aI) n true (.slice f 0 n n true)]
theorem adp(T:Tb ab)(t:Rk W ap ranks)(r:nB W ap ranks n up)(z:ranks.length=n)(E:n≤1000000)(p:∀b∈ap,b<n)(U:ai A H (xU g h d f n ranks up++us)){a b:Nat}(l:a∈ap)(hb:b∈ap)(j:0≤up.getD a (-1))(k:0≤up.getD b (-1)){K:AV→af→Prop}(o:∀m,xS W ap ranks up a b m→K (aN m) H):YF ab (.func WE [] [.aw g 0,.aw h 0]) [aN a,aN b] H K:=by
 have B:=r.len;refine YF.code T.abz (by simp) ?_;refine ah ?_;refine Ru.nm λS M w u=>?_;refine Ru.cA u (dn (P:=λm=>∀a b,ranks.getD a 0+ranks.getD b 0=m→a∈ap→b∈ap→0≤up.getD a (-1)→0≤up.getD b (-1)→(∀m,xS W ap ranks up a b m→K (aN m) H)→Ru ab _ S ([(p0,aN a),(p1,aN b)]++pk M [p2,p3]) H) (λm v a b q l hb j k o=>?_) _ a b rfl l hb j k o);have C:=p a l;have D:=p b hb;subst w;subst u;refine Ru.loop ?_;refine ah ?_;refine Ru.cond (λi=>?_) (λi=>?_)
 ·have i:a≠b:=by simpa using i
  refine ah ?_;refine RO.eH U 2 (hv:=pS 0 (by omega)) ?_;refine ah ?_;refine RO.eH U 2 (hv:=pS 0 (by omega)) ?_;refine ah ?_;refine Ru.cond (λx=>?_) (λx=>?_);·obtain⟨c,h1,h2,h3,y,s⟩:=r.OB t hb l k (λe=>i e.symm) (by omega);refine ah ?_;refine RO.eH U 3 (v:=aN c) (hv:=by rw[tc (-1) (by omega),h1];rfl) ?_;refine ah ?_;exact Ru.wk (v _ (by omega) c a rfl h2 l h3 j λm q=>o m (s m q).swap)
  obtain⟨c,h1,h2,h3,y,s⟩:=r.OB t l hb j i (by omega);refine ah ?_;refine RO.eH U 3 (v:=aN c) (hv:=by rw[tc (-1) (by omega),h1];rfl) ?_;refine ah ?_;exact Ru.wk (v _ (by omega) c b rfl h2 hb h3 k λm q=>o m (s m q))
 have i:a=b:=by simpa using i
 subst i;refine Ru.exitTo ?_;refine ah ?_;exact Ru.aT (o a ⟨l,j,adW _,adW _,λ_ F _=>F⟩)
end
end
end Go.ak.R
namespace Go.ak
theorem ai.ne{A H:af}{a:List Th}{t t':Th}{q r:ac}(U:ai A H a)(i j:Nat)(hi:a[i]?=some t)(hj:a[j]?=some t')(b:i≠j)(d:∀f,t.P H f→q∈f)(e:∀f,t'.P H f→r∈f):q≠r:=by
 obtain⟨_,fs,c⟩:=U;rcases Nat.lt_or_gt_of_ne b with k|k;·obtain⟨f,g,h1,h2,h3⟩:=c.nR hi hj k;grind
 obtain⟨f,g,h1,h2,h3⟩:=c.nR hj hi k;grind
theorem tS.wc{H:af}{f:List ac}{e size n k cap:Nat}{b:List AV}{a ex:Bool}{q:ac}(i:(tS e size b n a (.slice q 0 k cap ex)).P H f):q∈f:=by rcases i with⟨_,_,_,i⟩|⟨d,g,aK,cap,c,rfl,h2,_⟩;all_goals grind
theorem Sl.move{H H':af}{size n o m cap:Nat}{g:List AV}{ex:Bool}{q:ac}(B:Sl H size g n (.slice q o m cap ex))(hg:H'.get q=H.get q)(j:H.next.al≤H'.next.al):Sl H' size g n (.slice q o m cap ex):=by
 rcases B with⟨B,_⟩|⟨i,k,a,b,c,l,e,d,aK,fz,r,A,t,v,w,x,f⟩;·grind
 injection r with h1 h2 h3 y z;subst h1;exact .inr ⟨_,k,a,b,c,l,e,d,aK,fz,by grind,by grind,t,v,w,ag6 x j,f⟩
theorem tB.wc{H:af}{f:List ac}{e:Nat}{a:List AV}{q:ac}(b:(tB e q a).P H f):q∈f:=b.1
end Go.ak
namespace Go.ak.R
open Go.ak
variable{ab:Nat→aE}
section
variable{g:G.bu}{h s:AV}{p:ac}{H:af}{come:List Bool}{os:List (List bU)}{u:List AV}
theorem OD{l:List Nat}(a:l.Nodup){i j:Nat}(hi:i<l.length)(hj:j<l.length)(e:l[i]=l[j]):i=j:=by grind[List.pairwise_iff_getElem,Nat.lt_trichotomy,absurd]
theorem xV:∀(n:Nat)(l:List Nat),l.Nodup→(∀x∈l,x<n)→l.length≤n
 |0,l,_,d=>by cases l with|nil=>simp|cons a l=>grind[absurd,adc]
 |n+1,l,hd,d=>by
  by_cases c:n∈l
  ·have h1:=xV n (l.erase n) (hd.erase n) λx b=>by rw[hd.mem_erase_iff]at b;have:=d x b.2;omega
   grind
  have:=xV n l hd λx b=>by have:=d x b;have:x≠n:=λe=>c (e▸b);omega
  omega
theorem adq{W:Nat→List Nat}{ap a:List Nat}{n:Nat}(c:0<n):nB W ap a n ((af3 n (-1:Int)).set 0 0):=by
 have e:∀x,((af3 n (-1:Int)).set 0 0).getD x (-1)=if x=0 then 0 else -1:=λx=>by
  rw[e9 (by simpa using c)];split;·rfl
  simp[agY,ahL];split<;>rfl
 exact⟨by simp,by rw[e,aH rfl],λb=>by rw[e];split<;>omega,λb hb c=>by rw[e,an hb]at c;omega⟩
theorem adr(T:Tb ab)(hB:G.Sm g)(hE:iO g)(hX:GX g H p h s come os u)(hK:dA g come os){K:AV→af→Prop}(e':∀H' v ap ranks up,iP g come os ap→Rk (wW g os) ap ranks→nB (wW g os) ap ranks g.aj.length up→(∀b∈ap,0≤up.getD b (-1))→ai H H' [tS 3 1 ((up.set 0 (-1)).map aI) g.aj.length true v]→K v H'):YF ab (.func Wt [] []) [.aw p 0] H K:=by
 have d2:=hB.nb;have a1:=hK.lt hK.c0;have⟨hd,_,_,hn⟩:=hX.bl.all;have a2:=hX.kB.aF;have f:=hX.kB.lt;refine YF.code T.abd (by simp) ?_;refine au ?_;refine RO.cl (IQ T hB hE hX hK λH1 Q ap R U=>?_);have⟨d3,d4,d5,d6⟩:=(U.sl (e:=3) (size:=1) (sv:=Q) (vs:=ap.map aN) (n:=ap.length) (full:=true) 0).all;refine ah ?_;refine RO.aW ?_ (hc:=by rw[U.gr.bh f];exact a2);refine ah ?_;refine RO.nV U (n:=g.aj.length) (λH2 I U=>?_) (hz:=by rw[iM];simp);have er:fx [AV.int 3 (.ofNat 0)] g.aj.length=(af3 g.aj.length 0).map aN:=by rw[iM,aie]
 rw[er]at U;refine RO.kZ U 1 (λH3 V U=>?_) (n:=1) (ws:=[aI (-1)]);refine ah ?_;have d7:=(U.B9 (e:=3) (size:=1) (n:=1) (vs:=[aI (-1)]) (full:=true) (q:=V) (o:=0) (m:=1) (cap:=1) (ex:=true) 0);have d':=(U.B9 (e:=3) (size:=1) (n:=g.aj.length) (vs:=(af3 g.aj.length 0).map aN) (full:=true) (q:=I) (o:=0) (m:=g.aj.length) (cap:=g.aj.length) (ex:=true) 1);refine RO.vW (is:=[V,I]) (v:=h) (by rw[U.gr.bh f];exact a2) (by simp only[adC,ag0,or_false,not_or];exact⟨λe=>by rw[e]at f;omega,λe=>by rw[e]at f;omega⟩) (λHU hs a6=>?_);have U:=U.bS a6 hs;refine ah ?_;refine RO.gk U λH4 W U=>?_;refine RO.gk U λH5 X U=>?_;have n1:V≠X:=U.ne 2 0 rfl rfl (by decide) (λ_ e'=>tS.wc e') λ_ e'=>tB.wc e';have n2:V≠W:=U.ne 2 1 rfl rfl (by decide) (λ_ e'=>tS.wc e') λ_ e'=>tB.wc e';have n3:V≠I:=U.ne 2 3 rfl rfl (by decide) (λ_ e'=>tS.wc e') λ_ e'=>tS.wc e';have ea:=(U.zY (e:=gp) (q:=X) (vs:=[.aP]) 0).2;have eb:=(U.zY (e:=gp) (q:=W) (vs:=[.aP]) 1).2;have ec:=(U.B9 (e:=3) (size:=1) (n:=g.aj.length) (vs:=(af3 g.aj.length 0).map aN) (full:=true) (q:=I) (o:=0) (m:=g.aj.length) (cap:=g.aj.length) (ex:=true) 3).2;have cv:=U.sl (e:=3) (size:=1) (n:=1) (vs:=[aI (-1)]) (full:=true) (sv:=.slice V 0 1 1 true) 2;refine RO.B8 (is:=[X,W,I]) (Q:=λv ns=>∃q,v=.slice q 0 g.aj.length g.aj.length true∧ns=[tS 3 1 (af3 (g.aj.length*1) (aI (-1))) g.aj.length true (.slice q 0 g.aj.length g.aj.length true)]) U (λj hj=>by simp only[adC,ag0,or_false]at hj;rcases hj with rfl|rfl|rfl<;>assumption) (λH0 a6 hs=>adm T (u:=aI (-1)) rfl (cv.move (hs V (by simp only[adC,ag0,or_false,not_or];exact⟨n1,n2,n3⟩)) (by rw[a6];exact adW _)) (by omega) λH' q U=>⟨_,U,q,rfl,rfl⟩) (λv ns HU hQ ei U=>?_);obtain⟨qu,rfl,rfl⟩:=hQ;refine⟨λaa cx=>gQ cx rfl rfl hd hX.bl.bS (by rw[U.gr.bh f];exact a2) rfl,?_⟩;refine RO.fU U 2 (λH6 U=>?_);refine RO.fU U 1 (λH7 U=>?_);have eu:af3 (g.aj.length*1) (aI (-1))=(af3 g.aj.length (-1)).map aI:=by rw[ah9,aie]
 rw[eu]at U;have U:ai H H7 (xU W X I qu g.aj.length (af3 g.aj.length 0) (af3 g.aj.length (-1))++(tS 3 1 (ap.map aN) ap.length true Q::[tS 3 1 [aI (-1)] 1 true (.slice V 0 1 1 true)])):=(((((U.fO 3 rfl).fO 5 rfl).fO 2 rfl).fO 5 rfl).fO 4 rfl).fO 5 rfl;refine ah ?_;have n:∀b∈ap,b<g.aj.length:=λb hb=>hK.lt ((R.mem b).1 hb);have ej:ap.length≤g.aj.length:=xV _ _ R.nd n;refine Ru.nm λS M hS J=>?_;refine Ru.cA J (up (P:=λk=>∀r ranks,ranks.length=g.aj.length→(∀i(e':i<ap.length),i<k→ranks.getD ap[i] 0=i)→ai H r (xU W X I qu g.aj.length ranks (af3 g.aj.length (-1))++(tS 3 1 (ap.map aN) ap.length true Q::[tS 3 1 [aI (-1)] 1 true (.slice V 0 1 1 true)]))→Ru ab _ S ([(cY,aN k)]++pk M [p0,p3,p4,p5,cR,cD]) r) ap.length (λk hk ih r ranks L b5 U=>?_) 0 (by omega) _ _ (by simp) (λi _ e'=>by omega) U);subst hS;subst J;refine Ru.loop ?_;refine au ?_;refine Ru.cond (λf=>?_) (λf=>?_)
 ·have ek:=n _ (af0 f);refine ah ?_;refine RO.jX (bf.refl r) (U.sl (e:=3) (size:=1) (sv:=Q) (vs:=ap.map aN) (n:=ap.length) (full:=true) 4) (λq o hj a8=>?_);refine RO.aW ?_ (hc:=a8);refine ah ?_;refine RO.ml (f:=aN) (zs:=ranks) (n:=g.aj.length) U 2 k L (λH9 U=>?_) (k:=ap[k]);refine ah ?_;have g1:∀i(e':i<ap.length),i<k+1→(ranks.set ap[k] k).getD ap[i] 0=i:=λi hi a'=>by
   rw[e9 (by omega)];split;·rename_i e;exact(OD R.nd hi f e).symm
   rename_i e;exact b5 i hi (by have:i≠k:=λe2=>e (by subst e2;rfl);omega)
  exact Ru.wk (ih (k+1) (by omega) (by omega) H9 _ (by simpa using L) g1 U)
 have F:Rk (wW g os) ap ranks:=⟨R.nd,R.hd,R.aK,λi hi=>b5 i hi (by omega)⟩;refine Ru.exitTo ?_;refine ah ?_;refine RO.ml (f:=aI) (zs:=af3 g.aj.length (-1)) (n:=g.aj.length) U 3 0 (by simp) (λH9 U=>?_) (k:=0) (ho:=by simpa using a1);refine ah ?_;have L:ranks.length=g.aj.length:=L;refine Ru.nm λS2 M2 hS J=>?_;refine Ru.cA J (dn (P:=λm=>∀r up w us,nB (wW g os) ap ranks g.aj.length up→(w=false→∀b∈ap,0≤up.getD b (-1))→(qB ranks g.aj.length up+if w then 1 else 0)=m→ai H r (xU W X I qu g.aj.length ranks up++(tS 3 1 (ap.map aN) ap.length true Q::us))→Ru ab _ S2 ([(p9,.bool w)]++pk M2 [p0,p3,p4,p5,p8]) r) (λm cy r up w us hC eS hm U=>?_) _ H9 _ true _ (adq a1) (λe'=>by cases e') rfl U);subst hS;subst J;refine Ru.loop ?_;cases w with
 |false=>refine ah ?_;refine Ru.exitTo ?_;refine ah ?_;refine RO.ml (f:=aI) (zs:=up) (n:=g.aj.length) U 3 (-1) hC.len (λcE U=>?_) (k:=0) (ho:=by rw[hC.len];exact a1);refine ah ?_;exact Ru.aT (e' cE _ ap ranks up R F hC (eS rfl) ((U.fO 3 rfl).sub (ahW _ (List.nil_sublist _))))
 |true=>
  refine ah ?_;refine Ru.nm λS3 M3 hS J=>?_;refine Ru.cA J (Go.ak.up (P:=λk=>∀r Y w us,nB (wW g os) ap ranks g.aj.length Y→(∀i(e':i<ap.length),i<k→∀x∈wW g os ap[i],0≤Y.getD x (-1))→(qB ranks g.aj.length Y+if w then 1 else 0)≤qB ranks g.aj.length up→ai H r (xU W X I qu g.aj.length ranks Y++(tS 3 1 (ap.map aN) ap.length true Q::us))→Ru ab _ S3 ([(p9,.bool w),(dT,aN k)]++pk M3 [p0,p3,p4,p5,p8,dD,dN]) r) ap.length (λk hk c8 r Y w us ba b6 c9 U=>?_) 0 (by omega) _ up false _ hC (λi _ e'=>by omega) (by simp) U);subst hS;subst J;refine Ru.loop ?_;refine au ?_;refine Ru.cond (λf=>?_) (λf=>?_)
  ·have Z:ap[k]∈ap:=af0 f;have el:=F.rk k f;have bb:=(R.mem _).1 Z;refine ah ?_;refine RO.jX (bf.refl r) (U.sl (e:=3) (size:=1) (sv:=Q) (vs:=ap.map aN) (n:=ap.length) (full:=true) 4) (λq o hj a8=>?_);refine RO.aW ?_ (hc:=a8);refine ah ?_;refine RO.cl (IP T hB hE (hX.cV U.gr) hK bb λHY vw hl=>?_);have⟨et,_,_,ew⟩:=(hl.sl (e:=3) (size:=1) (sv:=vw) (vs:=(wW g os ap[k]).map aN) (n:=(wW g os ap[k]).length) (full:=true) 0).all;have U:ai H HY (xU W X I qu g.aj.length ranks Y++(tS 3 1 (ap.map aN) ap.length true Q::tS 3 1 ((wW g os ap[k]).map aN) (wW g os ap[k]).length true vw::us)):=(U.fF hl).cO (ag1 (l₁:=[_,_,_,_,_])).symm;have d0:(wW g os ap[k]).length≤12:=by have:=Eu (now:=os.getD ap[k] []) hB (hK.lt bb);simpa[wW,lN]using this
   generalize hb:ap[k]=b at*;refine ah ?_;refine Ru.nm λS4 M4 hS J=>?_;refine Ru.cA J (Go.ak.up (P:=λj=>∀r c w,nB (wW g os) ap ranks g.aj.length c→(∀i(e':i<ap.length),i<k→∀x∈wW g os ap[i],0≤c.getD x (-1))→(∀x∈(wW g os b).take j,0≤c.getD x (-1))→(qB ranks g.aj.length c+if w then 1 else 0)≤qB ranks g.aj.length up→ai H r (xU W X I qu g.aj.length ranks c++(tS 3 1 (ap.map aN) ap.length true Q::tS 3 1 ((wW g os b).map aN) (wW g os b).length true vw::us))→Ru ab _ S4 ([(p9,.bool w),(dY,aN j)]++pk M4 [p0,p3,p4,p5,p8,aQ,dD,dN,dT,dU,eP]) r) (wW g os b).length (λj hj ag r c w l ar b' N U=>?_) 0 (by omega) _ Y w ba b6 (λx A=>by simp at A) c9 U);subst hS;subst J;refine Ru.loop ?_;refine au ?_;refine Ru.cond (λca=>?_) (λca=>?_)
   ·have av:=l.len;have cd:(wW g os b)[j]∈wW g os b:=af0 ca;have c':=hK.lO bb cd;have O:=(R.mem _).2 c';have cf:=n _ O;have bc:0≤c.getD b (-1):=by
     by_cases h0:b=0;·rw[h0,l.u0];omega
     obtain⟨y,hy,hw,bd⟩:=F.da Z h0;obtain⟨i,hi,rfl⟩:=agS hy;rw[F.rk i hi]at bd;exact ar i hi (by omega) b hw
    refine ah ?_;refine RO.jX (bf.refl r) (U.sl (e:=3) (size:=1) (sv:=vw) (vs:=(wW g os b).map aN) (n:=(wW g os b).length) (full:=true) 5) (λq2 o2 e0 cp=>?_);refine RO.aW ?_ (hc:=cp);have ax:∀d,eU (wW g os) d (wW g os b)[j]→d≠(wW g os b)[j]→eU (wW g os) d b:=λd hd hn=>hd.da cd hn;have dm:(wW g os b).take (j+1)=(wW g os b).take j++[(wW g os b)[j]]:=by rw[agX]
    generalize(wW g os b)[j]=to at*;have z:∀u3:List Int,(∀x,0≤c.getD x (-1)→0≤u3.getD x (-1))→0≤u3.getD to (-1)→(∀i(e':i<ap.length),i<k→∀x∈wW g os ap[i],0≤u3.getD x (-1))∧∀x∈(wW g os b).take (j+1),0≤u3.getD x (-1):=λu3 h1 h2=>⟨λi hi a' x A=>h1 x (ar i hi a' x A),λx A=>by
     rw[dm]at A;rcases agI.1 A with A|A;·exact h1 x (b' x A)
     rw[ac3]at A;rw[A];exact h2⟩;have ay:∀(now:Nat)(x:Nat),(c.set to (now:Int)).getD x (-1)=if x=to then(now:Int)else c.getD x (-1):=λnow x=>e9 (by omega);have D:∀(now:Nat),(∀x,0≤c.getD x (-1)→0≤(c.set to (now:Int)).getD x (-1))∧0≤(c.set to (now:Int)).getD to (-1):=λnow=>⟨λx A=>by
     rw[ay];split;·omega
     exact A,by rw[ay,aH rfl];omega⟩;refine ah ?_;by_cases hu:c.getD to (-1)= -1
    ·have bv:to≠0:=λe=>by rw[e,l.u0]at hu;omega
     refine RO.eH U 3 (v:=aI (-1)) (hv:=by rw[tc (-1) (by omega),hu]) ?_;refine ah ?_;refine RO.cX (λ_=>?_) (λe'=>absurd bv e');refine ah ?_;refine RO.eH U 3 (v:=aI (-1)) (hv:=by rw[tc (-1) (by omega),hu]) ?_;refine ah ?_;refine RO.ml (f:=aI) (zs:=c) (n:=g.aj.length) U 3 (b:Int) av (λb0 U=>?_) (k:=to);refine ah ?_;have dr:ranks.getD b 0<ranks.getD to 0:=by
      apply ahe;intro e3;obtain⟨e5,e2⟩:=F.at O;have e8:0≤c.getD to (-1):=by
       by_cases e4:ranks.getD to 0=k
       ·have:to=b:=by rw[←e2,←hb];simp only[e4]
        rw[this];exact bc
       obtain⟨y,hy,hw,bd⟩:=F.da O bv;obtain⟨i,hi,rfl⟩:=agS hy;rw[F.rk i hi]at bd;exact ar i hi (by omega) to hw
      omega
     have b3:=l.set F O cf bv Z bc dr ax;have ds:=OC (ranks:=ranks) (n:=g.aj.length) (up:=c) (k:=to) (now:=b) (by omega) (by rw[aH (by omega)];omega);obtain⟨B,C⟩:=z _ (D b).1 (D b).2;have b4:(qB ranks g.aj.length (c.set to (b:Int))+if true then 1 else 0)≤qB ranks g.aj.length up:=by rw[aH rfl];split at N<;>omega
     exact Ru.wk (ag (j+1) (by omega) (by omega) b0 _ true b3 B C b4 U)
    obtain⟨a,P⟩:∃a:Nat,c.getD to (-1)=a:=⟨(c.getD to (-1)).toNat,by have:=l.rg to;omega⟩;have hA:a∈ap∧0≤c.getD a (-1)∧(to≠0→ranks.getD a 0<ranks.getD to 0∧∀d,eU (wW g os) d to→d≠to→eU (wW g os) d a):=by
     by_cases h0:to=0
     ·have:a=0:=by rw[h0,l.u0]at P;omega
      rw[this];exact⟨F.zero.1,by rw[l.u0];omega,λe'=>absurd h0 e'⟩
     obtain⟨_,d1,h1,h2,h3,h4,h5⟩:=l.ok to h0 (by omega);have:a=d1:=by omega
     subst this;exact⟨h2,h4,λ_=>⟨h3,h5⟩⟩
    obtain⟨cn,dv,dx⟩:=hA;refine RO.eH U 3 (v:=aN a) (hv:=by rw[tc (-1) (by omega),P];rfl) ?_;refine ah ?_;refine RO.eH U 3 (v:=aN a) (hv:=by rw[tc (-1) (by omega),P];rfl) ?_;refine ah ?_;refine RO.cl (adp T F l L (by omega) n U cn Z dv bc λm2 t=>?_);have e6:=n _ t.mem;refine ah ?_;refine RO.cX (λh0=>?_) (λh0=>?_)
    ·have h0:to≠0:=h0;obtain⟨e7,dy⟩:=dx h0;refine ah ?_;refine RO.eH U 3 (v:=aN a) (hv:=by rw[tc (-1) (by omega),P];rfl) ?_;refine ah ?_;refine Ru.cond (λE=>?_) (λE=>?_)
     ·have E:a≠m2:=E;refine ah ?_;refine RO.ml (f:=aI) (zs:=c) (n:=g.aj.length) U 3 (m2:Int) av (λb0 U=>?_) (k:=to);refine ah ?_;have dz:ranks.getD m2 0<ranks.getD a 0:=Nat.lt_of_le_of_ne t.ra λe=>E (F.inj cn t.mem e.symm);have b3:=l.set F O cf h0 t.mem t.df (by omega) (λd hd hn=>t.fu d (dy d hd hn) (ax d hd hn));have ds:=OC (ranks:=ranks) (n:=g.aj.length) (up:=c) (k:=to) (now:=m2) (by omega) (by rw[an (by omega),P,agK];exact dz);obtain⟨B,C⟩:=z _ (D m2).1 (D m2).2;have b4:(qB ranks g.aj.length (c.set to (m2:Int))+if true then 1 else 0)≤qB ranks g.aj.length up:=by rw[aH rfl];split at N<;>omega
      exact Ru.wk (ag (j+1) (by omega) (by omega) b0 _ true b3 B C b4 U)
     refine ah ?_;obtain⟨B,C⟩:=z c (λ_ e'=>e') (by omega);exact Ru.wk (ag (j+1) (by omega) (by omega) r c w l B C N U)
    refine ah ?_;obtain⟨B,C⟩:=z c (λ_ e'=>e') (by omega);exact Ru.wk (ag (j+1) (by omega) (by omega) r c w l B C N U)
   refine Ru.exitTo ?_;refine ah ?_;have g1:∀i(e':i<ap.length),i<k+1→∀x∈wW g os ap[i],0≤c.getD x (-1):=λi hi a' x A=>by
    by_cases e:i=k;·subst e;rw[hb]at A;exact b' x (by rw[ag2 (by omega)];exact A)
    exact ar i hi (by omega) x A
   exact Ru.wk (c8 (k+1) (by omega) (by omega) r c w _ l g1 N U)
  refine Ru.exitTo ?_;refine ah ?_;have g1:w=false→∀b∈ap,0≤Y.getD b (-1):=λ_ b hb=>by
   by_cases h0:b=0;·rw[h0,ba.u0];omega
   obtain⟨y,hy,hw,_⟩:=F.da hb h0;obtain⟨i,hi,rfl⟩:=agS hy;exact b6 i hi (by omega) b hw
  rw[aH rfl]at hm;exact Ru.wk (cy _ (by omega) r Y w us ba g1 rfl U)
end
end Go.ak.R
namespace Go.ak.R
section
variable{ab:Nat→aE}
structure Cf(g:G.bu):Prop where
 nm:∀c∈g.name,c<256
 st:∀b∈g.aj,∀s∈b.aA,∀c∈s.name,c<256
 fn:∀b∈g.aj,∀c∈b.aq.name,c<256
 kd:∀b∈g.aj,∀c∈b.aq.bY,c<256
def eK(l:List G.gW):List Int:=(l.map (·.to)).filter λt=>decide (0≤t)
def gF(b:G.gD):List Int:=b.params++eK b.aA
structure tf(g:G.bu)(x:G.gW):Prop where
 op:x.op∉Ca
 w:(rL x.op).w≠ []
 r:Ep x g.bi (tb x.op x.m)
structure xW(n np:Nat)(gs:List Bool)(hist:List Int):Prop where
 len:gs.length=n
 nd:hist.Nodup
 rg:∀v∈hist,(np:Int)≤v∧v<n
 bC:∀v:Nat,v<n→(gs.getD v false=true↔v<np∨(v:Int)∈hist)
structure rO(g:G.bu):Prop where
 name:rF g.name
 p0:0≤g.params
 p1:g.params≤g.bi
 ne:0<g.aj.length
 first:(g.aj.getD 0 default).params=[]
 aA:∀b∈g.aj,∀x∈b.aA,tf g x
 B4:∀b∈g.aj,xQ g b.aq
 nd:(g.aj.flatMap gF).Nodup
 rg:∀v∈g.aj.flatMap gF,g.params≤v∧v<g.bi
 all:∀v:Int,g.params≤v→v<g.bi→v∈g.aj.flatMap gF
theorem IT{l:List G.gW}{x:G.gW}:eK (l++[x])=eK l++if 0≤x.to then[x.to]else[]:=by simp only[eK,ahk,List.filter_append];by_cases h:0≤x.to<;>simp[h]
theorem xW.add{n f:Nat}{g:List Bool}{c:List Int}(h:xW n f g c){v:Nat}(i:v<n)(hg:g.getD v false=false):xW n f (g.set v true) (c++[(v:Int)]):=by
 have hl:=h.len;have h1:¬(v<f∨(v:Int)∈c):=λe=>by rw[(h.bC v i).2 e]at hg;cases hg
 rw[not_or]at h1;refine⟨by simpa using hl,?_,λx d=>?_,λx d=>?_⟩;·rw[ahy];refine⟨h.nd,by simp,λa j b hb=>?_⟩;rw[ac3]at hb;subst hb;exact λe=>h1.2 (e▸j)
 ·rcases agI.1 d with d|d;·exact h.rg x d
  rw[ac3]at d;omega
 rw[e9 (by omega),agI,ac3];by_cases e:x=v;·subst e;simp
 rw[an e,h.bC x d];have:¬(x:Int)=v:=by omega
 simp[this]
section
variable{g:G.bu}{H:af}{cs:List AV}
theorem ads(T:Tb ab)(hg:iD H g cs)(hB:G.Sm g)(hY:Cf g)(d1:g.name.length≤60)(b4:g.bi≤6000){K:AV→af→Prop}(h1:∀H',bf H H'→rO g→K (.bool true) H')(h2:∀H',bf H H'→K (.bool false) H'):YF ab (.func Vw [] []) [.agg cs] H K:=by
 have dy:=hg.one;have ay:=hg;obtain⟨V,rfl,co⟩:=hg;have⟨d2,_,_,d3⟩:=co.all;have d4:=hB.nb;refine YF.code T.Z4 (by simp) ?_;refine Ru.seq ?_;refine Ru.region ?_;refine RO.dS (ai.cW H) λH1 q U=>?_;have U:ai H H1 [tB fC q [.aC g.name,aI g.params,aI g.bi,V]]:=U;refine RO.bg ?_;refine RO.nil ?_;refine Ru.seq ?_;refine Ru.xP (P:=λM H'=>M=[(p1,.aw q 0)]∧rF g.name∧0≤g.params∧g.params≤g.bi∧0<g.aj.length∧(g.aj.getD 0 default).params=[]∧ai H H' [tB fC q [.aC g.name,aI g.params,aI g.bi,V]]) (λM H2⟨Z,f1,f2,f3,f4,f5,U⟩=>?_) (λs' ax=>?_);rotate_left
 ·refine ah ?_;refine RO.cl (En T hY.nm (by omega) (λW=>?_) ?_);rotate_left;·refine ah ?_;exact Ru.aT (h2 _ U.gr)
  refine ah ?_;refine RO.cl (rI T (λg2 L=>?_) (λ_=>?_));rotate_left;·refine ah ?_;exact Ru.aT (h2 _ U.gr)
  have g2:0≤g.params:=g2;refine ah ?_;refine RO.cX (λN=>?_) (λN=>?_);·refine ah ?_;exact Ru.aT (h2 _ U.gr)
  have a1:0<g.aj.length:=by omega
  refine ah ?_;refine RO.cP U.gr co (λq1 o1 c1 b5 O b6 hat hrd=>?_) (j:=0);obtain⟨vp,P,jc,rfl,Q,_⟩:=O;have⟨b',_,_,ca⟩:=Q.all;refine ah ?_;refine Ru.cond (λg5=>?_) (λg5=>?_);·refine ah ?_;exact Ru.aT (h2 _ U.gr)
  refine ah ?_;exact ax _ _ _ ⟨rfl,W,g2,L,a1,by rw[bE a1];exact ahp (by omega),U⟩ (by repeat'(first|exact trivial|refine⟨rfl,?_⟩))
 subst Z;obtain⟨n,hn⟩:∃n:Nat,g.bi=n:=⟨g.bi.toNat,by omega⟩;obtain⟨I,w⟩:∃n:Nat,g.params=n:=⟨g.params.toNat,by omega⟩;rw[hn,w]at U ay;rw[hn]at b4 f3;rw[w]at f3;refine ah ?_;refine RO.nV U (n:=n) (λH3 qg U=>?_) (hz:=by rw[iM];simp);have X:xW n 0 (af3 n false) []:=⟨by simp,aim,λv hv=>(by cases hv),λv hv=>by simp[agY,ahL,hv]⟩;have U:ai H H3 [tS 4 1 ((af3 n false).map .bool) n true (.slice qg 0 n n true),tB fC q [.aC g.name,aI I,aI n,V]]:=by rw[iM]at U;rw[aie];exact U
 refine ah ?_;refine Ru.nm λS0 M hS Z=>?_;refine Ru.cA Z (up (P:=λk=>∀f c,xW n k c []→ai H f [tS 4 1 (c.map .bool) n true (.slice qg 0 n n true),tB fC q [.aC g.name,aI I,aI n,V]]→Ru ab _ S0 ([(p4,aN k)]++pk M [p1,p3]) f) I (λk hk ih f c a U=>?_) 0 (by omega) _ _ X U);subst hS;subst Z;refine Ru.loop ?_;refine ah ?_;refine Ru.cond (λcd=>?_) (λcd=>?_)
 ·refine ah ?_;refine RO.ml U 0 true a.len (λH4 U=>?_) (k:=k) (ho:=by rw[a.len];omega);refine ah ?_;exact Ru.wk (ih (k+1) (by omega) (by omega) H4 _ ⟨by simpa using a.len,aim,λv hv=>(by cases hv),λv hv=>by
   rw[e9 (by rw[a.len];omega)];by_cases e:v=k;·subst e;simp
   rw[an e,a.bC v hv];simp;omega⟩ U)
 refine Ru.exitTo ?_;obtain rfl:I=k:=by omega
 refine ah ?_;clear X ih;refine Ru.nm λS0 M hS Z=>?_;refine Ru.cA Z (up (P:=λk=>∀f c,xW n I c ((g.aj.take k).flatMap gF)→(∀x(h:x<g.aj.length),x<k→(∀s∈g.aj[x].aA,tf g s)∧xQ g g.aj[x].aq)→ai H f [tS 4 1 (c.map .bool) n true (.slice qg 0 n n true),tB fC q [.aC g.name,aI I,aI n,V]]→Ru ab _ S0 ([(p5,aN k)]++pk M [p1,p3]) f) g.aj.length (λk hk ih f c a y U=>?_) 0 (by omega) _ c a (λx _ o=>by omega) U);subst hS;subst Z;refine Ru.loop ?_;refine ah ?_;refine Ru.cond (λD=>?_) (λD=>?_)
 ·have r:=af0 D;have d5:=hB.bl _ r;have cf:=hB.st _ r;have cn:=hB.ed _ r;have cp:=hY.st _ r;have cv:=hY.fn _ r;have cx:=hY.kd _ r;have a2:g.aj.take (k+1)=g.aj.take k++[g.aj[k]]:=(agX D).symm;have ih:=ih (k+1) (by omega) (by omega);rw[a2,ahn,ahu]at ih;have y:(∀s∈g.aj[k].aA,tf g s)∧xQ g g.aj[k].aq→∀x(h:x<g.aj.length),x<k+1→(∀s∈g.aj[x].aA,tf g s)∧xQ g g.aj[x].aq:=λhb x o h=>by
   by_cases e:x=k;·subst e;exact hb
   exact y x o (by omega)
  clear a2;generalize(g.aj.take k).flatMap gF=Y at*;refine ah ?_;refine RO.cP U.gr co (λq1 o1 c1 b5 O b6 hat hrd=>?_) (j:=k);have dz:=O.one;generalize g.aj[k]=B at*;obtain⟨vp,P,jc,rfl,Q,R,a6⟩:=O;have bd:=a6;obtain⟨va,vk,vg,rfl,_⟩:=a6;have⟨b',_,_,ca⟩:=Q.all;have⟨d6,_,_,d7⟩:=R.all;refine ah ?_;refine RO.fG U λH5 q6 U=>?_;refine ah ?_;refine RO.rj U 1 λH6 v0 U=>?_;have⟨d',_,_,_⟩:=(U.sl (e:=3) (size:=1) (sv:=v0) (vs:=[]) (n:=0) (full:=true) 0).all;refine ah ?_;refine RO.pT U 0 (U.gr.sl Q) (λH7 v1 U=>?_) (h1:=ri _);have U:ai H H7 [tS 3 1 ((B.params++eK (B.aA.take 0)).map aI) (B.params++eK (B.aA.take 0)).length true v1,tB dM q6 [vp,P,aU B.aq.op,va,.aC B.aq.name,vk,vg],tS 4 1 (c.map .bool) n true (.slice qg 0 n n true),tB fC q [.aC g.name,aI I,aI n,V]]:=by rw[ah0,show eK []=[]from rfl,ahx];rw[agW]at U;exact U
  have⟨ea,_,_,_⟩:=(U.sl (e:=3) (size:=1) (sv:=v1) (vs:=(B.params++eK (B.aA.take 0)).map aI) (n:=(B.params++eK (B.aA.take 0)).length) (full:=true) 0).all;refine ah ?_;refine Ru.nm λS1 M1 A d=>?_;refine Ru.cA d (up (P:=λj=>∀f lv,(∀x(h:x<B.aA.length),x<j→tf g B.aA[x])→ai H f [tS 3 1 ((B.params++eK (B.aA.take j)).map aI) (B.params++eK (B.aA.take j)).length true lv,tB dM q6 [vp,P,aU B.aq.op,va,.aC B.aq.name,vk,vg],tS 4 1 (c.map .bool) n true (.slice qg 0 n n true),tB fC q [.aC g.name,aI I,aI n,V]]→Ru ab _ S1 ([(p8,aN j),(p7,lv)]++pk M1 [p1,p3,p5,p6]) f) B.aA.length (λj hj l f lv dW U=>?_) 0 (by omega) _ _ (λx _ o=>by omega) U);subst A;subst d;have⟨eb,_,_,a8⟩:=(U.sl (e:=3) (size:=1) (sv:=lv) (vs:=(B.params++eK (B.aA.take j)).map aI) (n:=(B.params++eK (B.aA.take j)).length) (full:=true) 0).all;refine Ru.loop ?_;refine ah ?_;refine Ru.cond (λE=>?_) (λE=>?_)
  ·have a':=af0 E;have ec:=cf _ a';have cy:=cp _ a';have l:=l (j+1) (by omega) (by omega);rw[(agX E).symm,IT,←agJ]at l;have dW:tf g B.aA[j]→∀x(h:x<B.aA.length),x<j+1→tf g B.aA[x]:=λhb x o h=>by
    by_cases e:x=j;·subst e;exact hb
    exact dW x o (by omega)
   have cE:(B.params++eK (B.aA.take j)).length≤100:=by
    have:(eK (B.aA.take j)).length≤(B.aA.take j).length:=by unfold eK;exact ahY (List.length_filter_le _ _) (by simp)
    rw[agP];rw[ahl]at this;omega
   generalize B.params++eK (B.aA.take j)=J at*;refine ah ?_;refine RO.cP U.gr R (λq9 o9 ew ag ba ei hat hrd=>?_) (j:=j);have bv:=ba;generalize o:B.aA[j]=x at*;obtain⟨ej,rfl,d0⟩:=ba;refine ah ?_;refine RO.cl (ac4 T (v:=(n:Int)) (dH.step U.gr bv) cy (by omega) (by omega) (by omega) (by omega) (λH8 hg W g2 L=>?_) (λH8 hg=>?_));rotate_left;·have U:=U.cV hg;refine ah ?_;exact Ru.aT (h2 _ U.gr)
   have U:=U.cV hg;have bb:tf g x:=⟨W,g2,by rw[hn];exact L⟩;refine ah ?_;refine RO.cP U.gr R (λq7 o7 c7 c8 C c9 F b0=>?_) (j:=j);rw[o]at C;obtain⟨c',rfl,b3⟩:=C;refine ah ?_;refine RO.aW (v:=aI x.to) ?_ (hc:=F 1 _ rfl);refine ah ?_;refine Ru.cond (λN=>?_) (λN=>?_);·have N:0≤x.to:=N;rw[aH N]at l;refine ah ?_;refine RO.cP U.gr R (λq7 o7 c7 c8 C c9 F b0=>?_) (j:=j);rw[o]at C;obtain⟨c',rfl,b3⟩:=C;refine ah ?_;refine RO.aW (v:=aI x.to) ?_ (hc:=F 1 _ rfl);refine RO.push U 0 (λw0 H9 v2 U=>?_) (ws:=[aI x.to]);have⟨ek,el,er,_⟩:=(U.sl (e:=3) (size:=1) (n:=J.length+1) (full:=true) (sv:=v2) 0).all;refine ah ?_;exact Ru.wk (l _ v2 (dW bb) (by rw[ahk,agP];exact U))
   have N:¬0≤x.to:=N;rw[an N,ahx]at l;refine ah ?_;exact Ru.wk (l _ lv (dW bb) U)
  refine Ru.exitTo ?_;have dW:∀s∈B.aA,tf g s:=λs hs=>by obtain⟨x,o,rfl⟩:=agS hs;exact dW x o (by omega)
  rw[ag2 (by omega)]at U a8;have dm:B.params++eK B.aA=gF B:=rfl;rw[dm]at U a8;have cE:(gF B).length≤100:=by have:=List.length_filter_le (λt=>decide (0≤t)) (B.aA.map (·.to));rw[agZ]at this;rw[gF,eK,agP];omega
  generalize et:gF B=J at*;refine ah ?_;refine Ru.nm λS1 M1 A d=>?_;refine Ru.cA d (up (P:=λm=>∀f c,xW n I c (Y++J.take m)→ai H f [tS 3 1 (J.map aI) J.length true lv,tB dM q6 [vp,P,aU B.aq.op,va,.aC B.aq.name,vk,vg],tS 4 1 (c.map .bool) n true (.slice qg 0 n n true),tB fC q [.aC g.name,aI I,aI n,V]]→Ru ab _ S1 ([(p9,aN m)]++pk M1 [p1,p3,p5,p6,p7]) f) J.length (λm hm u f c a U=>?_) 0 (by omega) _ c (by rw[ah0,ahx];exact a) U);subst A;subst d;have ar:=U.sl (e:=3) (size:=1) (sv:=lv) (vs:=J.map aI) (n:=J.length) (full:=true) 0;refine Ru.loop ?_;refine ah ?_;refine Ru.cond (λp=>?_) (λp=>?_)
  ·have u:=u (m+1) (by omega) (by omega);rw[(agX p).symm,←agJ]at u;generalize Y++J.take m=h0 at*;refine ah ?_;refine RO.jX (bf.refl _) ar (λq9 o9 ag S=>?_) (j:=m);generalize hz:J[m]=z at*;refine ah ?_;refine RO.sub ?_ (a:=(n:Int)) (b:=1);refine RO.cl (rI T (λW g2=>?_) (λ_=>?_));rotate_left;·refine ah ?_;exact Ru.aT (h2 _ U.gr)
   have W:0≤z:=W;obtain⟨v,rfl⟩:∃v:Nat,z=v:=⟨z.toNat,by omega⟩;have dr:v<n:=by omega
   refine ah ?_;refine RO.jX (bf.refl _) ar (λq9 o9 ag S=>?_) (j:=m);rw[hz]at S;have bc:=a.len;have av:(c.map AV.bool)[0+v*1]?=some (.bool (c.getD v false)):=by rw[show 0+v*1=v by omega,ahc,getElem?_pos c v (by omega),bE (by omega)];rfl
   refine ah ?_;refine RO.eH U 2 (hv:=av) ?_;refine ah ?_;refine Ru.kh (λL=>?_) (λL=>?_);·refine ah ?_;exact Ru.aT (h2 _ U.gr)
   refine ah ?_;refine RO.jX (bf.refl _) ar (λq9 o9 ag S=>?_) (j:=m);rw[hz]at S;refine ah ?_;refine RO.ml U 2 true bc (λH9 U=>?_) (k:=v) (ho:=by omega);refine ah ?_;exact Ru.wk (u _ _ (a.add dr L) U)
  refine Ru.exitTo ?_;rw[ag2 (by omega)]at a;refine ah ?_;refine RO.eG U 3 ?_;refine ah ?_;refine RO.eG U 1 (m:=5) (o:=2) ?_;refine RO.cl (ac5 T (dH.mU U.gr ay) (j:=B.aq) (dH.He U.gr bd) hB (by omega) (by omega) cv cx ⟨by omega,by omega,by omega,by omega⟩ cn (λH8 hg W=>?_) (λH8 hg=>?_));rotate_left;·have U:=U.cV hg;refine ah ?_;exact Ru.aT (h2 _ U.gr)
  have U:=U.cV hg;refine ah ?_;exact Ru.wk (ih _ _ a (y ⟨dW,W⟩) U.tail.tail)
 refine Ru.exitTo ?_;rw[ag2 (by omega)]at a;have bc:=a.len;refine ah ?_;refine Ru.nm λS1 M1 A d=>?_;refine Ru.cA d (up (P:=λm=>(∀x,x<m→c.getD x false=true)→Ru ab _ S1 ([(aO,aN m)]++pk M1 [p1,p3]) f) n (λm hm u eS=>?_) 0 (by omega) (λx o=>by omega));subst A;subst d;refine Ru.loop ?_;refine ah ?_;refine Ru.cond (λp=>?_) (λp=>?_)
 ·have av:(c.map AV.bool)[0+m*1]?=some (.bool (c.getD m false)):=by rw[show 0+m*1=m by omega,ahc,getElem?_pos c m (by omega),bE (by omega)];rfl
  refine ah ?_;refine RO.eH U 0 (hv:=av) ?_;refine ah ?_;refine Ru.kh (λL=>?_) (λL=>?_);·refine ah ?_;exact Ru.aT (h2 _ U.gr)
  refine ah ?_;exact Ru.wk (u (m+1) (by omega) (by omega) λx o=>by
   by_cases e:x=m;·subst e;simpa using L
   exact eS x (by omega))
 refine Ru.exitTo ?_;refine ah ?_;exact Ru.aT (h1 _ U.gr ⟨f1,f2,by rw[hn,w];exact f3,f4,f5,λb hb x o=>by obtain⟨i,hi,rfl⟩:=agS hb;exact(y i hi (by omega)).1 x o,λb hb=>by obtain⟨i,hi,rfl⟩:=agS hb;exact(y i hi (by omega)).2,a.nd,λv hv=>by rw[hn,w];exact a.rg v hv,λv ds dv=>by
  rw[w]at ds;rw[hn]at dv;have dx:v.toNat<n:=by omega
  have:=(a.bC _ dx).1 (eS _ (by omega));rw[Int.toNat_of_nonneg (by omega)]at this;exact this.resolve_left (by omega)⟩)
end
end
section
theorem OE{op:Nat}:∀{l:List (Nat×qA)},(ta op l).w≠ []→op∈l.map (·.1)
 |[],h=>absurd rfl h
 |p::l,h=>by
  unfold ta at h;split at h;·grind
  exact adD _ (OE h)
theorem adt{t:List Nat}(h:gV t≠0):rF t:=by
 unfold gV at h;split at h;·rename_i a;simp only[BV,adC,ag0,or_false]at a;rcases a with rfl|rfl|rfl|rfl|rfl<;>exact⟨by decide,by decide,by decide⟩
 split at h;·rename_i a;simp only[BW,adC,ag0,or_false]at a;rcases a with rfl|rfl|rfl|rfl|rfl|rfl|rfl|rfl|rfl|rfl|rfl<;>exact⟨by decide,by decide,by decide⟩
 split at h;·rename_i a;simp only[BX,adC,ag0,or_false]at a;subst a;exact⟨by decide,by decide,by decide⟩
 exact absurd rfl h
section
variable{g:G.bu}
theorem Cg{x:G.gW}{r:pB}{f:qA}(h:Ep x g.bi f)(j:xG x=some r)(hg:r.uC=f.to)(a:r.Eh=if f.n then f.lo else 0)(b:r.Ei=if f.n then f.hi else 0)(c:xN f.nm x.name→It r.nm x.name)(d:r.Ef≤x.args.length∧x.args.length≤r.Eg):vU g x r∧r.uC=decide (0≤x.to):=by
 have e:=h.to;have h0:=h.t0;refine⟨⟨j,d,c h.name,?_,h.wD,h.oT,λk=>?_⟩,by grind⟩;·rw[a,b];cases i:f.n with|true=>simpa using h.N0 i|false=>have:=h.nun i;grind
 grind
theorem adu{x:G.gW}(h:tf g x)(hl:x.args.length≤12):∃r,vU g x r∧r.uC=decide (0≤x.to):=by
 have d:=OE h.w;have h1:=h.op;have a:=h.r;have h0:=a.name;have h2:=a.mn;have h3:=a.mo;obtain⟨op,to,args,n,m,name⟩:=x;simp only[Eo,xM,ahC,ahH,agN,ahX,adC,ag0,or_false]at d;simp only at hl d h1 h0 h2 h3;rcases d with rfl|rfl|rfl|rfl|rfl|rfl|rfl|rfl|rfl|rfl|rfl|rfl|rfl|rfl|rfl|rfl|rfl|rfl|rfl|rfl|rfl|rfl|rfl|rfl|rfl|rfl|rfl|rfl|rfl|rfl|rfl|rfl|rfl|rfl|rfl|rfl;all_goals
  first|exact absurd (by decide) h1|exact⟨_,Cg a rfl rfl rfl rfl (λh=>h) (by simp[rM,Of,tb,rL,Eo,xM,ta]at h2 h3⊢;omega)⟩|
   exact⟨_,Cg a rfl rfl rfl rfl (λh=>h) (by
    have e:rM 0 args.length:=h3 (by decide) (by decide);have c:args.length=0:=by unfold rM at e;omega
    show(0:Int)≤(args.length:Int)∧(args.length:Int)≤0;omega)⟩|skip
 ·have c:rM (gV name) args.length:=h3 (by decide) (by decide);have f:gV name≠0:=h0;have j:args.length=gV name:=by unfold rM at c;omega
  refine⟨⟨true,gV name,gV name,1,0,0⟩,Cg a ?_ rfl rfl rfl (λ_=>adt f) ?_⟩;all_goals simp_all[xG,bm,aH,gV]
 by_cases b:m=1;·subst b;have c:rM (-3) args.length:=h3 (by decide) (by decide);refine⟨⟨true,0,6,1,0,0⟩,Cg a rfl rfl rfl rfl (λh=>h) ?_⟩;grind[rM]
 have i:tb 13 m=⟨[99,97,108,108],true, -2,false,0,0,0,0⟩:=by rw[tb,an λh=>b h.2];rfl
 rw[i]at a h3;have c:rM (-2) args.length:=h3 (by decide) (by decide);refine⟨⟨true,1,7,0,0,0⟩,Cg a ?_ rfl rfl rfl (λh=>h) ?_⟩;all_goals grind[xG,rM]
theorem vX.ok{j:G.k6}{k:Nat}{e:G.Edge}(h:vX g j k e)(a:¬(j.op=67∧k=2)):vV g e (j6 j k):=⟨h.lo,by have:=h.hi;omega,h.aK a,h.oT⟩
theorem IU{j:G.k6}(hj:∀k(h:k<j.go.length),vX g j k j.go[k])(hl:∀e∈j.go,e.args.length≤12)(c:j.op≠67){b:List Nat}(a:j.go.length=b.length)(d:∀k(h:k<b.length),b[k]=j6 j k):sY g j.go b:=⟨a,λk h=>⟨by rw[d];exact(hj k h).ok λh=>c h.1,by have:=hl _ (af0 h);omega⟩⟩
theorem adv{j:G.k6}(h:xQ g j)(hl:∀e∈j.go,e.args.length≤12):Iv g j:=by
 have d:=h.ae;have b:=h.Er;refine⟨h.oT,h.name,h.bY,?_⟩;have n:∀a,a=j.args.length→a=0→j.args=[]:=λa h1 h2=>ahp (by omega);have l:∀a,a=j.go.length→a=0→j.go=[]:=λa h1 h2=>ahp (by omega);have one:j.go.length=1→j.op≠67→j6 j 0=0→sY g j.go [0]:=λh1 h2 h3=>IU b hl h2 h1 λk f=>by
  obtain rfl:k=0:=by simpa using f
  rw[h3];rfl
 have nR:∀x,j.go.length=2→j.op≠67→j6 j 0=x→j6 j 1=0→sY g j.go [x,0]:=λx h1 h2 h3 o=>IU b hl h2 h1 λk f=>by match k,f with|0,_=>exact h3.symm|1,_=>exact o.symm
 generalize c:j.args.length=a at d;generalize hg:j.go.length=e at d;cases d with
 |go h1=>exact .go h1 (n _ c.symm rfl) (one hg (by omega) (by simp[j6,h1]))
 |BZ h1=>exact .BZ h1 c (nR 0 hg (by omega) (by simp[j6,h1]) (by simp[j6,h1]))
 |is h1=>exact .is h1 c (h.nm (h.name.1 h1)) (nR 0 hg (by omega) (by simp[j6,h1]) (by simp[j6,h1]))
 |fS h1=>exact .fS h1 c (nR 1 hg (by omega) (by simp[j6,h1]) (by simp[j6,h1]))
 |zU h1 f h2 o=>refine .zU h1 f h2 o c (IU b hl (by omega) (by grind) λk u=>?_);grind[agZ,uD,j6,bE]
 |B0 h1=>
  match i:j.go,hg with
   |[r,s,t],_=>
    rw[i]at b;have a0:=b 0 (by simp);have p:=b 1 (by simp);have m:=b 2 (by simp);have q:=a0.ok (by omega);have b1:=p.ok (by omega);have i0:j6 j 0=0:=by simp[j6,h1]
    have i1:j6 j 1=1:=by simp[j6,h1]
    rw[i0]at q;rw[i1]at b1;exact .B0 h1 (n _ c.symm rfl) r s t i q b1 ⟨(a0.tr h1).1,(p.tr h1).1,(m.tr h1).1⟩ ⟨m.lo,by have:=m.hi;grind⟩ (Nat.pos_of_ne_zero ((m.tr h1).2 rfl))
 |B3 h1=>exact .B3 h1 (by omega) (l _ hg.symm rfl)
 |ret h1=>exact .ret (.inl h1) c (l _ hg.symm rfl)
 |rN h1=>exact .ret (.inr h1) c (l _ hg.symm rfl)
 |stuck h1=>exact .stuck h1 (n _ c.symm rfl) (l _ hg.symm rfl)
end
end
section
variable{ab:Nat→aE}
section
section
variable{W:Nat→List Nat}{ap ranks:List Nat}{up:List Int}{n:Nat}{B H:af}{c:AV}
theorem adw(T:Tb ab)(w:Rk W ap ranks)(l:nB W ap ranks n up)(eS:∀b∈ap,0≤up.getD b (-1))(i:∀b∈ap,b<n)(hg:bf B H)(hs:Sl B 1 ((up.set 0 (-1)).map aI) n c){d b:Nat}(hb:b∈ap)(hd:eU W d b){K:AV→af→Prop}(r:K (.bool true) H):YF ab (.func WG [] []) [c,aN d,aN b] H K:=by
 have g:=l.len;have⟨v,_,_,_⟩:=hs.all;refine YF.code T.abB (by simp) ?_;refine ah ?_;refine Ru.nm λS M s p=>?_;refine Ru.cA p (dn (P:=λm=>∀b,ranks.getD b 0=m→b∈ap→eU W d b→Ru ab _ S ([(p2,aN b)]++pk M [p0,p1]) H) (λm t b x hb hd=>?_) _ b rfl hb hd);have j:=i b hb;subst s;subst p;refine Ru.loop ?_;refine ah ?_;refine Ru.cond (λf=>?_) (λf=>?_)
 ·have f:d≠b:=λe=>by subst e;simp at f
  obtain⟨a,h1,h2,h3,y,u⟩:=l.G6 eS hb hd f;refine ah ?_;have k:Sl B 1 ((up.set 0 (-1)).map aI) (up.set 0 (-1)).length c:=by rw[ahN,g];exact hs
  refine RO.jX hg k (λq o hj h=>?_) (j:=b) (hj:=by rw[ahN,g];exact j);have e:(up.set 0 (-1))[b]=(a:Int):=by rw[List.getElem_set_ne (λe=>h2 e.symm),←h1,bE]
  rw[e]at h;refine RO.aW ?_ (hc:=h);refine ah ?_;exact Ru.wk (t _ (by omega) a rfl h3 u)
 have f:d=b:=ahe λe=>f (by simp;exact λe2=>e e2.symm);subst f;refine Ru.exitTo ?_;refine ah ?_;refine Ru.aT ?_;simpa using r
theorem adx(T:Tb ab)(f:Rk W ap ranks)(g:nB W ap ranks n up)(eS:∀b∈ap,0≤up.getD b (-1))(a:∀b∈ap,b<n)(hg:bf B H)(hs:Sl B 1 ((up.set 0 (-1)).map aI) n c){d b:Nat}(hb:b∈ap)(hd:eU W d b)(e:d≠b){K:AV→af→Prop}(i:K (.bool true) H):YF ab (.func Ww [] []) [c,aN d,aN b] H K:=by have⟨j,_,_,_⟩:=hs.all;refine YF.code T.abg (by simp) ?_;refine ah ?_;refine RO.cX (λ_=>?_) (λh=>absurd e h);refine ah ?_;refine RO.cl (adw T f g eS a hg hs hb hd ?_);refine ah ?_;exact Ru.aT i
end
end
section
def jH:List G.gW→Nat→List (Int×Int)
 |[],_=>[]
 |s::l,i=>(if s.to= -1 then[]else[(s.to,(i:Int))])++jH l (i+1)
theorem Ew:∀(a b:List G.gW)(i:Nat),jH (a++b) i=jH a i++jH b (i+a.length)|[],b,i=>by simp[jH]|s::a,b,i=>by simp only[ahC,jH,Ew a b (i+1),agJ,ahh];rw[show i+1+a.length=i+(a.length+1)by omega]
def dE(b:G.gD):List (Int×Int):=b.params.map (λv=>(v, -1))++jH b.aA 0
theorem OF(b:G.gD){i:Nat}(h:i<b.aA.length)(a:b.aA[i].to≠ -1):∃c:b.params.length+(jH (b.aA.take i) 0).length<(dE b).length,(dE b)[b.params.length+(jH (b.aA.take i) 0).length]=(b.aA[i].to,(i:Int))∧(jH (b.aA.take (i+1)) 0).length=(jH (b.aA.take i) 0).length+1:=by
 have e1:b.aA=b.aA.take i++b.aA[i]::b.aA.drop (i+1):=by conv=>lhs;rw[←ahR i b.aA,agR h]
 have e2:dE b=b.params.map (λv=>(v, -1))++(jH (b.aA.take i) 0++((b.aA[i].to,(i:Int))::jH (b.aA.drop (i+1)) (i+1))):=by
  unfold dE;congr 1;conv=>lhs;rw[e1]
  rw[Ew,jH,an a,ahl,aid (by omega),agW];rfl
 have e:(dE b)[b.params.length+(jH (b.aA.take i) 0).length]?=some (b.aA[i].to,(i:Int)):=by rw[e2,List.getElem?_append_right (by simp),List.getElem?_append_right (by simp)];simp
 obtain⟨c,f⟩:=ahv.1 e;refine⟨c,f,?_⟩;rw[List.take_succ,ahr h,Option.toList_some,Ew,agP];simp[jH,a]
theorem ady(b:G.gD){i:Nat}(h:i<b.aA.length)(a:b.aA[i].to= -1):(jH (b.aA.take (i+1)) 0).length=(jH (b.aA.take i) 0).length:=by rw[List.take_succ,ahr h,Option.toList_some,Ew,agP];simp[jH,a]
def IV(l:List (Int×Int))(k:Nat)(args:List AV)(a:List Th):Prop:=a=[]∧∃h:k<l.length,args=[aI l[k].1,aI l[k].2]
section
variable{A H:af}{us:List Th}{d:ac}{b:G.gD}{cs:List AV}
theorem OG(T:Tb ab)(h1:dI cs=true)(a:cs.length=7){K:AV→af→Prop}(b:∀H' d,ai H H' [tB dM d cs]→K (.func D3 [] [.aw d 0]) H'):YF ab (.func Wl [] []) [.agg cs] H K:=by refine YF.code T.aaY (by simp) ?_;refine au ?_;refine RO.dS (ai.cW H) (λH1 d U=>?_);refine au ?_;exact Ru.aT (b _ d U)
theorem OH(T:Tb ab)(hb:jW A b cs)(hp:b.params.length≤1000)(N:b.aA.length≤1000):zW ab A (.func D3 [] [.aw d 0]) (dE b).length (IV (dE b)) [tB dM d cs] (λ_=>True) (λ_=>True):=by
 intro y J D a us H K O P Q R l m U hR j;obtain⟨E,vs,F,rfl,t,u,V⟩:=hb;have⟨W,_,_,X⟩:=t.all;have⟨Y,_,_,Z⟩:=u.all;have z:∀k(h:k<b.params.length),∃h':k<(dE b).length,(dE b)[k]=(b.params[k], -1):=λk h=>by
  have e:(dE b)[k]?=some (b.params[k], -1):=by unfold dE;rw[ahd (by simpa using h)];simp[h]
  exact ahv.1 e
 refine YF.code T.abj (by simp) ?_;refine ah ?_;refine Ru.nm λS M x s=>?_;refine Ru.cA s (up (P:=λk=>∀p a,J k a→ai A p (tB dM d (E::vs::F)::(a++us))→Ru ab _ S ([(aO,aN k)]++pk M [p0,p1,p8,p9]) p) b.params.length (λk hk w p a m U=>?_) 0 (by omega) _ a m U);subst x;subst s;refine Ru.loop ?_;refine au ?_;refine Ru.cond (λf=>?_) (λf=>?_)
 ·obtain⟨g,he⟩:=z k f;refine ah ?_;refine RO.oH U.gr t (λq o hj B=>?_);refine RO.aW ?_ (hc:=B);refine ah ?_;refine RO.cl ((l k [aI b.params[k],aI (-1)] [] a _ _ g ⟨rfl,g,by rw[he]⟩ m (ai.gC (xs:=[_]) U)).mono ?_);rintro v L⟨r,U,hc⟩;rcases hc with⟨rfl,h⟩|⟨rfl,h⟩;·refine ah ?_;exact Ru.wk (w (k+1) (by omega) (by omega) _ _ h (ai.lE (xs:=[_]) U))
  refine ah ?_;exact Ru.nS (vs:=[]) trivial (j _ r _ (ai.lE (xs:=[_]) U).tail (.inr h))
 refine Ru.exitTo ?_;refine ah ?_;refine Ru.nm λS M x s=>?_;refine Ru.cA s (up (P:=λi=>∀p a,J (b.params.length+(jH (b.aA.take i) 0).length) a→ai A p (tB dM d (E::vs::F)::(a++us))→Ru ab _ S ([(bM,aN i)]++pk M [p0,p1,bP,bQ]) p) b.aA.length (λi hi w p a m U=>?_) 0 (by omega) _ a (by rw[show b.params.length=k by omega];exact m) U);subst x;subst s;refine Ru.loop ?_;refine au ?_;refine Ru.cond (λf=>?_) (λf=>?_)
 ·refine au ?_;refine RO.cP U.gr u (λq o c hj G _ hat hrd=>?_);have I:=G.one;obtain⟨va,rfl,ag⟩:=G;refine ah ?_;refine RO.gk U λH4 q6 U=>?_;refine ah ?_;refine RO.iL U 0 (λH5 U=>?_);refine ah ?_;by_cases n:b.aA[i].to= -1;·refine RO.cX (λh=>absurd n h) (λ_=>?_);refine ah ?_;rw[←ady b f n]at m;exact Ru.wk (w (i+1) (by omega) (by omega) _ a m U.tail)
  obtain⟨g,he,C⟩:=OF b f n;refine RO.cX (λ_=>?_) (λh=>absurd n h);refine ah ?_;refine RO.cl ((l _ [aI b.aA[i].to,aI (i:Int)] [] a _ _ g ⟨rfl,g,by rw[he]⟩ m (ai.gC (xs:=[_,_]) U)).mono ?_);rintro v L⟨r,U,hc⟩;rcases hc with⟨rfl,h⟩|⟨rfl,h⟩;·refine ah ?_;rw[ah3,←C]at h;exact Ru.wk (w (i+1) (by omega) (by omega) _ _ h (ai.lE (xs:=[_,_]) U).tail)
  refine ah ?_;exact Ru.nS (vs:=[]) trivial (j _ r _ (ai.lE (xs:=[_,_]) U).tail.tail (.inr h))
 refine Ru.exitTo ?_;refine ah ?_;refine Ru.aq (vs:=[]) trivial (j _ a _ U.tail (.inl ?_));have e:(dE b).length=b.params.length+(jH (b.aA.take i) 0).length:=by rw[ag2 (by omega)];simp[dE]
 rw[e];exact m
end
end
section
section
variable{A H:af}{us ts:List Th}{la:List Int}{sv fv:AV}{J:Nat→List Th→Prop}{D:List Th→Prop}
def OI(ab:Nat→aE)(A:af)(fv:AV)(la:List Int)(J:Nat→List Th→Prop)(D:List Th→Prop):Prop:=
 ∀k ts us H(h:k<la.length),J k ts→ai A H (ts++us)→YF ab fv [aI la[k]] H λv H'=>∃b,ai A H' (b++us)∧(v=.bool false∧J (k+1) b∨v=.bool true∧D b)
theorem adz(T:Tb ab)(i:iy A la sv)(hl:la.length≤1000000)(r:fv.bB=true)(m:OI ab A fv la J D)(e:J 0 ts)(U:ai A H (ts++us)){K:AV→af→Prop}(j:∀H' b z,ai A H' (b++us)→(z<0∧J la.length b∨0≤z∧D b)→K (aI z) H'):YF ab (.func VS [] []) [sv,fv] H K:=by
 have⟨hd,_,_,s⟩:=i.all;refine YF.code T.Ij (by simp) ?_;refine au ?_;refine Ru.nm λS M n l=>?_;refine Ru.cA l (up (P:=λk=>∀f ts,J k ts→ai A f (ts++us)→Ru ab _ S ([(p8,aN k)]++pk M [p0,p1,p7]) f) la.length (λk t p f ts e U=>?_) 0 (by omega) _ ts e U);subst n;subst l;refine Ru.loop ?_;refine au ?_;refine Ru.cond (λd=>?_) (λd=>?_)
 ·refine au ?_;refine RO.oH U.gr i (λq o hj g=>?_);refine RO.aW ?_ (hc:=g);refine RO.cl ((m k ts us f d e U).mono ?_);rintro v u⟨b,U,hc⟩;rcases hc with⟨rfl,h⟩|⟨rfl,h⟩;·refine au ?_;exact Ru.wk (p (k+1) (by omega) (by omega) _ _ h U)
  refine au ?_;exact Ru.aT (j _ b (.ofNat k) U (.inr ⟨by simp,h⟩))
 refine Ru.exitTo ?_;refine au ?_;exact Ru.aT (j _ ts (-1) U (.inl ⟨by omega,by rw[show la.length=k by omega];exact e⟩))
theorem adA(T:Tb ab)(e:iy A la sv)(hl:la.length≤1000000)(d:fv.bB=true)(f:OI ab A fv la J D)(g:J 0 ts)(U:ai A H (ts++us)){K:AV→af→Prop}(h:∀H' b t,ai A H' (b++us)→(t=false∧J la.length b∨t=true∧D b)→K (.bool t) H'):YF ab (.func VG [] []) [sv,fv] H K:=by
 have⟨hd,_,_,j⟩:=e.all;refine YF.code T.Ii (by simp) ?_;refine au ?_;refine RO.cl (adz T e hl d f g U λH' b z U i=>?_);refine au ?_;refine Ru.aT (h _ b _ U ?_);rcases i with⟨h1,h2⟩|⟨h1,h2⟩;·exact .inl ⟨by simp;omega,h2⟩
 exact .inr ⟨by simp;omega,h2⟩
end
section
variable{A H:af}{us ts:List Th}{c a:ac}{b:G.gD}{cs:List AV}{l:List (Int×Int)}
theorem IW(T:Tb ab){y:AV}{J:Nat→List Th→Prop}{D:List Th→Prop}(o:y.bB=true)(e:Body ab A y l.length (IV l) J D){p bC:Nat}{la:List Int}{sv:AV}(j:iy A la sv)(hl:la.length≤1000000)(n:∀k(h:k<la.length),∃f:p+k<l.length,l[p+k]=(la[k],(bC:Int)))(g:J p ts)(U:ai A H (tB xj a [y]::(ts++us))){K:AV→af→Prop}(m:∀H' b t,ai A H' (tB xj a [y]::(b++us))→(t=true∧J (p+la.length) b∨t=false∧D b)→K (.bool t) H'):YF ab (.func Wy [] [.aw a 0]) [aN bC,sv] H K:=by
 have⟨hd,_,_,q⟩:=j.all;refine YF.code T.abl (by simp) ?_;refine au ?_;refine RO.dS U (λH1 i U=>?_);refine au ?_;refine RO.cl (adA T (us:=us) (ts:=tB 3 i [aN bC]::tB xj a [y]::ts) j hl rfl (J:=λk b=>∃t0,b=tB 3 i [aN bC]::tB xj a [y]::t0∧J (p+k) t0) (D:=λb=>∃t0,b=tB 3 i [aN bC]::tB xj a [y]::t0∧D t0) ?_ ⟨ts,rfl,g⟩ U λH' b t U d=>?_)
 ·rintro k _ us H h⟨t0,rfl,g⟩U;obtain⟨f,he⟩:=n k h;refine YF.code T.abm (by simp) ?_;refine ah ?_;refine RO.cl ((e (p+k) [aI la[k],aN bC] [] t0 _ _ f ⟨rfl,f,by rw[he];rfl⟩ g (ai.gC (xs:=[_,_]) U)).mono ?_);rintro v r⟨b,U,d⟩;have U:=ai.lE (xs:=[_,_]) U;rcases d with⟨rfl,h⟩|⟨rfl,h⟩;·refine ah ?_;exact Ru.aT ⟨_,U,.inl ⟨rfl,b,rfl,h⟩⟩
  refine ah ?_;exact Ru.aT ⟨_,U,.inr ⟨rfl,b,rfl,h⟩⟩
 rcases d with⟨rfl,t0,rfl,h⟩|⟨rfl,t0,rfl,h⟩;·refine ah ?_;exact Ru.aT (m _ t0 true U.tail (.inl ⟨rfl,h⟩))
 refine ah ?_;exact Ru.aT (m _ t0 false U.tail (.inr ⟨rfl,h⟩))
end
end
section
def nC(a:List Int)(n:Nat):List (Int×Int):=a.map λv=>(v,(n:Int))
def jq:List G.gW→Nat→List (Int×Int)
 |[],_=>[]
 |s::l,i=>nC s.args i++jq l (i+1)
def ko:List G.Edge→Nat→List (Int×Int)
 |[],_=>[]
 |e::l,n=>nC e.args n++ko l n
def kp(b:G.gD):List (Int×Int):=jq b.aA 0++(nC b.aq.args b.aA.length++ko b.aq.go b.aA.length)
theorem IX:∀(a b:List G.gW)(i:Nat),jq (a++b) i=jq a i++jq b (i+a.length)|[],b,i=>by simp[jq]|s::a,b,i=>by simp only[ahC,jq,IX a b (i+1),agJ,ahh];rw[show i+1+a.length=i+(a.length+1)by omega]
theorem IY:∀(a b:List G.Edge)(n:Nat),ko (a++b) n=ko a n++ko b n|[],b,n=>by simp[ko]|s::a,b,n=>by simp only[ahC,ko,IY a b n,agJ]
theorem IZ{l a c:List (Int×Int)}{b:List Int}{n:Nat}(h:l=a++(nC b n++c))(k:Nat)(f:k<b.length):∃g:a.length+k<l.length,l[a.length+k]=(b[k],(n:Int)):=by
 have e:l[a.length+k]?=some (b[k],(n:Int)):=by rw[h,List.getElem?_append_right (by omega),ahd (by simp[nC];omega)];simp[nC,f]
 exact ahv.1 e
theorem Ex(a:List Int)(n:Nat):(nC a n).length=a.length:=by simp[nC]
theorem OJ(b:G.gD){i:Nat}(h:i<b.aA.length):(jq (b.aA.take (i+1)) 0).length=(jq (b.aA.take i) 0).length+b.aA[i].args.length∧∃c,kp b=jq (b.aA.take i) 0++(nC b.aA[i].args i++c):=by
 have e1:b.aA=b.aA.take i++b.aA[i]::b.aA.drop (i+1):=by conv=>lhs;rw[←ahR i b.aA,agR h]
 refine⟨by rw[List.take_succ,ahr h,Option.toList_some,IX,agP];simp[jq,Ex,aid (Nat.le_of_lt h)],jq (b.aA.drop (i+1)) (i+1)++(nC b.aq.args b.aA.length++ko b.aq.go b.aA.length),?_⟩;have e2:jq b.aA 0=jq (b.aA.take i) 0++(nC b.aA[i].args i++jq (b.aA.drop (i+1)) (i+1)):=by
  conv=>lhs;rw[e1]
  rw[IX,jq,ahl,aid (by omega),agW]
 unfold kp;rw[e2,agJ,agJ]
theorem OL(b:G.gD){i:Nat}(h:i<b.aq.go.length):(ko (b.aq.go.take (i+1)) b.aA.length).length=(ko (b.aq.go.take i) b.aA.length).length+b.aq.go[i].args.length∧∃c,kp b=(jq b.aA 0++(nC b.aq.args b.aA.length++ko (b.aq.go.take i) b.aA.length))++(nC b.aq.go[i].args b.aA.length++c):=by
 have e1:b.aq.go=b.aq.go.take i++b.aq.go[i]::b.aq.go.drop (i+1):=by conv=>lhs;rw[←ahR i b.aq.go,agR h]
 refine⟨by rw[List.take_succ,ahr h,Option.toList_some,IY,agP];simp[ko,Ex],ko (b.aq.go.drop (i+1)) b.aA.length,?_⟩;have e2:ko b.aq.go b.aA.length=ko (b.aq.go.take i) b.aA.length++(nC b.aq.go[i].args b.aA.length++ko (b.aq.go.drop (i+1)) b.aA.length):=by
  conv=>lhs;rw[e1]
  rw[IY,ko]
 unfold kp;rw[e2];simp only[agJ]
section
variable{A H:af}{us:List Th}{d:ac}{b:G.gD}{cs:List AV}
theorem OM(T:Tb ab)(h1:dI cs=true){K:AV→af→Prop}(a:∀H' d,ai H H' [tB dM d cs]→K (.func D4 [] [.aw d 0]) H'):YF ab (.func Wm [] []) [.agg cs] H K:=by refine YF.code T.aa1 (by simp) ?_;refine au ?_;refine RO.dS (ai.cW H) (λH1 d U=>?_);refine au ?_;exact Ru.aT (a _ d U)
theorem ON(T:Tb ab)(hb:jW A b cs)(ag:b.aA.length≤1000)(dW:∀s∈b.aA,s.args.length≤1000)(ar:b.aq.args.length≤1000)(av:b.aq.go.length≤1000)(O:∀e∈b.aq.go,e.args.length≤1000):zW ab A (.func D4 [] [.aw d 0]) (kp b).length (IV (kp b)) [tB dM d cs] (λ_=>True) (λ_=>True):=by
 intro y J D m us H K u P z ax f n U hR g;obtain⟨vp,vs,jc,rfl,ay,B,Q⟩:=hb;obtain⟨va,vk,vg,rfl,C,a1,E⟩:=Q;have⟨a2,_,_,a6⟩:=B.all;have⟨a8,_,_,a'⟩:=C.all;have⟨ba,_,_,bb⟩:=E.all;refine YF.code T.abk (by simp) ?_;refine ah ?_;refine RO.dS U (v:=y) (λH1 W U=>?_) (ho:=by rw[z];simp[dI,P]);rw[z]at U;refine ah ?_;refine Ru.nm λS M I w=>?_;refine Ru.cA w (up (P:=λi=>∀r m,J (jq (b.aA.take i) 0).length m→ai A r (tB xj W [y]::tB dM d _::(m++us))→Ru ab _ S ([(aX,aN i)]++pk M [p1,p3,aQ,aZ]) r) b.aA.length (λi hi L r m n U=>?_) 0 (by omega) _ m n U);subst I;subst w;refine Ru.loop ?_;refine au ?_;refine Ru.cond (λa=>?_) (λa=>?_)
 ·obtain⟨v,c,N⟩:=OJ b a;refine au ?_;refine RO.cP U.gr B (λq o c hj x _ hat hrd=>?_);have F:=x.one;obtain⟨R,rfl,k⟩:=x;have⟨G,_,_,_⟩:=k.all;refine ah ?_;refine RO.gk U λH4 Y U=>?_;refine ah ?_;refine RO.iL U 0 (λZ U=>?_);refine ah ?_;refine RO.cl (IW T u f (p:=(jq (b.aA.take i) 0).length) (bC:=i) k (by have:=dW _ (af0 a);omega) (IZ N) n ((U.cO (ahw ..)).cO (ahq _ (uE (xs:=[_,_])))) λX j t U l=>?_);have U:=(U.cO (ahq _ (uE (xs:=[_,_])).symm)).sub (ahW _ (List.Sublist.cons _ (ahB _)));rcases l with⟨rfl,h⟩|⟨rfl,h⟩;·refine ah ?_;rw[←v]at h;exact Ru.wk (L (i+1) (by omega) (by omega) _ _ h U)
  refine ah ?_;exact Ru.nS (vs:=[]) trivial (g _ j _ U.tail.tail (.inr h))
 refine Ru.exitTo ?_;rw[ag2 (by omega)]at n;refine ah ?_;refine RO.cl (IW T u f (p:=(jq b.aA 0).length) (bC:=b.aA.length) C (by omega) (IZ (l:=kp b) rfl) n (U.cO (ahq _ (uE (xs:=[_])))) λX j t U l=>?_);have U:=U.cO (ahq _ (uE (xs:=[_])).symm);rcases l with⟨rfl,h⟩|⟨rfl,h⟩
 ·refine ah ?_;refine Ru.nm λS M I w=>?_;refine Ru.cA w (up (P:=λi=>∀r m,J ((jq b.aA 0).length+(b.aq.args.length+(ko (b.aq.go.take i) b.aA.length).length)) m→ai A r (tB xj W [y]::tB dM d _::(m++us))→Ru ab _ S ([(di,aN i)]++pk M [p3,p6,dc,db]) r) b.aq.go.length (λi hi L r m n U=>?_) 0 (by omega) _ j h U);subst I;subst w;refine Ru.loop ?_;refine au ?_;refine Ru.cond (λa=>?_) (λa=>?_)
  ·obtain⟨v,c,N⟩:=OL b a;refine au ?_;refine RO.cP U.gr E (λq o c hj x _ hat hrd=>?_);have F:=x.one;obtain⟨R,rfl,k⟩:=x;have⟨G,_,_,_⟩:=k.all;refine ah ?_;refine RO.fG U λZ Y U=>?_;refine ah ?_;have V:(jq b.aA 0++(nC b.aq.args b.aA.length++ko (b.aq.go.take i) b.aA.length)).length=(jq b.aA 0).length+(b.aq.args.length+(ko (b.aq.go.take i) b.aA.length).length):=by simp only[agP,Ex]
   have p:=IZ N;rw[V]at p;refine RO.cl (IW T u f (p:=(jq b.aA 0).length+(b.aq.args.length+(ko (b.aq.go.take i) b.aA.length).length)) (bC:=b.aA.length) k (by have:=O _ (af0 a);omega) p n ((U.cO (ahw ..)).cO (ahq _ (uE (xs:=[_,_])))) λX j t U l=>?_);have U:=(U.cO (ahq _ (uE (xs:=[_,_])).symm)).sub (ahW _ (List.Sublist.cons _ (ahB _)));rcases l with⟨rfl,h⟩|⟨rfl,h⟩;·refine ah ?_;rw[ah3,ah3,←v]at h;exact Ru.wk (L (i+1) (by omega) (by omega) _ _ h U)
   refine ah ?_;exact Ru.nS (vs:=[]) trivial (g _ j _ U.tail.tail (.inr h))
  refine Ru.exitTo ?_;refine ah ?_;refine Ru.aq (vs:=[]) trivial (g _ m _ U.tail.tail (.inl ?_));have e:(kp b).length=(jq b.aA 0).length+(b.aq.args.length+(ko (b.aq.go.take i) b.aA.length).length):=by rw[ag2 (by omega)];simp[kp,Ex]
  rw[e];exact n
 refine ah ?_;exact Ru.nS (vs:=[]) trivial (g _ j _ U.tail.tail (.inr h))
end
end
end
end Go.ak.R
namespace Go.ak
section
variable{ab:Nat→aE}{c:Cx}{s:List SI}{L:Kn}{A H:af}{d:Option ac}{l:List aS}{ts:List Th}{q:ac}{e n k i cap:Nat}{full ex:Bool}{b:List (Int×Int)}
def iF:List (Int×Int)→List AV
 |[]=>[]
 |w::l=>aI w.1::aI w.2::iF l
theorem OO:∀l,(iF l).length=l.length*2|[]=>rfl|w::l=>by simp only[iF,ahh,OO l];omega
theorem OP:∀{l:List (Int×Int)}{k:Nat}(h:k<l.length),((iF l).drop (k*2)).take 2=[aI l[k].1,aI l[k].2]|w::l,0,_=>rfl|w::l,k+1,h=>by have:=OP (l:=l) (k:=k) (by simpa using h);grind[iF]
theorem OQ:∀{l:List (Int×Int)}{k:Nat}(_:k<l.length)(w:Int×Int)(j:Nat),(iF (l.set k w))[j]?=if k*2≤j∧j<k*2+2 then[aI w.1,aI w.2][j - k*2]? else(iF l)[j]?
 |v::l,0,_,w,j=>by match j with|0=>simp[iF]|1=>simp[iF]|j+2=>simp[iF];omega
 |v::l,k+1,h,w,j=>by
  match j with
   |0=>simp[iF]
   |1=>simp[iF];omega
   |j+2=>
    have:=OQ (l:=l) (k:=k) (by simpa using h) w j;simp only[List.set_cons_succ,iF,ahK,this];by_cases h1:k*2≤j∧j<k*2+2;·rw[aH h1,aH (by omega)];congr 1;omega
    rw[an h1,an (by omega)]
theorem OS(w:Int×Int):∀n,w.1=w.2→af3 (n*2) (aI w.1)=iF (af3 n w)|0,_=>rfl|n+1,h=>by rw[show(n+1)*2=n*2+1+1 by omega,List.replicate_succ,List.replicate_succ,OS w n h,List.replicate_succ,iF,←h]
def adB:af→Int×Int→List AV→Prop:=λ_ w cs=>cs=[aI w.1,aI w.2]
theorem SlD.r{a:AV}(h:Sl H 2 (iF b) b.length a):dL 2 adB H b a:=⟨_,h,λk c=>OP c⟩
theorem RO.stD(U:ai A H ts)(i:Nat)(w:Int×Int)(u:b.length=n){a x:aG}(h:∀H',ai A H' (ts.set i (tS e 2 (iF (b.set k w)) n full (.slice q 0 n cap ex)))→RO ab c l s (bA L d .aiw) H')(hi:ts[i]?=some (tS e 2 (iF b) n full (.slice q 0 n cap ex)):=by rfl)(o:k<b.length:=by omega)(p:aV L a=.aw q (0+k*2):=by(conv=>lhs;whnf)<;>rfl)(r:aV L x=.agg [aI w.1,aI w.2]:=by(conv=>lhs;whnf)<;>rfl):RO ab c (⟨d,.store 2 a x,none,[],[]⟩::l) s L H:=by
 obtain⟨v,f,_,hu⟩:=U.jV i hi;have g:b.length≤cap:=by
  rcases f with⟨_,_,_,h⟩|⟨y,z,aK,m,t,rfl,h2,_,B,_⟩;·cases h
  injection h2 with _ _ _ h2;omega
 obtain⟨H',h1,h2,h3⟩:=dK.vD f (o:=0+k*2) (ws:=[aI w.1,aI w.2]) (us:=iF (b.set k w)) (by grind) rfl (by simp[OO,ahN]) λj hj=>by simp[o,OQ,agW]
 exact RO.store (v:=.agg [aI w.1,aI w.2]) h1 (h H' (hu h2 h3)) p r rfl rfl
end
end Go.ak
namespace Go.ak.R
section
variable{ab:Nat→aE}
section
def pC(k:Nat)(b:List (Int×Int))(l:List (Int×Int)):List (Int×Int):=l.foldl (λa p=>a.set p.1.toNat ((k:Int),p.2)) b
def lQ(g:G.bu)(n:Nat):Nat→List (Int×Int)
 |0=>af3 n (-1, -1)
 |k+1=>pC k (lQ g n k) (dE (g.aj.getD k default))
def jI(g:G.bu):List (Int×Int):=lQ g g.bi.toNat g.aj.length
theorem I0(k:Nat):∀(l a:List (Int×Int)),(pC k a l).length=a.length|[],a=>rfl|p::l,a=>by show(pC k (a.set p.1.toNat ((k:Int),p.2)) l).length=_;rw[I0 k l,ahN]
theorem Ey(g:G.bu)(n:Nat):∀k,(lQ g n k).length=n|0=>by simp[lQ]|k+1=>by rw[lQ,I0,Ey g n k]
section
variable{g:G.bu}{c f:AV}{d:ac}{H:af}{come:List Bool}{os:List (List bU)}{h:List AV}
theorem adE(T:Tb ab)(V:G.Sm g)(r:GX g H d c f come os h)(ag:0≤g.bi)(ar:g.bi≤6000)(hG:∀b∈g.aj,∀p∈dE b,0≤p.1∧p.1<g.bi){K:AV→af→Prop}(a2:∀H' v,ai H H' [tS mV 2 (iF (jI g)) (jI g).length true v]→K v H'):YF ab (.func Wu [] []) [.aw d 0] H K:=by
 have av:=V.nb;have⟨hd,_,_,hn⟩:=r.bl.all;have F:=r.kB.aF;have I:=r.c2;have a:=r.kB.lt;obtain⟨n,s⟩:∃n:Nat,g.bi=(n:Int):=⟨g.bi.toNat,by omega⟩;have u:∀k,(lQ g n k).length=n:=Ey g n;have x:jI g=lQ g n g.aj.length:=by rw[jI,s];rfl
 refine YF.code T.abe (by simp) ?_;refine au ?_;refine RO.kZ (ai.cW H) 2 (λH1 qx U=>?_) (n:=1) (ws:=[aI (-1),aI (-1)]);refine ah ?_;refine RO.aW ?_ (v:=aN n) (hc:=by rw[U.gr.bh a,I,s];rfl);refine RO.cl (adn T (n:=n) (u:=aI (-1)) (xv:=.slice qx 0 1 1 true) rfl (U.sl (e:=mV) (size:=2) (n:=1) (full:=true) 0) (by omega) λH2 q hl=>?_);have U:=U.fF hl;refine RO.fG U λW m U=>?_;refine ah ?_;refine RO.aW ?_ (v:=c) (hc:=by rw[U.gr.bh a];exact F);refine ah ?_;have U:ai H W (tS mV 2 (iF (lQ g n 0)) n true (.slice q 0 n n true)::tB vG m [.slice q 0 n n true]::[]):=by have:=(U.fO 1 rfl).sub (ahW _ (ahW _ (List.nil_sublist _)));rw[OS (-1, -1) n rfl]at this;exact this
 refine Ru.nm λS M hS X=>?_;refine Ru.cA X (up (P:=λk=>∀C i,ai H C (tS mV 2 (iF (lQ g n k)) n true (.slice q 0 n n true)::tB vG m [.slice q 0 n n true]::iN i)→Ru ab ⟨pi [.tmp p2] K,i,none⟩ S ([(bM,aN k)]++pk M [p3,bP,bQ]) C) g.aj.length (λk hk ih C i U=>?_) 0 (by omega) _ [] U);subst hS;subst X;refine Ru.loop ?_;refine au ?_;refine Ru.cond (λa=>?_) (λa=>?_)
 ·have y:=af0 a;have ax:=V.bl _ y;have J:=hG _ y;refine ah ?_;refine RO.cP U.gr r.bl (λq5 o5 c5 hj o ay hat hrd=>?_);have z:=o.one;have L:=o;obtain⟨Y,Z,jc,rfl,_,_,N⟩:=o;obtain⟨va,vk,vg,rfl,_,_,_⟩:=N;refine ah ?_;refine RO.gk U λH4 B U=>?_;refine RO.gk U λH5 q6 U=>?_;refine RO.fU U 1 (λH6 U=>?_);refine RO.iL U 0 (λH7 U=>?_);refine ah ?_;refine RO.eG U 0 ?_;have U:ai H H7 (tS mV 2 (iF (lQ g n k)) n true (.slice q 0 n n true)::tB vG m [.slice q 0 n n true]::tB 3 B [aN k]::iN i):=(U.tail.fO 2 rfl).fO 2 rfl;refine RO.cl (OG T (cs:=[Y,Z,aU (g.aj[k]).aq.op,va,.aC (g.aj[k]).aq.name,vk,vg]) z rfl λH8 q1 hl=>?_);have U:ai H H8 ([tB dM q1 [Y,Z,aU (g.aj[k]).aq.op,va,.aC (g.aj[k]).aq.name,vk,vg]]++[tS mV 2 (iF (lQ g n k)) n true (.slice q 0 n n true),tB vG m [.slice q 0 n n true],tB 3 B [aN k]]++iN i):=U.fF hl;refine ah ?_;refine Ru.wk (L:=[(cC,.func D3 [] [.aw q1 0]),(p3,.aw m 0),(p4,.aw B 0),(bP,c),(bQ,aN g.aj.length),(bM,aN k)]) ?_;refine Ru.qz (J:=λj ts=>ts=[tS mV 2 (iF (pC k (lQ g n k) ((dE g.aj[k]).take j))) n true (.slice q 0 n n true),tB vG m [.slice q 0 n n true],tB 3 B [aN k]]) (Dn:=λ_ _=>False) U (OH T L (by omega) (by omega)) (λ_ _=>trivial) rfl (λk args ws a2=>by obtain⟨_,_,rfl⟩:=a2;rfl) (λ_ _ _ _ _ _=>trivial) (λj args ws ts us l o1 o2 H' hj O D U=>?_) (λH' P E D U=>?_) (λj H' P E _ a2=>a2.elim)
  ·obtain⟨rfl,Q,rfl⟩:=O;subst D;obtain⟨h0,h1⟩:=J _ (af0 Q);have R:(dE g.aj[k]).take (j+1)=(dE g.aj[k]).take j++[(dE g.aj[k])[j]]:=by rw[agX]
   generalize(dE g.aj[k])[j]=w at*;obtain⟨w1,w2⟩:=w;obtain⟨t,rfl⟩:∃t:Nat,w1=(t:Int):=⟨w1.toNat,by simp only at h0;omega⟩;have a1:t<n:=by simp only at h1;omega
   have A:(pC k (lQ g n k) ((dE g.aj[k]).take j)).length=n:=by rw[I0,u]
   refine au ?_;refine Ru.dO U λH2 U=>?_;refine ah ?_;refine RO.stD U 0 ((k:Int),w2) A (λW U=>?_) (k:=t);refine ah ?_;refine Ru.bD (ts:=[_,_,_]) U ?_;rw[R,pC,pC,List.foldl_append];rfl
  subst D;rw[ah2]at U;refine ah ?_;have U:ai H H' (tS mV 2 (iF (lQ g n (k+1))) n true (.slice q 0 n n true)::tB vG m [.slice q 0 n n true]::iN (E::i)):=by
   have e:lQ g n (k+1)=pC k (lQ g n k) (dE g.aj[k]):=by rw[lQ,bE a]
   rw[e];exact U.sub (ahW _ (ahW _ (List.Sublist.cons _ (ahB _))))
  exact Ru.wk (ih (k+1) (by omega) (by omega) H' (E::i) U)
 refine Ru.exitTo ?_;refine ah ?_;have e:k=g.aj.length:=by omega
 subst e;rw[←x]at U;refine Ru.nu (M:=i) (ts:=[_,_]) (U.cO (ahD (l₁:=[_,_]) (l₂:=iN i))) λH' U=>⟨[.slice q 0 n n true],⟨rfl,rfl,trivial⟩,a2 H' _ ?_⟩;have e2:(jI g).length=n:=by rw[x,u]
 rw[e2];exact U.sub (ahW _ (List.nil_sublist _))
end
end
section
def adF(g:G.bu)(come:List Bool)(os:List (List bU))(b:Nat)(p:Int×Int):Prop:=
 ∃t:Nat,p.1=(t:Int)∧t<(jI g).length∧((t:Int)<g.params∨(((jI g).getD t (-1, -1)).1=(b:Int)∧((jI g).getD t (-1, -1)).2<p.2)∨∃s:Nat,((jI g).getD t (-1, -1)).1=(s:Int)∧s≠b∧come.getD s false=true∧eU (wW g os) s b)
structure xX(g:G.bu)(come:List Bool)(os:List (List bU)):Prop where
 en:∀b,come.getD b false=true→(g.aj.getD b default).aq.op=68→∃o,(os.getD b []).getLast?=some o∧0≤mD g o∧mD g o<g.aj.length∧(g.aj.getD (mD g o).toNat default).params.length=(g.aj.getD b default).aq.args.length
 rt:∀b,come.getD b false=true→(g.aj.getD b default).aq.op=69→os.getD b []=[]
 rd:∀b,come.getD b false=true→∀p∈kp (g.aj.getD b default),adF g come os b p
section
variable{g:G.bu}{d f:AV}{a:ac}{H:af}{come:List Bool}{os:List (List bU)}{h:List AV}
def rP(g:G.bu)(a e i j k:ac)(up:List Int)(b c:AV):List Th:=[tB vG k [c],tB MW j [b],tB l7 e [.aw a 0],tB 4 i [.bool false],tS mV 2 (iF (jI g)) (jI g).length true c,tS 3 1 ((up.set 0 (-1)).map aI) g.aj.length true b]
theorem Ru.cut{c:Cx}{s:List SI}{x:SI}{L:Kn}{H:af}{P:af→Prop}(e:List ac)(h1:∀H',P H'→Ru ab c s (pk L e) H')(h2:(∀H' b,P H'→kg (pk L e) b→Ru ab c s b H')→Ru ab c (x::s) L H):Ru ab c (x::s) L H:=h2 λH' b g hl=>(h1 H' g).rh hl
theorem adG(T:Tb ab)(Q:G.Sm g)(hE:iO g)(i:GX g H a d f come os h)(hK:dA g come os)(hF:xX g come os)(bc:0≤g.bi)(bd:g.bi≤6000)(hG:∀b∈g.aj,∀p∈dE b,0≤p.1∧p.1<g.bi){K:AV→af→Prop}(fq:∀H',bf H H'→K (.bool true) H'):YF ab (.func Wi [] []) [.aw a 0] H K:=by
 have d3:=Q.nb;have⟨hd,_,_,hn⟩:=i.bl.all;have ar:=i.kB.aF;have bv:=i.c6;have m:=i.kB.lt;refine YF.code T.aaV (by simp) ?_;refine au ?_;refine RO.dS (ai.cW H) λH1 E U=>?_;refine RO.gk U λH2 B U=>?_;refine ah ?_;refine RO.aW ?_ (v:=.bool false) (hc:=by rw[U.gr.bh m];exact bv);refine ah ?_;refine RO.gk U λH3 n U=>?_;refine RO.gk U λH4 q U=>?_;have b0:=U.zY (e:=MW) (q:=n) (vs:=[.aP]) 1;have b3:=U.zY (e:=vG) (q:=q) (vs:=[.aP]) 0;have N:∀j∈ [q,n],j.al<H4.next.al:=λj hj=>by
  simp only[adC,ag0,or_false]at hj;rcases hj with rfl|rfl;·exact b3.2
  exact b0.2
 have O:∀HY H0:af,bf H HY→H0.next=HY.next→(∀j,j∉ [q,n]→H0.get j=HY.get j)→bf H H0:=λHY H0 av h1 h2=>⟨by rw[h1];exact av.nx,λj hj=>by rw[h2 j ?_,av.dJ j hj];simp only[adC,ag0,or_false,not_or];exact⟨λe=>by rw[e]at hj;omega,λe=>by rw[e]at hj;omega⟩⟩;refine RO.B8 (is:=[q,n]) (Q:=λv ns=>∃ap c up,iP g come os ap∧Rk (wW g os) ap c∧nB (wW g os) ap c g.aj.length up∧(∀b∈ap,0≤up.getD b (-1))∧ns=[tS 3 1 ((up.set 0 (-1)).map aI) g.aj.length true v]) U N (λH0 R hs=>adr T Q hE (i.cV (O _ _ U.gr R hs)) hK λH' v ap c up h1 h2 h3 h4 U=>⟨_,U,ap,c,up,h1,h2,h3,h4,rfl⟩) (λC ns HU hQ b4 U=>?_);obtain⟨ap,c,up,hO,hR,hC,eS,rfl⟩:=hQ;have⟨d4,d5,d6,ax⟩:=(U.sl (e:=3) (size:=1) (sv:=C) (vs:=(up.set 0 (-1)).map aI) (n:=g.aj.length) (full:=true) 0).all;refine⟨λaa ay=>gQ (v:=.aw a 0) ay rfl rfl rfl (by simp[hZ,fM,ac.gT]) (by obtain⟨_,hp⟩:=U.get 4 rfl;exact tB.cell hp rfl) rfl,?_⟩;refine RO.B8 (is:=[q,n]) (Q:=λv ns=>ns=[tS mV 2 (iF (jI g)) (jI g).length true v]) U (λj hj=>ag6 (N j hj) b4.nx) (λH0 R hs=>adE T Q (i.cV (O _ _ U.gr R hs)) bc bd hG λH' v U=>⟨_,U,rfl⟩) (λD ns d7 hQ dz U=>?_);subst hQ;have⟨d',ea,eb,ec⟩:=(U.sl (e:=mV) (size:=2) (sv:=D) (vs:=iF (jI g)) (n:=(jI g).length) (full:=true) 0).all;refine⟨λaa ay=>rfl,?_⟩;refine RO.fU U 3 (λH5 U=>?_);refine RO.fU U 2 (λH6 U=>?_);refine ah ?_;have U:ai H H6 (rP g a E B n q up C D++iN []):=(((U.fO 4 rfl).fO 5 rfl).fO 5 rfl).fO 5 rfl;refine RO.gM U 2 ?_;refine ah ?_;refine RO.aW ?_ (v:=d) (hc:=by rw[U.gr.bh m];exact ar);refine ah ?_;have ag:∀b∈ap,b<g.aj.length:=λb hb=>hK.lt ((hO.mem b).1 hb);refine Ru.nm λS M hS hM=>?_;refine Ru.cA hM (Go.ak.up (P:=λk=>∀HX I,ai H HX (rP g a E B n q up C D++iN I)→Ru ab ⟨pi [.cell p2 false 1] K,I,none⟩ S ([(bV,aN k)]++pk M [p1,p2,p3,p4,bR,b8]) HX) g.aj.length (λk hk ih HX I U=>?_) 0 (by omega) _ [] U);subst hS;subst hM;refine Ru.loop ?_;refine au ?_;refine Ru.cond (λA=>?_) (λA=>?_)
 ·have V:=af0 A;have ei:=Q.bl _ V;refine ah ?_;refine RO.cP U.gr i.bl (λq5 o5 c5 hj W ej hat hrd=>?_);have ba:=W.one;have b5:=W;obtain⟨vp,vs,jc,rfl,_,_,b6⟩:=W;obtain⟨va,vk,vg,rfl,b',_,_⟩:=b6;have⟨ek,_,_,el⟩:=b'.all;refine ah ?_;refine RO.gk U λH7 q5 U=>?_;refine RO.gk U λH8 q6 U=>?_;refine RO.fU U 1 (λH9 U=>?_);refine RO.iL U 0 (λca U=>?_);refine ah ?_;have⟨er,_,_,_⟩:=i.cm.all;have et:=hK.cl;refine RO.aW ?_ (v:=f) (hc:=by rw[U.gr.bh m];exact i.c4);refine ah ?_;refine RO.jX U.gr i.cm (λq7 o7 ew x=>?_) (j:=k) (hj:=by omega);have cd:come[k]'(by omega)=come.getD k false:=(bE _ _).symm;rw[cd]at x;cases u:come.getD k false with
  |false=>rw[u]at x;refine RO.aW ?_ (hc:=x);refine ah ?_;refine Ru.exitTo ?_;refine ah ?_;exact Ru.wk (ih (k+1) (by omega) (by omega) ca I U.tail.tail)
  |true=>
   rw[u]at x;refine RO.aW ?_ (hc:=x);refine ah ?_;have X:k<os.length:=by rw[hK.ol];exact A
   have J:os.getD k []=os[k]:=bE X _;have hs:=i.kB.bC k X;have⟨e2,_,_,e3⟩:=hs.all;obtain⟨ov,cf,a1⟩:=i.kB.jG;have⟨e4,_,_,_⟩:=a1.all;have L:g.aj.getD k default=g.aj[k]:=bE A _;refine Ru.cut (P:=λH'=>ai H H' (tB dM q6 [vp,vs,aU (g.aj[k]).aq.op,va,.aC (g.aj[k]).aq.name,vk,vg]::tB 3 q5 [aN k]::(rP g a E B n q up C D++iN I))) [p1,p2,p3,p4,p5,p6,bR,b8,bV] (λH' U=>?_) (λy=>?_)
   ·have dW:=Q.st _ V;have cn:=Q.ed _ V;have hrd:=hF.rd k u;rw[L]at hrd;refine ah ?_;refine RO.eG U 0 ?_;refine RO.cl (OM T (cs:=[vp,vs,aU (g.aj[k]).aq.op,va,.aC (g.aj[k]).aq.name,vk,vg]) ba λH8 q8 hl=>?_);have U:ai H H8 ([tB dM q8 [vp,vs,aU (g.aj[k]).aq.op,va,.aC (g.aj[k]).aq.name,vk,vg]]++(tB 3 q5 [aN k]::rP g a E B n q up C D)++iN I):=U.tail.fF hl;refine ah ?_;refine Ru.wk (L:=[(ic,.func D4 [] [.aw q8 0]),(p1,.aw E 0),(p2,.aw B 0),(p3,.aw n 0),(p4,.aw q 0),(p5,.aw q5 0),(bR,d),(b8,aN g.aj.length),(bV,aN k)]) ?_;refine Ru.qz (J:=λ_ ts=>ts=tB 3 q5 [aN k]::rP g a E B n q up C D) (Dn:=λ_ _=>False) U (ON T b5 (by omega) (λs hs=>by have:=(dW s hs).1;omega) (by omega) (by omega) (λe he=>by have:=cn e he;omega)) (λ_ _=>trivial) rfl (λk args ws fq=>by obtain⟨_,_,rfl⟩:=fq;rfl) (λ_ _ _ _ _ _=>trivial) (λj args ws ts us l o1 o2 H' hj cp hJ U=>?_) (λH' cv dy hJ U=>?_) (λj H' cv dy _ fq=>fq.elim)
    ·obtain⟨rfl,cx,rfl⟩:=cp;subst hJ;have hr:=hrd _ (af0 cx);generalize(kp g.aj[k])[j]=w at*;obtain⟨w1,w2⟩:=w;obtain⟨t,ht,a2,z⟩:=hr;simp only at ht z;subst ht;refine au ?_;refine Ru.dO U λH2 U=>?_;refine ah ?_;refine RO.cP (bf.refl _) (SlD.r (U.sl (e:=mV) (size:=2) (sv:=D) (vs:=iF (jI g)) (n:=(jI g).length) (full:=true) 5)) (λq9 o9 d2 e5 cy e6 hat hrd=>?_) (j:=t) (hj:=a2);have cE:d2=[aI ((jI g).getD t (-1, -1)).1,aI ((jI g).getD t (-1, -1)).2]:=by rw[bE a2];exact cy
     subst cE;generalize(jI g).getD t (-1, -1)=pw at*;obtain⟨wb,wa⟩:=pw;simp only at z;refine ah ?_;refine RO.fG U λe7 e8 U=>?_;refine ah ?_;rcases z with hA|⟨c8,c9⟩|⟨sb,c',Y,Z,bb⟩
     ·refine RO.cX (λ_=>?_) (λ_=>?_);·refine ah ?_;refine RO.aW ?_ (v:=aI g.params) (hc:=by rw[U.gr.bh m];exact i.c1);refine ah ?_;refine RO.cX (λ(fq:g.params≤(t:Int))=>absurd hA (by omega)) (λ_=>?_);refine ah ?_;exact Ru.bD (ts:=_::rP g a E B n q up C D) U.tail rfl
      refine ah ?_;refine RO.aW ?_ (v:=aI g.params) (hc:=by rw[U.gr.bh m];exact i.c1);refine ah ?_;refine RO.cX (λ(fq:g.params≤(t:Int))=>absurd hA (by omega)) (λ_=>?_);refine ah ?_;exact Ru.bD (ts:=_::rP g a E B n q up C D) U.tail rfl
     ·refine RO.cX (λ_=>?_) (λfq=>absurd c8 fq);refine ah ?_;refine RO.aW ?_ (v:=aI g.params) (hc:=by rw[U.gr.bh m];exact i.c1);rw[show decide (wa<w2)=true from decide_eq_true c9];refine ah ?_;refine RO.cX (λ(fq:g.params≤(t:Int))=>?_) (λ_=>?_);·refine ah ?_;exact Ru.bD (ts:=_::rP g a E B n q up C D) U.tail rfl
      refine ah ?_;exact Ru.bD (ts:=_::rP g a E B n q up C D) U.tail rfl
     subst c';have e':=(hO.mem sb).2 Z;refine RO.cX (λ(fq:(sb:Int)=(k:Int))=>absurd (by omega) Y) (λ_=>?_);refine ah ?_;refine RO.aW ?_ (v:=aI g.params) (hc:=by rw[U.gr.bh m];exact i.c1);refine ah ?_;refine RO.cX (λ(fq:g.params≤(t:Int))=>?_) (λ_=>?_)
     ·refine ah ?_;refine RO.cX (λ(fq:sb=k)=>absurd fq Y) (λ_=>?_);refine ah ?_;refine RO.aW ?_ (v:=f) (hc:=by rw[U.gr.bh m];exact i.c4);refine ah ?_;refine RO.jX U.gr i.cm (λfa fb P x=>?_) (j:=sb) (hj:=Et Z (by simp));have dm:come[sb]'P=true:=by rw[←bE P false];exact Z
      rw[dm]at x;refine ah ?_;refine RO.cl (adx T hR hC eS ag (bf.refl _) (U.sl (e:=3) (size:=1) (sv:=C) (vs:=(up.set 0 (-1)).map aI) (n:=g.aj.length) (full:=true) 7) ((hO.mem k).2 u) bb Y ?_);refine ah ?_;exact Ru.bD (ts:=_::rP g a E B n q up C D) U.tail rfl
     refine ah ?_;exact Ru.bD (ts:=_::rP g a E B n q up C D) U.tail rfl
    subst hJ;refine ah ?_;exact Ru.wk (ih (k+1) (by omega) (by omega) H' (dy::I) U.tail)
   refine Ru.cond (λ(a6:(g.aj[k]).aq.op=68)=>?_) (λ(a6:¬(g.aj[k]).aq.op=68)=>?_)
   ·obtain⟨o,ho,fd,dr,F⟩:=hF.en k u (by rw[L];exact a6);rw[J]at ho;rw[L]at F;refine ah ?_;refine RO.cl (On T Q i.bl U.gr (i.kB.cV U.gr) X (by rw[←J];exact(hE.jG (hK.dP k u)).1) (by rw[←J];have:=(hE.jG (hK.dP k u)).2;omega) ?_);simp only[ho];obtain⟨t,ht⟩:∃t:Nat,mD g o=(t:Int):=⟨(mD g o).toNat,by omega⟩;rw[ht]at dr F⊢;rw[agK]at F;have ax:t<g.aj.length:=by omega
    rw[bE ax]at F;refine ah ?_;refine RO.aW ?_ (v:=d) (hc:=by rw[U.gr.bh m];exact ar);refine ah ?_;refine RO.cP U.gr i.bl (λq8 o8 fp fe ds _ hat _=>?_) (j:=t);obtain⟨fk,fl,fo,rfl,dv,_,_⟩:=ds;have⟨d0,_,_,d1⟩:=dv.all;refine ah ?_;refine Ru.cond (λa8=>absurd F a8) (λ_=>?_);refine Ru.skip ?_;exact y _ _ U (by repeat'(first|exact trivial|refine⟨rfl,?_⟩))
   refine ah ?_;refine Ru.cond (λ(a':(g.aj[k]).aq.op=69)=>?_) (λ(a':¬(g.aj[k]).aq.op=69)=>?_)
   ·have e0:=hF.rt k u (by rw[L];exact a');rw[J]at e0;have e1:os[k].length=0:=by rw[e0];rfl
    refine ah ?_;refine RO.aW ?_ (v:=ov) (hc:=by rw[U.gr.bh m];exact cf);refine ah ?_;refine RO.uF U.gr a1 (λq8 o8 dx _=>?_) (j:=k);refine RO.aW ?_ (hc:=dx);refine ah ?_;refine Ru.cond (λ(a8:0<os[k].length)=>by omega) (λ_=>?_);refine Ru.skip ?_;exact y _ _ U (by repeat'(first|exact trivial|refine⟨rfl,?_⟩))
   refine Ru.skip ?_;exact y _ _ U (by repeat'(first|exact trivial|refine⟨rfl,?_⟩))
 refine Ru.exitTo ?_;refine ah ?_;refine RO.fU U 3 (λH7 U=>?_);refine ah ?_;refine Ru.nu (M:=I) (ts:=[_,_,_,tB 4 B [.bool true],_,_]) (U.cO (ahD (l₁:=[_,_,_,_,_,_]) (l₂:=iN I))) λH' U=>⟨[.bool true],⟨⟨_,_,rfl,U.one 3⟩,trivial⟩,fq H' U.gr⟩
end
end
end
section
variable{g:G.bu}{come:List Bool}{os:List (List bU)}
abbrev aF(g:G.bu)(b:Nat):G.gD:=g.aj.getD b default
structure uH(g:G.bu):Prop where
 v0:0≤g.bi
 p0:0≤g.params
 tg:∀b∈g.aj,∀p∈dE b,g.params≤p.1∧p.1<g.bi
 nd:∀b∈g.aj,((dE b).map (·.1)).Nodup
 one:∀i j,i<g.aj.length→j<g.aj.length→∀v p q,(v,p)∈dE (aF g i)→(v,q)∈dE (aF g j)→i=j
 all:∀v:Int,g.params≤v→v<g.bi→∃i p,i<g.aj.length∧(v,p)∈dE (aF g i)
theorem rQ{b:Nat}(h:b<g.aj.length):aF g b∈g.aj:=by grind
theorem I1{k:Nat}{v:Int}(b:0≤v):∀(l a:List (Int×Int)),(∀p∈l,0≤p.1∧p.1≠v)→(pC k a l).getD v.toNat (-1, -1)=a.getD v.toNat (-1, -1)|[],a,_=>rfl|p::l,a,h=>by have h1:=h p (adc ..);show(pC k (a.set p.1.toNat ((k:Int),p.2)) l).getD _ _=_;rw[I1 b l _ λq c=>h q (adD _ c)];simp only[agY,List.getElem?_set];rw[an (by omega)]
theorem OT{k:Nat}{v p:Int}:∀(l a:List (Int×Int)),(l.map (·.1)).Nodup→(∀q∈l,0≤q.1∧q.1.toNat<a.length)→(v,p)∈l→(pC k a l).getD v.toNat (-1, -1)=((k:Int),p)
 |[],a,_,_,h=>by cases h
 |q::l,a,c,d,h=>by
  rw[agN,ahg]at c;have f:=d q (adc ..);show(pC k (a.set q.1.toNat ((k:Int),q.2)) l).getD _ _=_;rcases adC.1 h with rfl|h;·rw[I1 f.1 l _ λr b=>⟨(d r (adD _ b)).1,λe=>c.1 (by rw[←e];exact ag5 b)⟩,e9 f.2,aH rfl]
  exact OT l _ c.2 (λr b=>by have:=d r (adD _ b);rw[ahN];exact this) h
theorem uH.at(h:uH g){i:Nat}{v p:Int}(hi:i<g.aj.length)(c:(v,p)∈dE (aF g i)):(jI g).getD v.toNat (-1, -1)=((i:Int),p):=by
 have f:=h.tg _ (rQ hi) _ c;have h0:=h.p0;have key:∀k,k≤g.aj.length→i<k→(lQ g g.bi.toNat k).getD v.toNat (-1, -1)=((i:Int),p):=by
  intro k;induction k with
  |zero=>intro _ h;omega
  |succ k j=>
   intro m l;have a:=rQ (g:=g) (b:=k) (by omega);have d:∀q∈dE (aF g k),0≤q.1∧q.1.toNat<(lQ g g.bi.toNat k).length:=λq b=>by have:=h.tg _ a q b;rw[Ey];simp only at*;omega
   show(pC k _ (dE (aF g k))).getD _ _=_;by_cases e:i=k;·subst e;exact OT _ _ (h.nd _ a) d c
   rw[I1 (by simp only at f;omega) _ _ λq b=>⟨(d q b).1,λe2=>e (h.one i k hi (by omega) v p q.2 c (by rw[←e2];exact b))⟩];exact j (by omega) (by omega)
 exact key _ (adW _) hi
theorem OU:∀(l:List G.gW)(i:Nat)(p:Int×Int),p∈jH l i→(i:Int)≤p.2∧p.2<i+l.length
 |[],i,p,h=>by cases h
 |s::l,i,p,h=>by
  simp only[jH,agI]at h;rcases h with h|h;·grind
  have:=OU l (i+1) p h;grind
theorem adH{b:G.gD}{v p:Int}(h:(v,p)∈dE b):p= -1∨0≤p∧p<b.aA.length:=by
 simp only[dE,agI,ag3]at h;rcases h with⟨x,_,h⟩|h;·grind
 have:=OU _ _ _ h;omega
def qC(g:G.bu)(b:Nat)(v bC:Int):Prop:=∀p,(v,p)∈dE (aF g b)→bC≤p
def nD(g:G.bu)(o:List bU):Option Int:=(o.reverse.find? λx=>x.2==0).map λx=>((aF g x.1.toNat).aq.go.getD 1 default).block
inductive Lv(g:G.bu)(os:List (List bU)):Nat→Int→Prop
 |pj{b:Nat}{v bC:Int}(h:(v,bC)∈kp (aF g b))(hn:qC g b v bC):Lv g os b v
 |lO{b w:Nat}{v:Int}(hw:w∈wW g os b)(h:Lv g os w v)(hn:qC g b v (aF g b).aA.length):Lv g os b v
 |rN{b:Nat}{t v:Int}(ht:nD g (os.getD b [])=some t)(h:Lv g os t.toNat v)(hn:qC g b v 0):Lv g os b v
theorem adI{o:List bU}{t:Int}(h:nD g o=some t):∃x∈o,x.2=0∧t=((aF g x.1.toNat).aq.go.getD 1 default).block:=by unfold nD at h;cases h2:o.reverse.find? λx=>x.2==0 with|none=>grind|some x=>grind
theorem ny.ne{W:Nat→List Nat}{d b:Nat}(h:ny W d b):b≠d:=by cases h with|zero h=>omega|step _ _ h=>omega
theorem eU.I3{W:Nat→List Nat}{d:Nat}:eU W d d:=λh=>h.ne rfl
theorem eU.trans{W:Nat→List Nat}{a b c:Nat}(h1:eU W a b)(h2:eU W b c):eU W a c:=by
 intro h;have key:∀x,ny W a x→ny W a b∨ny W b x:=λx f=>by
  induction f with
  |zero h=>
   by_cases e:0=b;·left;rw[←e];exact .zero h
   exact .inr (.zero e)
  | @step x y f g i d=>
   rcases d with d|d;·exact .inl d
   by_cases e:y=b;·left;rw[←e];exact .step f g i
   exact .inr (.step d g e)
 rcases key c h with h|h;all_goals trivial
theorem eU.adJ{W:Nat→List Nat}{a b c:Nat}{C:Nat→Prop}(l:∀x,C x→x=0∨∃y,C y∧x∈W y)(i:∀P:Nat→Prop,P 0→(∀y x,P y→x∈W y→P x)→P c)(h1:eU W a c)(h2:eU W b c):eU W a b∨eU W b a:=by
 apply ahe;intro h;simp only[eU,not_or,Classical.not_not]at h;obtain⟨f,j⟩:=h;have k:a≠b:=λe=>f.ne e.symm;have:=i (λx=>ny W a x∨ny W b x) (by
  by_cases e:0=a;·exact .inr (.zero (by omega))
  exact .inl (.zero e)) (λy x d g=>by
  rcases d with d|d
  ·by_cases e:x=a;·right;rw[e];exact j
   exact .inl (.step d g e)
  by_cases e:x=b;·left;rw[e];exact f
  exact .inr (.step d g e));rcases this with h|h;all_goals trivial
theorem dA.qD(c:iO g)(a:dA g come os){b:Nat}{o:List bU}(h:kP g b o):come.getD b false=true∧os.getD b []=o:=by induction h with|zero=>exact⟨a.c0,c.Es (a.dP 0 a.c0) .zero⟩| @step b o w h d e=>obtain⟨h1,h2⟩:=e;have h3:=a.dn b h1 w (by rw[h2];exact d);exact⟨h3,c.Es (a.dP _ h3) (.step h d)⟩
theorem dA.ind(d:iO g)(a:dA g come os){P:Nat→Prop}(h0:P 0)(h1:∀y x,P y→x∈wW g os y→P x){c:Nat}(f:come.getD c false=true):P c:=by
 have key:∀b o,kP g b o→P b:=λb o h=>by induction h with|zero=>exact h0| @step b o w h i j=>obtain⟨_,e⟩:=a.qD d h;refine h1 b _ j ?_;simp only[wW,lN,e];exact ag5 i
 exact key c _ (a.dP c f)
theorem Ez{b:Nat}{w:Int×List bU}(a:w∈cI g b (os.getD b [])):w.1.toNat∈wW g os b:=ag5 a
theorem I4{b:Nat}{o:List bU}{w:Int×List bU}(a:w∈cI g b o){x:bU}(c:x∈w.2):x∈o∨x.1=b∧(aF g b).aq.op=67:=by simp only[cI]at a;grind
theorem kP.adK(a:iO g)(c:dA g come os){b:Nat}{o:List bU}(h:kP g b o):∀x∈o,∃t:Nat,x.1=t∧come.getD t false=true∧(aF g t).aq.op=67:=by
 induction h with
 |zero=>simp
 | @step b o w h d f=>
  intro x e;rcases I4 d e with h1|⟨h1,h2⟩;·grind
  exact⟨b,h1,(c.qD a h).1,h2⟩
theorem ny.wD(i:iO g)(f:dA g come os){d b:Nat}(h:ny (wW g os) d b):come.getD b false=true∧∀x∈os.getD b [],x.1≠(d:Int):=by
 induction h with
 |zero h=>refine⟨f.c0,λx c=>?_⟩;rw[(f.qD i .zero).2]at c;cases c
 | @step a x h c m l=>
  obtain⟨h1,h2⟩:=l;refine⟨f.lO h1 c,λy j=>?_⟩;simp only[wW,lN,ag3]at c;obtain⟨w,k,rfl⟩:=c;have hl:=f.dP a h1;rw[(f.qD i (.step hl k)).2]at j;rcases I4 k j with h3|⟨h3,_⟩;·exact h2 y h3
  rw[h3];exact λe=>h.ne (by omega)
theorem OV(a:iO g)(c:dA g come os){b t:Nat}{k:Nat}(h:(((t:Int),k):bU)∈os.getD b []):eU (wW g os) t b:=λd=>(d.wD a c).2 _ h rfl
theorem adL{ap:List Nat}(i:iP g come os ap){da a:List Nat}{t:Nat}(e:ap=da++t::a):∀(n x:Nat),da[n]?=some x→ny (wW g os) t x:=by
 have c:=i.nd;have d:∀x∈da,x≠t:=λx b h=>by rw[e]at c;exact(ahy.1 c).2.2 x b t (adc ..) h
 intro n;induction n using Nat.strongRecOn with
 |ind n k=>
  intro x b;obtain⟨j,b⟩:=ahv.1 b;have f:=d x (by rw[←b];exact af0 j);have e2:ap=da.take n++x::(da.drop (n+1)++t::a):=by
   rw[e];conv=>lhs;rw[←ahR n da,agR j,b]
   simp
  rcases i.aK _ _ _ e2 with h|⟨y,l,o⟩;·rw[h];exact .zero (by omega)
  obtain⟨m,p,rfl⟩:=agS l;rw[ahl]at p;refine .step (k m (by omega) _ ?_) o f;rw[List.getElem_take,ahr (by omega)]
theorem adM(d:iO g)(c:dA g come os){ap:List Nat}(f:iP g come os ap){b t:Nat}{k:Nat}(hb:come.getD b false=true)(h:(((t:Int),k):bU)∈os.getD b []):t≠b:=by
 rintro rfl;obtain⟨da,n,e⟩:=List.append_of_mem ((f.mem t).2 hb);rcases f.aK _ _ _ e with h0|⟨y,o,a⟩;·subst h0;rw[(c.qD d .zero).2]at h;cases h
 obtain⟨m,p,rfl⟩:=agS o;have j:=adL f e m _ (ahr p);obtain⟨h1,h2⟩:=j.wD d c;simp only[wW,lN,ag3]at a;obtain⟨w,a,q⟩:=a;have l:=(c.qD d (.step (c.dP _ h1) a)).2;rw[q]at l;rw[l]at h;rcases I4 a h with i|⟨i,_⟩;·exact h2 _ i rfl
 exact j.ne (by simp only at i;omega)
theorem iP.rk{ap:List Nat}(a:iP g come os ap)(n:Nat)(c:∀b∈ap,b<n):Rk (wW g os) ap ((agV n).map λb=>ap.idxOf b):=by refine⟨a.nd,a.hd,a.aK,λi h=>?_⟩;have hi:=c _ (af0 h);rw[bE (by grind)];simp only[aht,aif];exact a.nd.idxOf_getElem i h
theorem eU.adN(h:dA g come os){ap:List Nat}(e:iP g come os ap){a b:Nat}(i:come.getD a false=true)(hb:come.getD b false=true)(h1:eU (wW g os) a b)(h2:eU (wW g os) b a):a=b:=by have f:=e.rk g.aj.length λb hb=>h.lt ((e.mem b).1 hb);have c:=(e.mem a).2 i;have d:=(e.mem b).2 hb;exact f.inj c d (Nat.le_antisymm (f.fu _ b rfl d h1) (f.fu _ a rfl c h2))
abbrev xY(g:G.bu)(v:Int):Int:=((jI g).getD v.toNat (-1, -1)).1
def xZ(g:G.bu)(come:List Bool)(os:List (List bU))(b:Nat)(v:Int):Prop:=0≤v∧v<g.bi∧(v<g.params∨∃s:Nat,xY g v=s∧come.getD s false=true∧eU (wW g os) s b)
def Far(g:G.bu)(come:List Bool)(os:List (List bU))(b:Nat)(v:Int):Prop:=0≤v∧v<g.bi∧(v<g.params∨∃s:Nat,xY g v=s∧s≠b∧come.getD s false=true∧eU (wW g os) s b)
theorem EA(h:0≤g.bi):((jI g).length:Int)=g.bi:=by grind[jI,Ey]
theorem uH.ky(a:uH g){v:Int}(h0:g.params≤v)(h1:v<g.bi):∃i p,i<g.aj.length∧(v,p)∈dE (aF g i)∧(jI g).getD v.toNat (-1, -1)=((i:Int),p):=by obtain⟨i,p,hi,b⟩:=a.all v h0 h1;exact⟨i,p,hi,b,a.at hi b⟩
theorem wd(f:iO g)(c:dA g come os){b:Nat}{t:Int}(hb:come.getD b false=true)(i:nD g (os.getD b [])=some t):∃u:Nat,(((u:Int),0):bU)∈os.getD b []∧come.getD u false=true∧t.toNat∈wW g os u∧come.getD t.toNat false=true∧0≤t:=by
 obtain⟨x,j,d,rfl⟩:=adI i;obtain⟨u,hu,a,e⟩:=(c.dP b hb).adK f c x j;have k:x=((u:Int),0):=by rw[←hu,←d]
 rw[hu,agK];have h:(((aF g u).aq.go.getD 1 default).block,os.getD u []++[((u:Int),1)])∈cI g u (os.getD u []):=by simp only[cI];rw[aH e];simp
 have h2:=Ez h;refine⟨u,by grind,a,h2,c.lO a h2,(f.Cd (c.dP u a) _ h).1⟩
theorem Lv.Ci(n:iO g)(c:dA g come os)(F:xX g come os)(o:uH g){ap:List Nat}(B:iP g come os ap){b:Nat}{v:Int}(h:Lv g os b v):come.getD b false=true→Far g come os b v:=by
 induction h with
 | @pj b v bC h k=>
  intro hb;obtain⟨t,q,G,C⟩:=F.rd b hb _ h;subst q;have d:(t:Int)<g.bi:=by have:=EA o.v0;omega
  refine⟨by simp,d,?_⟩;rcases C with C|⟨h1,h2⟩|⟨s,h1,h2,h3,a⟩;·omega
  ·by_cases D:(t:Int)<g.params;·omega
   obtain⟨i,p,hi,l,he⟩:=o.ky (v:=(t:Int)) (by omega) d;rw[agK]at he;rw[he]at h1 h2;have:i=b:=by omega
   subst this;have:=k p l;omega
  exact .inr ⟨s,by grind,h2,h3,a⟩
 | @lO b w v E h k r=>
  intro hb;obtain⟨h0,h1,h2⟩:=r (c.lO hb E);by_cases D:v<g.params;·exact⟨h0,h1,.inl D⟩
  refine⟨h0,h1,h2.imp id λ⟨s,h3,a,x,m⟩=>⟨s,h3,λe=>?_,x,m.da E a⟩⟩;subst e;obtain⟨i,p,hi,l,he⟩:=o.ky (by omega) h1;rw[xY,he]at h3;have:i=s:=by omega
  subst this;have I:=k p l;have J:=adH l;omega
 | @rN b t v q h k r=>intro hb;obtain⟨u,hu,y,f,z,H⟩:=wd n c hb q;obtain⟨h0,h1,h2⟩:=r z;have A:=adM n c B hb hu;have j:=OV n c hu;refine⟨h0,h1,h2.imp id λ⟨s,h3,a,x,m⟩=>⟨s,h3,λe=>?_,x,(m.da f a).trans j⟩⟩;subst e;exact A (eU.adN c B y hb j (m.da f a))
end
section
variable{ab:Nat→aE}{b:Type}
def adP(size:Nat)(ld:bO):bp:=(.seq (.region [O p4 (.aW (T p1)),O p5 (.jN (T p4)),O p6 (.arith .sub 3 (T p5) (I 3 1)),O p3 (.bg (T p6))]) (.block 0 (.loop (.seq (.seq (.region [O p7 (.bg (T p3)),O p8 (.arith .geq 3 (T p7) (I 3 0))]) (.cond (T p8) .skip (.exit 0))) (.seq (.block 1 (.seq (.region [O aQ (.bg (T p0)),O aZ (.bg (T p3)),O aX (.aW (T p1)),O bj (.bg (T p3)),O bk (.dk size (T aX) (T bj)),O bo ld,O aY (.call (T aQ) [(T aZ),(T bo)]),O bw (.unary .not (T aY))]) (.cond (T bw) .ret .skip))) (.region [O p9 (.bg (T p3)),O aO (.arith .sub 3 (T p9) (I 3 1)),O p3 (.bg (T aO))]))))))
def adQ(R:b→List AV→Prop)(agg:Bool)(a:List b)(k:Nat)(args:List AV)(c:List Th):Prop:=c=[]∧∃(h:a.length - 1 - k<a.length)(cs:List AV),R a[a.length - 1 - k] cs∧args=[aN (a.length - 1 - k),uB agg cs]
theorem EB{A:af}{size nt f e:Nat}{agg:Bool}{R:b→List AV→Prop}{la:List b}{sv:AV}{j:ac}(x:ab f=.code nt [] (adP size (BT size agg (ak.T bk))))(F:2≤nt)(hl:la.length≤1000000)(h1:agg=false→size=1)(hd:∀a cs,R a cs→(uB agg cs).bB=true):zW ab A (.func f [] [.aw j 0]) la.length (adQ R agg la) [tB e j [sv]] (λH=>dL size (λ_=>R) H la sv) (λH=>dL size (λ_=>R) H la sv):=by
 intro y J D c us H K G I L n g i U z d;have⟨N,_,_,P⟩:=z.all;refine YF.code x (by simp;omega) ?_;refine ah ?_;refine RO.sub (a:=(la.length:Int)) (b:=1) ?_;refine ah ?_;refine Ru.nm λS M B u=>?_;refine Ru.cA u (up (P:=λk=>∀l c,J k c→ai A l (tB e j [sv]::(c++us))→Ru ab _ S ([(p3,aI ((la.length:Int) - 1 - k))]++pk M [p0,p1]) l) la.length (λk Q C l c i U=>?_) 0 (by omega) _ c i U) (by simp;exact⟨rfl,trivial⟩);subst B;subst u;refine Ru.loop ?_;refine ah ?_;refine Ru.cond (λ(p:(0:Int)≤(la.length:Int) - 1 - k)=>?_) (λ(p:¬(0:Int)≤(la.length:Int) - 1 - k)=>?_)
 ·obtain⟨t,E⟩:∃t:Nat,(la.length:Int) - 1 - k=(t:Int):=⟨la.length - 1 - k,by omega⟩;have r:t=la.length - 1 - k:=by omega
  rw[E];have hs:=n k c (tB e j [sv]::us) l i U.DJ;refine ah ?_;refine RO.cP (bf.refl _) hs (λq o cs hj w m hat hrd=>?_) (j:=t);have O:=hd _ _ w;refine RO.NR m h1 hat hrd ?_;subst r;refine RO.cl ((g k [aN (la.length - 1 - k),uB agg cs] [] c _ _ (by omega) ⟨rfl,hj,cs,w,rfl⟩ i U.DJ).mono ?_);rintro v V⟨s,U,m⟩;rcases m with⟨rfl,h⟩|⟨rfl,h⟩
  ·refine ah ?_;refine RO.sub (a:=((la.length - 1 - k:Nat):Int)) (b:=1) ?_;refine ah ?_;have e1:(((la.length - 1 - k:Nat):Int) - 1:Int)=(la.length:Int) - 1 - (k+1:Nat):=by omega
   rw[e1];exact Ru.wk (C (k+1) (by omega) (by omega) _ _ h U.vE)
  refine ah ?_;exact Ru.nS (vs:=[]) trivial (d _ s _ U.vE.tail (.inr h))
 refine Ru.exitTo ?_;refine ah ?_;refine Ru.aq (vs:=[]) trivial (d _ c _ U.tail (.inl ?_));rw[show la.length=k by omega];exact i
theorem EC{f c e cl:Nat}{a:AV}{H:af}(g:ab f=.code c [.tmp p2] (.seq (.region [O p1 (.box e (ak.T p0)),O p2 (.bg (C .nilFunc))]) (.seq (.region [O p3 (.iG cl [] [(ak.T p1)]),O p2 (.bg (ak.T p3))]) .ret)))(i:1≤c)(hd:a.bB=true)(h1:a.dQ=true)(d:a.cells=[a]){K:AV→af→Prop}(h:∀H' q,ai H H' [tB e q [a]]→K (.func cl [] [.aw q 0]) H'):YF ab (.func f [] []) [a] H K:=by refine YF.code g (by simp;omega) ?_;refine au ?_;refine RO.dS (ai.cW H) (λH1 q U=>?_) (ho:=by rw[d];exact ao h1 rfl);rw[d]at U;refine au ?_;exact Ru.aT (h _ q U)
end
end Go.ak.R
namespace Go.ak
section
def tM(ex:Bool)(q:ac)(S:Int→Prop):Th where
 P H a:=q∈a∧(∀j∈a,j=q)∧(∃ks,gK (H.get q) ks∧∀x,x∈ks↔S x)∧(ex=true→∃es c,H.get q=.map es c)∧q.al<H.next.al
 fr h b hg:=⟨h.1,h.2.1,by rw[hg _ h.1];exact h.2.2.1,by rw[hg _ h.1];exact h.2.2.2.1,ag6 h.2.2.2.2 b⟩
 lt h:=by intro j hj;rw[h.2.1 j hj];exact h.2.2.2.2
def ik(p:Int×Int):AV×AV:=(.int 3 p.1,.int 3 p.2)
def tI(q:ac)(pl:List (Int×Int)):Th where
 P H a:=q∈a∧(∀j∈a,j=q)∧(∃es c,H.get q=.map es c∧es.map aR.kv=pl.map ik)∧(pl.map Prod.fst).Nodup∧q.al<H.next.al
 fr h b hg:=⟨h.1,h.2.1,by rw[hg _ h.1];exact h.2.2.1,h.2.2.2.1,ag6 h.2.2.2.2 b⟩
 lt h:=by intro j hj;rw[h.2.1 j hj];exact h.2.2.2.2
section
variable{A H:af}{ts:List Th}{q:ac}{S S':Int→Prop}{ex:Bool}{pl:List (Int×Int)}{z y:Int}
variable{ab:Nat→aE}{c:Cx}{s:List SI}{L:Kn}{d:Option ac}{l:List aS}
theorem ai.uI{t t':Th}(U:ai A H ts)(i:Nat)(hi:ts[i]?=some t){H':af}(b:H'.next=H.next)(hg:∀j,j≠q→H'.get j=H.get j)(h1:∀a,t.P H a→q∈a)(h2:t'.P H' [q]):ai A H' (ts.set i t'):=by obtain⟨a,c,_,hu⟩:=U.jV i hi;refine hu (fp':=[q]) ⟨Nat.le_of_eq (by grind),λj hj=>?_,λj hj b=>?_⟩ h2;all_goals grind
theorem ai.n9(U:ai A H ts)(i:Nat)(hi:ts[i]?=some (tM ex q S):=by rfl):(∃ks,gK (H.get q) ks∧∀x,x∈ks↔S x)∧(ex=true→∃es c,H.get q=.map es c)∧q.al<H.next.al:=by obtain⟨b,a⟩:=U.get i hi;exact a.2.2
theorem ai.ED(U:ai A H ts)(i:Nat)(hi:ts[i]?=some (tI q pl):=by rfl):(∃es c,H.get q=.map es c∧es.map aR.kv=pl.map ik)∧(pl.map Prod.fst).Nodup∧q.al<H.next.al:=by obtain⟨b,a⟩:=U.get i hi;exact a.2.2
theorem ai.EE(U:ai A H ts)(i:Nat)(hi:ts[i]?=some (tM ex q S))(h:∀x,S x↔S' x):ai A H (ts.set i (tM ex q S')):=U.as i hi λb a=>⟨a.1,a.2.1,a.2.2.1.imp λks h2=>⟨h2.1,λx=>(h2.2 x).trans (h x)⟩,a.2.2.2⟩
theorem ai.OW(U:ai A H ts){o:b9}{S:Int→Prop}{ks:List Int}(hs:gK o ks)(a:∀x,x∈ks↔S x)(b:ex=true→∃es c,o=.map es c):ai A (H.new o) (tM ex H.next S::ts):=U.push (fp:=[H.next]) (bf.new H o) ⟨ac3.2 rfl,λj hj=>ac3.1 hj,⟨ks,by rw[af.dt,aH rfl];exact hs,a⟩,λh=>by rw[af.dt,aH rfl];exact b h,by rw[af.mT];omega⟩ (uk H)
theorem RO.OX(U:ai A H ts)(h:∀H' q,ai A H' (tM true q (λ_=>False)::ts)→RO ab c l s (bA L d (.map q)) H'):RO ab c (⟨d,.j7,none,[],[]⟩::l) s L H:=RO.j7 (h _ _ (U.OW (ks:=[]) ⟨aim,[],rfl,rfl⟩ (λx=>by simp) λ_=>⟨[],0,rfl⟩))
theorem RO.adR(U:ai A H ts)(i:Nat){x y:aG}(h:∀H',ai A H' (ts.set i (tM ex q λx=>x=z∨S x))→RO ab c l s (bA L d .aiw) H')(hi:ts[i]?=some (tM ex q S):=by rfl)(g:aV L x=.map q:=by(conv=>lhs;whnf)<;>rfl)(k:aV L y=.int 3 z:=by(conv=>lhs;whnf)<;>rfl):RO ab c (⟨d,.ju .int x y (.c (.bool true)),none,[],[]⟩::l) s L H:=λaa a=>by
 obtain⟨⟨ks,hs,m⟩,he,b⟩:=U.n9 i hi;obtain⟨H',o,f,p,r,v⟩:=GL (a.gv g rfl) (a.gv k rfl) hs;have e:=U.uI (q:=q) i hi (t':=tM ex q λx=>x=z∨S x) f p (λw t=>t.1) ⟨ac3.2 rfl,λj hj=>ac3.1 hj,⟨_,r,λx=>by rw[A7,m]⟩,λh=>?_,by rw[f];exact b⟩;·obtain⟨n,u⟩:=h H' e _ (a.set d .aiw);exact⟨n+1,Xo.op o u⟩
 grind
theorem RO.adS(U:ai A H ts)(i:Nat){x y:aG}(h:∀t:Bool,(t=true↔S z)→RO ab c l s (bA L d (.bool t)) H)(hi:ts[i]?=some (tM ex q S):=by rfl)(b:aV L x=.map q:=by(conv=>lhs;whnf)<;>rfl)(e:aV L y=.int 3 z:=by(conv=>lhs;whnf)<;>rfl):RO ab c (⟨d,.lookup .int (.bool false) false x y,none,[],[]⟩::l) s L H:=by obtain⟨⟨ks,hs,g⟩,he,f⟩:=U.n9 i hi;exact RO.op (λaa a=>Ml (a.gv b rfl) (a.gv e rfl) hs) (h (ib z ks) (by grind[su]))
theorem OY{k:Int}:∀{es:List aR}{pl:List (Int×Int)},es.map aR.kv=pl.map ik→k∉pl.map Prod.fst→∀i0,findKey .int (.int 3 k) es i0=some none
 |[],_,_,_,_=>rfl
 |e::es,[],h,_,_=>by grind
 |e::es,p::pl,h,a,i0=>by
  simp only[agN,ag4,aR.kv,ik,age]at h;simp only[agN,adC,not_or]at a;have c:iB k p.1=false:=by rw[fA];simpa using a.1
  have b:dZ 64 .int (.int 3 k) (.int 3 p.1)=some (iB k p.1):=by simp[dZ]
  simp only[findKey,h.1.1,b,c];exact OY h.2 a.2 _
theorem RO.adT(U:ai A H ts)(h:∀H' q,ai A H' (tI q []::ts)→RO ab c l s (bA L d (.map q)) H'):RO ab c (⟨d,.j7,none,[],[]⟩::l) s L H:=RO.j7 (h _ _ (U.push (fp:=[H.next]) (bf.new H _) ⟨ac3.2 rfl,λj hj=>ac3.1 hj,⟨[],0,by rw[af.dt,aH rfl],rfl⟩,aim,by rw[af.mT];omega⟩ (uk H)))
theorem RO.adU(U:ai A H ts)(i:Nat){x w:aG}(k:z∉pl.map Prod.fst)(h:∀H',ai A H' (ts.set i (tI q (pl++[(z,y)])))→RO ab c l s (bA L d .aiw) H')(hi:ts[i]?=some (tI q pl):=by rfl)(o:aV L x=.map q:=by(conv=>lhs;whnf)<;>rfl){m:aG}(p:aV L m=.int 3 z:=by(conv=>lhs;whnf)<;>rfl)(r:aV L w=.int 3 y:=by(conv=>lhs;whnf)<;>rfl):RO ab c (⟨d,.ju .int x m w,none,[],[]⟩::l) s L H:=by
 obtain⟨⟨es,cc,he,n⟩,t,g⟩:=U.ED i hi;refine RO.op (λaa f=>?_) (h (H.set q (.map (es++[⟨.int 3 z,.int 3 y,cc⟩]) (cc+1))) (U.uI (q:=q) i hi rfl (λj hj=>by rw[af.aD,an hj]) (λB u=>u.1) ⟨ac3.2 rfl,λj hj=>ac3.1 hj,⟨_,_,by rw[af.aD,aH rfl],by simp[n,aR.kv,ik]⟩,?_,by rw[af.fR];exact g⟩));·simp only[aB,jk,ag9,ac6,bK,f.gv o rfl,f.gv p rfl,f.gv r rfl,he,OY n k 0]
 simp only[ahk,agN,ahX];rw[ahy];exact⟨t,by simp,λa v b hb=>by simp only[ac3]at hb;subst hb;exact λe=>k (e▸v)⟩
theorem OZ:∀{es:List aR}{pl:List (Int×Int)},es.map aR.kv=pl.map ik→kX.go es=some pl∧jA es=some (pl.map Prod.fst)|[],[],_=>⟨rfl,rfl⟩|[],_::_,h=>by grind|_::_,[],h=>by grind|e::es,p::pl,h=>by simp only[agN,ag4,aR.kv,ik,age]at h;obtain⟨h1,h2⟩:=OZ h.2;simp[h,h1,h2,kX.go,jA,agN,and_self]
theorem ai.tc(U:ai A H ts)(i:Nat)(hi:ts[i]?=some (tI q pl):=by rfl):kX H q=some pl∧jC H q=some (pl.map Prod.fst):=by obtain⟨⟨es,cc,he,a⟩,b,c⟩:=U.ED i hi;obtain⟨h1,h2⟩:=OZ a;simp[he,h1,h2,b,kX,jC,eJ,wQ,bm,and_self]
theorem O8:∀{es:List aR}{ks:List Int},es.map aR.kv=ks.map sk→ue es=some ks∧jA es=some ks|[],[],_=>⟨rfl,rfl⟩|[],_::_,h=>by grind|_::_,[],h=>by grind|e::es,p::pl,h=>by simp only[agN,ag4,aR.kv,sk,age]at h;obtain⟨h1,h2⟩:=O8 h.2;simp[h,h1,h2,ue,jA,and_self]
theorem Cj{ks:List Int}(h:gK (H.get q) ks):jB H q=some ks∧jC H q=some ks:=by obtain⟨a,es,he,b⟩:=h;obtain⟨h1,h2⟩:=O8 b;simp[he,h1,h2,a,jB,jC,wQ,bm,and_self]
theorem O9{k:Int}:∀{es:List aR}{ks:List Int},es.map aR.kv=ks.map sk→ks.Nodup→∀i0,findKey .int (.int 3 k) es i0=some none∧k∉ks∨∃i,findKey .int (.int 3 k) es i0=some (some (i0+i,.bool true))∧∃a:List Int,(oX es i).map aR.kv=a.map sk∧a.Nodup∧∀x,x∈a↔x∈ks∧x≠k
 |[],[],_,_,_=>.inl ⟨rfl,by simp⟩
 |[],_::_,h,_,_=>by grind
 |_::_,[],h,_,_=>by grind
 |e::es,x::ks,h,j,i0=>by
  simp only[agN,ag4,aR.kv,sk,age]at h;obtain⟨⟨h1,h2⟩,h3⟩:=h;obtain⟨m,c⟩:=ahg.1 j;have d:dZ 64 .int (.int 3 k) (.int 3 x)=some (iB k x):=by simp[dZ]
  by_cases b:k=x
  ·subst b;refine .inr ⟨0,?_,ks,by trivial,c,λy=>?_⟩;·simp[h1,d,h2,findKey,fA,beq_self_eq_true,ail]
   grind
  have l:iB k x=false:=by rw[fA];simpa using b
  rcases O9 (k:=k) h3 c (i0+1)with⟨f,g⟩|⟨i,f,a,g,n,o⟩;·simp[b,g,h1,d,l,f,findKey]
  refine .inr ⟨i+1,?_,x::a,?_,?_,λy=>?_⟩;all_goals grind[findKey,oX,aR.kv,sk,ahg]
theorem RO.adV(U:ai A H ts)(i:Nat){x y:aG}(h:∀H',ai A H' (ts.set i (tM true q λx=>S x∧x≠z))→RO ab c l s (bA L d .aiw) H')(hi:ts[i]?=some (tM true q S):=by rfl)(p:aV L x=.map q:=by(conv=>lhs;whnf)<;>rfl)(r:aV L y=.int 3 z:=by(conv=>lhs;whnf)<;>rfl):RO ab c (⟨d,.delete .int x y,none,[],[]⟩::l) s L H:=by
 obtain⟨⟨ks,hs,k⟩,he,f⟩:=U.n9 i hi;obtain⟨es,cc,e⟩:=he rfl;obtain⟨t,C,b,u⟩:=hs;rw[e]at b;simp only[eJ,acm]at b;subst b;rcases O9 (k:=z) u t 0 with⟨g,m⟩|⟨j,g,o,m,v,w⟩
 ·refine RO.op (λaa a=>?_) (h (H.set q (.map es cc)) (U.uI (q:=q) i hi rfl (λj hj=>by rw[af.aD,an hj]) (λB n=>n.1) ⟨ac3.2 rfl,λj hj=>ac3.1 hj,⟨ks,by rw[af.aD,aH rfl];exact⟨t,es,rfl,u⟩,λx=>?_⟩,λ_=>⟨es,cc,by rw[af.aD,aH rfl]⟩,by rw[af.fR];exact f⟩));·simp only[aB,jk,ag9,ac6,bK,a.gv p rfl,a.gv r rfl,e,g]
  rw[k];exact⟨λh=>⟨h,λe=>m (by rw[←e,k];exact h)⟩,λh=>h.1⟩
 rw[agW]at g;refine RO.op (λaa a=>?_) (h (H.set q (.map (oX es j) cc)) (U.uI (q:=q) i hi rfl (λj hj=>by rw[af.aD,an hj]) (λB n=>n.1) ⟨ac3.2 rfl,λj hj=>ac3.1 hj,⟨o,by rw[af.aD,aH rfl];exact⟨v,_,rfl,m⟩,λx=>?_⟩,λ_=>⟨_,cc,by rw[af.aD,aH rfl]⟩,by rw[af.fR];exact f⟩));·simp only[aB,jk,ag9,ac6,bK,a.gv p rfl,a.gv r rfl,e,g]
 rw[w,k]
def Ck(cH:List ac):Kn→Kn→Prop
 |[],_=>True
 |(p,v)::l,m=>zj p cH=false∧lk m p=v∧Ck cH l m
theorem Ck.le{cH:List ac}{aa:am AV}(b:Le L aa):∀{M:Kn},Ck cH M L→Le M (kJ aa cH)|[],_=>λp v h=>.inl h.symm|(q,w)::M,h=>λp v a=>by simp only[lk]at a;cases hb:ac.beq q p with|true=>rw[hb]at a;obtain rfl:=ac.gT.1 hb;rw[Bd,an λc=>by have h0:=h.1;grind[GS]];exact b q v (h.2.1.trans a)|false=>rw[hb]at a;exact Ck.le b h.2.2 p v a
theorem Ru.eB{t:Nat}{g:am AV→af→Option (am AV×af)}{cH:List ac}{M:Kn}{H':af}(b:ab t=.eB g)(hg:∀aa,Le L aa→g aa H=some (kJ aa cH,H'))(h:Ru ab c s M H')(hl:Ck cH M L:=by repeat'(first|exact trivial|refine⟨rfl,rfl,?_⟩)):Ru ab c (.code (.eB t)::s) L H:=λaa a=>by refine⟨1,?_⟩;simp only[Xc,exec,b,hg aa a];exact h _ (hl.le a)
end
end
end Go.ak
namespace Go.ak.R
section
variable{ab:Nat→aE}
theorem O'{g:G.bu}{o:List bU}(b:∀j(hj:o.length - 1 - j<o.length),j<o.length→o[o.length - 1 - j].2≠0):nD g o=none:=by
 unfold nD;rw[List.find?_eq_none.2];·rfl
 intro x a;obtain⟨i,hi,rfl⟩:=agS (List.mem_reverse.1 a);have:=b (o.length - 1 - i) (by omega) (by omega);simp only[show o.length - 1 - (o.length - 1 - i)=i by omega]at this;simpa using this
theorem Pa{g:G.bu}{o:List bU}{k:Nat}(b:o.length - 1 - k<o.length)(a:k<o.length)(e:∀j(hj:o.length - 1 - j<o.length),j<k→o[o.length - 1 - j].2≠0)(h0:o[o.length - 1 - k].2=0):nD g o=some ((aF g o[o.length - 1 - k].1.toNat).aq.go.getD 1 default).block:=by
 unfold nD;rw[(List.find?_eq_some_iff_getElem (b:=o[o.length - 1 - k])).2];·rfl
 refine⟨by simpa using h0,k,by simpa using a,by rw[List.getElem_reverse],λj hj=>?_⟩;rw[List.getElem_reverse];simpa using e j (by omega) hj
abbrev OpR:bU→List AV→Prop:=λo cs=>cs=[aI o.1,aU o.2]
section
variable{g:G.bu}{f h:AV}{c:ac}{H:af}{come:List Bool}{os:List (List bU)}{d:List AV}
theorem adX(T:Tb ab)(hB:G.Sm g)(hE:iO g)(o:GX g H c f h come os d)(D:dA g come os){b:Nat}(hb:come.getD b false=true){K:AV→af→Prop}(bv:∀H',bf H H'→K (match nD g (os.getD b [])with|some t=>.tuple [aI t,.bool true]|none=>.tuple [aI (-1),.bool false]) H'):YF ab (.func Wn [] []) [.aw c 0,aN b] H K:=by
 have av:=hB.nb;have I:=D.lt hb;have p:b<os.length:=by rw[D.ol];exact I
 have⟨Y,J⟩:=hE.jG (D.dP b hb);have L:os.getD b []=os[b]:=bE p _;rw[L]at bv Y J;have hs:=o.kB.bC b p;have⟨M,N,O,ax⟩:=hs.all;have s:=o.kB.lt;have P:=o.kB.aF;obtain⟨ov,Q,u⟩:=o.kB.jG;have⟨ay,_,_,_⟩:=u.all;have⟨a1,_,_,_⟩:=o.bl.all;refine YF.code T.aa2 (by simp) ?_;refine au ?_;refine RO.dS (ai.cW H) λH1 z U=>?_;refine RO.gk U λH2 A U=>?_;refine RO.gk U λH3 B U=>?_;refine ah ?_;refine RO.aW ?_ (v:=ov) (hc:=by rw[U.gr.bh s];exact Q);refine ah ?_;refine RO.uF U.gr u (λq8 o8 a2 _=>?_) (j:=b);refine ah ?_;refine RO.cl (EC T.abn (by decide) M N O λH4 q hl=>?_);have U:=U.fF hl;refine ah ?_;refine Ru.wk (L:=[(bk,.func WH [] [.aw q 0]),(p2,.aw z 0),(p4,.aw A 0),(p5,.aw B 0)]) ?_;have U:ai H H4 ([tB Hh q [d.getD b .bX]]++[tB 4 B [.bool false],tB 3 A [aI 0],tB l7 z [.aw c 0]]++[]):=U;refine Ru.qz (J:=λk ts=>ts=[tB 4 B [.bool false],tB 3 A [aI 0],tB l7 z [.aw c 0]]∧∀j(hj:os[b].length - 1 - j<os[b].length),j<k→os[b][os[b].length - 1 - j].2≠0) (Dn:=λj ts=>j=.ret∧∃t,nD g os[b]=some t∧ts=[tB 4 B [.bool true],tB 3 A [aI t],tB l7 z [.aw c 0]]) U (EB (R:=OpR) (agg:=true) (size:=2) (la:=os[b]) (sv:=d.getD b .bX) (e:=Hh) (nt:=19) T.abC (by decide) (by omega) (λbv=>by cases bv) (λa cs bv=>by cases bv;rfl)) (λH2 hg=>lM.r ((U.gr.trans hg).sl hs)) ⟨rfl,λj _ hj=>absurd hj (by omega)⟩ (λk args ws bv=>by obtain⟨_,_,_,_,rfl⟩:=bv;rfl) (λk ts us H' C U=>lM.r (U.gr.sl hs)) (λk args ws ts us l o1 o2 H' hk R C U=>?_) (λH' S E C U=>?_) (λj H' S E hj hD U=>?_)
 ·obtain⟨rfl,v,cs,V,rfl⟩:=R;obtain⟨rfl,eS⟩:=C;have W:=af0 v;generalize i:os[b][os[b].length - 1 - k]=oo at*;obtain⟨Z,m⟩:=oo;subst V;refine ah ?_;refine RO.fG U λH5 q7 U=>?_;refine ah ?_;refine Ru.dO (xs:=[_,_,_,_]) U λH6 U=>?_;refine ah ?_;refine Ru.cond (λ(h0:m=0)=>?_) (λ(h0:¬m=0)=>?_)
  ·obtain⟨g1,g2,F⟩:=Y.ok _ W;simp only at g1 g2 F;obtain⟨t,rfl⟩:∃t:Nat,Z=(t:Int):=⟨Z.toNat,by omega⟩;rw[agK]at F;have w:t<g.aj.length:=by omega
   have g4:g.aj[t].aq.go.length=3:=by rw[←F,bE w]
   refine ah ?_;refine RO.aW ?_ (v:=f) (hc:=by rw[U.gr.bh s];exact P);refine ah ?_;refine RO.cP U.gr o.bl (λq9 o9 c9 a6 X a8 hat _=>?_) (j:=t);obtain⟨vp,vs,jc,rfl,_,_,va,vk,vg,rfl,_,_,x⟩:=X;have⟨a',_,_,_⟩:=x.all;refine ah ?_;refine RO.aW (v:=vg) ?_ (hc:=hat 6 _ rfl);refine RO.cP U.gr x (λba bb bc ag y ar n _=>?_) (j:=1) (hj:=by omega);obtain⟨ve,rfl,_⟩:=y;refine ah ?_;refine RO.aW ?_ (hc:=n 0 _ rfl);refine RO.fU U 2 (λH7 U=>?_);refine RO.fU U 1 (λH8 U=>?_);refine ah ?_;have U:=U.tail (t:=tB Hg q7 [aN t,aU m]);refine Ru.N3 (ts:=[_,_,_]) U ⟨rfl,_,Pa v hk eS (by rw[i];exact h0),?_⟩;rw[i];simp only[aF,agK,bE w];rw[bE (by omega)];rfl
  refine ah ?_;refine Ru.bD (ts:=[_,_,_]) U.tail ⟨rfl,λj hj bd=>?_⟩;by_cases e:j=k;·subst e;rw[i];exact h0
  exact eS j hj (by omega)
 ·obtain⟨rfl,eS⟩:=C;refine ah ?_;refine RO.fU U 1 (λH5 U=>?_);refine RO.fU U 0 (λH6 U=>?_);refine ah ?_;rw[O' eS]at bv;refine Ru.nu (M:=[E]) (ts:=[_,_,_]) (U.cO (ag1 (l₁:=[_,_,_]))) λH' U=>⟨[aI (-1),.bool false],⟨⟨_,_,rfl,U.one 1⟩,⟨_,_,rfl,U.one 0⟩,trivial⟩,bv H' U.gr⟩
 obtain⟨rfl,t,ht,rfl⟩:=hD;rw[ht]at bv;exact RJ.vu (RJ.nu (M:=[E]) (ts:=[_,_,_]) (.inr rfl) (U.cO (ag1 (l₁:=[_,_,_]))) λH' U=>⟨[aI t,.bool true],⟨⟨_,_,rfl,U.one 1⟩,⟨_,_,rfl,U.one 0⟩,trivial⟩,bv H' U.gr⟩)
structure Vd(g:G.bu):Prop where
 sm:G.Sm g
 fm:Iw g g.bi.toNat
 kq:s9 g=false
 dP:iO g
 gv:uH g
 rR:∀come os,dA g come os→xX g come os
theorem Vd.tg(V:Vd g):∀b∈g.aj,∀p∈dE b,0≤p.1∧p.1<g.bi:=λb hb p a=>by have:=V.gv.tg b hb p a;have:=V.gv.p0;omega
theorem Pb(T:Tb ab)(V:Vd g){cs:List AV}(hg:iD H g cs){K:AV→af→Prop}(o:∀H' c f h come os d,bf H H'→GX g H' c f h come os d→dA g come os→K (.tuple [.aw c 0,aI 0]) H'):YF ab (.func V8 [] []) [.agg cs] H K:=by have n:=hg.one;have i:=V.kq;obtain⟨a,rfl,co⟩:=hg;refine YF.code T.aaJ (by simp) ?_;refine au ?_;refine RO.dS (ai.cW H) λH1 q U=>?_;refine ah ?_;refine RO.eG U 0 ?_;refine RO.cl (acW T (cs:=[.aC g.name,aI g.params,aI g.bi,a]) ⟨a,rfl,dH.block.jD U.gr co⟩ V.sm λs j=>?_);have U:=U.cV j;rw[i];refine ah ?_;refine RO.eG U 0 ?_;refine RO.cl (acP T (cs:=[.aC g.name,aI g.params,aI g.bi,a]) V.fm V.sm ⟨a,rfl,dH.block.jD U.gr co⟩ λt k=>?_);have U:=U.cV k;refine ah ?_;refine RO.eG U 0 ?_;refine RO.cl (adh T V.sm V.dP V.fm.ne (cs:=[.aC g.name,aI g.params,aI g.bi,a]) ⟨a,rfl,dH.block.jD U.gr co⟩ λu c f h come os d l m b=>?_);refine ah ?_;have p:=V.fm.fv;refine RO.cl (adG T V.sm V.dP m b (V.rR come os b) V.gv.v0 p.h2 V.tg λr e=>?_);refine ah ?_;exact Ru.sB (o r c f h come os d ((U.gr.trans l).trans e) (m.cV e) b)
theorem adY(T:Tb ab)(V:Vd g){cs:List AV}(hg:iD H g cs){fv:AV}(m:fv.bB=true){K:AV→af→Prop}(k:∀H' c f h come os d,bf H H'→GX g H' c f h come os d→dA g come os→YF ab fv [.aw c 0] H' λv b=>v.bB=true∧K (.tuple [v,aI 0]) b):YF ab (.func VT [] []) [.agg cs,fv] H K:=by have j:=hg.one;obtain⟨a,rfl,co⟩:=hg;refine YF.code T.aas (by simp) ?_;refine au ?_;refine RO.dS (ai.cW H) λH1 q U=>?_;refine ah ?_;refine RO.eG U 0 ?_;refine RO.cl (Pb T V (cs:=[.aC g.name,aI g.params,aI g.bi,a]) ⟨a,rfl,dH.block.jD U.gr co⟩ λb c f h come os d e l i=>?_);refine ah ?_;refine RO.cl ((k b c f h come os d (U.gr.trans e) l i).mono λv o p=>?_);obtain⟨n,p⟩:=p;refine ah ?_;exact Ru.sB p
theorem adZ(T:Tb ab)(V:Vd g){cs:List AV}(hg:iD H g cs){fv:AV}(m:fv.bB=true){K:AV→af→Prop}(k:∀H' c f h come os d,bf H H'→GX g H' c f h come os d→dA g come os→YF ab fv [.aw c 0] H' λv b=>v.bB=true∧K (.tuple [v,aI 0]) b):YF ab (.func VV [] []) [.agg cs,fv] H K:=by have j:=hg.one;obtain⟨a,rfl,co⟩:=hg;refine YF.code T.aau (by simp) ?_;refine au ?_;refine RO.dS (ai.cW H) λH1 q U=>?_;refine ah ?_;refine RO.eG U 0 ?_;refine RO.cl (Pb T V (cs:=[.aC g.name,aI g.params,aI g.bi,a]) ⟨a,rfl,dH.block.jD U.gr co⟩ λb c f h come os d e l i=>?_);refine ah ?_;refine RO.cl ((k b c f h come os d (U.gr.trans e) l i).mono λv o p=>?_);obtain⟨n,p⟩:=p;refine ah ?_;exact Ru.sB p
theorem ad0(T:Tb ab)(V:Vd g){cs:List AV}(hg:iD H g cs){K:AV→af→Prop}(k:∀H' v come os ap,dA g come os→iP g come os ap→ai H H' [tS 3 1 (ap.map aN) ap.length true v]→K (.tuple [v,aI 0]) H'):YF ab (.func VH [] []) [.agg cs] H K:=by have j:=hg.one;obtain⟨a,rfl,co⟩:=hg;refine YF.code T.aae (by simp) ?_;refine au ?_;refine RO.dS (ai.cW H) λH1 q U=>?_;refine ah ?_;refine RO.eG U 0 ?_;refine RO.cl (adY T V (cs:=[.aC g.name,aI g.params,aI g.bi,a]) ⟨a,rfl,dH.block.jD U.gr co⟩ rfl λo c f h come os d e l b=>IQ T V.sm V.dP l b λm v ap n hl=>?_);have⟨i,_,_,_⟩:=(hl.sl (e:=3) (size:=1) (sv:=v) (vs:=ap.map aN) (n:=ap.length) (full:=true) 0).all;refine⟨i,?_⟩;refine ah ?_;exact Ru.sB (k m v come os ap b n (hl.MS (U.gr.trans e)))
end
end
section
structure PI(n:Nat)(s:List Bool)(hist:List Int):Prop where
 len:s.length=n
 bC:∀v:Nat,v<n→(s.getD v false=true↔(v:Int)∈hist)
section
variable{g:G.bu}{n:Nat}
theorem EF{e:Type}{st:List Bool→e→Bool×List Bool}{f:e→List Int}{R:Int→Prop}:∀{la:List e},(∀s c a,a∈la→PI n s c→(c++f a).Nodup→(∀v∈f a,R v)→(st s a).1=true∧PI n (st s a).2 (c++f a))→∀s c,PI n s c→(c++la.flatMap f).Nodup→(∀v∈la.flatMap f,R v)→(gE st s la).1=true∧PI n (gE st s la).2 (c++la.flatMap f)|[],_,s,c,g,_,_=>by simp[g,gE]|a::la,h,s,c,g,d,j=>by rw[ah8,←agJ]at d⊢;obtain⟨h1,h2⟩:=h s c a (adc ..) g (ahy.1 d).1 λv i=>j v (agU _ i);rw[gE,aH h1];exact EF (λs c b hb=>h s c b (adD _ hb)) _ _ h2 d λv i=>j v (ag7 _ i)
theorem Pc(m:g.bi=n)(o:0≤g.params){s:List Bool}{a:List Int}{v:Int}(c:PI n s a)(d:(a++[v]).Nodup)(i:g.params≤v∧v<n):(mB g s v).1=true∧PI n (mB g s v).2 (a++[v]):=by
 have hl:=c.len;obtain⟨v,rfl⟩:∃k:Nat,v=k:=⟨v.toNat,by omega⟩;have f:v<n:=by omega
 have b:(v:Int)∉a:=λh=>(ahy.1 d).2.2 _ h _ (ac3.2 rfl) rfl;have j:s.getD v false=false:=by cases h:s.getD v false with|false=>rfl|true=>exact absurd ((c.bC v f).1 h) b
 unfold mB;rw[aH ⟨i.1,by omega⟩,agK,j,an (by simp)];refine⟨rfl,by simpa using hl,λx l=>?_⟩;rw[e9 (by omega),agI,ac3];by_cases e:x=v;·subst e;simp
 rw[an e,c.bC x l];have:¬(x:Int)=v:=by omega
 simp[this]
theorem Pd(l:List Int):l.flatMap (λv=>[v])=l:=by simp
theorem Cl:∀l:List G.gW,eK l=l.flatMap λx=>if 0≤x.to then[x.to]else[]|[]=>rfl|x::l=>by rw[ah8,←Cl l,eK,eK,agN];by_cases h:0≤x.to<;>simp[h]
theorem ad1(i:g.bi=n)(j:0≤g.params){b:G.gD}(hs:∀x∈b.aA,∃r,vU g x r∧r.uC=decide (0≤x.to)){s:List Bool}{c:List Int}(f:PI n s c)(d:(c++gF b).Nodup)(e:∀v∈gF b,g.params≤v∧v<n):(sZ g s b).1=true∧PI n (sZ g s b).2 (c++gF b):=by
 unfold gF at d e⊢;rw[←agJ]at d⊢;obtain⟨h1,h2⟩:=EF (st:=mB g) (f:=λv=>[v]) (R:=λv=>g.params≤v∧v<n) (la:=b.params) (λs c a _ f d e=>Pc i j f d (e a (ac3.2 rfl))) s c f (by simp_all[Pd,ahy]) (by grind);rw[Pd]at h2;rw[Cl]at d e⊢;obtain⟨h3,m⟩:=EF (st:=nq g) (f:=λx:G.gW=>if 0≤x.to then[x.to]else[]) (R:=λv=>g.params≤v∧v<n) (la:=b.aA) (λs c x k f d e=>by
  obtain⟨r,gJ,hg⟩:=hs x k;unfold nq;rw[gJ.acz];simp only[hg];by_cases h:0≤x.to;·simp only[h,decide_true,bm]at d e⊢;exact Pc i j f d (e _ (ac3.2 rfl))
  grind) _ _ h2 d (λv l=>e v (ag7 _ l));simp_all[sZ]
theorem ad4(h:rO g)(j:G.Sm g)(a:g.bi≤6000):Iw g g.bi.toNat:=by
 have c:=h.p0;have e:=h.p1;obtain⟨n,l⟩:∃n:Nat,g.bi=n:=⟨g.bi.toNat,by omega⟩;have hs:∀b∈g.aj,∀x∈b.aA,∃r,vU g x r∧r.uC=decide (0≤x.to):=λb hb x d=>adu (h.aA b hb x d) (j.st b hb x d).1;have key:=EF (n:=n) (st:=sZ g) (f:=gF) (R:=λv=>g.params≤v∧v<n) (la:=g.aj) (λs m b hb o f p=>ad1 l c (hs b hb) o f p) (af3 n false) [] ⟨by simp,λv a=>by simp[agY,ahL,a]⟩ (by simpa using h.nd) (λv a=>by have:=h.rg v a;omega);have q:g.bi.toNat=n:=by omega
 rw[q];refine⟨⟨c,e,a,l.symm⟩,h.name,h.ne,h.first,λb hb x d=>(hs b hb x d).imp λr h=>h.1,λb hb=>adv (h.B4 b hb) (j.ed b hb),key.1,λk u t=>?_⟩;have hl:=key.2.len;have i:k<n:=by omega
 have:=(key.2.bC k i).2 (h.all k (by omega) (by omega));grind
theorem Pe:∀(l:List G.gW)(i:Nat),(∀x∈l, -1≤x.to)→(jH l i).map (·.1)=eK l
 |[],_,_=>rfl
 |x::l,i,h=>by
  have h1:=h x (adc ..);have a:=Pe l (i+1) λy b=>h y (adD _ b);rw[Cl,ah8,←Cl,jH,ahk,a];by_cases e:x.to= -1;·rw[aH e,an (by omega)];rfl
  rw[an e,aH (by omega)];rfl
theorem Pf{b:G.gD}(h:∀x∈b.aA, -1≤x.to):(dE b).map (·.1)=gF b:=by rw[dE,ahk,Pe _ _ h,gF,aii];congr 1;exact List.map_id _
theorem ad5(h:rO g):uH g:=by
 have f:=h.p0;have n:=h.p1;have hb:∀b∈g.aj,(dE b).map (·.1)=gF b:=λb hb=>Pf λx l=>(h.aA b hb x l).r.t0;have e:∀b∈g.aj,∀p∈dE b,p.1∈gF b:=λb a p d=>by rw[←hb b a];exact ag5 d
 have c:=h.nd;refine⟨by omega,f,λb a p d=>h.rg _ (ah6.2 ⟨b,a,e b a p d⟩),λb a=>?_,λi j hi hj v p q d m=>?_,λv h0 h1=>?_⟩;·rw[hb b a];obtain⟨i,hi,rfl⟩:=agS a;rw[←ahR i g.aj,agR hi,ahn,ah8]at c;exact(ahy.1 (ahy.1 c).2.1).1
 ·have h1:v∈gF g.aj[i]:=by have:=e _ (rQ hi) _ d;rwa[aF,bE hi]at this
  have h2:v∈gF g.aj[j]:=by have:=e _ (rQ hj) _ m;rwa[aF,bE hj]at this
  have key:∀i j(hi:i<g.aj.length)(hj:j<g.aj.length),i<j→v∈gF g.aj[i]→v∈gF g.aj[j]→False:=λi j hi hj o h1 h2=>by rw[←ahR j g.aj,agR hj,ahn,ah8]at c;refine(ahy.1 c).2.2 v ?_ v (agU _ h2) rfl;exact ah6.2 ⟨g.aj[i],by rw[List.mem_take_iff_getElem];exact⟨i,by omega,rfl⟩,h1⟩
  rcases Nat.lt_trichotomy i j with h3|h3|h3;·exact(key i j hi hj h3 h1 h2).elim
  ·exact h3
  exact(key j i hj hi h3 h2 h1).elim
 obtain⟨b,a,k⟩:=ah6.1 (h.all v h0 h1);rw[←hb b a]at k;obtain⟨p,d,rfl⟩:=ag3.1 k;obtain⟨i,hi,rfl⟩:=agS a;exact⟨i,p.2,hi,by rw[aF,bE hi];exact d⟩
end
end
end Go.ak.R
end
