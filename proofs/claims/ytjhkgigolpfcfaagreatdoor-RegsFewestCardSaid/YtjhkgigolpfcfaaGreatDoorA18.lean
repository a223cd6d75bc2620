/- A part of the proof. No conditions. -/
import Derived.Test.YtjhkgigolpfcfaaGreatDoorA17
set_option linter.all false
set_option maxHeartbeats 16000000
open List renaming mem_singleton->aep,mem_cons_of_mem->aey,mem_cons_self->aeU,range->ake,length_map->akg,nodup_cons->akz,length_cons->akA,getElem?_cons_succ->ak6,range_succ->alb,pairwise_cons->alq
open Nat renaming le_of_ble_eq_true->akc,ble_eq_true_of_le->akB,ble->ak2
open List.Perm renaming cons->akO,swap->akS
open List.Pairwise renaming nil->alQ
noncomputable section
namespace Go.am.R
theorem qoz{p:Prop}(h:p:=by first|omega|(have q9:Int.ofNat 1=1:=rfl;omega)):p:=h
theorem af{p:Prop}(h:p:=by first|omega|(have q9:Int.ofNat 1=1:=rfl;omega)):p:=h
section
variable{ac:Nat->aG}
section
section
variable{g:G.bu}{h m av i:AV}{d:ab}{A H:ai}{f:List AV}{come:List Bool}{os:List (List bV)}{ak:List Nat}{lv:List (List Int)}
def kV(g:G.bu)(lv:List (List Int))(o:List bV):List Int:=match oD g o with
 |some t=>lv.getD t.toNat []
 |none=>[]
theorem afQ(T:Tb ac)(V:Vd g){B:ai}(c:bm B H)(o:FX g B d h m av i f come os ak lv)(I:cX g come os)(R:gP g come os lv){b:Nat}(hb:come.getD b false=true){K:KT}(cv:∀H' v,fZ B (kV g lv (os.getD b [])) v->bm H H'->K v H'):YN ac WJ [.az d 0,aN b] H K:=by
 have hB:=V.sm;have a6:=hB.nb;have a8:=I.lt hb;have⟨hO,a9⟩:=V.dO.jY (I.dO b hb);have hs:=o.op b hb;have⟨S,W,X,a'⟩:=hs.all;have s:=o.ro.lt;have Y:=o.ro.aH;have Z:=o.ro.jY;have ag:=o.c6;have⟨ba,_,_,_⟩:=o.ro.sl.all;have⟨bb,_,_,_⟩:=o.bl.all;have⟨bc,_,_,_⟩:=o.sl.all;have E:∀t,oD g (os.getD b [])=some t->0<=t/\t.toNat<lv.length:=λt O=>by obtain⟨_,_,_,_,hc,h0⟩:=vD V.dO I hb O;exact⟨h0,by rw[R.len];exact I.lt hc⟩
 refine YF.code T.abu aB ?_;refine au ?_;refine RO.dL (aj.dc H) λH1 J U=>?_;refine RO.gI U λH2 L U=>?_;refine ah ?_;refine RO.aW ?_ (v:=av) (hc:=by rw[(c.trans U.gr).bh s];exact Z);refine ah ?_;refine RO.vu (c.trans U.gr) o.ro.sl (λq8 o8 bd _=>?_) (j:=b);refine ah ?_;refine RO.cl (Fc T.abO bA S W X λH4 q hl=>?_);have U:=U.fC hl;refine ah ?_;generalize os.getD b []=n at*;refine Ru.wk (L:=[(bi,.func Xg [] [.az q 0]),(p2,.az J 0),(p4,.az L 0)]) ?_;have U:aj H H4 ([tB Ik q [f.getD b .co]]++[tB eH L [.aS],tB iH J [.az d 0]]++[]):=U;refine Ru.pG (J:=λk ts=>ts=[tB eH L [.aS],tB iH J [.az d 0]]/\∀j(hj:n.length - 1 - j<n.length),j<k->n[n.length - 1 - j].2≠0) (Dn:=λj ts=>j=.ret/\∃t v,oD g n=some t/\fZ B (lv.getD t.toNat []) v/\ts=[tB eH L [v],tB iH J [.az d 0]]) U (Fb (R:=Qa) (agg:=true) (size:=2) (la:=n) (sv:=f.getD b .co) (e:=Ik) (nt:=19) T.ab7 bA af (λcv=>by cases cv) (λa cs cv=>by cases cv;rfl)) (λH2 hg=>pJ.r (((c.trans U.gr).trans hg).sl hs)) ⟨rfl,λj _ hj=>absurd hj af⟩ (λk args ws cv=>by obtain⟨_,_,_,_,rfl⟩:=cv;rfl) (λk ts us H' M U=>pJ.r ((c.trans U.gr).sl hs)) (λk args ws ts us l o1 o2 H' hk ar M U=>?_) (λH' aw P M U=>?_) (λj H' aw P hj hD U=>?_)
 .obtain⟨rfl,y,cs,ax,rfl⟩:=ar;obtain⟨rfl,eZ⟩:=M;have ay:=agB y;generalize u:n[n.length - 1 - k]=oo at*;obtain⟨ob,z⟩:=oo;subst ax;refine ah ?_;refine RO.fx U λH5 q7 U=>?_;refine ah ?_;refine Ru.dN (xs:=[_,_,_]) U λH6 U=>?_;refine ah ?_;refine Ru.kN (λh0=>?_) (λh0=>?_)
  .have a0:z=0:=by simpa using h0
   obtain⟨g1,g2,Q⟩:=hO.ok _ ay;simp only at g1 g2 Q;obtain⟨t,rfl⟩:∃t:Nat,ob=(t:Int):=⟨ob.toNat,af⟩;rw[aj3]at Q;have A:t<g.al.length:=af;have g4:g.al[t].aA.go.length=3:=by rw[<-Q,bF A]
   have p:=PQ (g:=g) y hk eZ (by rw[u];exact a0);rw[u]at p;simp only[aH,aj3,bF A]at p;rw[bF af]at p;obtain⟨i0,i1⟩:=E _ p;refine ah ?_;refine RO.aW ?_ (v:=i) (hc:=by rw[(c.trans U.gr).bh s];exact ag);refine ah ?_;refine RO.aW ?_ (v:=h) (hc:=by rw[(c.trans U.gr).bh s];exact Y);refine ah ?_;refine RO.cZ (c.trans U.gr) o.bl (λq9 o9 c9 bv a1 bS hat _=>?_) (j:=t);obtain⟨vp,vs,jc,rfl,_,_,va,vk,vg,rfl,_,_,C⟩:=a1;have⟨b0,_,_,_⟩:=C.all;refine ah ?_;refine RO.aW (v:=vg) ?_ (hc:=hat 6 _ rfl);refine RO.cZ (c.trans U.gr) C (λb3 b4 b5 a2 F a3 w _=>?_) (j:=1) (hj:=by exact qoz);obtain⟨ve,rfl,_⟩:=F;generalize g.al[t].aA.go[1].block=tt at*;obtain⟨N,rfl⟩:∃N:Nat,tt=(N:Int):=⟨tt.toNat,af⟩;rw[aj3]at i1;refine ah ?_;refine RO.aW (v:=aN N) ?_ (hc:=w 0 _ rfl);refine RO.cZ (c.trans U.gr) o.sl (λb6 b' ca a4 G a5 x _=>?_) (j:=N);obtain⟨vl,rfl,D⟩:=G;have⟨cd,cf,cn,_⟩:=D.all;refine ah ?_;refine RO.aW (v:=vl) ?_ (hc:=x 0 _ rfl);refine RO.gG U 1 (λH7 U=>?_);refine ah ?_;have U:=U.tail (t:=tB NE q7 [aN t,.bool (z==0)]);refine Ru.OL (ts:=[_,_]) U ⟨rfl,_,vl,p,?_,rfl⟩;rw[aj3,bF i1];exact D
  refine ah ?_;refine Ru.bG (ts:=[_,_]) U.tail ⟨rfl,λj hj cp=>?_⟩;by_cases e:j=k;·subst e;rw[u];simpa using h0
  exact eZ j hj af
 .obtain⟨rfl,eZ⟩:=M;refine ah ?_;refine RO.gG U 0 (λH5 U=>?_);refine ah ?_;refine Ru.mI (M:=[P]) (ts:=[_,_]) (U.cM (akj (l₁:=[_,_]))) λH' U=>⟨[.aS],⟨⟨_,_,rfl,U.one 0⟩,trivial⟩,cv H' .aS ?_ U.gr⟩;rw[kV,PP eZ];exact .inl ⟨rfl,rfl,rfl⟩
 obtain⟨rfl,t,v,O,hv,rfl⟩:=hD;refine RJ.wp (RJ.mI (M:=[P]) (ts:=[_,_]) (.inr rfl) (U.cM (akj (l₁:=[_,_]))) λH' U=>⟨[v],⟨⟨_,_,rfl,U.one 0⟩,trivial⟩,cv H' v ?_ U.gr⟩);rw[kV,O];exact hv
end
section
variable{H:ai}{q:ab}{ks:List Int}
theorem afR(T:Tb ac)(hs:ib (H.get q) ks){es:List aT}{cc:Nat}(he:H.get q=.map es cc){K:KT}(c:∀H' b,aj H H' [tM true b λx=>x∈ks]->K (.map b) H'):YN ac WY [.map q] H K:=by
 refine YF.code T.abP aB ?_;refine au ?_;refine RO.eq (t:=false) ?_ (ht:=rfl);refine au ?_;have hg:xQ [.iface eT (.map q)] H=some (.iface eT (.map H.next),H.new (.map es cc)):=by simp only[xQ,he]
 refine RO.cl (YF.ix T.adi hg ?_);refine RO.typeAssert (u:=eT) (v:=.map H.next) rfl rfl ?_;refine au ?_;have a:ib (.map es cc) ks:=by rw[<-he];exact hs
 exact Ru.aV (c _ _ ((aj.dc H).PJ (S:=λx=>x∈ks) (ex:=true) a (λ_=>Iff.rfl) λ_=>⟨es,cc,rfl⟩))
theorem JU(T:Tb ac)(hs:ib (H.get q) ks)(he:∃es c,H.get q=.map es c){w:Int}{l:List Int}{lv:AV}(hl:fZ H l lv)(t:l.length<=1000000){K:KT}(n:∀H' b S,(∀x,S x↔x∈l\/x∈ks/\x≠w)->aj H H' [tM true b S]->K (.map b) H'):YN ac NV [.map q,aI w,lv] H K:=by
 have⟨u,_,_,v⟩:=hl.all;obtain⟨es,cc,he⟩:=he;refine YF.code T.abv aB ?_;refine au ?_;refine RO.cl (afR T hs he λH1 b U=>?_);refine au ?_;refine RO.eq (t:=false) ?_ (ht:=rfl);refine au ?_;refine RO.afa U 0 (z:=w) (λz U=>?_);refine au ?_;refine Ru.nm λo M p j=>?_;refine Ru.cC j (up (P:=λk=>∀g S,(∀x,S x↔x∈l.take k\/x∈ks/\x≠w)->aj H g [tM true b S]->Ru ac _ o ([(bJ,aN k)]++pk M [p7,aZ,br]) g) l.length (λk A r g S a U=>?_) 0 af _ _ (λx=>by simp) U);subst p;subst j;refine Ru.loop ?_;refine au ?_;refine Ru.cond (λe=>?_) (λe=>?_)
 .refine au ?_;refine RO.kz U.gr hl (λB o1 hj y=>?_) (j:=k);refine au ?_;refine RO.PK U 0 (z:=l[k]) (λs U=>?_);refine au ?_;exact Ru.wk (r (k+1) af af s _ (λx=>by
   rw[a,<-akd e,ahp,aep];constructor
   .rintro(C|C|C);·exact .inl (.inr C)
    .exact .inl (.inl C)
    exact .inr C
   rintro((C|C)|C);·exact .inr (.inl C)
   .exact .inl C
   exact .inr (.inr C)) U)
 refine Ru.exitTo ?_;rw[akl af]at a;refine au ?_;exact Ru.aV (n g b S a U)
end
end
section
section
variable{A H:ai}{ts:List Th}{q:ab}{S:Int->Prop}
theorem A4(T:Tb ac)(U:aj A H ts)(i:Nat)(hi:ts[i]?=some (tM true q S)){w:Int}{l:List Int}{e:AV}(hl:fZ H l e)(c:l.length<=1000000){K:KT}(f:∀H' a b,(∀x,b x↔x∈l\/S x/\x≠w)->aj A H' (tM true a b::ts)->K (.map a) H'):YN ac NV [.map q,aI w,e] H K:=by obtain⟨⟨ks,hs,g⟩,he,_⟩:=U.nf i hi;refine JU T hs (he rfl) hl c λH' a b h1 d=>f H' a b (λx=>?_) (U.fC d);rw[h1,g]
theorem JV:∀(l:List Int)(x:Int),x∈gj l↔x∈l
 |[],x=>by simp[gj]
 |y::l,x=>by
  have h:∀(z:Int)(l:List Int),x∈nJ z l↔x=z\/x∈l:=by
   intro z l;induction l with
   |nil=>simp[nJ]
   |cons a l b=>
    simp only[nJ];split
    .simp only[aeV,b];constructor
     .rintro(h|h|h);·exact .inr (.inl h)
      .exact .inl h
      exact .inr (.inr h)
     rintro(h|h|h);·exact .inr (.inl h)
     .exact .inl h
     exact .inr (.inr h)
    simp
  simp only[gj,h,JV l,aeV]
theorem Ql:∀l:List Int,(gj l).length=l.length
 |[]=>rfl
 |y::l=>by
  have h:∀(z:Int)(l:List Int),(nJ z l).length=l.length+1:=by intro z l;induction l with|nil=>rfl|cons a l b=>simp only[nJ];split<;>simp[b]
  simp only[gj,h,Ql l,akA]
theorem Qm:∀l:List Int,l.Nodup->(gj l).Pairwise (·<·)
 |[],_=>alQ
 |y::l,k=>by
  obtain⟨h1,h2⟩:=akz.1 k;have g:=Qm l h2;have e:y∉gj l:=by rw[JV];exact h1
  simp only[gj];generalize gj l=m at*;clear k h1 h2;induction m with
  |nil=>simp[nJ]
  |cons a m f=>
   obtain⟨i,n⟩:=alq.1 g;simp only[aeV,not_or]at e;simp only[nJ];split
   .rename_i d;rw[nG,decide_eq_true_eq]at d;refine alq.2 ⟨λb hb=>?_,f n e.2⟩;have:b=y\/b∈m:=by
     clear f g i n e d;induction m with
     |nil=>simpa[nJ]using hb
     |cons c m j=>
      simp only[nJ]at hb;split at hb
      .rcases aeV.1 hb with h|h;·exact .inr (h▸aeU ..)
       exact(j h).imp id (aey _)
      exact aeV.1 hb
    rcases this with rfl|h;·exact d
    exact i b h
   rename_i d;rw[nG,Bool.not_eq_true,decide_eq_false_iff_not]at d;refine alq.2 ⟨λb hb=>?_,g⟩;rcases aeV.1 hb with rfl|h;·have:=e.1;exact qoz
   have:=i b h;have:=e.1;exact qoz
theorem afS(T:Tb ac)(U:aj A H ts)(i:Nat){ex:Bool}(hi:ts[i]?=some (tM ex q S))(m:∀ks:List Int,ks.Nodup->(∀x,x∈ks↔S x)->ks.length<=1000){K:KT}(g:∀(H':ai)(v:AV)(l:List Int),(∀x,x∈l↔S x)->l.Pairwise (·<·)->aj A H' (tR 1 (l.map aI) l.length v::ts)->K v H'):YN ac N6 [.map q] H K:=by
 obtain⟨⟨ks,hs,d⟩,_,_⟩:=U.nf i hi;obtain⟨_,h⟩:=yV hs;have b:=hs.1;have f:=m ks b d;have c:∀x,x∈gj ks↔S x:=λx=>by rw[JV,d]
 cases ks with
 |nil=>
  refine YF.ix (v:=.aS) (H':=H) T.IV (by simp[xP,h]) (g H .aS [] (λx=>?_) alQ ?_);·rw[<-d]
  exact(U.py 3 1).as 0 rfl λo e=>tS.mg e
 |cons k ks=>have hb:ak2 (k::ks).length 1000=true:=akB f;have a:=Ql (k::ks);refine YF.ix (v:=.slice H.next 0 (k::ks).length (k::ks).length false) (H':=H.new (.cells (db ((gj (k::ks)).map λn=>.int 3 n)) (k::ks).length 3 true [] 0)) T.IV (by simp only[xP,ak0,akT,h,hb,bq]) (g _ _ (gj (k::ks)) c (Qm _ b) ?_);have j:=dU.new (H:=H) (e:=3) (size:=1) (n:=(k::ks).length) (vs:=(gj (k::ks)).map aI) (by rw[akg,a];simp) false true;rw[alt]at j;have:=(U.push (bm.new H _) (t:=tS 3 1 ((gj (k::ks)).map aI) (k::ks).length true (.slice H.next 0 (k::ks).length (k::ks).length false)) j (uU H)).as 0 rfl λo e=>tS.mg e;rw[a];exact this
end
def afT:bt:=(.seq (.region [O p4 (.bg (T p0)),O p5 (.j7 (T p4)),O p6 (.arith .sub 3 (T p5) (I 3 1)),O p2 (.bg (I 3 0)),O p3 (.bg (T p6))]) (.block 0 (.loop (.seq (.seq (.region [O p7 (.bg (T p2)),O p8 (.bg (T p3)),O p9 (.arith .lss 3 (T p7) (T p8))]) (.cond (T p9) .skip (.exit 0))) (.seq (.block 1 (.region [O bi (.bg (T p0)),O bk (.bg (T p2)),O bo (.bg (T p0)),O aZ (.bg (T p3)),O br (.bg (T p0)),O bJ (.bg (T p3)),O bN (.dG 1 (T br) (T bJ)),O bR (.aW (T bN)),O bO (.bg (T p0)),O bL (.bg (T p2)),O bK (.dG 1 (T bO) (T bL)),O bT (.aW (T bK)),O ch (.dG 1 (T bi) (T bk)),N (.store 1 (T ch) (T bR)),O bY (.dG 1 (T bo) (T aZ)),N (.store 1 (T bY) (T bT))])) (.region [O aO (.bg (T p2)),O aR (.arith .add 3 (T aO) (I 3 1)),O aY (.bg (T p3)),O aX (.arith .sub 3 (T aY) (I 3 1)),O p2 (.bg (T aR)),O p3 (.bg (T aX))]))))))
theorem afU{l:List AV}{i j x:Nat}{a b:AV}(hi:i<l.length)(hj:j<l.length):((l.set i a).set j b).getD x .co=if x=j then b else if x=i then a else l.getD x .co:=by rw[fu (by simpa using hj),fu hi]
theorem afV{f e:Nat}(r:ac f=.code 28 [] afT){A H:ai}{us:List Th}{l:List AV}{n cap:Nat}{q:ab}{ex:Bool}(o:l.length=n)(h0:0<n)(B:n<1000000)(hv:∀v∈l,v.ee=true/\v.cells=[v]/\v.bB=true)(U:aj A H (tS e 1 l n true (.slice q 0 n cap ex)::us)){K:KT}(s:∀H',aj A H' (tS e 1 l.reverse n true (.slice q 0 n cap ex)::us)->K (iL []) H'):YN ac f [.slice q 0 n cap ex] H K:=by
 have g:∀x,x<n->(l.getD x .co).ee=true/\(l.getD x .co).cells=[l.getD x .co]/\(l.getD x .co).bB=true:=λx d=>by rw[bF af];exact hv _ (agB _)
 refine YF.code r aB ?_;refine au ?_;refine RO.arith (v:=aN (n - 1)) ?_ (hv:=px (k:=n) af af);refine au ?_;refine Ru.nm λS M t p=>?_;refine Ru.cC p (up (P:=λk=>∀j a,a.length=n->(∀x,x<n->a.getD x .co=if x<k\/n<=x+k then l.getD (n - 1 - x) .co else l.getD x .co)->aj A j (tS e 1 a n true (.slice q 0 n cap ex)::us)->Ru ac _ S ([(p2,aN k),(p3,aN (n - 1 - k))]++pk M [p0]) j) (n - 1) (λk C u j a c d U=>?_) 0 af _ l o (λx d=>by rw[aq af]) U);subst t;subst p;refine Ru.loop ?_;refine au ?_;refine Ru.cond (λm=>?_) (λm=>?_)
 .have h:∀x,x<n->(a.getD x .co).ee=true/\(a.getD x .co).cells=[a.getD x .co]/\(a.getD x .co).bB=true:=λx b=>by
   rw[d x b];split;·exact g _ af
   exact g _ b
  have i:∀x,x<n->a[0+x*1]?=some (a.getD x .co):=λx b=>by rw[show 0+x*1=x by exact qoz,bF af];simp
  obtain⟨D,E,F⟩:=h k af;obtain⟨b1,b2,G⟩:=h (n - 1 - k) af;refine tn ?_;refine RO.fD U 0 (hv:=i (n - 1 - k) af) ?_;refine tn ?_;refine RO.fD U 0 (hv:=i k af) ?_;refine tn ?_;refine RO.yK U 0 c (λI U=>?_) (k:=k);refine tn ?_;refine RO.yK (vs:=a.set k (a.getD (n - 1 - k) .co)) (n:=n) U 0 (by rw[ak4];exact c) (λw U=>?_) (k:=n - 1 - k) (ho:=by rw[ak4];exact qoz);refine tn ?_;refine RO.arith (v:=aN (n - 1 - (k+1))) ?_ (hv:=by rw[show n - 1 - (k+1)=n - 1 - k - 1 by exact qoz];exact px (k:=n - 1 - k) af af);refine au ?_;have y:∀x,x<n->((a.set k (a.getD (n - 1 - k) .co)).set (n - 1 - k) (a.getD k .co)).getD x .co=if x<k+1\/n<=x+(k+1)then l.getD (n - 1 - x) .co else l.getD x .co:=λx b=>by
   rw[afU af af];by_cases h1:x=n - 1 - k;·rw[aK h1,aK af,d k af,aq af,h1];congr 1;exact qoz
   rw[aq h1];by_cases h2:x=k;·rw[aK h2,aK af,d _ af,aq af,h2]
   rw[aq h2,d x b];by_cases h3:x<k\/n<=x+k;·rw[aK h3,aK af]
   rw[aq h3,aq af]
  have z:((a.set k (a.getD (n - 1 - k) .co)).set (n - 1 - k) (a.getD k .co)).length=n:=by simpa using c
  exact Ru.wk (u (k+1) af af w _ z y U)
 refine Ru.exitTo ?_;refine au ?_;have e:a=l.reverse:=by
  apply alg (by simp[c,o]);intro x h1 h2;have h3:=d x af;rw[bF h1]at h3;rw[h3,List.getElem_reverse];split;·rw[bF af];congr 1;exact qoz
  rw[bF af];congr 1;exact qoz
 subst e;exact Ru.aA (vs:=[]) trivial (s _ U)
end
section
def Fl(g:G.bu)(os:List (List bV))(lv:List (List Int))(b:Nat)(x:Int):Prop:=
 x∈kV g lv (os.getD b [])\/x∈(aH g b).aA.args\/(∃e∈(aH g b).aA.go,x∈e.args)\/∃w∈wW g os b,x∈lv.getD w []
def C2(sC:List Int)(after:Int->Prop)(aD:List G.ic):Nat->Int->Prop
 |0=>after
 |k+1=>λx=>x∈sC\/x∈(aD.getD (aD.length - 1 - k) default).args\/C2 sC after aD k x/\x≠(aD.getD (aD.length - 1 - k) default).to
abbrev eK(g:G.bu)(os:List (List bV))(lv:List (List Int))(b:Nat):Nat->Int->Prop:=C2 (kV g lv (os.getD b [])) (Fl g os lv b) (aH g b).aD
def A5(a:Nat->ab)(v:AV)(n:Nat)(P:Nat->Int->Prop):List Th:=tS eT 1 ((ake n).map λi=>.map (a i)) n true v::(ake n).map λi=>tM true (a i) (P i)
theorem afW{a:Nat->ab}{v:AV}{n k:Nat}{P:Nat->Int->Prop}(b:k<n):(A5 a v n P)[k+1]?=some (tM true (a k) (P k)):=by simp[b,A5,ak6,aks,List.getElem?_range,akt]
section
variable{g:G.bu}{p s av r:AV}{d:ab}{A H:ai}{h:List AV}{come:List Bool}{os:List (List bV)}{ak:List Nat}{lv:List (List Int)}
theorem Fm{B:G.gV}{i:Nat}(b:i<B.aD.length){x:Int}(a:x∈B.aD[i].args):(x,(i:Int))∈kF B:=by obtain⟨_,c,e⟩:=Px B b;rw[e];exact akq _ (akf _ (akp a))
theorem C3{B:G.gV}{x:Int}(a:x∈B.aA.args):(x,(B.aD.length:Int))∈kF B:=akq _ (akf _ (akp a))
theorem C4{B:G.gV}{e:G.Edge}(he:e∈B.aA.go){x:Int}(a:x∈e.args):(x,(B.aD.length:Int))∈kF B:=by obtain⟨i,hi,rfl⟩:=aka he;obtain⟨_,c,e2⟩:=Py B hi;rw[e2];exact akq _ (akf _ (akp a))
theorem afX(a:yT g come os){b:Nat}(hb:come.getD b false=true){x bH:Int}(e:(x,bH)∈kF (aH g b)):0<=x:=by obtain⟨t,c,_⟩:=a.rd b hb _ e;exact qoz
theorem JW(V:Vd g)(c:cX g come os)(e:e9 g come os ak)(a:gP g come os lv){b:Nat}(hb:come.getD b false=true){x:Int}(f:x∈lv.getD b []):0<=x:=(((a.mem b hb x).1 f).CS V.dO c (V.sG come os c) V.gv e hb).1
theorem afY(V:Vd g)(c:cX g come os)(e:e9 g come os ak)(a:gP g come os lv){b:Nat}(hb:come.getD b false=true){x:Int}(j:x∈kV g lv (os.getD b [])):0<=x:=by
 unfold kV at j;split at j;·rename_i t f;obtain⟨_,_,_,_,i,_⟩:=vD V.dO c hb f;exact JW V c e a i j
 grind
theorem afZ(a:gP g come os lv)(o:List bV):(kV g lv o).length<=6000:=by
 unfold kV;split;·exact a.jx _
 simp
def w6(b e f:ab)(v0:AV)(a:Nat->ab)(c:AV)(k:Nat)(P:Nat->Int->Prop):List Th:=[tB oU b [c],tB eT e [.map (a k)],tB eH f [v0]]++A5 a c (k+1) P
def y6(d b c e f:ab)(g:List AV)(v0:AV)(a:ab)(S:Int->Prop):List Th:=[tB eT b [.map a],tM true a S,tB eH c [v0],tB dW e g,tB iH f [.az d 0]]
theorem af0(T:Tb ac)(V:Vd g)(I:FX g H d p s av r h come os ak lv)(Q:cX g come os)(hO:e9 g come os ak)(F:gP g come os lv){b:Nat}(hb:come.getD b false=true){K:KT}(hF:∀H' v c,aj H H' (A5 c v ((aH g b).aD.length+1) λi=>eK g os lv b ((aH g b).aD.length - i))->K v H'):YN ac Wq [.az d 0,aN b] H K:=by
 have hB:=V.sm;have gd:=hB.nb;have bv:=Q.lt hb;have bS:=I.ro.lt;have d0:=I.ro.aH;have gg:=I.ro.jY;have d1:=I.c6;have⟨gi,_,_,_⟩:=I.ro.sl.all;have⟨gn,_,_,_⟩:=I.bl.all;have⟨d2,_,_,_⟩:=I.sl.all;have a1:=oC bv;have gq:=hB.bl _ a1;have eh:=hB.st _ a1;have d3:=hB.ed _ a1;have d4:g.al[b]=aH g b:=(bF bv _).symm;have b0:=V.sG come os Q;have C:∀{x bH:Int},(x,bH)∈kF (aH g b)->0<=x:=λhF=>afX b0 hb hF;have O:∀{x:Int},x∈kV g lv (os.getD b [])->0<=x:=λhF=>afY V Q hO F hb hF;have gu:=afZ F (os.getD b []);refine YF.code T.abb aB ?_;refine au ?_;refine RO.dL (aj.dc H) λH1 R U=>?_;refine ah ?_;refine RO.aW ?_ (v:=p) (hc:=by rw[U.gr.bh bS];exact d0);refine ah ?_;refine RO.cZ U.gr I.bl (λq9 o9 hD gx a2 gy hat hrd=>?_) (j:=b);rw[d4]at a2;have fN:=a2.one;obtain⟨Y,z,jc,rfl,gA,hvs,W,Z,vg,rfl,a3,_,b3⟩:=a2;have⟨d5,d6,d7,f0⟩:=hvs.all;have⟨d',gH,gL,g0⟩:=a3.all;have⟨g1,_,_,g2⟩:=b3.all;refine ah ?_;refine RO.fx U λH2 L U=>?_;refine ah ?_;refine RO.cl (afQ T V U.gr I Q F hb λH3 v0 ag ea=>?_);have U:=U.cI ea;have⟨g3,g4,g5,_⟩:=ag.all;refine ah ?_;refine RO.fx (us:=[v0]) U λH4 B U=>?_;refine ah ?_;refine RO.Ff U λH5 qm U=>?_;have eb:bh H5 B 0=some v0:=by obtain⟨_,hp⟩:=U.get 1 rfl;exact tB.cell hp rfl
 have ec:B≠qm:=U.ne 1 0 rfl rfl af (λf hF=>hF.1) (λf hF=>hF.1);have ei:L≠qm:=U.ne 2 0 rfl rfl af (λf hF=>hF.1) (λf hF=>hF.1);refine RO.wO (is:=[qm]) eb (by simpa using ec) λH6 ej ek=>?_;have U:=U.bX ek ej;refine ah ?_;have el:bh H6 L 3=some W:=by obtain⟨_,hp⟩:=U.get 2 rfl;exact tB.cell hp rfl
 refine RO.wO (is:=[qm]) el (by simpa using ei) λH7 er et=>?_;have U:=U.bX et er;refine RO.gI U λH8 u U=>?_;have b4:=U.AU (e:=eT) (q:=u) (vs:=[.cY]) 0;have ay:∀j∈ [u],j.an<H8.next.an:=λj hj=>by rw[aep]at hj;subst hj;exact b4.2
 have b5:∀(HY X:ai),bm H HY->X.next=HY.next->(∀j,j∉ [u]->X.get j=HY.get j)->bm H X:=λHY X b6 h1 h2=>⟨by rw[h1];exact b6.nx,λj hj=>by rw[h2 j ?_,b6.dT j hj];simp only[aep];exact λe=>by rw[e]at hj;have:=b4.1;exact qoz⟩;have ar:∀(HY X:ai)(q:ab),q≠u->(∀j,j∉ [u]->X.get j=HY.get j)->X.get q=HY.get q:=λHY X q hq h2=>h2 q (by simpa using hq);have b':qm≠u:=U.ne 1 0 rfl rfl af (λf hF=>hF.1) (λf hF=>hF.1);refine RO.CH (is:=[u]) (Q:=λv ns=>∃E S',v=.map E/\(∀x,S' x↔x∈kV g lv (os.getD b []))/\ns=[tM true E S']) U ay (λX a4 hs=>?_) (λrv ns HU hQ ev U=>?_);·obtain⟨⟨ks,a5,a6⟩,a8,_⟩:=U.nf 1 rfl;refine JU T (ks:=ks) (by rw[ar _ _ _ b' hs];exact a5) (by rw[ar _ _ _ b' hs];exact a8 rfl) ((b5 _ _ U.gr a4 hs).sl ag) af λH9 E S' G hl=>⟨_,hl,E,S',rfl,λx=>?_,rfl⟩;rw[G,a6];simp
 obtain⟨qa,Sa,rfl,ew,rfl⟩:=hQ;refine⟨λaa ca=>il ca rfl rfl d' (a3.bX) (by obtain⟨_,hp⟩:=U.get 4 rfl;exact tB.cell hp rfl) rfl,?_⟩;have cd:qa≠u:=U.ne 0 1 rfl rfl af (λf hF=>hF.1) (λf hF=>hF.1);refine RO.CH (is:=[u]) (Q:=λv ns=>∃E S',v=.map E/\(∀x,S' x↔x∈kV g lv (os.getD b [])\/x∈(aH g b).aA.args)/\ns=[tM true E S']) U (λj hj=>ako (ay j hj) ev.nx) (λX a4 hs=>?_) (λrv ns g6 hQ f1 U=>?_)
 .obtain⟨⟨ks,a5,a6⟩,a8,_⟩:=U.nf 0 rfl;refine JU T (ks:=ks) (by rw[ar _ _ _ cd hs];exact a5) (by rw[ar _ _ _ cd hs];exact a8 rfl) ((b5 _ _ U.gr a4 hs).sl a3) af λH9 E S' G hl=>⟨_,hl,E,S',rfl,λx=>?_,rfl⟩;rw[G,a6,ew];constructor
  .rintro(hF|hF);·exact .inr hF
   exact .inl hF.1
  rintro(hF|hF);·exact .inr ⟨hF,by have:=O hF;exact qoz⟩
  exact .inl hF
 obtain⟨qb,Sb,rfl,ey,rfl⟩:=hQ;refine⟨λaa ca=>rfl,?_⟩;refine RO.gG U 2 (λH9 U=>?_);have U:aj H H9 (y6 d u B L R [Y,z,aU (aH g b).aA.op,W,.str (aH g b).aA.name,Z,vg] v0 qb Sb):=(U.sub (.cons_cons _ (.cons _ (.cons_cons _ (.cons _ (akL _)))))).cM (akS ..);refine ah ?_;refine Ru.nm λS0 M hS hM=>?_;refine Ru.cC hM (up (P:=λk=>∀HX N S,(∀x,S x↔x∈kV g lv (os.getD b [])\/x∈(aH g b).aA.args\/∃e∈(aH g b).aA.go.take k,x∈e.args)->aj H HX (y6 d u B L R [Y,z,aU (aH g b).aA.op,W,.str (aH g b).aA.name,Z,vg] v0 N S)->Ru ac _ S0 ([(bZ,aN k)]++pk M [p1,p2,p5,p6,p7,di,cD]) HX) (aH g b).aA.go.length (λk hk ih HX N S a9 U=>?_) 0 af _ qb Sb (λx=>by rw[ey];simp) U);subst hS;subst hM;refine Ru.loop ?_;refine au ?_;refine Ru.cond (λP=>?_) (λP=>?_)
 .have g7:=d3 _ (agB P);refine ah ?_;refine RO.cZ U.gr b3 (λg8 g9 g' f2 dr f3 fs hrd=>?_) (j:=k);obtain⟨ve,rfl,cf⟩:=dr;have⟨eP,e0,e3,_⟩:=cf.all;refine ah ?_;refine RO.fx U λcn q9 U=>?_;refine ah ?_;refine RO.cl (A4 T U 2 rfl (U.gr.sl cf) af λcp E S' G U=>?_);refine RO.gG U 2 (λaw U=>?_);refine ah ?_;have U:aj H aw (y6 d u B L R [Y,z,aU (aH g b).aA.op,W,.str (aH g b).aA.name,Z,vg] v0 E S'):=(U.sub (.cons_cons _ (.cons _ (.cons_cons _ (.cons _ (akL _)))))).cM (akS ..);exact Ru.wk (ih (k+1) af af aw E S' (λx=>by
   rw[G,a9,<-akd P];constructor
   .rintro(hF|⟨hF|hF|⟨e,he,hF⟩,_⟩);·exact .inr (.inr ⟨_,akq _ (aep.2 rfl),hF⟩)
    .exact .inl hF
    .exact .inr (.inl hF)
    exact .inr (.inr ⟨e,akf _ he,hF⟩)
   rintro(hF|hF|⟨e,he,hF⟩);·exact .inr ⟨.inl hF,by have:=O hF;exact qoz⟩
   .exact .inr ⟨.inr (.inl hF),by have:=C (C3 hF);exact qoz⟩
   rcases ahp.1 he with he|he;·exact .inr ⟨.inr (.inr ⟨e,he,hF⟩),by have:=C (C4 (List.mem_of_mem_take he) hF);exact qoz⟩
   rw[aep]at he;subst he;exact .inl hF) U)
 refine Ru.exitTo ?_;rw[akl af]at a9;have J:=Q.dO b hb;have e4:(g.al.getD b default).aA.op=68->os.getD b []≠ []:=λe5 e=>by obtain⟨o,ho,_⟩:=b0.en b hb e5;rw[e]at ho;cases ho
 refine ah ?_;refine RO.cl (Qc T λcn cv cx hl=>?_);have U:aj H cn ([tB 3 cx [aN b],tB iH cv [.az d 0]]++y6 d u B L R [Y,z,aU (aH g b).aA.op,W,.str (aH g b).aA.name,Z,vg] v0 N S++[]):=by rw[akT];exact U.fC hl
 refine ah ?_;refine Ru.wk (L:=[(cJ,.func Ex [] [.az cv 0,.az cx 0]),(p2,.az R 0),(p5,.az L 0),(p6,.az B 0),(p7,.az u 0)]) ?_;refine Ru.pG (J:=λm ts=>∃N S,(∀x,S x↔x∈kV g lv (os.getD b [])\/x∈(aH g b).aA.args\/(∃e∈(aH g b).aA.go,x∈e.args)\/∃w∈(cS g b (os.getD b [])).take m,x∈lv.getD w.1.toNat [])/\ts=y6 d u B L R [Y,z,aU (aH g b).aA.op,W,.str (aH g b).aA.name,Z,vg] v0 N S) (Dn:=λ_ _=>False) U (Qd T hB I.bl (b:=b) (now:=os.getD b []) (nv:=h.getD b .co) (V.dO.aH J) (V.dO.jY J).1 (by have:=(V.dO.jY J).2;exact qoz) e4) (λH2 hg=>⟨av,h,I.ro.cI (U.gr.trans hg),rfl,(U.gr.trans hg).sl (I.op b hb)⟩) ⟨N,S,λx=>by rw[a9];simp,rfl⟩ (λk args ws hF=>by obtain⟨_,v,rfl,_⟩:=hF;rfl) (λm ts us H' hJ U=>U.gr.sl (I.op b hb)) (λm args ws ts us l o1 o2 H' hE a' hJ U=>?_) (λH' ba dm hJ U=>?_) (λj H' ba dm _ hF=>hF.elim)
 .obtain⟨N,S,ax,rfl⟩:=hJ;obtain⟨cy,v,rfl,eP,e0,e3,_⟩:=a';have U:=U.sub ((List.sublist_append_right _ _).append_right _);have cE:(cS g b (os.getD b []))[m]∈cS g b (os.getD b []):=agB cy;have e6:=(akd cy).symm;obtain⟨ha,hc⟩:=V.dO.CP J _ cE;have e7:=Q.ls hb (E9 cE);generalize(cS g b (os.getD b []))[m]=w at*;obtain⟨t,ht⟩:∃t:Nat,w.1=(t:Int):=⟨w.1.toNat,af⟩;rw[ht,aj3]at e7;have ds:t<lv.length:=by rw[F.len];exact qoz
  have f4:=F.jx t;rw[ht];refine au ?_;refine Ru.dN (xs:=y6 d u B L R [Y,z,aU (aH g b).aA.op,W,.str (aH g b).aA.name,Z,vg] v0 N S) U λcp U=>?_;refine ah ?_;refine RO.aW ?_ (v:=r) (hc:=by rw[U.gr.bh bS];exact d1);refine ah ?_;refine RO.cZ U.gr I.sl (λA hf hh f5 dv f6 bd _=>?_) (j:=t);obtain⟨vl,rfl,bb⟩:=dv;rw[<-bF ds []]at bb;have⟨d2,hm,hn,_⟩:=bb.all;refine ah ?_;refine RO.aW (v:=vl) ?_ (hc:=bd 0 _ rfl);refine RO.cl (A4 T U 1 rfl (U.gr.sl bb) af λaw E S' G U=>?_);refine RO.gG U 1 (λcK U=>?_);refine ah ?_;have U:=(U.sub (.cons_cons _ (.cons_cons _ (.cons _ (akL _))))).cM (akS ..);refine Ru.bG (ts:=y6 d u B L R [Y,z,aU (aH g b).aA.op,W,.str (aH g b).aA.name,Z,vg] v0 E S') U ⟨E,S',λx=>?_,rfl⟩;rw[G,ax,e6];constructor
  .rintro(hF|⟨hF|hF|hF|⟨w2,D,hF⟩,_⟩);·exact .inr (.inr (.inr ⟨_,akq _ (aep.2 rfl),by rw[ht,aj3];exact hF⟩))
   .exact .inl hF
   .exact .inr (.inl hF)
   .exact .inr (.inr (.inl hF))
   exact .inr (.inr (.inr ⟨w2,akf _ D,hF⟩))
  rintro(hF|hF|⟨e,he,hF⟩|⟨w2,D,hF⟩);·exact .inr ⟨.inl hF,by have:=O hF;exact qoz⟩
  .exact .inr ⟨.inr (.inl hF),by have:=C (C3 hF);exact qoz⟩
  .exact .inr ⟨.inr (.inr (.inl ⟨e,he,hF⟩)),by have:=C (C4 he hF);exact qoz⟩
  rcases ahp.1 D with D|D;·refine .inr ⟨.inr (.inr (.inr ⟨w2,D,hF⟩)),?_⟩;have:=JW V Q hO F (Q.ls hb (E9 (List.mem_of_mem_take D))) hF;exact qoz
  rw[aep]at D;subst D;rw[ht,aj3]at hF;exact .inl hF
 obtain⟨N,S,ax,rfl⟩:=hJ;rw[ak7]at ax;have dx:∀k,k<=(aH g b).aD.length->∀x,eK g os lv b k x->0<=x:=by
  intro k;induction k with
  |zero=>
   rintro _ x(hF|hF|⟨e,he,hF⟩|⟨w,D,hF⟩);·exact O hF
   .exact C (C3 hF)
   .exact C (C4 he hF)
   exact JW V Q hO F (Q.ls hb D) hF
  |succ k ih=>
   rintro hk x(hF|hF|⟨hF,_⟩);·exact O hF
   .rw[bF af]at hF;exact C (Fm _ hF)
   exact ih af x hF
 have U:=U.CT (S':=eK g os lv b 0) 1 rfl λx=>by
  rw[ax];refine or_congr Iff.rfl (or_congr Iff.rfl (or_congr Iff.rfl ⟨?_,?_⟩));·rintro⟨w,D,hF⟩;exact⟨_,E9 D,hF⟩
  rintro⟨w,D,hF⟩;simp only[wW,mK,akk]at D;obtain⟨w2,e8,rfl⟩:=D;exact⟨w2,e8,hF⟩
 refine ah ?_;refine RO.lf U 1 (λcp e' U=>?_) (ws:=[.map N]) (n:=1);refine RO.fx U λaw A U=>?_;refine ah ?_;refine RO.gU U 5 ?_;refine RO.cl (Fc T.abw bA d5 d6 d7 λcK c3 hl=>?_);have U:=U.fC hl;refine ah ?_;refine Ru.wk (L:=[(fy,.func WZ [] [.az c3 0]),(p6,.az B 0),(p7,.az u 0),(aR,.az A 0)]) ?_;have U:aj H cK ([tB NG c3 [z]]++w6 A u B v0 (λ_=>N) (.slice e' 0 1 1 true) 0 (eK g os lv b)++[tB dW L [Y,z,aU (aH g b).aA.op,W,.str (aH g b).aA.name,Z,vg],tB iH R [.az d 0],tX dm (.deferred false)]):=(((U.gk 5 rfl).gk 4 rfl).gk 3 rfl).gk 3 rfl;refine Ru.pG (J:=λk ts=>∃c sv,sv.bB=true/\sv.ee=true/\sv.cells=[sv]/\ts=w6 A u B v0 c sv k (eK g os lv b)) (Dn:=λ_ _=>False) U (Fb (R:=qT H) (agg:=true) (size:=6) (la:=(aH g b).aD) (sv:=z) (e:=NG) (nt:=19) T.abQ bA af (λhF=>by cases hF) (λa cs hF=>rfl)) (λH2 hg=>by obtain⟨w,h1,h2⟩:=hvs;exact⟨w,(U.gr.trans hg).sl h1,h2⟩) ⟨_,_,rfl,rfl,rfl,rfl⟩ (λk args ws hF=>by obtain⟨_,_,_,_,rfl⟩:=hF;rfl) (λk ts us H' hJ U=>by obtain⟨w,h1,h2⟩:=hvs;exact⟨w,U.gr.sl h1,h2⟩) (λk args ws ts us l o1 o2 H' hk a' hJ U=>?_) (λH' ba bc hJ U=>?_) (λj H' ba dm _ hF=>hF.elim)
 .obtain⟨rfl,c5,cs,fa,rfl⟩:=a';obtain⟨c,sv,dy,dz,dD,rfl⟩:=hJ;have hr:=(eh _ (agB c5)).1;have fb:(aH g b).aD.getD ((aH g b).aD.length - 1 - k) default=(aH g b).aD[(aH g b).aD.length - 1 - k]:=bF c5 _;have fd:∀{x:Int},x∈(aH g b).aD[(aH g b).aD.length - 1 - k].args->0<=x:=λhF=>C (Fm _ hF);have fe:=dx k af;have fk:∀x,eK g os lv b (k+1) x↔x∈kV g lv (os.getD b [])\/x∈(aH g b).aD[(aH g b).aD.length - 1 - k].args\/eK g os lv b k x/\x≠(aH g b).aD[(aH g b).aD.length - 1 - k].to:=λx=>by rw[<-fb];exact Iff.rfl
  generalize(aH g b).aD[(aH g b).aD.length - 1 - k]=st at*;obtain⟨c8,rfl,a0⟩:=fa;have⟨f7,f8,f9,_⟩:=a0.all;refine ah ?_;refine RO.fx U λc9 c' U=>?_;refine ah ?_;refine Ru.dN (xs:=tB qU c' [aU st.op,aI st.to,c8,aI st.n,aI st.m,.str st.name]::w6 A u B v0 c sv k (eK g os lv b)) U λhw U=>?_;refine ah ?_;have hat:∀(us:List Th),(tB qU c' [aU st.op,aI st.to,c8,aI st.n,aI st.m,.str st.name]::(w6 A u B v0 c sv k (eK g os lv b)++us))[4+(k+1)]?=some (tM true (c k) (eK g os lv b k)):=λus=>by simp only[w6,aj2];exact rr (xs:=[_,_,_,_]) (afW af)
  refine RO.EN (i:=B) (o:=0) (v:=v0) (A4 T U (4+(k+1)) (hat _) (U.gr.sl a0) af λhx q1 S1 fl U=>⟨by obtain⟨_,hp⟩:=U.get 4 rfl;exact tB.cell hp rfl,?_⟩) (hvs:=ag.bX);refine RO.cl (A4 T U 0 rfl (U.gr.sl ag) af λhy y S2 dE U=>?_);refine RO.gG U 4 (λhz U=>?_);refine ah ?_;refine RO.push U 6 (λw0 hA v2 U=>?_) (ws:=[.map y]);have⟨fo,fp,fq,_⟩:=(U.sl (e:=eT) (size:=1) (n:=k+1+1) (full:=true) (sv:=v2) 6).all;refine RO.gG U 3 (λhC U=>?_);refine ah ?_;have U:=U.CT (S':=eK g os lv b (k+1)) 0 rfl λx=>by
   rw[fk,dE,fl];constructor
   .rintro(hF|⟨hF|hF,_⟩);·exact .inl hF
    .exact .inr (.inl hF)
    exact .inr (.inr hF)
   rintro(hF|hF|hF);·exact .inl hF
   .exact .inr ⟨.inl hF,by have:=fd hF;exact qoz⟩
   exact .inr ⟨.inr hF,by have:=fe x hF.1;exact qoz⟩
  have U:=U.sub (.cons_cons _ (.cons _ (.cons _ (akL _))));have e1:w6 A u B v0 (λj=>if j=k+1 then y else c j) v2 (k+1) (eK g os lv b)=[tB oU A [v2],tB eT u [.map y],tB eH B [v0]]++((tS eT 1 ((ake (k+1)).map (λi=>AV.map (c i))++[.map y]) (k+1+1) true v2::(ake (k+1)).map λi=>tM true (c i) (eK g os lv b i))++[tM true y (eK g os lv b (k+1))]):=by
   have f':(ake (k+1+1)).map (λi=>AV.map (if i=k+1 then y else c i))=(ake (k+1)).map (λi=>AV.map (c i))++[.map y]:=by
    rw[alb,akE];congr 1;·exact alk λi hi=>by rw[ak3]at hi;rw[aq af]
    simp
   have gb:(ake (k+1+1)).map (λi=>tM true (if i=k+1 then y else c i) (eK g os lv b i))=(ake (k+1)).map (λi=>tM true (c i) (eK g os lv b i))++[tM true y (eK g os lv b (k+1))]:=by
    rw[alb,akE];congr 1;·exact alk λi hi=>by rw[ak3]at hi;rw[aq af]
    simp
   simp only[w6,A5,f',gb,aK,akV]
  refine Ru.bG (ts:=w6 A u B v0 (λj=>if j=k+1 then y else c j) v2 (k+1) (eK g os lv b)) ?_ ⟨_,v2,fo,fp,fq,rfl⟩;rw[e1];have U:=U.cM (akj (l₁:=[tB oU A [v2],tB eT u [.map y],tB eH B [v0]]++(tS eT 1 ((ake (k+1)).map (λi=>AV.map (c i))++[.map y]) (k+1+1) true v2::(ake (k+1)).map λi=>tM true (c i) (eK g os lv b i))) (l₂:=tX l o2::us)).symm;simpa only[aj2,akV,ak0]using U
 obtain⟨c,sv,dy,dz,dD,rfl⟩:=hJ;refine ah ?_;obtain⟨q,cap,ex,rfl⟩:=U.uT (e:=eT) (size:=1) (n:=(aH g b).aD.length+1) (full:=true) (sv:=sv) 3 rfl af;have U:=U.gk 3 rfl;refine RO.cl (afV T.abx (n:=(aH g b).aD.length+1) aB af af (λv hv=>by obtain⟨i,_,rfl⟩:=akk.1 hv;exact⟨rfl,rfl,rfl⟩) U λc9 U=>?_);refine ah ?_;have e1:((ake ((aH g b).aD.length+1)).map λi=>AV.map (c i)).reverse=(ake ((aH g b).aD.length+1)).map λi=>AV.map (c ((aH g b).aD.length - i)):=by apply alg aB;intro i h1 h2;simp only[List.length_reverse,akg,List.length_range]at h1;simp only[List.getElem_reverse,akg,List.length_range,akN,alA];congr 2
 have e2:((ake ((aH g b).aD.length+1)).map λi=>tM true (c i) (eK g os lv b i)).reverse=(ake ((aH g b).aD.length+1)).map λi=>tM true (c ((aH g b).aD.length - i)) (eK g os lv b ((aH g b).aD.length - i)):=by apply alg aB;intro i h1 h2;simp only[List.length_reverse,akg,List.length_range]at h1;simp only[List.getElem_reverse,akg,List.length_range,akN,alA];congr 2
 rw[e1]at U;have U:aj H c9 (tS eT 1 ((ake ((aH g b).aD.length+1)).map λi=>AV.map (c ((aH g b).aD.length - i))) ((aH g b).aD.length+1) true (.slice q 0 ((aH g b).aD.length+1) cap ex)::tB oU A [.slice q 0 ((aH g b).aD.length+1) cap ex]::tB eT u [.map (c (aH g b).aD.length)]::tB eH B [v0]::(((ake ((aH g b).aD.length+1)).map λi=>tM true (c i) (eK g os lv b i))++(tX bc (.deferred false)::[tB dW L [Y,z,aU (aH g b).aA.op,W,.str (aH g b).aA.name,Z,vg],tB iH R [.az d 0],tX dm (.deferred false)]))):=U;have U:=U.sub (.cons_cons _ (.cons _ (.cons _ (.cons _ ((akL _).append (.cons_cons _ (.cons _ (.cons _ (akL _)))))))));have U:=U.cM ((akH (l₁:=tS eT 1 ((ake ((aH g b).aD.length+1)).map λi=>AV.map (c ((aH g b).aD.length - i))) ((aH g b).aD.length+1) true (.slice q 0 ((aH g b).aD.length+1) cap ex)::(ake ((aH g b).aD.length+1)).map λi=>tM true (c i) (eK g os lv b i)) (l₂:=[tX bc (.deferred false),tX dm (.deferred false)])).trans (List.Perm.append_left _ (akO _ (List.reverse_perm _).symm)));rw[e2]at U;exact Ru.mI (M:=[bc,dm]) U λH' U=>⟨[.slice q 0 ((aH g b).aD.length+1) cap ex],⟨rfl,rfl,trivial⟩,hF H' _ (λi=>c ((aH g b).aD.length - i)) U⟩
end
end
section
def JX(ac:Nat->aG)(A:ai)(y:AV)(G:(Int->Prop)->Prop)(J:List (Int->Prop)->List Th->Prop):Prop:=
 ∀b S q e us H,G S->J b e->aj A H (tM false q S::(e++us))->YF ac y [.map q] H λv H'=>v=.bool true/\∃d,J (b++[S]) d/\aj A H' (tM false q S::(d++us))
def Qn(ac:Nat->aG)(A:ai)(fv:AV)(G:(Int->Prop)->Prop)(e:List (Int->Prop))(f:List Th):Prop:=
 ∀y J d us H(K:KT),y.bB=true->y.ee=true->y.cells=[y]->JX ac A y G J->J [] d->aj A H (f++d++us)->(∀H' b v,aj A H' (b++us)->J e b->K v H')->YF ac fv [y] H K
theorem Ru.af1{A H:ai}{us:List Th}{L:Kn}{K:cP->Fr->ai->Prop}{M:List ab}{s:List SI}{f:aJ}{p:ab}{dN body:bt}{fv:AV}{G:(Int->Prop)->Prop}{O:List (Int->Prop)}{Ps ts0:List Th}{J:List (Int->Prop)->List Th->Prop}(U:aj A H (Ps++ts0++us))(Q:Qn ac A fv G O Ps)(R:J [] ts0)(T:∀b S q g us l o1 o2 H,G S->J b g->aj A H (tM false q S::(g++tX l o1::us))->Ru ac (EV ac l o1 o2 body (yJ A l o2 us (λe=>∃t2,e=tM false q S::t2/\J (b++[S]) t2) λ_ _=>False)) [.code dN] (AT [p] [.map q] L) H)(y:∀H' e P,J O e->aj A H' (e++tX P (.deferred false)::us)->Ru ac ⟨K,P::M,none⟩ s L H')(V:bf L f=fv:=by exact cw)(D:fv.bB=true:=by first|rfl|assumption):Ru ac ⟨K,M,none⟩ (.code (.rangeFunc f [p] dN body)::s) L H:=by
 intro aa t;have E:=U.AQ (.deferred false);have u:=E.AQ (.loop .ready .none 0 aa [p] dN body H.next);have w:=u.cM OM;generalize hl:(H.new (.deferred false)).next=l at u w;generalize F:((H.new (.deferred false)).new (.loop .ready .none 0 aa [p] dN body H.next))=W at u w;have key:=Q (.yield l) (λb e=>∃g,e=tX l (.loop .ready .none 0 aa [p] dN body H.next)::g/\J b g) _ _ W (λ_ H'=>match H'.get l with
  |.loop st cB fn z X Y Z d=>match st with|.busy=>False|_=>kh ac K s cB ⟨aa,H.next::M,none⟩ (H'.set l (.loop .exhausted cB fn z X Y Z d))
  |_=>False) rfl rfl rfl ?_ ⟨ts0,rfl,R⟩ w ?_;·obtain⟨n,hn⟩:=key;refine⟨n+1,?_⟩;simp only[Xc,exec];rw[hl,F,t.gv V D];exact hn
 .rintro b S q _ k C hG⟨g,rfl,I⟩r;have x:aj A C ((tM false q S::g)++tX l (.loop .ready .none 0 aa [p] dN body H.next)::k):=r.cM (I9 (ws:=[_]));have i:C.get l=.loop .ready .none 0 aa [p] dN body H.next:=x.rj (tM false q S::g).length aB;have B:=T b S q g k l _ (.loop .busy .none 0 aa [p] dN body H.next) C hG I x (ph [p] [.map q] aa) t.pr;refine ON i rfl B (λH' e h1 h2=>?_) (λj H' e hj h1 h2=>h2.elim);obtain⟨t2,rfl,h2⟩:=h2;refine⟨rfl,tX l _::t2,⟨t2,rfl,h2⟩,?_⟩;have:=h1.tV (q:=l) (o:=.loop .busy .none 0 aa [p] dN body H.next) (tM false q S::t2).length aB (.loop .ready .none 0 aa [p] dN body H.next);rw[show((tM false q S::t2)++tX l (.loop .busy .none 0 aa [p] dN body H.next)::k).set (tM false q S::t2).length (tX l (.loop .ready .none 0 aa [p] dN body H.next))=(tM false q S::t2)++tX l (.loop .ready .none 0 aa [p] dN body H.next)::k by simp]at this;exact this.cM (I9 (ws:=[_])).symm
 rintro H' _ v r⟨g,rfl,N⟩;have i:=r.rj 0 rfl;simp only[i];exact y _ g _ N (r.tV 0 rfl _).tail aa t
section
variable{g:G.bu}{c h av m:AV}{a:ab}{A H:ai}{o:List AV}{come:List Bool}{os:List (List bV)}{ak:List Nat}{lv:List (List Int)}
theorem Qo(T:Tb ac){n:Nat}(x:n<=6000)(p:bh H a 1=some (aN n)){K:KT}(A:∀H' v,aj H H' [tS 3 1 ((ake n).map aN) n true v]->K v H'):YN ac WO [.az a 0] H K:=by
 refine YF.code T.abD aB ?_;refine ah ?_;refine Ru.nm λg M i e=>?_;refine Ru.cC e (up (P:=λk=>∀d v,aj H d [tS 3 1 ((ake k).map aN) k true v]->Ru ac _ g ([(p9,aN k),(p2,v)]++pk M [p8]) d) n (λk y j d v U=>?_) 0 af _ .aS ((aj.dc H).py 3 1));subst i;subst e;have⟨q,r,s,_⟩:=(U.sl (e:=3) (size:=1) (sv:=v) (vs:=(ake k).map aN) (n:=k) (full:=true) 0).all;refine Ru.loop ?_;refine au ?_;refine Ru.cond (λb=>?_) (λb=>?_);·refine au ?_;refine RO.push U 0 (λz l f U=>?_) (ws:=[aN k]);have⟨t,u,w,_⟩:=(U.sl (e:=3) (size:=1) (n:=k+1) (full:=true) (sv:=f) 0).all;refine au ?_;exact Ru.wk (j (k+1) af af l f (by rw[alb,akE];exact U))
 refine Ru.exitTo ?_;obtain rfl:k=n:=af;refine au ?_;exact Ru.aV (A _ v U)
def pK(g:G.bu)(b:Nat):List Int:=if b=0 then(ake g.params.toNat).map λ(v:Nat)=>(v:Int)else(aH g b).params
def rB(g:G.bu)(os:List (List bV))(lv:List (List Int))(b:Nat):Int->Prop:=λx=>x∈pK g b\/eK g os lv b (aH g b).aD.length x
def sI(g:G.bu)(os:List (List bV))(lv:List (List Int))(b i:Nat):List (Int->Prop):=[eK g os lv b ((aH g b).aD.length - i),λx=>x=((aH g b).aD.getD i default).to/\x≠ -1\/eK g os lv b ((aH g b).aD.length - (i+1)) x]
def rC(g:G.bu)(os:List (List bV))(lv:List (List Int))(b:Nat):List (Int->Prop):=(rB g os lv b::(ake (aH g b).aD.length).flatMap (sI g os lv b))++[eK g os lv b 0]
def gY(g:G.bu)(os:List (List bV))(lv:List (List Int))(ak:List Nat):List (Int->Prop):=ak.flatMap (rC g os lv)
def Fp(g:G.bu)(S:Int->Prop):Prop:=∀x,S x->0<=x/\x<g.bp
theorem JY(V:Vd g)(d:yT g come os){b:Nat}(hb:come.getD b false=true){x bH:Int}(i:(x,bH)∈kF (aH g b)):0<=x/\x<g.bp:=by obtain⟨t,e,f,_⟩:=d.rd b hb _ i;have:=E' V.gv.v0;simp only at e;exact qoz
theorem Qp(V:Vd g)(e:cX g come os)(f:e9 g come os ak)(d:gP g come os lv){b:Nat}(hb:come.getD b false=true){x:Int}(i:x∈lv.getD b []):0<=x/\x<g.bp:=
 have h1:=((d.mem b hb x).1 i).CS V.dO e (V.sG come os e) V.gv f hb
 ⟨h1.1,h1.2.1⟩
theorem Qq(V:Vd g)(e:cX g come os)(f:e9 g come os ak)(d:gP g come os lv){b:Nat}(hb:come.getD b false=true){x:Int}(k:x∈kV g lv (os.getD b [])):0<=x/\x<g.bp:=by
 unfold kV at k;split at k;·rename_i t i;obtain⟨_,_,_,_,j,_⟩:=vD V.dO e hb i;exact Qp V e f d j k
 cases k
theorem af2(V:Vd g)(i:cX g come os)(j:e9 g come os ak)(d:gP g come os lv){b:Nat}(hb:come.getD b false=true):∀k,k<=(aH g b).aD.length->Fp g (eK g os lv b k):=by
 have f:=V.sG come os i;intro k;induction k with
 |zero=>
  rintro _ x(q|q|⟨e,he,q⟩|⟨w,l,q⟩);·exact Qq V i j d hb q
  .exact JY V f hb (C3 q)
  .exact JY V f hb (C4 he q)
  exact Qp V i j d (i.ls hb l) q
 |succ k n=>
  rintro p x(q|q|⟨q,_⟩);·exact Qq V i j d hb q
  .rw[bF af]at q;exact JY V f hb (Fm _ q)
  exact n af x q
theorem JZ{B:G.gV}{i:Nat}(f:i<B.aD.length)(b:B.aD[i].to≠ -1):(B.aD[i].to,(i:Int))∈dC B:=by obtain⟨d,e,_⟩:=Jv B f b;rw[<-e];exact agB d
theorem J4{B:G.gV}{x:Int}(b:x∈B.params):(x, -1)∈dC B:=akf _ (akp b)
theorem Qr(V:Vd g){b:Nat}(hb:b<g.al.length):∀x∈pK g b,0<=x/\x<g.bp:=by
 intro x d;unfold pK at d;split at d;·obtain⟨v,e,rfl⟩:=akk.1 d;rw[ak3]at e;have:=V.fm.fv.h1;have:=V.fm.fv.h0;exact qoz
 exact V.qA _ (oC hb) _ (J4 d)
end
end
section
theorem Ru.Qs{c:Cx}{s:List SI}{x:SI}{L:Kn}{H:ai}(P:Kn->ai->Prop)(h1:∀M H',P M H'->Ru ac c s M H')(h2:(∀H' a M,P M H'->ky M a->Ru ac c s a H')->Ru ac c (x::s) L H):Ru ac c (x::s) L H:=h2 λH' a M b hl=>(h1 M H' b).rZ hl
def lx(a:Nat->ab)(P:Nat->Int->Prop)(ex:Nat->Bool)(n:Nat):List Th:=(ake n).map λj=>tM (ex j) (a j) (P j)
theorem J5{ids:Nat->ab}{P:Nat->Int->Prop}{ex:Nat->Bool}{n i:Nat}(hi:i<n):(lx ids P ex n)[i]?=some (tM (ex i) (ids i) (P i)):=by simp[hi,lx,aks,List.getElem?_range,akt]
theorem af3{a:Nat->ab}{P:Nat->Int->Prop}{ex:Nat->Bool}{n i:Nat}(hi:i<n):(lx a P ex n).set i (tM false (a i) (P i))=lx a P (λj=>if j=i then false else ex j) n:=by apply alg (by simp[lx]);intro j h1 h2;simp only[lx,List.getElem_set,akN,alA];grind
theorem J6{b:Type}:∀{l:List b}{i:Nat}(c:i<l.length),(l[i]::l.eraseIdx i).Perm l|a::l,0,_=>alM _|a::l,i+1,c=>(akS a (l[i]'(by grind)) _).trans (akO a (J6 (l:=l) (i:=i) (by grind)))
section
variable{A H:ai}{y:AV}{G:(Int->Prop)->Prop}{J:List (Int->Prop)->List Th->Prop}{X ts us:List Th}{h:List (Int->Prop)}
theorem J7(c:JX ac A y G J){S:Int->Prop}{q:ab}{b:Bool}(g:G S)(i:J h ts)(U:aj A H (tM b q S::(X++(ts++us)))):YF ac y [.map q] H λv H'=>v=.bool true/\∃a,J (h++[S]) a/\aj A H' (tM false q S::(X++(a++us))):=by have h1:=U.as (t':=tM false q S) 0 rfl λk e=>⟨e.1,e.2.1,e.2.2.1,(λl=>by cases l),e.2.2.2.2⟩;have h2:=h1.cM (akO _ (List.perm_append_comm_assoc X ts us));refine(c h S q ts (X++us) H g i h2).mono ?_;rintro v H'⟨rfl,a,h3,j⟩;exact⟨rfl,a,h3,j.cM (akO _ (List.perm_append_comm_assoc a X us))⟩
theorem J8(b:JX ac A y G J){ids:Nat->ab}{P:Nat->Int->Prop}{ex:Nat->Bool}{n i:Nat}(hi:i<n)(l:G (P i))(m:J h ts)(U:aj A H (X++(lx ids P ex n++(ts++us)))):YF ac y [.map (ids i)] H λv H'=>v=.bool true/\∃a,J (h++[P i]) a/\aj A H' (X++(lx ids P (λj=>if j=i then false else ex j) n++(a++us))):=by
 have hat:=J5 (ids:=ids) (P:=P) (ex:=ex) hi;obtain⟨c,e⟩:=akR.1 hat;have k:(X++(lx ids P ex n++(ts++us))).Perm (tM (ex i) (ids i) (P i)::((X++(lx ids P ex n).eraseIdx i)++(ts++us))):=by have h1:=(J6 c).symm;rw[e]at h1;have h2:=(h1.append_right (ts++us)).append_left X;refine h2.trans ?_;rw[aj2];exact akj
 refine(J7 b l m (U.cM k)).mono ?_;rintro v H'⟨rfl,a,h3,q⟩;refine⟨rfl,a,h3,q.cM ?_⟩;rw[<-af3 hi];have g:i<((lx ids P ex n).set i (tM false (ids i) (P i))).length:=by simpa using c
 have h1:=J6 g;rw[List.getElem_set_self,List.eraseIdx_set_eq]at h1;have h2:=(h1.append_right (a++us)).append_left X;refine List.Perm.trans ?_ h2;rw[aj2];exact akj.symm
end
theorem af4(a:Nat->ab)(v:AV)(n:Nat)(P:Nat->Int->Prop):A5 a v n P=tS eT 1 ((ake n).map λi=>.map (a i)) n true v::lx a P (λ_=>true) n:=rfl
section
variable{g:G.bu}{p o av r:AV}{f d:ab}{A H:ai}{t:List AV}{come:List Bool}{os:List (List bV)}{ak:List Nat}{lv:List (List Int)}
def w7(b d f:ab)(c:List AV)(a:Nat->ab)(v:AV)(n:Nat):List Th:=[tB dW b c,tB iH d [.az f 0],tS eT 1 ((ake n).map λi=>.map (a i)) n true v]
theorem af5(T:Tb ac)(V:Vd g)(L:FX g A f p o av r t come os ak lv)(hK:cX g come os)(hO:e9 g come os ak)(a6:gP g come os lv):Qn ac A (.func Iv [] [.az d 0]) (Fp g) (gY g os lv ak) [tB iH d [.az f 0]]:=by
 intro y J ts us H K dx dy dz c R U bS;have hB:=V.sm;have dD:=hB.nb;have ag:=L.ro.lt;have b6:=L.ro.aH;have b':=L.c4;have⟨dE,_,_,_⟩:=L.bl.all;have⟨d0,d1,d2,d3⟩:=L.od.all;have d4:ak.length<=g.al.length:=vB _ _ hO.nd λx hx=>hK.lt ((hO.mem x).1 hx);have d5:=V.sG come os hK;have d6:=V.fm.fv.h2;have d7:=V.fm.fv.h0;have d':=V.fm.fv.h1;obtain⟨np,a8⟩:∃n:Nat,g.params=(n:Int):=⟨g.params.toNat,af⟩;refine YF.code T.abC aB ?_;refine ah ?_;refine RO.aW ?_ (v:=o) (hc:=by rw[U.gr.bh ag];exact b');refine ah ?_;have U:aj A H (tB iH d [.az f 0]::(ts++us)):=U;refine Ru.nm λS0 M hS hM=>?_;refine Ru.cC hM (up (P:=λk=>∀S ts,J ((ak.take k).flatMap (rC g os lv)) ts->aj A S (tB iH d [.az f 0]::(ts++us))->Ru ac _ S0 ([(bo,aN k)]++pk M [p0,p1,bi,bk]) S) ak.length (λk hk ih S ts R U=>?_) 0 af _ ts R U);subst hS;subst hM;refine Ru.loop ?_;refine au ?_;refine Ru.cond (λG=>?_) (λG=>?_)
 .have ar:=(hO.mem _).1 (agB G);have a9:ak.take (k+1)=ak.take k++[ak[k]]:=(akd G).symm;have ih:=ih (k+1) af af;rw[a9,akD,akK]at ih;clear a9;refine ah ?_;refine RO.lg U.gr L.od (λB o5 ea eb=>?_) (j:=k);generalize(ak.take k).flatMap (rC g os lv)=h0 at*;generalize ak[k]=b at*;have aw:=hK.lt ar;have ax:=oC aw;have ec:=hB.bl _ ax;have eh:=hB.st _ ax;have ca:g.al[b]=aH g b:=(bF aw _).symm;refine ah ?_;refine RO.aW ?_ (v:=p) (hc:=by rw[U.gr.bh ag];exact b6);refine ah ?_;refine RO.cZ U.gr L.bl (λq9 o9 e4 ei ay ej hat hrd=>?_) (j:=b);rw[ca]at ay;have c5:=ay.one;obtain⟨N,u,jc,rfl,a',ba,W,X,Y,rfl,ek,_,el⟩:=ay;have⟨er,et,ev,c8⟩:=ba.all;have⟨ew,_,_,_⟩:=a'.all;refine ah ?_;refine RO.fx U λH2 B U=>?_;refine ah ?_;refine RO.cl (af0 T V (L.cI U.gr) hK hO a6 ar λH3 v ids hl=>?_);have U:=U.fC hl;have z:=af2 V hK hO a6 ar;have cd:=Qr V (b:=b) aw;obtain⟨q,cap,a,rfl⟩:=U.uT (e:=eT) (size:=1) (n:=(aH g b).aD.length+1) (full:=true) (sv:=v) 0 rfl af;rw[af4]at U;have U:aj A H3 (w7 B d f [N,u,aU (aH g b).aA.op,W,.str (aH g b).aA.name,X,Y] ids (.slice q 0 ((aH g b).aD.length+1) cap a) ((aH g b).aD.length+1)++(lx ids (λi=>eK g os lv b ((aH g b).aD.length - i)) (λ_=>true) ((aH g b).aD.length+1)++(ts++us))):=by have h9:=U.cM (List.perm_append_comm_assoc (tS eT 1 ((ake ((aH g b).aD.length+1)).map λi=>AV.map (ids i)) ((aH g b).aD.length+1) true (.slice q 0 ((aH g b).aD.length+1) cap a)::lx ids (λi=>eK g os lv b ((aH g b).aD.length - i)) (λ_=>true) ((aH g b).aD.length+1)) [tB dW B [N,u,aU (aH g b).aA.op,W,.str (aH g b).aA.name,X,Y],tB iH d [.az f 0]] (ts++us));exact h9
  have O:∀i,i<(aH g b).aD.length+1->((ake ((aH g b).aD.length+1)).map λi=>AV.map (ids i))[0+i*1]?=some (.map (ids i)):=λi hi=>by rw[show 0+i*1=i by exact qoz,aks,List.getElem?_range hi];rfl
  refine ah ?_;refine Ru.Qs (P:=λM H'=>∃pv,fZ H' (pK g b) pv/\M=[(p7,pv),(p0,y),(p1,.az d 0),(p4,aN b),(p5,.az B 0),(p6,.slice q 0 ((aH g b).aD.length+1) cap a),(bi,o),(bk,aN ak.length),(bo,aN k)]/\aj A H' (w7 B d f [N,u,aU (aH g b).aA.op,W,.str (aH g b).aA.name,X,Y] ids (.slice q 0 ((aH g b).aD.length+1) cap a) ((aH g b).aD.length+1)++(lx ids (λi=>eK g os lv b ((aH g b).aD.length - i)) (λ_=>true) ((aH g b).aD.length+1)++(ts++us)))) (λM H' hM=>?_) (λl=>?_);rotate_left
  .refine Ru.cond (λa0=>?_) (λa0=>?_)
   .refine ah ?_;refine RO.cl (Qo T (n:=np) af (by rw[U.gr.bh ag,L.c1,a8];rfl) λH4 pv bb=>?_);have cf:=U.cI bb.gr;have C:fZ H4 (pK g b) pv:=by
     have h9:=bb.sl (e:=3) (size:=1) (sv:=pv) (vs:=(ake np).map aN) (n:=np) (full:=true) 0;have e:pK g b=(ake np).map λ(v:Nat)=>(v:Int):=by rw[pK,aK (by simpa using a0),a8,aj3]
     rw[e];have e2:((ake np).map λ(v:Nat)=>(v:Int)).map aI=(ake np).map aN:=by rw[alx];rfl
     unfold fZ;rw[e2,akg,List.length_range];exact h9
    have⟨b0,_,_,_⟩:=C.all;refine RO.bg ?_;refine RO.nil ?_;refine l _ _ _ ⟨pv,C,rfl,cf⟩ ?_;exact fB
   refine Ru.skip ?_;refine l _ _ _ ⟨N,by rw[pK,aq (by simpa using a0)];exact U.gr.sl a',rfl,U⟩ ?_;exact fB
  obtain⟨pv,C,rfl,U⟩:=hM;have⟨b0,_,_,_⟩:=C.all;have c9:(pK g b).length<=6000:=by
   unfold pK;split;·simp;exact qoz
   exact qoz
  refine ah ?_;refine RO.fD U 2 (hv:=O 0 af) ?_;refine ah ?_;have cn:Fp g (rB g os lv b):=λx hx=>hx.elim (cd x) (z _ (afb _) x);refine RO.cl (A4 T U 3 (rr (i:=0) (xs:=w7 _ _ _ _ _ _ _) (J5 af)) C af λH5 q6 S6 cp U=>?_);have U:=U.CT (S':=rB g os lv b) 0 rfl λx=>by rw[cp];exact or_congr Iff.rfl ⟨λe5=>e5.1,λe5=>⟨e5,by have:=z _ (afb _) x e5;exact qoz⟩⟩
  have U:aj A H5 (tM true q6 (rB g os lv b)::((w7 B d f [N,u,aU (aH g b).aA.op,W,.str (aH g b).aA.name,X,Y] ids (.slice q 0 ((aH g b).aD.length+1) cap a) ((aH g b).aD.length+1)++lx ids (λi=>eK g os lv b ((aH g b).aD.length - i)) (λ_=>true) ((aH g b).aD.length+1))++(ts++us))):=by rw[aj2];exact U
  refine RO.cl ((J7 c cn R U).mono ?_);rintro v H6⟨rfl,cv,a1,U⟩;have U:=U.tail;rw[aj2]at U;refine ah ?_;refine Ru.nm λS1 M1 cx bc=>?_;have a1:J ((h0++[rB g os lv b])++(ake 0).flatMap (sI g os lv b)) cv:=by simpa using a1
  refine Ru.cC bc (up (P:=λi=>∀S ts ex,J ((h0++[rB g os lv b])++(ake i).flatMap (sI g os lv b)) ts->(∀j,i<j->ex j=true)->aj A S (w7 B d f [N,u,aU (aH g b).aA.op,W,.str (aH g b).aA.name,X,Y] ids (.slice q 0 ((aH g b).aD.length+1) cap a) ((aH g b).aD.length+1)++(lx ids (λi=>eK g os lv b ((aH g b).aD.length - i)) ex ((aH g b).aD.length+1)++(ts++us)))->Ru ac _ S1 ([(dB,aN i)]++pk M1 [p0,p1,p4,p5,p6,bi,bk,bo,dt,cJ]) S) (aH g b).aD.length (λi hi P S ts ex R a2 U=>?_) 0 af _ _ _ a1 (λ_ _=>rfl) U);subst cx;subst bc;refine Ru.loop ?_;refine au ?_;refine Ru.cond (λI=>?_) (λI=>?_)
  .refine ah ?_;refine RO.cZ U.gr ba (λey eP e0 c' a5 dm hat hrd=>?_) (j:=i);have cy:(aH g b).aD[i].to≠ -1->0<=(aH g b).aD[i].to/\(aH g b).aD[i].to<g.bp:=λs=>V.qA _ ax _ (JZ I s);have bd:(aH g b).aD.getD i default=(aH g b).aD[i]:=bF I _;have Z:sI g os lv b i=[eK g os lv b ((aH g b).aD.length - i),λx=>x=(aH g b).aD[i].to/\x≠ -1\/eK g os lv b ((aH g b).aD.length - (i+1)) x]:=by rw[sI,bd]
   have P:=P (i+1) af af;rw[alb,akD,akK,Z]at P;generalize(ake i).flatMap (sI g os lv b)=h1 at*;clear bd Z;generalize(aH g b).aD[i]=st at*;obtain⟨cE,rfl,b3⟩:=a5;have⟨dr,ds,dv,_⟩:=b3.all;refine ah ?_;refine RO.gI U λH7 q9 U=>?_;refine ah ?_;refine RO.iT U 0 (λH8 U=>?_) (vs:=[am.i 4 0,am.i 3 0,AV.aS,am.i 3 0,am.i 3 0,AV.str []]) (ws:=[aU st.op,aI st.to,cE,aI st.n,aI st.m,.str st.name]);refine ah ?_;refine RO.fD U 3 (hv:=O (i+1) af) ?_;refine ah ?_;refine Ru.Qs (P:=λM H'=>∃w E,(E=[]/\w=ids (i+1)/\st.to= -1\/E=[tM true w λx=>x=st.to/\x≠ -1\/eK g os lv b ((aH g b).aD.length - (i+1)) x])/\M=[(aO,.map w),(p0,y),(p1,.az d 0),(p4,aN b),(p5,.az B 0),(p6,.slice q 0 ((aH g b).aD.length+1) cap a),(p8,aN i),(bi,o),(bk,aN ak.length),(bo,aN k),(dt,u),(cJ,aN (aH g b).aD.length),(dB,aN i)]/\aj A H' (E++(w7 B d f [N,u,aU (aH g b).aA.op,W,.str (aH g b).aA.name,X,Y] ids (.slice q 0 ((aH g b).aD.length+1) cap a) ((aH g b).aD.length+1)++(lx ids (λi=>eK g os lv b ((aH g b).aD.length - i)) ex ((aH g b).aD.length+1)++(ts++us))))) (λM H' hM=>?_) (λl=>?_);rotate_left
   .refine Ru.cond (λs=>?_) (λs=>?_)
    .have s:st.to≠ -1:=by simpa using s
     refine ah ?_;refine RO.lf U 1 (ws:=[aI st.to]) (n:=1) (λH9 qb U=>?_);have cK:fZ H9 [st.to] (.slice qb 0 1 1 true):=U.sl (e:=3) (size:=1) (n:=1) (full:=true) 0;have hat:=J5 (ids:=ids) (P:=λi=>eK g os lv b ((aH g b).aD.length - i)) (ex:=ex) (n:=(aH g b).aD.length+1) (i:=i+1) af;rw[a2 (i+1) af]at hat;refine RO.cl (A4 T U (5+(i+1)) (rr (i:=i+1) (xs:=[_,_,_,_,_]) hat) cK aB λa3 w e3 b4 U=>?_);have U:=U.CT (S':=λx=>x=st.to/\x≠ -1\/eK g os lv b ((aH g b).aD.length - (i+1)) x) 0 rfl λx=>by rw[b4,aep];exact or_congr ⟨λe5=>⟨e5,af⟩,λe5=>e5.1⟩ ⟨λe5=>e5.1,λe5=>⟨e5,by have:=z ((aH g b).aD.length - (i+1)) af x e5;exact qoz⟩⟩
     refine RO.bg ?_;refine RO.nil ?_;refine l _ _ _ ⟨w,[tM true w _],.inr rfl,rfl,((U.sub (.cons_cons _ (.cons _ (.cons _ (akL _))))))⟩ ?_;exact fB
    have s:st.to= -1:=by simpa using s
    refine Ru.skip ?_;refine l _ _ _ ⟨ids (i+1),[],.inl ⟨rfl,rfl,s⟩,rfl,U.tail⟩ ?_;exact fB
   obtain⟨w,E,hE,rfl,U⟩:=hM;refine ah ?_;refine RO.fD U (E.length+2) (hi:=rr (i:=2) (m:=lx ids (λi=>eK g os lv b ((aH g b).aD.length - i)) ex ((aH g b).aD.length+1)++(ts++us)) rfl) (hv:=O i af) ?_;rw[<-aj2]at U;refine RO.cl ((J8 c (P:=λi=>eK g os lv b ((aH g b).aD.length - i)) (n:=(aH g b).aD.length+1) (i:=i) af (z _ af) R U).mono ?_);rintro v H9⟨rfl,a4,Q,U⟩;refine ah ?_;have key:YF ac y [.map w] H9 λv H'=>v=.bool true/\∃bv ex,J (h0++[rB g os lv b]++(h1++[eK g os lv b ((aH g b).aD.length - i),λx=>x=st.to/\x≠ -1\/eK g os lv b ((aH g b).aD.length - (i+1)) x])) bv/\(∀j,i+1<j->ex j=true)/\aj A H' (w7 B d f [N,u,aU (aH g b).aA.op,W,.str (aH g b).aA.name,X,Y] ids (.slice q 0 ((aH g b).aD.length+1) cap a) ((aH g b).aD.length+1)++(lx ids (λi=>eK g os lv b ((aH g b).aD.length - i)) ex ((aH g b).aD.length+1)++(bv++us))):=by
    rcases hE with⟨rfl,rfl,s⟩|rfl
    .rw[ak0]at U;refine(J8 c (P:=λi=>eK g os lv b ((aH g b).aD.length - i)) (n:=(aH g b).aD.length+1) (i:=i+1) af (z _ af) Q U).mono ?_;rintro v a3⟨rfl,D,F,U⟩;refine⟨rfl,D,_,?_,λj hj=>?_,U⟩;·have e:(λx=>x=st.to/\x≠ -1\/eK g os lv b ((aH g b).aD.length - (i+1)) x)=eK g os lv b ((aH g b).aD.length - (i+1)):=funext λx=>propext ⟨λe5=>e5.elim (λe5=>absurd (e5.1.trans s) e5.2) id,.inr⟩;rw[e];simpa only[aj2,akV,ak0]using F
     rw[aq af,aq af];exact a2 j af
    have U:aj A H9 (tM true w (λx=>x=st.to/\x≠ -1\/eK g os lv b ((aH g b).aD.length - (i+1)) x)::((w7 B d f [N,u,aU (aH g b).aA.op,W,.str (aH g b).aA.name,X,Y] ids (.slice q 0 ((aH g b).aD.length+1) cap a) ((aH g b).aD.length+1)++lx ids (λi=>eK g os lv b ((aH g b).aD.length - i)) (λj=>if j=i then false else ex j) ((aH g b).aD.length+1))++(a4++us))):=by rw[aj2];exact U
    refine(J7 c (λx hx=>hx.elim (λe5=>by rw[e5.1];exact cy (e5.1▸e5.2)) (z _ af x)) Q U).mono ?_;rintro v a3⟨rfl,D,F,U⟩;have U:=U.tail;rw[aj2]at U;refine⟨rfl,D,_,?_,λj hj=>?_,U⟩;·simpa only[aj2,akV,ak0]using F
    rw[aq af];exact a2 j af
   refine RO.cl (key.mono ?_);rintro v a3⟨rfl,D,c3,F,b5,U⟩;refine ah ?_;exact Ru.wk (P _ D c3 F b5 U)
  refine Ru.exitTo ?_;obtain rfl:i=(aH g b).aD.length:=af;refine ah ?_;refine RO.fD U 2 (hv:=O (aH g b).aD.length af) ?_;refine RO.cl ((J8 c (P:=λi=>eK g os lv b ((aH g b).aD.length - i)) (n:=(aH g b).aD.length+1) (i:=(aH g b).aD.length) af (z _ af) R U).mono ?_);rintro v H9⟨rfl,a4,Q,U⟩;refine ah ?_;exact Ru.wk (ih _ a4 (by simpa only[rC,Nat.sub_self,aj2,akV,ak0]using Q) (U.sub (.cons _ (.cons_cons _ (.cons _ (List.sublist_append_right _ _))))))
 refine Ru.exitTo ?_;rw[akl af]at R;refine ah ?_;exact Ru.aA (vs:=[]) trivial (bS S ts _ U.tail R)
end
end
end
end Go.am.R
end
