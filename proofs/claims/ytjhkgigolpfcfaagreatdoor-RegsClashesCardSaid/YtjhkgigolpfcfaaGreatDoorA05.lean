/- A part of the proof. No conditions. -/
import Derived.Test.YtjhkgigolpfcfaaGreatDoorA04
import Derived.Sort.Grow
import Derived.Sort.Row
set_option linter.all false
open Option.some renaming injEq→acm
open Option renaming bind_eq_some_iff→acR,bind_eq_bind→adO,pure_def→af1,map_some→ahb,getD_some→ahs,bind_some→ah5
open List renaming mem_singleton→ac3,mem_cons_self→adc,mem_cons→adC,mem_cons_of_mem→adD,mem_append→agI,map_cons→agN,length_append→agP,mem_append_left→agU,range→agV,not_mem_nil→ag0,mem_map→ag3,mem_map_of_mem→ag5,mem_append_right→ag7,getElem?_map→ahc,getElem?_append_left→ahd,nodup_cons→ahg,length_cons→ahh,length_singleton→ahj,append_nil→ahx,nodup_append→ahy,nil_append→ahH,mem_range→ahV,map_nil→ahX,map_congr_left→ahZ,pairwise_cons→ah4,map_map→aii,mem_filter→aik,nodup_nil→aim
open Bool renaming false_eq_true→ac6,and_eq_true→agM,not_true→ag9,not_eq_true'→ahA,or_eq_true→ahT
open Nat renaming le_refl→adW,eq_of_beq_eq_true→agO,beq→agQ,le_of_ble_eq_true→agT,zero_add→agW,lt_of_lt_of_le→ag6,blt→aha,ble_eq_true_of_le→ahi,lt_or_ge→ahz,blt_eq→ahF,ble→ahG,beq_refl→ahQ,le_trans→ahY,mul_one→ah9
open Prod.mk renaming injEq→age
open Int renaming ofNat→ahI
open List.cons renaming injEq→ag4
open Array renaming getElem?_setIfInBounds→ag8,replicate→ain
open Classical renaming byContradiction→ahe
open List.Perm renaming swap→ahw,refl→ais
open Ne renaming symm→aio
open Eq renaming mpr→aiu
open List.Pairwise renaming nil→aiv
noncomputable section
namespace Go.ak
section
variable[Ov]
variable{ab:Nat→aE}
theorem Uh{a:Nat}(f:ab a=.code 13 [.tmp (sl 4)] zo){H:af}{N:ac}{v:Int}{ks:List Int}(hs:gK (H.get N) ks){K:AV→af→Prop}(g:∀b:af,b.next=H.next→(∀j,j≠N→b.get j=H.get j)→gK (b.get N) (pe v ks)→(∀es c,H.get N=.map es c→v∈ks→b.get N=H.get N)→K (.bool (!ib v ks)) b):Xf ab 30 (.func a [] []) [.map N,.int 3 v] H K:=by
 refine Xf.code (n:=29) f (by simp) ?_;show Xc ab 29 zo ⟨(am.aJ.set .aiw (sl 0) (.map N)).set .aiw (sl 1) (.int 3 v),[],none⟩ H _;generalize d:(am.aJ.set AV.aiw (sl 0) (.map N)).set .aiw (sl 1) (.int 3 v)=aa;have h0:aa.get .aiw (sl 0)=.map N:=by rw[←d];simp[am.aD,bH]
 have h1:aa.get .aiw (sl 1)=.int 3 v:=by rw[←d];simp[am.aD,bH]
 refine Xc.jf (n:=28) (m:=28) (k:=28) (by simp) (by simp) (Xc.region (n:=27) ?_);refine Xo.op (n:=26) (v:=.bool false) (H':=H) (by rfl) (Xo.nil (n:=25) ?_);refine Xc.jf (n:=27) (m:=27) (k:=27) (by simp) (by simp) (Xc.region (n:=26) ?_);refine Xo.op (n:=25) (v:=.map N) (H':=H) (by simp[h0,aB,gv,aM,am.aD,bH]) ?_;refine Xo.op (n:=24) (v:=.int 3 v) (H':=H) (by simp[h1,aB,gv,aM,am.aD,bH]) ?_;refine Xo.op (n:=23) (v:=.bool (ib v ks)) (H':=H) (Ml (N:=N) (x:=v) (by rfl) (by rfl) hs) ?_;refine Xo.op (n:=22) (v:=.bool (!ib v ks)) (H':=H) (by rfl) ?_;refine Xo.op (n:=21) (v:=.bool (!ib v ks)) (H':=H) (by rfl) (Xo.nil (n:=20) ?_);refine Xc.jf (n:=26) (m:=26) (k:=26) (by simp) (by simp) (Xc.region (n:=25) ?_);obtain⟨b,i,k,l,m,n⟩:=GL (H:=H) (N:=N) (x:=v) (ks:=ks) (aa:=aM (aM (aM (aM (aM (aM (aM (aM aa (some (sl 4)) (.bool false)) (some (sl 6)) (.map N)) (some (sl 7)) (.int 3 v)) (some (sl 8)) (.bool (ib v ks))) (some (sl 9)) (.bool (!ib v ks))) (some (sl 5)) (.bool (!ib v ks))) (some (sl 10)) (.map N)) (some (sl 11)) (.int 3 v)) (om:=tt 10) (ok_:=tt 11) (by rfl) (by rfl) hs;refine Xo.op (n:=24) (v:=.map N) (H':=H) (by simp[h0,aB,gv,aM,am.aD,bH]) ?_;refine Xo.op (n:=23) (v:=.int 3 v) (H':=H) (by simp[h1,aB,gv,aM,am.aD,bH]) ?_;refine Xo.op (n:=22) (v:=.aiw) (H':=b) i (Xo.nil (n:=21) ?_);refine Xc.jf (n:=25) (m:=25) (k:=25) (by simp) (by simp) (Xc.region (n:=24) ?_);refine Xo.op (n:=23) (v:=.bool (!ib v ks)) (H':=b) (by rfl) ?_;refine Xo.op (n:=22) (v:=.bool (!ib v ks)) (H':=b) (by rfl) (Xo.nil (n:=21) ?_);refine Xc.ret (n:=24) ⟨trivial,rfl,[.bool (!ib v ks)],?_,g b k l m λes c e h=>(n es c e).elim λ_ h1=>h1.elim λ_ h2=>h2.2 h⟩;rfl
theorem Ui{H:af}{a:ac}{no n fz:Nat}{c:am AV}{e:Nat}(h:H.get a=.cells c n e true [] fz)(h1:fz≤no)(h2:no<n)(b:Bool):iI H a no [.bool b]=some (H.set a (.cells (fD c no [.bool b]) n e true [] fz)):=by
 unfold iI;rw[h];have e1:decide (fz≤no)=true:=by simpa using h1
 have e2:decide (no+([.bool b]:List AV).length≤n)=true:=by simp;omega
 simp only[e1,e2,Bool.true_and];rfl
theorem Mv{ee g:Nat}(O:ab ee=.code 32 [] (Bg g))(P:ab g=.code 13 [.tmp (sl 4)] zo){H:af}{c1 c2 c3 s2:AV}{pm k N:ac}{no n fz kb e:Nat}{pl:List (Int×Int)}{pks ks:List Int}{v bC b:Int}{c:am AV}{q:Bool}(C:pf H c1=some (.map pm))(D:pf H c2=some s2)(E:pf H c3=some (.int kb b))(Q:kX H pm=some pl)(R:jC H pm=some pks)(S:mR H s2 b=some (.map N))(B:H.get k=.cells c n e true [] fz)(T:fz≤no)(M:no<n)(z:c.bq .aiw no=.bool q)(hs:gK (H.get N) ks){K:AV→af→Prop}(w:∀(r:AV)(m:af)A c2,m.next=H.next→(∀j,j≠N→j≠k→m.get j=H.get j)→gK (m.get N) A→(∀x,x∈A↔x∈ks∨(x=v∧fB.rf pl bC v=true))→m.get k=.cells c2 n e true [] fz→(∀i,i≠no→c2.bq .aiw i=c.bq .aiw i)→c2.bq .aiw no=.bool (q||(fB.rf pl bC v&&!ib v ks))→(∀es c,H.get N=.map es c→v∈ks→m.get N=H.get N)→K r m):Xf ab 80 (.func ee [] [c1,c2,c3,.aw k no]) [.int 3 v,.int 3 bC] H K:=by
 obtain⟨i1,o1,rfl,C⟩:=vi C;obtain⟨i2,o2,rfl,D⟩:=vi D;obtain⟨i3,o3,rfl,E⟩:=vi E;obtain⟨is,os,ns,ag,ar,V,W,X,Y,c5⟩:=Be S;have s:N≠k:=by rintro rfl;obtain⟨_,_,h,_⟩:=hs;rw[B]at h;simp[eJ]at h
 have Z:bh H k no=some (.bool q):=by unfold bh;rw[B];simp only[aiu ahF M,bm,z]
 refine Xf.code (n:=79) O (by simp) ?_;show Xc ab 79 (Bg g) ⟨(((((am.aJ.set .aiw (sl 0) (.int 3 v)).set .aiw (sl 1) (.int 3 bC)).set .aiw (sl 2) (.aw i1 o1)).set .aiw (sl 3) (.aw i2 o2)).set .aiw (sl 4) (.aw i3 o3)).set .aiw (sl 5) (.aw k no),[],none⟩ H _;generalize o:(((((am.aJ.set AV.aiw (sl 0) (.int 3 v)).set .aiw (sl 1) (.int 3 bC)).set .aiw (sl 2) (.aw i1 o1)).set .aiw (sl 3) (.aw i2 o2)).set .aiw (sl 4) (.aw i3 o3)).set .aiw (sl 5) (.aw k no)=aa;have h0:aa.get .aiw (sl 0)=.int 3 v:=by rw[←o];simp[am.aD,bH]
 have h1:aa.get .aiw (sl 1)=.int 3 bC:=by rw[←o];simp[am.aD,bH]
 have h2:aa.get .aiw (sl 2)=.aw i1 o1:=by rw[←o];simp[am.aD,bH]
 have h3:aa.get .aiw (sl 3)=.aw i2 o2:=by rw[←o];simp[am.aD,bH]
 have h4:aa.get .aiw (sl 4)=.aw i3 o3:=by rw[←o];simp[am.aD,bH]
 have h5:aa.get .aiw (sl 5)=.aw k no:=by rw[←o];simp[am.aD,bH]
 rw[Mq]at w;generalize hg:(jg pl v).1=p at w;generalize hi:(jg pl v).2=ii at w;have t:=λ(aa:am AV)(om I:aG)(hm:gv aa om=.map pm)(hk:gv aa I=.int 3 v)=>Ug (H:=H) hm hk Q R;rw[hg,hi]at t;refine Xc.jf (n:=70) (m:=70) (k:=78) (by simp) (by simp) (Xc.region (n:=69) ?_);refine Xo.op (n:=68) (v:=.map pm) (H':=H) (jm (by trivial) C) ?_;refine Xo.op (n:=67) (v:=.int 3 v) (H':=H) (by simp[h0,aB,gv,aM,am.aD,bH]) ?_;refine Xo.op (n:=66) (v:=.tuple [.int 3 p,.bool ii]) (H':=H) (t _ _ _ (by rfl) (by rfl)) ?_;refine Xo.op (n:=65) (v:=.tuple [.int 3 p,.bool ii]) (H':=H) (by rfl) ?_;refine Xo.op (n:=64) (v:=.int 3 p) (H':=H) (by rfl) ?_;refine Xo.op (n:=63) (v:=.bool ii) (H':=H) (by rfl) ?_;refine Xo.op (n:=62) (v:=.int 3 p) (H':=H) (by rfl) ?_;refine Xo.op (n:=61) (v:=.bool ii) (H':=H) (by rfl) (Xo.nil (n:=60) ?_);generalize o:aM (aM (aM (aM (aM (aM (aM (aM aa (some (sl 11)) (.map pm)) (some (sl 12)) (.int 3 v)) (some (sl 13)) (.tuple [.int 3 p,.bool ii])) (some (sl 10)) (.tuple [.int 3 p,.bool ii])) (some (sl 14)) (.int 3 p)) (some (sl 15)) (.bool ii)) (some (sl 8)) (.int 3 p)) (some (sl 9)) (.bool ii)=a;have k0:a.get .aiw (sl 0)=.int 3 v:=by rw[←o];simp[aM,am.aD,bH];exact h0
 have k1:a.get .aiw (sl 1)=.int 3 bC:=by rw[←o];simp[aM,am.aD,bH];exact h1
 have k3:a.get .aiw (sl 3)=.aw i2 o2:=by rw[←o];simp[aM,am.aD,bH];exact h3
 have k4:a.get .aiw (sl 4)=.aw i3 o3:=by rw[←o];simp[aM,am.aD,bH];exact h4
 have k5:a.get .aiw (sl 5)=.aw k no:=by rw[←o];simp[aM,am.aD,bH];exact h5
 have k8:a.get .aiw (sl 8)=.int 3 p:=by rw[←o];simp[aM,am.aD,bH]
 have k9:a.get .aiw (sl 9)=.bool ii:=by rw[←o];simp[aM,am.aD,bH]
 have cond:∀d:am AV,d.get .aiw (sl 22)=.bool (!ii||!ly p bC)→d.get .aiw (sl 0)=.int 3 v→d.get .aiw (sl 3)=.aw i2 o2→d.get .aiw (sl 4)=.aw i3 o3→d.get .aiw (sl 5)=.aw k no→Xc ab 60 (.cond (tt 22) (.region [bL 23 (.aW (tt 3)),bL 24 (.aW (tt 4)),bL 25 (.dk 1 (tt 23) (tt 24)),bL 26 (.aW (tt 25)),bL 27 (.bg (tt 0)),bL 28 (.call (.c (.func g [] [])) [tt 26,tt 27]),bL 29 (.bg (tt 28)),⟨some (sl 30),.aW (tt 5),some (sl 29,false),[],[]⟩,bL 31 (.pick (tt 29) (.c (.bool true)) (tt 30)),qP (.store 1 (tt 5) (tt 31))]) .skip) ⟨d,[],none⟩ H λj fr H'=>(match j with|.exit _=>False|_=>True)∧fr.bF=[]∧∃l,gG fr.aa H' []=some l∧K (iu l) H':=by
  intro d u m0 m3 m4 F;cases hl:(!ii||!ly p bC)with
  |false=>rw[hl]at u w;refine Xc.mQ (n:=59) (by simp[gv];exact u) (Xc.skip (n:=58) ⟨trivial,rfl,[],rfl,w _ H ks c rfl (λ_ _ _=>rfl) hs (by simp) B (λ_ _=>rfl) (by simpa using z) (λ_ _ _ _=>rfl)⟩)
  |true=>
   rw[hl]at u w;refine Xc.oD (n:=59) (by simp[gv];exact u) (Xc.region (n:=58) ?_);refine Xo.op (n:=57) (v:=s2) (H':=H) (jm (by simp[gv];exact m3) D) ?_;refine Xo.op (n:=56) (v:=.int kb b) (H':=H) (jm (by simp[gv,aM,am.aD,bH];exact m4) E) ?_;refine Xo.op (n:=55) (v:=.aw is (os+V)) (H':=H) (vj (by simp[gv,aM,am.aD,bH];exact W) (by simp[gv,aM,am.aD,bH];exact⟨rfl,X⟩) Y) ?_;refine Xo.op (n:=54) (v:=.map N) (H':=H) (jm (by simp[gv,aM,am.aD,bH]) c5) ?_;refine Xo.op (n:=53) (v:=.int 3 v) (H':=H) (by simp[aB,gv,aM,am.aD,bH];exact m0) ?_;refine Xo.call (n:=52) ?_;simp only[gv,aM,am.aD,bH,agN,ahX];refine Xf.mono (n:=30) (by omega) (λ_ _ h=>h) (Uh P hs λm w1 G w3 w4=>?_);have J:m.get k=.cells c n e true [] fz:=by rw[G _ (aio s)];exact B
   have L:bh m k no=some (.bool q):=by rw[pg (G k (aio s))];exact Z
   refine Xo.op (n:=51) (v:=.bool (!ib v ks)) (H':=m) (by simp[aB,gv,aM,am.aD,bH]) ?_;have aq:∀f:am AV,f.get .aiw (sl 5)=.aw k no→f.get .aiw (sl 31)=.bool (q||!ib v ks)→Xo ab 40 [qP (.store 1 (tt 5) (tt 31))] ⟨f,[],none⟩ m λfr H'=>(match cG.none with|.exit _=>False|_=>True)∧fr.bF=[]∧∃l,gG fr.aa H' []=some l∧K (iu l) H':=by
    intro f p5 cQ;refine Xo.op (n:=39) (v:=.aiw) (H':=m.set k (.cells (fD c no [.bool (q||!ib v ks)]) n e true [] fz)) ?_ (Xo.nil (n:=38) ?_);·have e1:gv f (tt 5)=.aw k no:=p5;have e2:gv f (tt 31)=.bool (q||!ib v ks):=cQ;simp only[aB,e1,e2,AV.cells,ahh,List.length_nil,Ui J T M];rfl
    refine⟨trivial,rfl,[],rfl,w _ _ (pe v ks) (fD c no [.bool (q||!ib v ks)]) w1 (λj j1 j2=>?_) ?_ (λx=>?_) ?_ (λi hi=>?_) ?_ (λes c he hv=>by rw[af.aD,an s];exact w4 es c he hv)⟩;·rw[af.aD,an j2];exact G j j1
    ·rw[af.aD,an s];exact w3
    ·rw[A7];simp[or_comm]
    ·rw[af.aD,aH rfl]
    ·rw[mL];rw[an (by simp;omega)]
    rw[mL];simp
   cases y:ib v ks with|true=>rw[y]at aq;refine Xo.Du (n:=50) (v:=.bool q) (H':=m) (by simp[ft,aM,am.aD,bH,y]) (jm (by simp[gv,aM,am.aD,bH];exact F) L) ?_;refine Xo.op (n:=49) (v:=.bool (q||!true)) (H':=m) (by simp[aB,gv,aM,am.aD,bH,y]) ?_;exact(aq _ (by simp[aM,am.aD,bH];exact F) (by simp[aM,am.aD,bH])).mono (by omega) (λ_ _ h=>h)|false=>rw[y]at aq;refine Xo.Dv (n:=50) (by simp[ft,aM,am.aD,bH,y]) (by simp[lA,aM,am.aD,bH,y,AV.bB]) ?_;refine Xo.op (n:=49) (v:=.bool (q||!false)) (H':=m) (by simp[aB,gv,aM,am.aD,bH,y]) ?_;exact(aq _ (by simp[aM,am.aD,bH];exact F) (by simp[aM,am.aD,bH])).mono (by omega) (λ_ _ h=>h)
 refine Xc.jf (n:=60) (m:=60) (k:=69) (by simp) (by simp) (Xc.region (n:=59) ?_);refine Xo.op (n:=58) (v:=.bool ii) (H':=H) (by simp[k9,aB,gv]) ?_;refine Xo.op (n:=57) (v:=.bool (!ii)) (H':=H) (by rfl) ?_;refine Xo.op (n:=56) (v:=.bool (!ii)) (H':=H) (by rfl) ?_;cases ii with|true=>refine Xo.Du (n:=55) (v:=.int 3 p) (H':=H) (by rfl) (by simp[k8,aB,gv,aM,am.aD,bH]) ?_;refine Xo.Du (n:=54) (v:=.int 3 bC) (H':=H) (by rfl) (by simp[k1,aB,gv,aM,am.aD,bH]) ?_;refine Xo.Du (n:=53) (v:=.bool (!ly p bC)) (H':=H) (by rfl) (by rfl) ?_;refine Xo.op (n:=52) (v:=.bool (!ly p bC)) (H':=H) (by rfl) (Xo.nil (n:=51) ?_);exact cond _ (by rfl) (by trivial) (by trivial) (by trivial) (by trivial)|false=>refine Xo.Dv (n:=55) (by rfl) (by rfl) ?_;refine Xo.Dv (n:=54) (by rfl) (by rfl) ?_;refine Xo.Dv (n:=53) (by rfl) (by rfl) ?_;refine Xo.op (n:=52) (v:=.bool true) (H':=H) (by rfl) (Xo.nil (n:=51) ?_);exact cond _ (by rfl) (by trivial) (by trivial) (by trivial) (by trivial)
end
section
theorem Bh(pl:List (Int×Int))(bC x:Int):∀l,x∈fB pl bC l↔x∈l∧fB.rf pl bC x=true
 |[]=>by simp[fB]
 |y::l=>by
  simp only[fB];split
  ·rename_i h;rw[adC,Bh pl bC x l,adC];constructor
   ·rintro(h1|⟨h1,h2⟩);·exact⟨.inl h1,h1▸h⟩
    exact⟨.inr h1,h2⟩
   rintro⟨h1|h1,h2⟩;·exact .inl h1
   exact .inr ⟨h1,h2⟩
  rename_i h;rw[Bh pl bC x l,adC];constructor;·rintro⟨h1,h2⟩;exact⟨.inr h1,h2⟩
  rintro⟨h1|h1,h2⟩;·rw[h1]at h2;exact absurd h2 h
  exact⟨h1,h2⟩
theorem GO(t0:List Int):∀l,lZ t0 l=true↔∃x∈l,x∉t0
 |[]=>by simp[lZ]
 |y::l=>by
  simp only[lZ,ahT,GO t0 l,ahA,adC];have:ib y t0=false↔y∉t0:=by rw[←su];simp
  grind
section
variable[Ov]
variable{P:Program}
theorem w6{H:af}{q:ac}{a v:AV}(h:l6 H q a=some v):∃i o,a=.aw i o∧i≠q∧bh H i o=some v:=by
 unfold l6 at h;split at h
 ·split at h;·grind
  rename_i hb;exact⟨_,_,rfl,λe=>hb (by rw[e];exact ac.gT.2 rfl),h⟩
 grind
theorem GP{H:af}{q:ac}{s v:AV}{x:Int}(h:uh H q s x=some v):∃i o n c e j,s=.slice i o n c e∧x=.ofNat j∧j<n∧i≠q∧bh H i (o+j)=some v:=by
 unfold uh at h;split at h
 ·split at h;·grind
  rename_i hb;obtain⟨i,o,n,c,e,j,h1,h2,h3,a⟩:=Be h;injection h1 with b d f g k;subst b;subst d;subst f;exact⟨_,_,_,_,_,j,rfl,h2,h3,λe=>hb (by rw[e];exact ac.gT.2 rfl),a⟩
 grind
theorem bt.Uj{g:cJ}{c:aL}{H:af}{w:World}(h:bt P g c H w){i:ac}{o':b9}(hi:H.get i≠.none)(j:(H.get i).kW=false)(k:(H.get i).aK=[])(d:o'.aK=[])(l:∀x a,OR P c (H.get i) x a→OR P c o' x a)(m:∀q a,gB P q (H.get i) a→gB P q o' a):bt P g c (H.set i o') w:=by obtain⟨b,x,a,e,hl,hb,f⟩:=h.aF hi;have:=(h.se (w':=w) hi j e d (l x a f) (m _ _ (h.jQ i b x a hi e hb)) (by rw[F8 hb]) rfl rfl rfl).1;rw[k]at this;exact this
theorem Uk{d j:Type}{f:d→j}{l k:List j}(h:l.Perm k):∀t:List d,k=t.map f→∃t':List d,l=t'.map f∧t'.Perm t:=by
 induction h with
 |nil=>intro t c;exact⟨[],rfl,by cases t<;>simp_all⟩
 |cons x _ m=>intro t c;cases t with|nil=>simp at c|cons a t=>simp only[agN,ag4]at c;obtain⟨t',e,p⟩:=m t c.2;exact⟨a::t',by rw[agN,←e,c.1],p.cons a⟩
 |swap x y l=>intro t c;match t,c with|a::b::t,c=>simp only[agN,ag4]at c;exact⟨b::a::t,by rw[agN,agN,c.1,c.2.1,c.2.2],ahw ..⟩|[a],c=>simp at c|[],c=>simp at c
 |trans _ _ g i=>intro t c;obtain⟨t2,e2,p2⟩:=i t c;obtain⟨t1,e1,p1⟩:=g t2 e2;exact⟨t1,e1,p1.trans p2⟩
theorem Mw{ee f:Nat}(b5:ee≠f)(ht:j9 P (ph ee f)){Wr:cJ}{ρ:aL}{H:af}{w:World}{nt:Nat}{fr:Fr}{b:Frame}{a:Act}{c1 c2:Code}{xh body:bp}{ag ar:Nat}{J L ok et ex kv:ac}(h1:eO P nt c1=some xh)(h2:eO P nt c2=some (qZ ag ar J L ok et ex kv body))(b6:ag≠ar)(d1:J≠L)(d2:J≠ok)(d3:L≠ok)(d4:J≠et)(d5:et≠ex)(d6:J≠ex)(d7:J≠kv){cH:List ac}(s1:L∈cH)(s2:ok∈cH)(s3:et∈cH)(s4:ex∈cH)(s5:kv∈cH)(hF:iv ρ nt fr b.roundOf a)(T:bt P Wr ρ H w){bC:Int}{b0 b3 a3 F:AV}{m pm s N:ac}{no n fz kb e:Nat}{pl:List (Int×Int)}{pks ks t0:List Int}{b4:Int}{c:am AV}{D:Bool}(g1:l6 H s b0=some (.map pm))(g2:l6 H s b3=some F)(g3:l6 H s a3=some (.int kb b4))(g4:kX H pm=some pl)(g5:jC H pm=some pks)(g6:uh H s F b4=some (.map N))(g7:H.get s=.cells c n e true [] fz)(g8:fz≤no)(g9:no<n)(av:c.bq .aiw no=.bool D)(hk:jC H m=some ks)(hN:jB H N=some t0)(b':pm≠N)(ca:m≠pm)(nh fb:Nat)(bb:∀p d,Xc (ph ee f) nh xh fr (H.set m (.map p d)) λj fr1 H1=>j=.none∧fr1.bF=fr.bF∧fr1.bD=fr.bD∧(∀t,t∉cH→fr1.aa.get .aiw t=fr.aa.get .aiw t)∧fr1.aa.get .aiw J=.aw H.next 0∧H1=(H.set m (.map p d)).new (.mapIter (some m) d [] d))(Z:∀aa H1 kk(K:cG→Fr→af→Prop),(∀j,j≠N→j≠m→j≠H.next→j≠s→H1.get j=H.get j)→(∀t,t∉cH→aa.get .aiw t=fr.aa.get .aiw t)→aa.get .aiw kv=.int 3 kk→Xf (ph ee f) 80 (.func ee [] [b0,b3,a3,.aw s no]) [.int 3 kk,.int 3 bC] H1 (λ_ H2=>∀B,(∀t,t∉cH→B.get .aiw t=aa.get .aiw t)→B.get .aiw J=aa.get .aiw J→K .none ⟨B,fr.bF,fr.bD⟩ H2)→Xc (ph ee f) fb body ⟨aa,fr.bF,fr.bD⟩ H1 K)(k:List Item)(cs:List Frame):iV P Wr ρ nt w b k cs (lone (b.atR a (.code (.seq c1 c2)::k)) cs w) λj fr1 H1=>j=.none∧fr1={fr with aa:=kJ fr.aa cH}∧H1=((H.set N (.dB (eE (gU (fB pl bC ks) t0)))).set s (.cells (fD c no [.bool (D||lZ t0 (fB pl bC ks))]) n e true [] fz)).skip:=by
 obtain⟨es,V,ax,dr⟩:=wU hk;have u:=pN hN;have X:N≠H.next:=λe=>by have:=(T.dV H.next (adW _)).1;obtain⟨_,q,Q,_⟩:=u;rw[e,this]at Q;simp[eJ]at Q
 have ay:m≠H.next:=λe=>by have:=(T.dV H.next (adW _)).1;rw[←e]at this;rw[this]at V;simp[eJ]at V
 have Y:s≠H.next:=λe=>by have:=(T.dV H.next (adW _)).1;rw[←e,g7]at this;cases this
 have bc:N≠s:=by rintro rfl;obtain⟨_,_,h,_⟩:=u;rw[g7]at h;simp[eJ]at h
 have S:m≠s:=by rintro rfl;rw[g7]at V;simp[eJ]at V
 obtain⟨ds,M,_⟩:=wU g5;have cd:pm≠H.next:=λe=>by have:=(T.dV H.next (adW _)).1;rw[←e]at this;rw[this]at M;simp[eJ]at M
 have bd:pm≠s:=by rintro rfl;rw[g7]at M;simp[eJ]at M
 have a1:m=N→es.map aR.kv=t0.map sk∧∀x,x∈ks↔x∈t0:=λe=>by
  obtain⟨_,dv,O,A⟩:=u;rw[←e,V]at O;injection O with O;subst O;obtain⟨b0,b3⟩:=zl ax;refine⟨A,λx=>⟨λhx=>?_,λhx=>?_⟩⟩;·obtain⟨e,he,hk⟩:=b3 x hx;have:=ag5 (f:=aR.kv) he;rw[A]at this;obtain⟨y,hy,a2⟩:=ag3.1 this;simp only[sk,aR.kv,hk,age,AV.int.injEq]at a2;rw[←a2.1.2];exact hy
  have:=ag5 (f:=sk) hx;rw[←A]at this;obtain⟨e,he,a6⟩:=ag3.1 this;obtain⟨y,hy,cf⟩:=b0 e he;simp only[sk,aR.kv,cf,age,AV.int.injEq]at a6;rw[←a6.1.2];exact hy
 obtain⟨i1,o1,e1,cn,k1⟩:=w6 g1;obtain⟨i2,o2,e2,cp,k2⟩:=w6 g2;obtain⟨i3,o3,e3,cv,k3⟩:=w6 g3;obtain⟨is,os,ns,dx,dy,js,e5,e6,e7,cx,k5⟩:=GP g6;obtain⟨Ns,cy⟩:=Bf hN;have ha:ph ee f ee=.code 32 [] (Bg f):=by simp[ph]
 have hw:ph ee f f=.code 13 [.tmp (sl 4)] zo:=by
  have:agQ f ee=false:=by cases h:agQ f ee with|false=>rfl|true=>exact absurd (agO h).symm b5
  simp[ph,this]
 refine GN ht h1 h2 b6 d1 d2 d3 d4 d5 d6 d7 s1 s2 s3 s4 s5 hF T V ax nh fb bb (J:=λp d l H1=>H1.next=H.next.succ∧(∀j,j≠N→j≠m→j≠H.next→j≠s→H1.get j=H.get j)∧H1.get m=.map p d∧(∀x∈l,x∈ks)∧∃g I q,gK (H1.get N) g∧(∀x,x∈g↔x∈t0∨(x∈l∧fB.rf pl bC x=true))∧H1.get s=.cells I n e true [] fz∧(∀i,i≠no→I.bq .aiw i=c.bq .aiw i)∧I.bq .aiw no=.bool q∧(q=true↔D=true∨∃x∈g,x∉t0)) ?_ ?_ ?_ ?_ ?_ k cs
 ·intro p d cE;have a8:((H.set m (.map p d)).new (.mapIter (some m) d [] d)).get s=.cells c n e true [] fz:=by rw[af.dt,af.fR,an Y,af.aD,an (aio S)];exact g7
  have a':((H.set m (.map p d)).new (.mapIter (some m) d [] d)).get m=.map p d:=by rw[af.dt,af.fR,an ay,af.aD,aH rfl]
  refine⟨rfl,λj j1 j2 j3 _=>?_,a',λx hx=>(by grind),?_⟩;·simp[j3,j2,af.dt,af.fR,an,af.aD]
  by_cases z:m=N
  ·obtain⟨A,_⟩:=a1 z;obtain⟨g,x1,x2⟩:=Uk cE t0 A;refine⟨g,c,D,?_,λx=>by grind,a8,λ_ _=>rfl,av,?_⟩;·rw[←z,a'];exact⟨x2.nodup_iff.2 u.1,p,rfl,x1⟩
   grind
  refine⟨t0,c,D,?_,by simp,a8,λ_ _=>rfl,av,by simp⟩;simp[X,z,u,af.dt,af.fR,an,af.aD,aio]
 ·rintro p d l H1 o⟨Q,R,q3,q0,g,I,q,q4,q5,q6,q7⟩;refine⟨Q,λj j1 j2 j3 j4=>?_,?_,q0,g,I,q,?_,q5,?_,q7⟩;·simp[j3,R,j1,j2,j4,af.aD,an]
  all_goals simp[ay,q3,X,q4,Y,q6,af.aD,an]
 ·grind
 ·rintro p d l aa H1 kk dz⟨Q,R,q3,q0,g,I,q,q4,q5,q6,q7,q8,q9⟩he A;refine Z aa H1 kk _ R he A ?_;have cc:∀{i o v},bh H i o=some v→i≠s→bh H1 i o=some v:=λh W=>by rw[pg (R _ (kY h cy) (kY h V) (wZ T h) W)];exact h
  have hp:H1.get pm=H.get pm:=R pm b' (aio ca) cd bd;refine Mv ha hw (pm:=pm) (s2:=F) (N:=N) (pl:=pl) (pks:=pks) (ks:=g) (c:=I) (q:=q) (e:=e) (n:=n) (fz:=fz) (kb:=kb) (b:=b4) ?_ ?_ ?_ ?_ ?_ ?_ q6 g8 g9 q8 q4 ?_;·rw[e1];exact cc k1 cn
  ·rw[e2];exact cc k2 cp
  ·rw[e3];exact cc k3 cv
  ·simp_all[kX]
  ·simp_all[jC]
  ·simp[e5,e6,e7,cc,k5,cx,mR,aiu,ahF,bm]
  intro r H2 c8 c9 r1 r2 r3 r4 r5 r6 r7 r8 B w1 w2;refine⟨rfl,rfl,rfl,λt ht=>(w1 t ht).trans (he t ht),w2,r2 _ (aio X) (aio Y),r1.trans Q,λj j1 j2 j3 j4=>(r2 j j1 j4).trans (R j j1 j2 j3 j4),?_,λx hx=>?_,c8,c9,_,r3,λx=>?_,r5,λi hi=>(r6 i hi).trans (q7 i hi),r7,?_⟩;·grind
  ·grind
  ·grind
  rw[ahT,agM,q9,ahA];have hh:ib kk g=false↔kk∉g:=by rw[←su];simp
  grind
 rintro p d l H1 ba w' hl⟨Q,R,q3,_,g,I,q,q4,q5,q6,q7,q8,q9⟩c' dm gj;refine⟨ba,c',?_⟩;have i1:=gj dm q3;have G:∀x,x∈g↔x∈gU (fB pl bC ks) t0:=λx=>by rw[q5,oE,Bh,hl,or_comm]
 have hp:g.Perm (gU (fB pl bC ks) t0):=(List.perm_ext_iff_of_nodup q4.1 (rc _ u.1)).2 G;have i2:bt P Wr ba ((H1.set m (H.get m)).set N (.dB (eE (gU (fB pl bC ks) t0)))) w':=by
  by_cases z:m=N;·refine i1.wX (N:=N) (ks:=t0) (by rw[←z,af.aD,aH rfl,z];exact u) ((List.perm_ext_iff_of_nodup u.1 (rc _ u.1)).2 λx=>?_);rw[oE,Bh];exact⟨.inr,λh=>h.elim (λh=>((a1 z).2 x).1 h.1) id⟩
  exact i1.wX (N:=N) (ks:=g) (by rw[af.aD,an (aio z)];exact q4) hp
 have W:q=(D||lZ t0 (fB pl bC ks)):=by
  have:q=true↔(D||lZ t0 (fB pl bC ks))=true:=by
   rw[q9,ahT,GO];constructor
   ·rintro(h|⟨x,h,h'⟩);·exact .inl h
    have:=(G x).1 h;rw[oE]at this;exact .inr ⟨x,this.resolve_right h',h'⟩
   rintro(h|⟨x,h,h'⟩);·exact .inl h
   exact .inr ⟨x,(G x).2 ((oE x _ _).2 (.inl h)),h'⟩
  cases q<;>cases h:(D||lZ t0 (fB pl bC ks))<;>simp_all
 have E:((H1.set m (H.get m)).set N (.dB (eE (gU (fB pl bC ks) t0)))).get s=.cells I n e true [] fz:=by rw[af.aD,an (aio bc),af.aD,an (aio S)];exact q6
 have i3:=i2.Uj (i:=s) (o':=.cells (fD c no [.bool (D||lZ t0 (fB pl bC ks))]) n e true [] fz) (by rw[E];simp) (by rw[E];rfl) (by rw[E];rfl) rfl (by
  intro x ob C;rw[E]at C;have bv:∀i,(fD c no [.bool (D||lZ t0 (fB pl bC ks))]).bq .aiw i=I.bq .aiw i:=by
   intro i;rw[mL];by_cases hi:i=no;·subst hi;rw[aH (by simp)];rw[q8,W];simp
   rw[an (by simp;omega),q7 i hi]
  cases ob<;>simp only[OR]at C⊢;refine⟨C.1,C.2.1,λi hi=>?_,C.2.2.2⟩;rw[bv];exact C.2.2.1 i hi) (by intro q ob W;rw[E]at W;cases ob<;>simp only[gB]at W⊢;exact W);refine i3.sub (H2:=((H.set N (.dB (eE (gU (fB pl bC ks) t0)))).set s (.cells (fD c no [.bool (D||lZ t0 (fB pl bC ks))]) n e true [] fz)).skip) (by show H.next.succ=H1.next;exact Q.symm) λj=>?_;show((H.set N _).set s _).get j=_∨((H.set N _).set s _).get j=_;simp only[af.aD];by_cases e0:j=s;·left;simp[e0]
 by_cases e1:j=N;·left;simp[e0,e1]
 by_cases e2:j=m;·left;simp[e0,e1,e2]
 by_cases e3:j=H.next;·right;simp only[an e1,an e0];rw[e3];exact(T.dV _ (adW _)).1
 left;simp only[an e0,an e1,an e2];exact(R j e1 e2 e3 e0).symm
end
end
theorem Mx:A9=[sl 16,sl 53,sl 54,sl 55,sl 56,sl 57,sl 58,sl 59,sl 60,sl 61,sl 62,sl 63,sl 64,sl 65,sl 66,sl 67]:=by rfl
theorem My:Ba=[sl 19,sl 76,sl 77,sl 78,sl 79,sl 80,sl 81,sl 82,sl 83,sl 84,sl 85,sl 86,sl 87]:=by rfl
theorem Dw{i j:ac}(h:ac.beq i j=false):i≠j:=λe=>by grind[ac.gT]
theorem Mz{ee:Nat}{k:ac→Option Int}{to:Nat}{cH:List ac}{aa d:am AV}{H H':af}(h:zk ee k to cH aa H=some (d,H')):∃f l o a3 b no p s t i g a u q bC m N c n e fz ks j pl t0 r,f=ee∧pf H (aa.get .aiw (sl 11))=some (.func f [] [l,o,a3,.aw b no])∧l6 H b (aa.get .aiw (sl 5))=some p∧aa.get .aiw (sl to)=.int s t∧l6 H b (aa.get .aiw (sl 11))=some i∧l6 H b l=some (.map g)∧l6 H b o=some a∧l6 H b a3=some (.int u q)∧k b=some bC∧uh H b p t=some (.map m)∧uh H b a q=some (.map N)∧H.get b=.cells c n e true [] fz∧g≠N∧m≠g∧fz≤no∧no<n∧jC H m=some ks∧jC H g=some j∧kX H g=some pl∧jB H N=some t0∧c.bq .aiw no=.bool r∧d=kJ aa cH∧H'=((H.set N (.dB (eE (gU (fB pl bC ks) t0)))).set b (.cells (fD c no [.bool (r||lZ t0 (fB pl bC ks))]) n e true [] fz)).skip:=by
 unfold zk at h;split at h;case h_2=>grind
 rename_i f l o a3 b no x;split at h;case isFalse=>grind
 rename_i y;split at h;case h_2=>grind
 rename_i p s t i g a u q bC z A B C D E F;split at h;case h_2=>grind
 rename_i m N c n e fz G v w;split at h;case isTrue=>grind
 rename_i hb;simp only[ahT,ahA,Bool.and_eq_false_iff,not_or,Bool.not_eq_true,Bool.not_eq_false]at hb;obtain⟨⟨b2,I⟩,J,K⟩:=hb;split at h;case h_2=>grind
 rename_i ks j pl t0 r L M O P Q;injection h with h;injection h with h1 h2;exact⟨f,l,o,a3,b,no,p,s,t,i,g,a,u,q,bC,m,N,c,n,e,fz,ks,j,pl,t0,r,agO y,x,z,A,B,C,D,E,F,G,v,w,Dw b2,Dw I,agT J,Eq.mp ahF K,L,M,O,P,Q,h1.symm,h2.symm⟩
theorem Ul{P:Program}{ee q:Nat}(L:ee≠q)(s:j9 P (ph ee q)):wK P 1004 (Bb ee):=by
 intro Wr ρ H H' w nt fr c1 c2 x y ax b a M O z hg hF hI k cs;have z:bp.seq Ma Mb=bp.seq x y:=z;injection z with B hy;subst B;subst hy;unfold Bb at hg;obtain⟨f,a1,a2,a3,J,no,s5,kt,t,a6,pm,ay,kb,b0,bC,m,N,c,n,e,fz,ks,a8,pl,t0,nw,hf,v1,v2,v3,v4,v5,v6,v7,j,v9,Q,R,n2,n3,n4,n5,w1,w2,w3,w4,w5,rfl,rfl⟩:=Mz hg;subst hf;obtain⟨S,T,E,V⟩:=vi v1;obtain⟨i5,o5,e5,a',c5⟩:=w6 v2;obtain⟨ba,aQ,r,F,_⟩:=w6 v4;rw[E]at r;injection r with q1 q2;subst q1;subst q2;obtain⟨is,os,ns,bb,bc,js,e6,e7,e8,bd,c6⟩:=GP v9;obtain⟨ms,W⟩:=Ds w1;obtain⟨Ns,X⟩:=Bf w4;have Y:fr=⟨fr.aa,fr.bF,fr.bD⟩:=rfl;have hat:∃i7 u,fr.aa.get .aiw (sl 7)=.aw i7 u∧i7≠J∧∃C,bh H i7 (u+1)=some C∧∀(x:aG)(g:am AV)(D:af),gv g x=C→aB (.jN x) g D=some (.int 3 bC,D):=by
  split at j;case h_2=>cases j
  rename_i i7 u Z;split at j;·cases j
  rename_i hb;refine⟨i7,u,Z,λe=>hb (by rw[e];exact ac.gT.2 rfl),?_⟩;split at j;·rename_i C A;injection j with j;subst j;exact⟨_,A,λx g D B=>by simp[aB,B]⟩
  ·rename_i A;injection j with j;subst j;exact⟨_,A,λx g D B=>by simp[aB,B]⟩
  cases j
 obtain⟨i7,u,ag,ar,C,c7,G⟩:=hat;refine(Mw L s M O (cH:=A9) (by simp) (by decide) (by decide) (by decide) (by decide) (by decide) (by decide) (by decide) (by decide) (by decide) (by decide) (by decide) (by decide) hF hI (bC:=bC) v5 v6 v7 w3 w2 Q R n4 n5 w5 w1 w4 n2 n3 20 120 ?_ ?_ k cs).mono ?_
 ·intro l d;rw[Y];refine Xc.region (n:=19) ?_;refine Xo.op (n:=18) (v:=s5) (H':=H.set m (.map l d)) (jm e5 (by grind[zn,kY])) ?_;refine Xo.op (n:=17) (v:=.int kt t) (H':=H.set m (.map l d)) (by simp[v3,aB,gv,aM,am.aD,bH]) ?_;refine Xo.op (n:=16) (v:=.aw is (os+js)) (H':=H.set m (.map l d)) (vj (by trivial) (by simp[gv,aM,am.aD,bH];trivial) e8) ?_;refine Xo.op (n:=15) (v:=.map m) (H':=H.set m (.map l d)) (jm (by rfl) (by grind[zn,kY])) ?_;refine Xo.op (n:=14) (v:=.aw H.next 0) (H':=(H.set m (.map l d)).new (.mapIter (some m) d [] d)) (by simp[aB,gv,aM,am.aD,bH,af.aD];rfl) (Xo.nil (n:=13) ?_);refine⟨rfl,rfl,rfl,?_,?_,rfl⟩;·intro t s;simp only[Mx,adC,ag0,or_false,not_or]at s;simp[s,aM,am.aD]
  rfl
 ·intro aa H1 kk K I he av p;have cc:∀{i o v},bh H i o=some v→i≠J→bh H1 i o=some v:=λh hq=>by rw[pg (I _ (kY h X) (kY h W) (wZ hI h) hq)];exact h
  have bv:aa.get .aiw (sl 11)=.aw S T:=by rw[he _ (by decide)];exact E
  refine Xc.region (n:=119) ?_;have h7:aa.get .aiw (sl 7)=.aw i7 u:=by rw[he _ (by decide)];exact ag
  refine Xo.op (n:=118) (v:=.func f [] [a1,a2,a3,.aw J no]) (H':=H1) (jm (by trivial) (cc V F)) ?_;refine Xo.op (n:=117) (v:=.int 3 kk) (H':=H1) (by simp[av,aB,gv,aM,am.aD,bH]) ?_;refine Xo.op (n:=116) (v:=.aw i7 (u+1)) (H':=H1) (by simp[h7,aB,gv,aM,am.aD,bH]) ?_;refine Xo.op (n:=115) (v:=C) (H':=H1) (jm (by rfl) (cc c7 ar)) ?_;refine Xo.op (n:=114) (v:=.int 3 bC) (H':=H1) (G _ _ _ (by rfl)) ?_;refine Xo.call (n:=113) ?_;simp only[gv,aM,am.aD,bH,agN,ahX];refine Xf.mono (n:=80) (by simp) ?_ p;intro v D p;refine Xo.mono (n:=101) (by simp) (λ_ _ h=>h) ?_;refine Xo.nil (n:=100) (p _ ?_ ?_);·intro t s;simp only[Mx,adC,ag0,or_false,not_or]at s;simp[s,aM,am.aD]
  rfl
 simp
theorem Um{P:Program}{ee l:Nat}(A:ee≠l)(q:j9 P (ph ee l)):wK P 1005 (Bc ee):=by
 intro Wr ρ H H' w nt fr c1 c2 x y W b a B C r hg Y Q k cs;have r:bp.seq Mc Me=bp.seq x y:=r;injection r with Z hy;subst Z;subst hy;unfold Bc at hg;obtain⟨f,a1,a2,a3,R,no,s5,kt,t,ag,pm,X,kb,bb,bC,m,N,c,n,e,fz,ks,ar,pl,t0,nw,hf,v1,v2,v3,v4,v5,v6,v7,S,v9,D,E,n2,n3,n4,n5,T,w2,w3,V,w5,rfl,rfl⟩:=Mz hg;subst hf;obtain⟨F,G,s,I⟩:=vi v1;obtain⟨i5,o5,e5,av,c5⟩:=w6 v2;obtain⟨ax,aQ,p,u,_⟩:=w6 v4;rw[s]at p;injection p with q1 q2;subst q1;subst q2;obtain⟨is,os,ns,ay,a6,js,e6,e7,e8,a8,c6⟩:=GP v9;obtain⟨ms,J⟩:=Ds T;obtain⟨Ns,L⟩:=Bf V;have M:fr=⟨fr.aa,fr.bF,fr.bD⟩:=rfl;simp only[acm]at S;subst S;refine(Mw A q B C (cH:=Ba) (by simp) (by decide) (by decide) (by decide) (by decide) (by decide) (by decide) (by decide) (by decide) (by decide) (by decide) (by decide) (by decide) Y Q (bC:=.ofNat 0) v5 v6 v7 w3 w2 D E n4 n5 w5 T V n2 n3 20 120 ?_ ?_ k cs).mono ?_
 ·intro g d;rw[M];refine Xc.region (n:=19) ?_;refine Xo.op (n:=18) (v:=s5) (H':=H.set m (.map g d)) (jm e5 (by grind[zn,kY])) ?_;refine Xo.op (n:=17) (v:=.int kt t) (H':=H.set m (.map g d)) (by simp[v3,aB,gv,aM,am.aD,bH]) ?_;refine Xo.op (n:=16) (v:=.aw is (os+js)) (H':=H.set m (.map g d)) (vj (by trivial) (by simp[gv,aM,am.aD,bH];trivial) e8) ?_;refine Xo.op (n:=15) (v:=.map m) (H':=H.set m (.map g d)) (jm (by rfl) (by grind[zn,kY])) ?_;refine Xo.op (n:=14) (v:=.aw H.next 0) (H':=(H.set m (.map g d)).new (.mapIter (some m) d [] d)) (by simp[aB,gv,aM,am.aD,bH,af.aD];rfl) (Xo.nil (n:=13) ?_);refine⟨rfl,rfl,rfl,?_,?_,rfl⟩;·intro t q;simp only[My,adC,ag0,or_false,not_or]at q;simp[q,aM,am.aD]
  rfl
 ·intro aa H1 kk K z he O j;have cc:∀{i o v},bh H i o=some v→i≠R→bh H1 i o=some v:=λh hq=>by rw[pg (z _ (kY h L) (kY h J) (wZ Q h) hq)];exact h
  have a':aa.get .aiw (sl 11)=.aw F G:=by rw[he _ (by decide)];exact s
  refine Xc.region (n:=119) ?_;refine Xo.op (n:=118) (v:=.func f [] [a1,a2,a3,.aw R no]) (H':=H1) (jm (by trivial) (cc I u)) ?_;refine Xo.op (n:=117) (v:=.int 3 kk) (H':=H1) (by simp[O,aB,gv,aM,am.aD,bH]) ?_;refine Xo.call (n:=116) ?_;simp only[gv,aM,am.aD,bH,agN,ahX];refine Xf.mono (n:=80) (by simp) ?_ j;intro v H2 j;refine Xo.mono (n:=101) (by simp) (λ_ _ h=>h) ?_;refine Xo.nil (n:=100) (j _ ?_ ?_);·intro t q;simp only[My,adC,ag0,or_false,not_or]at q;simp[q,aM,am.aD]
  rfl
 simp
section
variable[Ov]
variable{P:Program}{a:cJ}{ρ:aL}{H:af}{w:World}
def b9.nQ(o:b9):Prop:=o.kW=false∧o.aK=[]∧o≠.none
theorem bt.mP(h:bt P a ρ H w){hl dd:ac→Prop}(r:∀i,hl i→(H.get i).nQ)(hd:∀i,dd i→H.get i=.none∧ρ i=none∧i.al<H.next.al∧∀j,i∉(H.get j).aK){c:af}(m:c.next=H.next)(hg:∀j,c.get j=H.get j∨c.get j=.none)(s:∀i,hl i→c.get i=.none):bt P (a.ka ρ hl dd) ρ c w:=by
 have hs:=h.sub m hg;have o:∀j,c.get j≠.none→c.get j=H.get j:=λj hj=>(hg j).resolve_right hj;have t:=Gn hg;have mP:∀j b x,c.get j≠.none→ρ j=some (b,x)→∀i y,hl i→ρ i≠some (b,y):=by
  intro j b x hj v i y hi z;obtain⟨n,u,g⟩:=r i hi;have p:i≠j:=λe=>hj (e▸s i hi);have q:H.get j≠.none:=by rw[←o j hj];exact hj
  rcases h.kH i j b y x p g q z v with⟨l,_⟩|⟨l,_⟩;·have:=(h.aK i j l).2 g;rw[n]at this;cases this
  rw[u]at l;cases l
 constructor;·exact hs.ev
 ·exact hs.kH
 ·exact hs.aK
 ·intro i b x hi A e;exact⟨hs.wr i b x hi A e,λk y f=>mP i b x hi e k y f⟩
 ·exact hs.dV
 ·intro k f;have d:∀i x,hl i→ρ i≠some (k,x):=λi x _ e=>by have:=h.fu i k x e;omega
  exact⟨⟨(h.new k f).1,d⟩,⟨(h.new k f).2,d⟩⟩
 ·exact hs.lT
 ·exact hs.jQ
 ·exact hs.fu
 ·intro i b x hi e;exact⟨hs.rd i b x hi e,λk y f=>mP i b x hi e k y f⟩
 ·intro i hi;rcases hi with hi|hi|hi;·exact hs.un i hi
  ·obtain⟨n,u,g⟩:=r i hi;refine⟨s i hi,by rw[m];exact h.CR g,λj hj=>?_⟩;have:=(h.aK i j (t i j hj)).2 g;rw[n]at this;cases this
  obtain⟨h0,h1,h2,h3⟩:=hd i hi;exact⟨by rcases hg i with e|e<;>rw[e];exact h0,by rw[m];exact h2,λj hj=>h3 j (t i j hj)⟩
 intro i hi;rcases hi with hi|hi;·exact⟨.inl (hs.eT i hi).1,(hs.eT i hi).2⟩
 exact⟨.inr (.inr hi),(hd i hi).2.1⟩
theorem bt.GQ(h:bt P a ρ H w){hl dd:ac→Prop}(B:∀i,hl i→(H.get i).nQ){m:aL}{H':af}{w':World}(p:cz ρ m)(g:bt P (a.ka ρ hl dd) m H' w')(q:d9 (a.ka ρ hl dd) w w'){H2:af}(K:H2.next=H'.next)(h1:∀i,hl i→H2.get i=H.get i)(h2:∀i,¬hl i→H2.get i=H'.get i):bt P a m H2 w'∧d9 a w w':=by
 have d:∀i,hl i→∃b x r,ρ i=some (b,x)∧m i=some (b,x)∧m.k b=ρ.k b∧w.heap[b]?=some r∧w'.heap[b]?=some r∧OR P ρ (H.get i) x r:=by intro i hi;obtain⟨b,x,r,e,E,hb,L⟩:=h.aF ((B i hi)).2.2;exact⟨b,x,r,e,(p _ _ e).1,(p _ _ e).2,hb,by rw[q.block b E λC=>C.2 i x hi e];exact hb,L⟩
 have z:∀i j,i∈(H2.get j).aK→¬hl i∧¬hl j∧i∈(H'.get j).aK:=by
  intro i j hj;by_cases f:hl j;·rw[h1 j f,(B j f).2.1]at hj;cases hj
  rw[h2 j f]at hj;exact⟨λhi=>(g.un i (.inr (.inl hi))).2.2 j hj,f,hj⟩
 refine⟨⟨?_,?_,?_,?_,?_,?_,?_,?_,?_,?_,?_,?_⟩,⟨q.os,q.tape,q.output,q.size,λk h1 C=>q.block k h1 λF=>C F.1⟩⟩
 ·intro i hi;by_cases c:hl i;·grind[OR.mono]
  rw[h2 i c]at hi⊢;exact g.ev i hi
 ·intro i j b x y u hi hj t n;by_cases c:hl i
  ·obtain⟨b1,D,_,l,o,_⟩:=d i c;rw[o]at t;injection t with t;injection t with G I;subst G;subst I;by_cases f:hl j;·obtain⟨b2,M,_,c1,c2,_⟩:=d j f;rw[c2]at n;injection n with n;injection n with s v;subst s;subst v;rw[h1 i c]at hi⊢;rw[h1 j f]at hj⊢;exact h.kH i j _ _ _ u hi hj l c1
   rw[h2 j f]at hj;exact absurd l ((g.rd j _ y hj n).2 i _ c)
  by_cases f:hl j;·obtain⟨b2,M,_,c1,c2,_⟩:=d j f;rw[c2]at n;injection n with n;injection n with s v;subst s;rw[h2 i c]at hi;exact absurd c1 ((g.rd i _ x hi t).2 j _ f)
  rw[h2 i c]at hi⊢;rw[h2 j f]at hj⊢;exact g.kH i j b x y u hi hj t n
 ·intro i j hj;obtain⟨l,o,a3⟩:=z i j hj;obtain⟨b1,b2⟩:=g.aK i j a3;grind
 ·intro i b x hi A e;by_cases c:hl i;·obtain⟨b1,D,_,l,o,_⟩:=d i c;rw[o]at e;injection e with e;injection e with e1 e2;subst e1;rw[h1 i c]at hi A;exact h.wr i _ _ hi A l
  rw[h2 i c]at hi A;exact(g.wr i b x hi A e).1
 ·intro i hi;rw[K]at hi;obtain⟨l,o⟩:=g.dV i hi;grind
 ·intro k J;exact h.new k (ahY q.size J)
 ·exact g.lT
 ·intro i b x r hi e hb;by_cases c:hl i;·obtain⟨b1,D,N,l,o,a3,a4,a5,_⟩:=d i c;rw[o]at e;injection e with e;injection e with e1 e2;subst e1;rw[a5]at hb;injection hb with hb;subst hb;rw[h1 i c]at hi⊢;rw[a3];exact h.jQ i _ _ _ hi l a4
  rw[h2 i c]at hi⊢;exact g.jQ i b x r hi e hb
 ·exact g.fu
 ·intro i b x hi e;by_cases c:hl i;·obtain⟨b1,D,_,l,o,_⟩:=d i c;rw[o]at e;injection e with e;injection e with e1 e2;subst e1;rw[h1 i c]at hi;exact h.rd i _ _ hi l
  rw[h2 i c]at hi;exact(g.rd i b x hi e).1
 ·intro i hi;obtain⟨l,o,a3⟩:=g.un i (.inl hi);have c:¬hl i:=λc=>(B i c).2.2 (h.un i hi).1;grind
 intro i hi;exact⟨(h.eT i hi).1,(g.eT i (.inl hi)).2⟩
theorem OR.MA{ρ d:aL}(h:cz ρ d){c:am AV}{n e fz:Nat}{b:Bool}{aK:List ac}{j x:Nat}{f g:Obj}(l:OR P ρ (.cells c n e b aK fz) j f)(k:OR P d (.cells c n e b aK fz) x g):OR P ρ (.cells c n e b aK fz) x g:=by cases f<;>simp only[OR]at l;cases g<;>simp only[OR]at k⊢;refine⟨k.1,k.2.1,λi hi=>?_,k.2.2.2⟩;grind[VR.gj]
theorem dG.set{ρ d:aL}:∀{l:List Int}{m:List MapEntry},dG ρ (eE l) m→dG d (eE l) m
 |[],[],_=>by trivial
 |k::l,c::m,h=>by
  refine⟨?_,?_,dG.set (l:=l) h.2.2⟩;·have:=h.1;cases b:c.key<;>rw[b]at this<;>simp only[VR]at this⊢;exact this
  have:=h.2.1;cases b:c.val<;>rw[b]at this<;>simp only[VR]at this⊢;exact this
 |[],_::_,h=>by trivial
 |_::_,[],h=>by trivial
theorem OR.wX{ρ f:aL}{o:b9}{ks ks2:List Int}(hs:gK o ks)(j:ks.Perm ks2){x:Nat}{e:Obj}(h:OR P ρ o x e):OR P f (.dB (eE ks2)) x e:=by
 obtain⟨_,es,he,g⟩:=hs;have d:(eE ks).Perm (eE ks2):=j.map _;have b:es.map aR.kv=(eE ks).map aR.kv:=by rw[g,GI]
 cases o with|map i c=>simp only[eJ,acm]at he;subst he;cases e<;>simp only[OR]at h⊢;obtain⟨rfl,rfl,gJ,h3⟩:=h;obtain⟨l,p1,p2⟩:=dG.C6 d (dG.kv b (ch.open h3));exact⟨rfl,gJ,l,p1,dG.set p2⟩|dB i=>simp only[eJ,acm]at he;subst he;cases e<;>simp only[OR]at h⊢;obtain⟨h1,h2,l,h3,k⟩:=h;obtain⟨m,p1,p2⟩:=dG.C6 d (dG.kv b k);exact⟨h1,h2,m,p1.trans h3,dG.set p2⟩|_=>simp[eJ]at he
theorem bt.GR{f:aL}{H1 H2:af}{Y:World}(h0:bt P a ρ H w)(L:cz ρ f)(h1:bt P a f H1 Y)(nx:H.next.al≤H2.next.al)(m:ac→ac)(new:ac→Prop) [DecidablePred new](c:aL)(B:c=⟨λj=>if j.al<H.next.al then ρ j else if new j then f (m j)else none,f.k⟩)(v:∀j,H.next.al≤j.al→H2.get j≠.none→new j)(A:∀j,new j→H.next.al≤j.al∧j.al<H2.next.al∧H.next.al≤(m j).al∧H1.get (m j)≠.none∧(H1.get (m j)).aK=[]∧(H1.get (m j)).kW=false∧(H2.get j).aK=[]∧(H2.get j).kW=false∧(H1.get (m j)).len=(H2.get j).len∧(∀x d,OR P f (H1.get (m j)) x d→OR P c (H2.get j) x d)∧∀q d,gB P q (H1.get (m j)) d→gB P q (H2.get j) d)(inj:∀i j,new i→new j→m i=m j→i=j)(dJ:∀j,j.al<H.next.al→H2.get j≠.none→H.get j≠.none∧H1.get j≠.none∧(H1.get j).aK=(H.get j).aK∧(H2.get j).aK=(H.get j).aK∧(H1.get j).kW=(H2.get j).kW∧(H1.get j).len=(H2.get j).len∧(∀x d,OR P f (H1.get j) x d→OR P c (H2.get j) x d)∧∀q d,gB P q (H1.get j) d→gB P q (H2.get j) d):cz ρ c∧bt P a c H2 Y:=by
 have ro:∀j,j.al<H.next.al→c j=ρ j:=λj hj=>by rw[B];exact aH hj
 have Z:∀j,new j→c j=f (m j):=λj hj=>by rw[B];show(if _ then _ else _)=_;rw[an (by have:=(A j hj).1;omega),aH hj]
 have rk:c.k=f.k:=by rw[B]
 have rz:∀j,H.next.al≤j.al→¬new j→c j=none:=λj h hj=>by rw[B];show(if _ then _ else _)=_;rw[an (by omega),an hj]
 have G:∀j x,ρ j=some x→j.al<H.next.al:=λj x e=>by
  rcases ahz j.al H.next.al with h|h;·exact h
  rw[(h0.dV j h).2]at e;cases e
 have J:cz ρ c:=λj x e=>⟨by rw[ro j (G j x e)];exact e,by rw[rk];exact(L j x e).2⟩;have p:∀j,H2.get j≠.none→∃t,H1.get t≠.none∧c j=f t∧(H1.get t).kW=(H2.get j).kW∧(H1.get t).len=(H2.get j).len∧(∀x d,OR P f (H1.get t) x d→OR P c (H2.get j) x d)∧(∀q d,gB P q (H1.get t) d→gB P q (H2.get j) d)∧((j.al<H.next.al∧t=j)∨(new j∧t=m j)):=by
  intro j hj;rcases ahz j.al H.next.al with hl|hl;·obtain⟨z,s,a3,a4,a5,M,a7,N⟩:=dJ j hl hj;refine⟨j,s,?_,a5,M,a7,N,.inl ⟨hl,rfl⟩⟩;obtain⟨b,x,d,e,_⟩:=h0.ev j z;rw[ro j hl,e,(L _ _ e).1]
  have n:=v j hl hj;obtain⟨z,s,a3,a4,a5,M,a7,N,a9,Q,R⟩:=A j n;exact⟨m j,a4,Z j n,M.trans N.symm,a9,Q,R,.inr ⟨n,rfl⟩⟩
 have o:∀i j,i∈(H2.get j).aK→j.al<H.next.al∧i∈(H.get j).aK∧H2.get j≠.none:=by
  intro i j hi;have hj:H2.get j≠.none:=λe=>by rw[e]at hi;cases hi
  rcases ahz j.al H.next.al with hl|hl;·obtain⟨z,s,a3,a4,_⟩:=dJ j hl hj;exact⟨hl,by rw[←a4];exact hi,hj⟩
  have n:=v j hl hj;rw[(A j n).2.2.2.2.2.2.1]at hi;cases hi
 have l:∀i j K F,H2.get i≠.none→H2.get j≠.none→((i.al<H.next.al∧K=i)∨(new i∧K=m i))→((j.al<H.next.al∧F=j)∨(new j∧F=m j))→K∈(H1.get F).aK→i∈(H2.get j).aK:=by
  intro i j K F hi hj S T r;rcases T with⟨hl,rfl⟩|⟨n,rfl⟩
  ·obtain⟨z,s,a3,a4,_⟩:=dJ F hl hj;rw[a3]at r;rcases S with⟨V,rfl⟩|⟨C,rfl⟩;·rw[a4];exact r
   have:=(h0.aK _ _ r).1;have:=(A i C).2.2.1;omega
  rw[(A j n).2.2.2.2.1]at r;cases r
 refine⟨J,⟨?_,?_,?_,?_,?_,?_,?_,?_,?_,?_,?_,?_⟩⟩;·intro i hi;obtain⟨t,t1,t2,_,_,t5,_⟩:=p i hi;obtain⟨b,x,d,e,hb,hr⟩:=h1.ev t t1;exact⟨b,x,d,by rw[t2];exact e,hb,t5 x d hr⟩
 ·intro i j b x y I hi hj ei ej;obtain⟨t,t1,t2,_,t4,_,_,t7⟩:=p i hi;obtain⟨u,u1,u2,_,u4,_,_,O⟩:=p j hj;have W:t≠u:=by
   rcases t7 with⟨hl,rfl⟩|⟨n,rfl⟩<;>rcases O with⟨V,rfl⟩|⟨C,rfl⟩;·exact I
   ·rintro rfl;have:=(A j C).2.2.1;omega
   ·rintro rfl;have:=(A i n).2.2.1;omega
   exact λe=>I (inj i j n C e)
  rw[←t4,←u4];rcases h1.kH t u b x y W t1 u1 (by rw[←t2];exact ei) (by rw[←u2];exact ej)with⟨r,D⟩|⟨r,D⟩;·exact .inl ⟨l i j t u hi hj t7 O r,D⟩
  exact .inr ⟨l j i u t hj hi O t7 r,D⟩
 ·intro i j hi;obtain⟨hl,r,hj⟩:=o i j hi;have hp:=h0.aK i j r;refine⟨ag6 hp.1 nx,λX=>?_⟩;obtain⟨z,s,a3,a4,a5,_⟩:=dJ i hp.1 X;obtain⟨b1,b2,b3,_⟩:=dJ j hl hj;rw[←a5];exact(h1.aK i j (by rw[b3];exact r)).2 s
 ·intro i b x hi hf e;obtain⟨t,t1,t2,t3,_⟩:=p i hi;exact h1.wr t b x t1 (by rw[t3];exact hf) (by rw[←t2];exact e)
 ·intro i hi;have hg:H2.get i=.none:=by apply ahe;intro E;have:=(A i (v i (ahY nx hi) E)).2.1;omega
  refine⟨hg,rz i (ahY nx hi) λn=>?_⟩;have:=(A i n).2.1;omega
 ·exact h1.new
 ·intro g hg;have:=h0.lT g hg;rw[ro _ (G _ _ this)];exact this
 ·intro i b x d hi e hb;obtain⟨t,t1,t2,_,_,_,t6,_⟩:=p i hi;rw[rk];exact t6 _ _ (h1.jQ t b x d t1 (by rw[←t2];exact e) hb)
 ·intro i b x e;rcases ahz i.al H.next.al with hl|hl;·rw[ro i hl]at e;exact h1.fu i b x (L _ _ e).1
  by_cases n:new i;·rw[Z i n]at e;exact h1.fu _ b x e
  rw[rz i hl n]at e;cases e
 ·intro i b x hi e;obtain⟨t,t1,t2,_⟩:=p i hi;exact h1.rd t b x t1 (by rw[←t2];exact e)
 ·intro i hi;obtain⟨z,s,a3⟩:=h0.un i hi;refine⟨?_,ag6 s nx,λj hj=>a3 j (o i j hj).2.1⟩;apply ahe;intro E;exact(dJ i s E).1 z
 intro i hi;obtain⟨z,s⟩:=h0.eT i hi;exact⟨z,by rw[ro i (h0.un i z).2.1];exact s⟩
end
section
theorem GS(p:ac):∀l,zj p l=true↔p∈l|[]=>by simp[zj]|q::l=>by simp only[zj,ahT,GS p l,ac.gT,adC]
theorem GU:∀l,Dq l=true↔l.Nodup|[]=>by trivial|p::l=>by simp only[Dq,agM,GU l,ahg,ahA,←GS];simp
theorem vm{c:am AV}{o:Nat}{N:ac}:∀{l:List Int},N∈kK c o l↔∃k∈l,c.bq .aiw (o+k.toNat)=.map N
 |[]=>by simp[kK]
 |k::l=>by
  simp only[kK];split
  ·rename_i b h;rw[adC,vm];constructor
   ·rintro(e|⟨a,h1,h2⟩);·exact⟨k,adc ..,e▸h⟩
    exact⟨a,adD _ h1,h2⟩
   rintro⟨a,h1,h2⟩;rcases adC.1 h1 with e|e;·subst e;rw[h]at h2;injection h2 with h2;exact .inl h2.symm
   exact .inr ⟨a,e,h2⟩
  rename_i h;rw[vm];constructor;·rintro⟨a,h1,h2⟩;exact⟨a,adD _ h1,h2⟩
  rintro⟨a,h1,h2⟩;rcases adC.1 h1 with e|e;·subst e;exact absurd h2 (h N)
  exact⟨a,e,h2⟩
theorem MB{c:am AV}{o:Nat}:∀{l:List Int},(kK c o l).Nodup→∀{k b:Int}{N:ac},k∈l→b∈l→c.bq .aiw (o+k.toNat)=.map N→c.bq .aiw (o+b.toNat)=.map N→k=b
 |[],_,_,_,_,h,_,_,_=>by grind
 |a::l,d,k,b,N,h1,h2,e1,e2=>by
  have e:(kK c o l).Nodup:=by
   simp only[kK]at d;split at d;·exact(ahg.1 d).2
   exact d
  rcases adC.1 h1 with f|f<;>rcases adC.1 h2 with g|g;·omega
  ·simp_all[kK,absurd,vm,ahg]
  ·simp_all[kK,absurd,vm,ahg]
  exact MB e f g e1 e2
theorem GV{c:am AV}{o n:Nat}{m:ac}{ks:List Int}{W:af}:∀{l:List Int}{X:am AV}{H':af}{K:am AV}{u:af},vh c o n m ks W l X H'=some (K,u)→(∀N t,jB W N=some t→N.al<H'.next.al)→l.Nodup→(kK c o l).Nodup→(∀k∈l,∃j,k=.ofNat j∧j<n∧(c.bq .aiw (o+k.toNat)=.cL∨∃N t0,c.bq .aiw (o+k.toNat)=.map N∧N≠m∧jB W N=some t0∧u.get N=.dB (eE (gU (im k ks) t0))))∧H'.next.al≤u.next.al∧(∀j,j.al<H'.next.al→j∉kK c o l→u.get j=H'.get j)∧(∀j,u.next.al≤j.al→u.get j=H'.get j)∧(∀x,(∀k∈l,c.bq .aiw (o+k.toNat)=.cL→x≠o+k.toNat)→K.bq .aiw x=X.bq .aiw x)∧∃nm:Int→ac,(∀k∈l,c.bq .aiw (o+k.toNat)=.cL→H'.next.al≤(nm k).al∧(nm k).al<u.next.al∧u.get (nm k)=.dB (eE (im k ks))∧K.bq .aiw (o+k.toNat)=.map (nm k))∧(∀k a,k∈l→a∈l→c.bq .aiw (o+k.toNat)=.cL→c.bq .aiw (o+a.toNat)=.cL→nm k=nm a→k=a)∧(∀j,H'.next.al≤j.al→j.al<u.next.al→∃k∈l,c.bq .aiw (o+k.toNat)=.cL∧nm k=j)
 |[],X,H',K,u,h,_,_,_=>by obtain⟨rfl,rfl⟩:=h;exact⟨by simp,adW _,λ_ _ _=>rfl,λ_ _=>rfl,λ_ _=>rfl,λ_=>.xH,by simp,by simp,λj h1 h2=>by omega⟩
 |k::l,X,H',K,u,h,B,w,i=>by
  rw[ahg]at w;simp only[vh]at h;split at h;case h_2=>cases h
  rename_i j;split at h;case isFalse=>cases h
  rename_i C;have C:j<n:=Eq.mp ahF C;have f:(ahI j).toNat=j:=rfl;split at h
  ·rename_i g;have T:(kK c o l).Nodup:=by simp only[kK,f,g]at i;exact i
   have V:∀N t,jB W N=some t→N.al<(H'.new (.dB (eE (im (.ofNat j) ks)))).next.al:=λN t E=>by have:=B N t E;show _<H'.next.succ.al;rw[ac.gz];omega
   obtain⟨L,Y,F,s4,Z,nm,G,s7,M⟩:=GV h V w.2 T;have J:(H'.new (.dB (eE (im (.ofNat j) ks)))).next.al=H'.next.al+1:=ac.gz _;rw[J]at Y F G M;have D:∀a∈l,c.bq .aiw (o+a.toNat)=.cL→o+j≠o+a.toNat:=by
    intro a b _ e;obtain⟨j2,rfl,_⟩:=L a b;have:j=j2:=by have:(ahI j2).toNat=j2:=rfl;omega
    subst this;exact w.1 b
   have hc:K.bq .aiw (o+j)=.map H'.next:=by rw[Z _ D,mL];simp
   have hg:u.get H'.next=.dB (eE (im (.ofNat j) ks)):=by
    rw[F H'.next (by omega),af.dt,aH rfl];rw[vm];rintro⟨a,h1,h2⟩;obtain⟨j2,_,_,h3|⟨N,t0,h3,_,h4,_⟩⟩:=L a h1;·rw[h3]at h2;cases h2
    rw[h3]at h2;injection h2 with h2;subst h2;have:=B _ _ h4;omega
   have r:∀a∈l,a≠.ofNat j:=λa h e=>w.1 (e▸h);refine⟨?_,by omega,?_,?_,?_,λx=>if x=.ofNat j then H'.next else nm x,?_,?_,?_⟩
   ·intro k v;rcases adC.1 v with e|e;·subst e;exact⟨j,rfl,C,.inl g⟩
    exact L k e
   ·intro p A y;rw[F p (by omega) (λq=>y (by simp only[kK,f,g];exact q)),af.dt,an (λe=>by rw[e]at A;omega)]
   ·intro p A;rw[s4 p A,af.dt,an (λe=>by rw[e]at A;omega)]
   ·intro x hx;rw[Z x (λa b d=>hx a (adD _ b) d),mL];have:=hx (.ofNat j) (adc ..) g;rw[f]at this;rw[an (by simp;omega)]
   ·intro k v z;rcases adC.1 v with e|e;·subst e;simp only[bm];exact⟨by omega,by omega,hg,hc⟩
    simp only[an (r k e)];obtain⟨O,P,Q,q4⟩:=G k e z;exact⟨by omega,P,Q,q4⟩
   ·intro k a v b s d he;rcases adC.1 v with e|e<;>rcases adC.1 b with e2|e2;·rw[e,e2]
    ·subst e;simp only[bm,an (r a e2)]at he;have:=(G a e2 d).1;rw[←he]at this;omega
    ·subst e2;simp only[bm,an (r k e)]at he;have:=(G k e s).1;rw[he]at this;omega
    simp only[an (r k e),an (r a e2)]at he;exact s7 k a e e2 s d he
   intro p R H;by_cases e:p=H'.next;·exact⟨.ofNat j,adc ..,g,by simp[e]⟩
   have:p.al≠H'.next.al:=λq=>e (ac.tL q);obtain⟨a,O,P,Q⟩:=M p (by omega) H;exact⟨a,adD _ O,P,by simp only[an (r a O)];exact Q⟩
  ·rename_i N E;split at h;case isTrue=>cases h
   rename_i I;have I:N≠m:=Dw (by simpa using I);split at h;case h_2=>cases h
   rename_i t0 S;simp only[kK,f,E]at i;rw[ahg]at i;have ag:=B N t0 S;obtain⟨L,Y,F,s4,Z,nm,G,s7,M⟩:=GV h B w.2 i.2;rw[af.fR]at Y F G M;refine⟨?_,Y,?_,?_,?_,nm,?_,?_,?_⟩
   ·intro k v;rcases adC.1 v with e|e;·subst e;refine⟨j,rfl,C,.inr ⟨N,t0,E,I,S,?_⟩⟩;rw[F N ag i.1,af.aD,aH rfl]
    exact L k e
   ·intro p A y;simp only[kK,f,E,adC,not_or]at y;rw[F p A y.2,af.aD,an y.1]
   ·intro p A;rw[s4 p A,af.aD,an (λe=>by rw[e]at A;omega)]
   ·intro x hx;exact Z x (λa b d=>hx a (adD _ b) d)
   ·intro k v z;rcases adC.1 v with e|e;·subst e;rw[f,E]at z;cases z
    exact G k e z
   ·intro k a v b s d he;rcases adC.1 v with e|e;·subst e;rw[f,E]at s;cases s
    rcases adC.1 b with e2|e2;·subst e2;rw[f,E]at d;cases d
    exact s7 k a e e2 s d he
   intro p R H;obtain⟨a,O,P,Q⟩:=M p R H;exact⟨a,adD _ O,P,Q⟩
  cases h
section
variable[Ov]
theorem Xc.eB{ab:Nat→aE}{n t:Nat}{g:am AV→af→Option (am AV×af)}{fr:Fr}{H H':af}{a:am AV}{K:cG→Fr→af→Prop}(b:ab t=.eB g)(hg:g fr.aa H=some (a,H'))(h:K .none {fr with aa:=a} H'):Xc ab (n+1) (.eB t) fr H K:=by simp[b,hg,h,Xc,exec]
theorem Un{H:af}{N:ac}{ks:List Int}(h:gK (H.get N) ks):jB H N=some ks:=by
 obtain⟨c,es,he,b⟩:=h;have key:∀{es:List aR}{ks:List Int},es.map aR.kv=ks.map sk→ue es=some ks:=by intro es;induction es with|nil=>intro ks h;cases ks<;>simp at h;rfl|cons a es d=>intro ks h;cases ks with|nil=>simp at h|cons k ks=>simp only[agN,ag4,aR.kv,sk,age]at h;simp only[ue,h.1.1,h.1.2,d h.2]
 unfold jB;rw[he];simp only[key b,(wQ ks).2 c,bm]
theorem MC{H:af}{N:ac}{ks:List Int}(h:gK (H.get N) ks):jC H N=some ks:=by
 obtain⟨c,es,he,b⟩:=h;have key:∀{es:List aR}{ks:List Int},es.map aR.kv=ks.map sk→jA es=some ks:=by intro es;induction es with|nil=>intro ks h;cases ks<;>simp at h;rfl|cons a es d=>intro ks h;cases ks with|nil=>simp at h|cons k ks=>simp only[agN,ag4,aR.kv,sk,age]at h;simp only[jA,h.1.1,d h.2]
 unfold jC;rw[he];simp only[key b,(wQ ks).2 c,bm]
theorem Uo{es a:List aR}{ks:List Int}(j:ks.Nodup)(h:es.map aR.kv=ks.map sk)(i:(a.map aR.kv).Perm (es.map aR.kv))(b:Nat):∃c,gK (.map a b) c∧c.Perm ks:=by
 let f:AV×AV→Int:=λp=>match p.1 with|.int _ k=>k|_=>0;have d:((a.map aR.kv).map f).Perm ks:=by
  have:=i.map f;have e:(ks.map sk).map f=ks:=by
   rw[aii];have:(f∘sk)=id:=by funext k;rfl
   rw[this,List.map_id]
  rw[h,e]at this;exact this
 refine⟨(a.map aR.kv).map f,⟨d.nodup_iff.2 j,a,rfl,?_⟩,d⟩;rw[aii];have:∀p∈a.map aR.kv,(sk∘f) p=p:=by intro p g;have:=i.mem_iff.1 g;rw[h,ag3]at this;obtain⟨k,_,rfl⟩:=this;rfl
 simp_all
theorem af.jv(H:af)(c:∀j:ac,H.next.al≤j.al→H.get j=.none)(p:ac→Prop):∃a:af,a.next=H.next∧∀j,(p j→a.get j=.none)∧(¬p j→a.get j=H.get j):=by
 classical
  refine⟨H.fL (((agV H.next.al).map ac.dj).filter λj=>decide (p j)),af.jS _ _,λj=>?_⟩;rw[af.wE];constructor
  ·intro e;split;·rfl
   rename_i d;refine c j ?_;rcases ahz j.al H.next.al with h|h;·exfalso;apply d;rw[aik,ag3];have b:=ac.tJ j;exact⟨⟨j.al - 1,ahV.2 (by omega),ac.tL (by grind[ac.lS])⟩,by grind⟩
   omega
  grind
end
end
section
def Dx:Nat→aE:=λf=>if agQ f 1001 then .eB ug else .none
theorem Up{P:Program}:j9 P Dx:=by refine⟨?_,?_,?_⟩;all_goals grind[Dx,agO,Mp]
theorem Uq{aa:am AV}{H:af}{m N i3:ac}{o3:Nat}{k:Int}{b:AV}{a tN:List Int}(e:aa.get .aiw (sl 4)=.map m)(f:aa.get .aiw (sl 5)=.int 3 k)(h3:aa.get .aiw (sl 3)=.aw i3 o3)(i:bh H i3 o3=some b)(he:mR H b k=some (.map N))(c:m≠N)(j:jC H m=some a)(l:jB H N=some tN):ug aa H=some (kJ aa uf,(H.set N (.dB (eE (gU (im k a) tN)))).skip):=by simp_all[ac.beq,absurd,ac.gT,ug,pf,ac6,bK]
theorem cr{i j:ac}(a:i.al≠j.al):i≠j:=λe=>a (congrArg ac.al e)
structure pO(Hs:af)(m i:ac)(c:am AV)(o cn e fz:Nat)(ks:List Int)(t0:ac→List Int)(olds:List ac)(esx:List aR)(clock:Nat)(l:List Int)(H1:af)(c':am AV)(nr:Int→ac):Prop where
 nx:Hs.next.al<H1.next.al
 oF:∀j,j.al<Hs.next.al→j≠m→j≠i→j∉olds→H1.get j=Hs.get j
 mm:H1.get m=.map esx clock
 ii:H1.get i=.cells c' cn e true [] fz
 new:∀k∈l,c.bq .aiw (o+k.toNat)=.cL→Hs.next.al<(nr k).al∧(nr k).al<H1.next.al∧c'.bq .aiw (o+k.toNat)=.map (nr k)∧∃ks',gK (H1.get (nr k)) ks'∧∀x,x∈ks'↔x∈ks∧x≠k
 inj:∀k k2,k∈l→k2∈l→c.bq .aiw (o+k.toNat)=.cL→c.bq .aiw (o+k2.toNat)=.cL→nr k=nr k2→k=k2
 cc:∀x,(∀k∈l,c.bq .aiw (o+k.toNat)=.cL→x≠o+k.toNat)→c'.bq .aiw x=c.bq .aiw x
 dJ:∀k∈ks,∀N,c.bq .aiw (o+k.toNat)=.map N→∃ks',gK (H1.get N) ks'∧∀x,x∈ks'↔x∈t0 N∨(k∈l∧x∈ks∧x≠k)
 only:∀j,Hs.next.al<j.al→H1.get j≠.none→∃k∈l,c.bq .aiw (o+k.toNat)=.cL∧nr k=j
 sub:∀k∈l,k∈ks
theorem pO.set{Hs:af}{m i:ac}{c:am AV}{o g e fz:Nat}{ks:List Int}{t0:ac→List Int}{h:List ac}{q:List aR}{r:Nat}{l:List Int}{H1:af}{d:am AV}{p:Int→ac}(J:pO Hs m i c o g e fz ks t0 h q r l H1 d p)(f:b9)(y:m.al<Hs.next.al)(hi:i.al<Hs.next.al)(fS:∀k∈ks,∀N,c.bq .aiw (o+k.toNat)=.map N→N.al<Hs.next.al):pO Hs m i c o g e fz ks t0 h q r l (H1.set Hs.next f) d p:=by
 refine⟨J.nx,λj h1 h2 h3 n=>?_,?_,?_,λk a t=>?_,J.inj,J.cc,λk a N b=>?_,λj hj hg=>?_,J.sub⟩;·rw[af.aD,an (cr (by omega))];exact J.oF j h1 h2 h3 n
 ·rw[af.aD,an (cr (by omega))];exact J.mm
 ·rw[af.aD,an (cr (by omega))];exact J.ii
 ·obtain⟨u,v,w,x⟩:=J.new k a t;refine⟨u,v,w,?_⟩;rw[af.aD,an (cr (by omega))];exact x
 ·have:=fS k a N b;rw[af.aD,an (cr (by omega))];exact J.dJ k a N b
 rw[af.aD,an (cr (by omega))]at hg;exact J.only j hj hg
section
variable{Hs:af}{m i i3:ac}{c:am AV}{o n g e fz o3 s:Nat}{ex:Bool}{ks:List Int}{t0:ac→List Int}{h:List ac}{q:List aR}{r:Nat}{l:List Int}{H1:af}{d:am AV}{p:Int→ac}
theorem Ur(fk:∀k∈ks,∃j,k=.ofNat j∧j<n∧(c.bq .aiw (o+k.toNat)=.cL∨∃N,c.bq .aiw (o+k.toNat)=.map N∧N≠m∧N≠i∧N.al<Hs.next.al∧N∈h))(fo:∀k f N,k∈ks→f∈ks→c.bq .aiw (o+k.toNat)=.map N→c.bq .aiw (o+f.toNat)=.map N→k=f)(hm:m.al<Hs.next.al)(hi:i.al<Hs.next.al)(J:pO Hs m i c o g e fz ks t0 h q r l H1 d p){H:List Int}(hx:∀x,x∈H↔x∈ks){k:Int}(T:k∈ks)(hA:¬(c.bq .aiw (o+k.toNat)=.cL∧k∉l)):∃N tN,d.bq .aiw (o+k.toNat)=.map N∧m≠N∧N≠i∧N≠Hs.next∧gK (H1.get N) tN∧pO Hs m i c o g e fz ks t0 h q r (l++[k]) ((H1.set N (.dB (eE (gU (im k H) tN)))).skip) d p:=by
 have F:∀tN x,x∈gU (im k H) tN↔(x∈ks∧x≠k)∨x∈tN:=λtN x=>by rw[oE,ui,hx]
 have u:∀(N j:ac)(G:b9),((H1.set N G).skip).get j=if j=N then G else H1.get j:=λN j G=>af.aD H1 N j G;have C:∀(N:ac)(G:b9),((H1.set N G).skip).next.al=H1.next.al+1:=λN G=>ac.gz _;obtain⟨j,ax,hj,K⟩:=fk k T;by_cases y:c.bq .aiw (o+k.toNat)=.cL
 ·have D:k∈l:=ahe λay=>hA ⟨y,ay⟩;obtain⟨q1,q2,q3,tN,q4,q5⟩:=J.new k D y;have w:∀f,f∈l++[k]↔f∈l:=λf=>by simp only[agI,ac3];exact⟨λay=>ay.elim id λay=>ay▸D,.inl⟩
  refine⟨p k,tN,q3,cr (by omega),cr (by omega),cr (by omega),q4,?_⟩;refine⟨by rw[C];have:=J.nx;omega,λa1 h1 h2 h3 V=>?_,?_,?_,λf t z=>?_,λa b Z hb=>J.inj a b ((w a).1 Z) ((w b).1 hb),λx I=>J.cc x λf t=>I f ((w f).2 t),λf t W v=>?_,λa1 hp hg=>?_,λf t=>J.sub f ((w f).1 t)⟩;·rw[u,an (cr (by omega))];exact J.oF a1 h1 h2 h3 V
  ·rw[u,an (cr (by omega))];exact J.mm
  ·rw[u,an (cr (by omega))];exact J.ii
  ·rw[w]at t;obtain⟨E,L,r3,A,r4,r5⟩:=J.new f t z;refine⟨E,by rw[C];omega,r3,?_⟩;rw[u];by_cases he:f=k;·subst he;rw[aH rfl];exact⟨_,wV (rc _ q4.1),λx=>by rw[F,q5];simp⟩
   rw[an λay=>he (J.inj f k t D z y ay)];exact⟨A,r4,r5⟩
  ·obtain⟨A,E,L⟩:=J.dJ f t W v;obtain⟨_,_,_,M|⟨N',M,_,_,ag,_⟩⟩:=fk f t;·rw[M]at v;cases v
   rw[M]at v;injection v with v;subst v;rw[u,an (cr (by omega))];exact⟨A,E,λx=>by rw[L,w]⟩
  rw[u]at hg;split at hg;·rename_i he;exact⟨k,(w k).2 D,y,he.symm⟩
  obtain⟨f,E,L⟩:=J.only a1 hp hg;exact⟨f,(w f).2 E,L⟩
 obtain⟨N,X,P,Q,ag,ar⟩:=K.resolve_left y;obtain⟨tN,E,L⟩:=J.dJ k T N X;have av:d.bq .aiw (o+k.toNat)=.map N:=by
  rw[J.cc _ λf t z he=>?_];·exact X
  rw[←he]at z;exact y z
 have B:∀f,f∈l++[k]→c.bq .aiw (o+f.toNat)=.cL→f∈l:=λf ay M=>by
  rcases agI.1 ay with ay|ay;·exact ay
  rw[ac3]at ay;subst ay;exact absurd M y
 refine⟨N,tN,av,aio P,Q,cr (by omega),E,?_⟩;refine⟨by rw[C];have:=J.nx;omega,λa1 h1 h2 h3 V=>?_,?_,?_,λf t z=>?_,λa b Z hb R S=>J.inj a b (B a Z R) (B b hb S) R S,λx I=>J.cc x λf t=>I f (agU _ t),λf t W v=>?_,λa1 hp hg=>?_,λf t=>?_⟩;·rw[u,an (λay:a1=N=>V (ay▸ar))];exact J.oF a1 h1 h2 h3 V
 ·rw[u,an (aio P)];exact J.mm
 ·rw[u,an (aio Q)];exact J.ii
 ·obtain⟨O,Y,s3,s4⟩:=J.new f (B f t z) z;refine⟨O,by rw[C];omega,s3,?_⟩;rw[u,an (cr (by omega))];exact s4
 ·rw[u];by_cases he:f=k
  ·subst he;rw[X]at v;injection v with v;subst v;rw[aH rfl];refine⟨_,wV (rc _ E.1),λx=>?_⟩;rw[F,L];simp only[agI,ac3,or_true,true_and];constructor
   ·rintro(ay|ay|ay);·exact .inr ay
    ·exact .inl ay
    exact .inr ay.2
   rintro(ay|ay);·exact .inr (.inl ay)
   exact .inl ay
  rw[an λay:W=N=>he (fo f k N t T (ay▸v) X)];obtain⟨A,O,Y⟩:=J.dJ f t W v;exact⟨A,O,λx=>by rw[Y,agI,ac3];simp[he]⟩
 ·rw[u]at hg;rw[an (cr (by omega))]at hg;obtain⟨f,O,Y⟩:=J.only a1 hp hg;exact⟨f,agU _ O,Y⟩
 rcases agI.1 t with ay|ay;·exact J.sub f ay
 rw[ac3]at ay;rw[ay];exact T
theorem Us(L:∀k∈ks,∃j,k=.ofNat j∧j<n∧(c.bq .aiw (o+k.toNat)=.cL∨∃N,c.bq .aiw (o+k.toNat)=.map N∧N≠m∧N≠i∧N.al<Hs.next.al∧N∈h))(hm:m.al<Hs.next.al)(hi:i.al<Hs.next.al)(G:m≠i)(J:pO Hs m i c o g e fz ks t0 h q r l H1 d p){v:List Int}(P:∀x,x∈v↔x∈ks){k:Int}(Q:k∈ks)(w:c.bq .aiw (o+k.toNat)=.cL)(H:k∉l):d.bq .aiw (o+k.toNat)=.cL∧pO Hs m i c o g e fz ks t0 h q r (l++[k]) (((((H1.new (.map [] 0)).set i (.cells (fD d (o+k.toNat) [.map H1.next]) g e true [] fz))).set H1.next (.dB (eE (gU (im k v) [])))).skip) (fD d (o+k.toNat) [.map H1.next]) (λx=>if x=k then H1.next else p x):=by
 have O:∀x,x∈gU (im k v) []↔(x∈ks∧x≠k):=λx=>by rw[oE,ui,P];simp
 have R:=J.nx;have u:∀j:ac,((((H1.new (.map [] 0)).set i (.cells (fD d (o+k.toNat) [.map H1.next]) g e true [] fz)).set H1.next (.dB (eE (gU (im k v) [])))).skip).get j=if j=H1.next then .dB (eE (gU (im k v) []))else if j=i then .cells (fD d (o+k.toNat) [.map H1.next]) g e true [] fz else H1.get j:=by
  intro j;show(((H1.new (.map [] 0)).set i _).set H1.next _).get j=_;rw[af.aD];split;·rfl
  rename_i av;rw[af.aD];split;·rfl
  rw[af.dt,an av]
 have ag:((((H1.new (.map [] 0)).set i (.cells (fD d (o+k.toNat) [.map H1.next]) g e true [] fz)).set H1.next (.dB (eE (gU (im k v) [])))).skip).next.al=H1.next.al+2:=by show H1.next.succ.succ.al=_;rw[ac.gz,ac.gz]
 have D:∀t∈ks,o+k.toNat=o+t.toNat→t=k:=by
  intro t f he;obtain⟨j,rfl,_⟩:=L k Q;obtain⟨F,rfl,_⟩:=L t f;have e1:(ahI j).toNat=j:=rfl;have e2:(ahI F).toNat=F:=rfl;rw[e1,e2]at he;have:F=j:=by omega
  rw[this]
 have I:d.bq .aiw (o+k.toNat)=.cL:=by rw[J.cc _ λt f y he=>H (D t (J.sub t f) he▸f)];exact w
 have S:∀x,(fD d (o+k.toNat) [.map H1.next]).bq .aiw x=if x=o+k.toNat then .map H1.next else d.bq .aiw x:=by
  intro x;rw[mL];by_cases z:x=o+k.toNat;·subst z;simp
  rw[an (by simp;omega),an z]
 refine⟨I,by omega,λax h1 h2 h3 T=>?_,?_,?_,λt f y=>?_,λa b M hb A B he=>?_,λx C=>?_,λt f V K=>?_,λax W hg=>?_,λt f=>?_⟩;·rw[u,an (cr (by omega)),an h3];exact J.oF ax h1 h2 h3 T
 ·rw[u,an (cr (by omega)),an G];exact J.mm
 ·grind
 ·by_cases he:t=k;·subst he;simp only[bm];refine⟨R,by omega,by grind,?_⟩;rw[u,aH rfl];grind[wV,rc,aim]
  have E:t∈l:=by
   rcases agI.1 f with av|av;·exact av
   rw[ac3]at av;exact absurd av he
  simp only[an he];obtain⟨X,Y,Z,s4⟩:=J.new t E y;grind
 ·have hl:∀x,x∈l++[k]→x≠k→x∈l:=λx av h'=>by
   rcases agI.1 av with av|av;·exact av
   rw[ac3]at av;exact absurd av h'
  by_cases e1:a=k<;>by_cases e2:b=k;·rw[e1,e2]
  ·simp only[aH e1,an e2]at he;have:=(J.new b (hl b hb e2) B).2.1;rw[←he]at this;omega
  ·simp only[aH e2,an e1]at he;have:=(J.new a (hl a M e1) A).2.1;rw[he]at this;omega
  simp only[an e1,an e2]at he;exact J.inj a b (hl a M e1) (hl b hb e2) A B he
 ·rw[S,an (C k (by simp) w)];exact J.cc x λt f=>C t (agU _ f)
 ·obtain⟨ar,r1,r2⟩:=J.dJ t f V K;grind
 ·rw[u]at hg;by_cases he:ax=H1.next;·grind
  rw[an he,an (cr (by omega))]at hg;obtain⟨t,X,Y,Z⟩:=J.only ax W hg;grind
 rcases agI.1 f with av|av;·exact J.sub t av
 grind
end
end
section
theorem zp{o:b9}{ks:List Int}(c:gK o ks):o≠.none∧o.aK=[]∧o.kW=false∧o.len=0:=by obtain⟨_,es,c,_⟩:=c;cases o<;>simp[eJ]at c<;>simp[b9.aK,b9.kW,b9.len]
theorem Ut{aa:am AV}{H:af}{x:aG}(e:gv aa x=.cL):aB (.eq false .map x (.c .cL)) aa H=some (.bool true,H):=by simp only[aB,e,zm];rfl
theorem Uu{aa:am AV}{H:af}{x:aG}{N:ac}(e:gv aa x=.map N):aB (.eq false .map x (.c .cL)) aa H=some (.bool false,H):=by simp only[aB,e,zm];rfl
section
variable{P:Program}{Hs:af}{m i i3:ac}{c:am AV}{o n a e fz o3 d:Nat}{ex:Bool}{ks:List Int}{t0:ac→List Int}{f:List ac}{g:List aR}{h:Nat}{l:List Int}{H1:af}{b:am AV}{p:Int→ac}
theorem Uv{aa:am AV}{bF:List ac}{bD:Option ac}{k:Int}(L:∀k∈ks,∃j,k=.ofNat j∧j<n∧(c.bq .aiw (o+k.toNat)=.cL∨∃N,c.bq .aiw (o+k.toNat)=.map N∧N≠m∧N≠i∧N.al<Hs.next.al∧N∈f))(fo:∀k M N,k∈ks→M∈ks→c.bq .aiw (o+k.toNat)=.map N→c.bq .aiw (o+M.toNat)=.map N→k=M)(hm:m.al<Hs.next.al)(hi:i.al<Hs.next.al)(D:m≠i)(h3:i3.al<Hs.next.al)(T:i3≠m)(F:i3≠i)(V:i3∉f)(ax:fz≤o)(ay:o+n≤a)(W:bh Hs i3 o3=some (.slice i o n d ex))(O:k∈ks){y:List Int}(X:gK (.map g h) y)(hx:∀x,x∈y↔x∈ks)(P:aa.get .aiw (sl 3)=.aw i3 o3)(e4:aa.get .aiw (sl 4)=.map m)(H:aa.get .aiw (sl 5)=.int 3 k)(J:pO Hs m i c o a e fz ks t0 f g h l H1 b p):Xc Dx 60 L9 ⟨aa,bF,bD⟩ H1 λj fr1 C=>j=.none∧fr1.bF=bF∧fr1.bD=bD∧(∀t,t∉pM→fr1.aa.get .aiw t=aa.get .aiw t)∧fr1.aa.get .aiw (sl 17)=aa.get .aiw (sl 17)∧C.get Hs.next=H1.get Hs.next∧∃c2 r,pO Hs m i c o a e fz ks t0 f g h (l++[k]) C c2 r:=by
 obtain⟨j,z,hj,av⟩:=L k O;have u:o+k.toNat=o+j:=by rw[z];rfl
 have hJ:=J.nx;have s:bh H1 i3 o3=some (.slice i o n d ex):=by rw[pg (J.oF i3 h3 T F V)];exact W
 have v:∀{q:af}{w:am AV},q.get i=.cells w a e true [] fz→bh q i (o+j)=some (w.bq .aiw (o+j)):=λa1=>by unfold bh;rw[a1];simp only[show aha (o+j) a=true from aiu ahF (by omega),bm]
 have A:∀{q:af}{w:am AV}{N:ac},q.get i=.cells w a e true [] fz→w.bq .aiw (o+k.toNat)=.map N→mR q (.slice i o n d ex) k=some (.map N):=λa1 h'=>by rw[z];simp only[mR,show aha j n=true from aiu ahF hj,bm,v a1];rw[←u,h']
 have aq:∀(E:am AV)(q:af)(N:ac)(tN:List Int)(w c2:am AV)(r:Int→ac),(∀t,t∉pM→E.get .aiw t=aa.get .aiw t)→E.get .aiw (sl 17)=aa.get .aiw (sl 17)→E.get .aiw (sl 5)=.int 3 k→bh q i3 o3=some (.slice i o n d ex)→q.get i=.cells w a e true [] fz→w.bq .aiw (o+k.toNat)=.map N→m≠N→q.get m=.map g h→gK (q.get N) tN→Hs.next≠N→q.get Hs.next=H1.get Hs.next→pO Hs m i c o a e fz ks t0 f g h (l++[k]) ((q.set N (.dB (eE (gU (im k y) tN)))).skip) c2 r→Xc Dx 10 (.eB 1001) ⟨E,bF,bD⟩ q λj fr1 C=>j=.none∧fr1.bF=bF∧fr1.bD=bD∧(∀t,t∉pM→fr1.aa.get .aiw t=aa.get .aiw t)∧fr1.aa.get .aiw (sl 17)=aa.get .aiw (sl 17)∧C.get Hs.next=H1.get Hs.next∧∃c2 r,pO Hs m i c o a e fz ks t0 f g h (l++[k]) C c2 r:=by
  intro E q N tN w c2 r Q a2 a3 a4 a5 a6 a7 a8 a9 Y Z ag;have b3:E.get .aiw (sl 3)=.aw i3 o3:=(Q _ (by decide)).trans P;have b4:E.get .aiw (sl 4)=.map m:=(Q _ (by decide)).trans e4;have ar:jC q m=some y:=MC (by rw[a8];exact X);have G:∀t,t∈uf→t∈pM:=by decide
  refine Xc.eB (n:=9) (g:=ug) rfl (Uq b4 a3 b3 a4 (A a5 a6) a7 ar (Un a9)) ⟨rfl,rfl,rfl,λt B=>?_,?_,?_,c2,r,ag⟩;·show(kJ E uf).get .aiw t=_;rw[Bd,an λa1=>B (G t a1)];exact Q t B
  ·show(kJ E uf).get .aiw (sl 17)=_;rw[Bd,an (by decide)];exact a2
  show(q.set N _).get Hs.next=_;rw[af.aD,an Y];exact Z
 refine Xc.jf (n:=50) (m:=10) (k:=59) (by omega) (by omega) (Xc.jf (n:=48) (m:=48) (k:=49) (by omega) (by omega) (Xc.region (n:=47) ?_));refine Xo.op (n:=46) (v:=.slice i o n d ex) (H':=H1) (jm (by simp[gv];exact P) s) ?_;refine Xo.op (n:=45) (v:=.int 3 k) (H':=H1) (by simp[aB,gv,aM,am.aD,bH];exact H) ?_;refine Xo.op (n:=44) (v:=.aw i (o+j)) (H':=H1) (vj (n:=n) (c:=d) (e:=ex) (j:=j) (k:=3) (by simp[gv,aM,am.aD,bH]) (by simp[gv,aM,am.aD,bH];exact z) hj) ?_;refine Xo.op (n:=43) (v:=b.bq .aiw (o+j)) (H':=H1) (jm (by simp[gv,aM,am.aD,bH]) (v J.ii)) ?_;by_cases R:c.bq .aiw (o+k.toNat)=.cL∧k∉l
 ·obtain⟨I,K⟩:=Us L hm hi D J hx O R.1 R.2;rw[u]at I;refine Xo.op (n:=42) (v:=.bool true) (H':=H1) (Ut (by simp[gv,aM,am.aD,bH,I])) (Xo.nil (n:=41) ?_);refine Xo.op (n:=45) (v:=.slice i o n d ex) (H':=H1) (jm (by simp[gv,aM,am.aD,bH];exact P) s) ?_;refine Xo.op (n:=44) (v:=.int 3 k) (H':=H1) (by simp[aB,gv,aM,am.aD,bH];exact H) ?_;refine Xo.op (n:=43) (v:=.map H1.next) (H':=H1.new (.map [] 0)) rfl ?_;refine Xo.op (n:=42) (v:=.aw i (o+j)) (H':=H1.new (.map [] 0)) (vj (n:=n) (c:=d) (e:=ex) (j:=j) (k:=3) (by simp[gv,aM,am.aD,bH]) (by simp[gv,aM,am.aD,bH];exact z) hj) ?_;have gi:(H1.new (.map [] 0)).get i=.cells b a e true [] fz:=by rw[af.dt,an (cr (by omega))];exact J.ii
  have wr:iI (H1.new (.map [] 0)) i (o+j) [.map H1.next]=some ((H1.new (.map [] 0)).set i (.cells (fD b (o+j) [.map H1.next]) a e true [] fz)):=by
   unfold iI;rw[gi];have e1:decide (fz≤o+j)=true:=by simp;omega
   have e2:decide (o+j+([.map H1.next]:List AV).length≤a)=true:=by simp;omega
   simp only[e1,e2,Bool.true_and];rfl
  refine Xo.op (n:=41) (v:=.aiw) (H':=(H1.new (.map [] 0)).set i (.cells (fD b (o+j) [.map H1.next]) a e true [] fz)) ?_ (Xo.nil (n:=40) ?_);·simp only[aB,gv,aM,am.aD,bH,bm];simp[AV.cells,wr]
  have S:∀a':ac,a'≠i→a'≠H1.next→((H1.new (.map [] 0)).set i (.cells (fD b (o+j) [.map H1.next]) a e true [] fz)).get a'=H1.get a':=λa' p1 p2=>by rw[af.aD,an p1,af.dt,an p2]
  rw[u]at K;refine aq _ _ H1.next [] _ _ _ ?_ ?_ ?_ ?_ (by rw[af.aD,aH rfl]) ?_ (cr (by omega)) ?_ ?_ (cr (by omega)) ?_ K;·intro t B;have:t∉ [sl 22,sl 23,sl 24,sl 25,sl 26,sl 27,sl 28,sl 29,sl 30]:=λa1=>B ((by decide:∀t∈ [sl 22,sl 23,sl 24,sl 25,sl 26,sl 27,sl 28,sl 29,sl 30],t∈pM) t a1);simp only[adC,ag0,or_false,not_or]at this;simp[aM,am.aD,this]
  ·simp[aM,am.aD,bH]
  ·simp[aM,am.aD,bH];exact H
  ·rw[pg (S i3 F (cr (by omega)))];exact s
  ·rw[u,mL];simp
  ·rw[S m D (cr (by omega))];exact J.mm
  ·rw[af.aD,an (cr (by omega)),af.dt,aH rfl];exact⟨aim,[],rfl,rfl⟩
  exact S _ (cr (by omega)) (cr (by omega))
 obtain⟨N,tN,g1,g2,g3,g4,g5,K⟩:=Ur L fo hm hi J hx O R;have I:b.bq .aiw (o+j)=.map N:=by rw[←u];exact g1
 refine Xo.op (n:=42) (v:=.bool false) (H':=H1) (Uu (N:=N) (by simp[gv,aM,am.aD,bH,I])) (Xo.nil (n:=41) ?_);refine aq _ _ N tN b b p ?_ ?_ ?_ s J.ii g1 g2 J.mm g5 (aio g4) rfl K;·intro t B;have:t∉ [sl 22,sl 23,sl 24,sl 25,sl 26,sl 27,sl 28,sl 29,sl 30]:=λa1=>B ((by decide:∀t∈ [sl 22,sl 23,sl 24,sl 25,sl 26,sl 27,sl 28,sl 29,sl 30],t∈pM) t a1);simp only[adC,ag0,or_false,not_or]at this;simp[aM,am.aD,this]
 ·simp[aM,am.aD,bH]
 simp[aM,am.aD,bH];exact H
end
end
open Classical in theorem Uw{P:Program}:wK P 1002 wR:=by
 intro Wr ρ H H' w nt fr c1 c2 x y fl b a dy dz d0 hg hF hI k cs;injection d0 with hx hy;subst hx;subst hy;unfold wR at hg;split at hg;case h_2=>grind
 rename_i m i3 o3 g1 g2;split at hg;case h_2=>grind
 rename_i i o n fo ex g3;split at hg;case h_2=>grind
 rename_i ks c dv e fz g4 g5;split at hg;case isFalse=>grind
 rename_i a6;split at hg;case h_2=>grind
 rename_i dx HE d1;injection hg with hg;injection hg with d2 d3;subst d2;subst d3;simp only[agM,ahA]at a6;obtain⟨⟨⟨d4,ba⟩,bb⟩,ar⟩:=a6;have d5:i3≠i:=Dw d4;have ba:=agT ba;have bb:=agT bb;have ar:=(GU _).1 ar;have C:=pN g4;have zb:∀j:ac,H.get j≠.none→j.al<H.next.al:=λj hj=>by
  rcases ahz j.al H.next.al with h|h;·exact h
  exact absurd (hI.dV j h).1 hj
 have Y:∀N t,jB H N=some t→N.al<H.next.al:=λN t h=>zb N (zp (pN h)).1;obtain⟨s1,s2,s3,s4,s5,nm,s6,s7,s8⟩:=GV d1 Y C.1 ar;have cx:m.al<H.next.al:=Y m ks g4;have cy:i.al<H.next.al:=zb i (by rw[g5];simp);have cE:i3.al<H.next.al:=by obtain⟨_,_,_,_,_,_,q,_⟩:=wY g3;exact zb i3 (by rw[q];simp)
 have ca:m≠i:=by rintro rfl;obtain⟨_,es,q,_⟩:=C;rw[g5]at q;simp[eJ]at q
 have d6:i3≠m:=by rintro rfl;obtain⟨_,es,q,_⟩:=C;obtain⟨_,_,_,_,_,_,q',_⟩:=wY g3;rw[q']at q;simp[eJ]at q
 let g:=kK c o ks;have fS:∀N,N∈g→∃k∈ks,∃t0,c.bq .aiw (o+k.toNat)=.map N∧N≠m∧jB H N=some t0∧HE.get N=.dB (eE (gU (im k ks) t0)):=by
  intro N B;obtain⟨k,h1,h2⟩:=vm.1 B;obtain⟨j,_,_,h3|⟨N',t0,h3,h4,L,h6⟩⟩:=s1 k h1;·rw[h3]at h2;cases h2
  rw[h3]at h2;injection h2 with h2;subst h2;exact⟨k,h1,t0,h3,h4,L,h6⟩
 have d7:i∉g:=λh=>by obtain⟨_,_,t0,_,_,L,_⟩:=fS i h;obtain⟨_,es,q,_⟩:=pN L;rw[g5]at q;simp[eJ]at q
 have d':i3∉g:=λh=>by obtain⟨_,_,t0,_,_,L,_⟩:=fS i3 h;obtain⟨_,es,q,_⟩:=pN L;obtain⟨_,_,_,_,_,_,q',_⟩:=wY g3;rw[q']at q;simp[eJ]at q
 let hl:ac→Prop:=λj=>(H.get j).nQ∧j≠i3∧j≠i∧j≠m∧j∉g;have ea:¬hl i3:=λh=>h.2.1 rfl;have eb:¬hl i:=λh=>h.2.2.1 rfl;have ec:¬hl m:=λh=>h.2.2.2.1 rfl;have ei:∀N,N∈g→¬hl N:=λN B h=>h.2.2.2.2 B;have bc:∀j,H.next.al≤j.al→¬hl j:=λj hj h=>h.1.2.2 (hI.dV j hj).1;obtain⟨Hs,s,av⟩:=H.jv (λj h=>(hI.dV j h).1) hl;have V:bt P (Wr.ka ρ hl λ_=>False) ρ Hs w:=hI.mP (λi h=>h.1) (λ_ h=>h.elim) s (λj=>by
  by_cases h:hl j;·exact .inr ((av j).1 h)
  exact .inl ((av j).2 h)) (λj h=>(av j).1 h);have R:∀j,¬hl j→Hs.get j=H.get j:=λj h=>(av j).2 h;let p:af:=((HE.set i (.cells dx dv e true [] fz)).set m (.dB (eE ks))).skip;have r:∀j,p.get j=if j=m then .dB (eE ks)else if j=i then .cells dx dv e true [] fz else HE.get j:=λj=>by
  show((HE.set i _).set m _).get j=_;rw[af.aD];split;·rfl
  rw[af.aD]
 have K:p.next.al=HE.next.al+1:=ac.gz _;have b6:∀j:ac,p.next.al≤j.al→p.get j=.none:=λj hj=>by rw[K]at hj;rw[r,an (cr (by omega)),an (cr (by omega)),s4 j (by omega)];exact(hI.dV j (by omega)).1
 obtain⟨Rs,bd,cd⟩:=p.jv b6 hl;have gr:∀j,¬hl j→Rs.get j=p.get j:=λj h=>(cd j).2 h;have fk:∀k∈ks,∃j,k=.ofNat j∧j<n∧(c.bq .aiw (o+k.toNat)=.cL∨∃N,c.bq .aiw (o+k.toNat)=.map N∧N≠m∧N≠i∧N.al<Hs.next.al∧N∈g):=by
  intro k z;obtain⟨j,h1,h2,h3|⟨N,t0,h3,h4,L,h6⟩⟩:=s1 k z;·exact⟨j,h1,h2,.inl h3⟩
  have B:N∈g:=vm.2 ⟨k,z,h3⟩;exact⟨j,h1,h2,.inr ⟨N,h3,h4,λh=>d7 (h▸B),by rw[s];exact Y N t0 L,B⟩⟩
 have fp:∀k k2 N,k∈ks→k2∈ks→c.bq .aiw (o+k.toNat)=.map N→c.bq .aiw (o+k2.toNat)=.map N→k=k2:=λk k2 N h1 h2 h3 h4=>MB ar h1 h2 h3 h4;have Z:m.al<Hs.next.al:=by rw[s];exact cx
 have ag:i.al<Hs.next.al:=by rw[s];exact cy
 have b':i3.al<Hs.next.al:=by rw[s];exact cE
 have ej:bh Hs i3 o3=some (.slice i o n fo ex):=by rw[pg (R i3 ea)];exact g3
 obtain⟨cf,a8,c8,c9⟩:=wU (MC C);have dm:cf.map aR.kv=ks.map sk:=by obtain⟨_,es,M,q2⟩:=C;rw[a8]at M;injection M with M;subst M;exact q2
 let t0:ac→List Int:=λN=>(jB H N).getD [];have ek:fr=⟨fr.aa,fr.bF,fr.bD⟩:=rfl;have dr:iV P (Wr.ka ρ hl λ_=>False) ρ nt w b k cs (lone (b.atR a (.code (.seq c1 c2)::k)) cs w) λj fr1 H1=>j=.none∧fr1={fr with aa:=kJ fr.aa pM}∧H1=Rs:=by
  refine GN Up dy dz (cH:=pM) (by decide) (by decide) (by decide) (by decide) (by decide) (by decide) (by decide) (by decide) (by decide) (by decide) (by decide) (by decide) (by decide) hF V (m:=m) (es:=cf) (ks:=ks) (by rw[R m ec];exact a8) c8 20 60 ?_ (J:=λu d l H1=>(∃G,gK (.map u d) G∧∀x,x∈G↔x∈ks)∧∃c' S,pO Hs m i c o dv e fz ks t0 g u d l H1 c' S) ?_ ?_ ?_ ?_ ?_ k cs
  ·intro u d;rw[ek];refine Xc.region (n:=19) ?_;refine Xo.op (n:=18) (v:=.map m) (H':=Hs.set m (.map u d)) (by simp[aB,gv,g1]) ?_;refine Xo.op (n:=17) (v:=.aw Hs.next 0) (H':=(Hs.set m (.map u d)).new (.mapIter (some m) d [] d)) (by simp[aB,gv,aM,am.aD,bH,af.aD];rfl) (Xo.nil (n:=16) ?_);refine⟨rfl,rfl,rfl,?_,?_,rfl⟩;·intro t ht;have:t∉ [sl 16,sl 17]:=λh=>ht ((by decide:∀t∈ [sl 16,sl 17],t∈pM) t h);simp only[adC,ag0,or_false,not_or]at this;simp[aM,am.aD,this]
   simp[aM,am.aD,bH]
  ·intro u d hp;obtain⟨G,M,q2⟩:=Uo c9 dm hp d;refine⟨⟨G,M,λx=>q2.mem_iff⟩,c,λ_=>.xH,?_⟩;have F:∀j:ac,((Hs.set m (.map u d)).new (.mapIter (some m) d [] d)).get j=if j=Hs.next then .mapIter (some m) d [] d else if j=m then .map u d else Hs.get j:=λj=>by rw[af.dt,af.fR,af.aD]
   refine⟨by show Hs.next.al<Hs.next.succ.al;rw[ac.gz];omega,λj h1 h2 h3 h4=>?_,?_,?_,by simp,by simp,λ_ _=>rfl,λk z N B=>?_,λj hj hg=>?_,by simp⟩;·rw[F,an (cr (by omega)),an h2]
   ·rw[F,an (cr (by omega)),aH rfl]
   ·rw[F,an (cr (by omega)),an (aio ca),R i eb];exact g5
   ·obtain⟨_,_,_,h'|⟨N',h',el,_,cn,cp⟩⟩:=fk k z;·rw[h']at B;cases B
    rw[h']at B;injection B with B;subst B;obtain⟨_,_,tt,_,_,L,_⟩:=fS N' cp;rw[F,an (cr (by omega)),an el,R N' (ei N' cp)];refine⟨tt,pN L,λx=>?_⟩;have:t0 N'=tt:=by show(jB H N').getD []=tt;rw[L];rfl
    rw[this];simp
   rw[F,an (cr (by omega)),an (cr (by omega))]at hg;rw[s]at hj;rw[R j (bc j (by omega))]at hg;exact absurd (hI.dV j (by omega)).1 hg
  ·rintro u d l H1 it⟨M,c',S,J⟩;refine⟨M,c',S,J.set it Z ag λk z N B=>?_⟩;obtain⟨_,_,_,h'|⟨N',h',_,_,cn,_⟩⟩:=fk k z;·rw[h']at B;cases B
   rw[h']at B;injection B with B;subst B;exact cn
  ·rintro u d l H1⟨_,c',S,J⟩;exact J.mm
  ·rintro u d l aa H1 kk er⟨⟨G,M,q2⟩,c',S,J⟩he et;have fq:aa.get .aiw (sl 3)=.aw i3 o3:=(he _ (by decide)).trans g2;have fs:aa.get .aiw (sl 4)=.map m:=(he _ (by decide)).trans g1;refine(Uv fk fp Z ag ca b' d6 d5 d' ba bb ej er M q2 fq fs et J).mono (adW _) ?_;rintro j fr1 H2⟨r1,r2,r3,r4,r5,r6,ew,e0,J2⟩;exact⟨r1,r2,r3,λt ht=>(r4 t ht).trans (he t ht),r5,r6,⟨G,M,q2⟩,ew,e0,J2⟩
  rintro u d l H1 O w' Q⟨⟨G,bv,e4⟩,c',S,J⟩ax e5 _;let new:ac→Prop:=λj=>∃k,k∈ks∧c.bq .aiw (o+k.toNat)=.cL∧nm k=j;let σ:ac→ac:=λj=>if h:new j then S (Classical.choose h)else j;have ay:∀k,k∈ks→c.bq .aiw (o+k.toNat)=.cL→σ (nm k)=S k:=by intro k z hn;have W:new (nm k):=⟨k,z,hn,rfl⟩;have D:=Classical.choose_spec W;have:Classical.choose W=k:=s7 _ _ D.1 z D.2.1 hn D.2.2;show(if h:new (nm k)then S (Classical.choose h)else nm k)=S k;rw[dif_pos W,this]
  let a1:aL:=⟨λj=>if j.al<Hs.next.al then ρ j else if new j then O (σ j)else none,O.k⟩;have ds:∀k,k∈ks→c.bq .aiw (o+k.toNat)=.cL→a1 (nm k)=O (S k):=by intro k z hn;have W:new (nm k):=⟨k,z,hn,rfl⟩;have:=(s6 k z hn).1;show(if(nm k).al<Hs.next.al then ρ (nm k)else if new (nm k)then O (σ (nm k))else none)=_;rw[an (by rw[s];omega),aH W,ay k z hn]
  have a':cz ρ a1:=by
   intro j x hj;refine⟨?_,(ax j x hj).2⟩;show(if j.al<Hs.next.al then ρ j else _)=_;rcases ahz j.al Hs.next.al with h|h;·rw[aH h];exact hj
   rw[(V.dV j h).2]at hj;cases hj
  refine⟨a1,bt.GR V ax e5 (by rw[bd,K,s];omega) σ new a1 rfl ?_ ?_ ?_ ?_⟩
  ·intro j hj hg;rw[s]at hj;rw[gr j (bc j hj),r,an (cr (by omega)),an (cr (by omega))]at hg;rcases ahz j.al HE.next.al with h|h;·obtain⟨k,h1,h2,h3⟩:=s8 j hj h;exact⟨k,h1,h2,h3⟩
   rw[s4 j h]at hg;exact absurd (hI.dV j hj).1 hg
  ·rintro j⟨k,z,hn,rfl⟩;obtain⟨M,q2,q3,q4⟩:=s6 k z hn;obtain⟨r1,r2,r3,e6,r4,r5⟩:=J.new k ((Q k).2 z) hn;have e7:Rs.get (nm k)=.dB (eE (im k ks)):=by rw[gr _ (bc _ M),r,an (cr (by omega)),an (cr (by omega))];exact q3
   have D:=zp r4;rw[ay k z hn,e7];refine⟨by rw[s];exact M,by rw[bd,K];omega,by omega,D.1,D.2.1,D.2.2.1,rfl,rfl,D.2.2.2,λx T f=>OR.wX r4 ?_ f,λq T _=>by simp[gB]⟩;refine(List.perm_ext_iff_of_nodup r4.1 (Dt C.1)).2 λx=>?_;rw[r5,ui]
  ·rintro j1 j2⟨k1,h1,n1,rfl⟩⟨k2,h2,n2,rfl⟩he;rw[ay k1 h1 n1,ay k2 h2 n2]at he;rw[J.inj k1 k2 ((Q k1).2 h1) ((Q k2).2 h2) n1 n2 he]
  intro j hj hg;rw[s]at hj;have E:¬hl j:=λh=>hg ((cd j).1 h);rw[gr j E]at hg⊢;rw[R j E];by_cases e1:j=m
  ·subst e1;have p1:=zp C;have p2:=zp bv;have hr:p.get j=.dB (eE ks):=by rw[r,aH rfl]
   rw[hr,J.mm];refine⟨p1.1,by simp,p1.2.1▸rfl,p1.2.1▸rfl,rfl,rfl,λx T f=>OR.wX bv ?_ f,λq T _=>by simp[gB]⟩;exact(List.perm_ext_iff_of_nodup bv.1 C.1).2 e4
  by_cases e2:j=i
  ·subst e2;have hr:p.get j=.cells dx dv e true [] fz:=by rw[r,an e1,aH rfl]
   rw[hr,J.ii,g5];refine⟨by simp,by simp,rfl,rfl,rfl,rfl,λx T f=>?_,λq T hq=>?_⟩
   ·obtain⟨f0,x0,cv,_,_,A⟩:=V.ev j (by rw[R j E,g5];simp);rw[R j E,g5]at A;cases cv<;>simp only[OR]at A;cases T<;>simp only[OR]at f⊢;refine⟨f.1,f.2.1,λy hy=>?_,f.2.2.2⟩;obtain⟨v,e8,I⟩:=f.2.2.1 y hy;refine⟨v,e8,?_⟩;by_cases z:∃k,k∈ks∧c.bq .aiw (o+k.toNat)=.cL∧y=o+k.toNat
    ·obtain⟨k,b0,b3,e'⟩:=z;subst e';rw[(s6 k b0 b3).2.2.2];rw[(J.new k ((Q k).2 b0) b3).2.2.1]at I;cases v with
     |map fe=>cases fe with|none=>simp[VR]at I|some fe=>simp only[VR]at I⊢;rw[ds k b0 b3];exact I
     |_=>simp[VR]at I
    have h1:c'.bq .aiw y=c.bq .aiw y:=J.cc y λk b4 b5 he=>z ⟨k,(Q k).1 b4,b5,he⟩;have h2:dx.bq .aiw y=c.bq .aiw y:=s5 y λk b4 b5 he=>z ⟨k,b4,b5,he⟩;rw[h1]at I;rw[h2];obtain⟨v0,_,fa⟩:=A.2.2.1 y hy;exact VR.mono a' _ _ (VR.gj ax _ _ _ fa I)
   cases T<;>simp only[gB]at hq⊢;exact hq
  by_cases e3:j∈g
  ·obtain⟨k,z,tt,h3,h4,L,h6⟩:=fS j e3;have hr:p.get j=.dB (eE (gU (im k ks) tt)):=by rw[r,an e1,an e2];exact h6
   obtain⟨e6,r1,r2⟩:=J.dJ k z j h3;have p1:=zp (pN L);have p2:=zp r1;rw[hr];refine⟨p1.1,p2.1,p2.2.1.trans p1.2.1.symm,p1.2.1▸rfl,p2.2.2.1,p2.2.2.2,λx T f=>OR.wX r1 ?_ f,λq T _=>by simp[gB]⟩;refine(List.perm_ext_iff_of_nodup r1.1 (rc _ (pN L).1)).2 λx=>?_;have:t0 j=tt:=by show(jB H j).getD []=tt;rw[L];rfl
   rw[r2,this,oE,ui,Q];constructor
   ·rintro(h|⟨_,h⟩);·exact .inr h
    exact .inl h
   rintro(h|h);·exact .inr ⟨z,h⟩
   exact .inl h
  have h1:H1.get j=H.get j:=by rw[J.oF j (by rw[s];exact hj) e1 e2 e3,R j E]
  have hr:p.get j=H.get j:=by rw[r,an e1,an e2,s3 j hj e3]
  rw[hr]at hg⊢;rw[h1];refine⟨hg,hg,rfl,rfl,rfl,rfl,λx T f=>?_,λq T hq=>hq⟩;obtain⟨f0,x0,cv,_,_,A⟩:=V.ev j (by rw[R j E];exact hg);rw[R j E]at A;have a2:∃c n e X aK fz,H.get j=.cells c n e X aK fz:=by
   by_cases h3:j=i3;·obtain⟨c,n,e,X,aK,fz,q,_⟩:=wY g3;rw[h3];exact⟨c,n,e,X,aK,fz,q⟩
   have fb:¬(H.get j).nQ:=λh=>E ⟨h,h3,e2,e1,e3⟩;cases ho:H.get j with|cells c n e X aK fz=>exact⟨c,n,e,X,aK,fz,rfl⟩|none=>exact absurd ho hg|_=>exact absurd ⟨by rw[ho];rfl,by rw[ho];rfl,hg⟩ fb
  obtain⟨_,_,_,_,_,_,hc⟩:=a2;rw[hc]at f A⊢;exact OR.mono a' (OR.MA ax A f)
 obtain⟨j,f2,H',O,f1,w',t,⟨rfl,rfl,rfl⟩,q2,q3,q4,q5,q6,q7⟩:=dr;have fd:∀j,hl j→p.get j=H.get j:=λj h=>by rw[r,an h.2.2.2.1,an h.2.2.1,s3 j (zb j h.1.2.2) h.2.2.2.2]
 obtain⟨u1,u2⟩:=hI.GQ (λj h=>h.1) q2 q4 q5 (H2:=p) bd.symm fd (λj h=>(gr j h).symm);exact⟨.none,_,p,O,f1,w',t,⟨rfl,rfl,rfl⟩,q2,q3,u1,u2,q6,q7⟩
section
variable[Ov]
variable{P:Program}
theorem bt.grow{c:cJ}{f:aL}{H:af}{w w':World}{os:Array Obj}(h:bt P c f H w)(g:w'.heap=w.heap++os)(j:w'.os=w.os)(l:w'.tape=w.tape)(hu:w'.output=w.output):bt P c f H w'∧d9 c w w':=by
 have hs:w.heap.size≤w'.heap.size:=by rw[g];simp
 have hb:∀b,b<w.heap.size→w'.heap[b]?=w.heap[b]?:=λb hb=>by rw[g,Array.getElem?_append_left hb]
 have hl:∀{b:Nat}{a:Obj},w.heap[b]?=some a→b<w.heap.size:=λe=>(Array.getElem?_eq_some_iff.1 e).1;refine⟨⟨?_,h.kH,h.aK,h.wr,h.dV,λk d=>h.new k (ahY hs d),h.lT,?_,λi b x e=>ag6 (h.fu i b x e) hs,h.rd,h.un,h.eT⟩,⟨j,l,hu,hs,λk d _=>hb k d⟩⟩;·intro i hi;obtain⟨b,x,a,e,h1,h2⟩:=h.ev i hi;grind
 intro i b x a hi e h1;rw[hb b (h.fu i b x e)]at h1;exact h.jQ i b x a hi e h1
structure GW(P:Program)(f:FuncId):Prop where
 fn:∃fn,P.funcs[f]?=some fn∧(fn.name== "runtime.NumGoroutine")=false∧fn.body.isNone=false
theorem GY{f:FuncId}(j:GW P f){h:cJ}{i:aL}{w:World}{argv:Array Value}{R:Ending→World→Prop}(k:Calls P f argv w R){v:AV}{H':af}(l:∀e w',R e w'→∃c,e=.returned c∧cZ P h i w v H' c w')(fr:Frame)(cs:List Frame)(hat:sj fr):yX P h i w (callFunc f argv) fr cs λm b=>m=v∧b=H':=by
 obtain⟨fn,h1,h2,h3⟩:=j.fn;have a:(callFunc f argv).run P w=.ok (.enter f argv) w:=by simp only[callFunc,Sem.run_bind,run_program,Result.andThen_ok,h1,h2,h3,ac6,bK,Sem.run_pure]
 obtain⟨e,w',p,n,d,_,g⟩:=k (fr::cs);obtain⟨c,rfl,o⟩:=l e w' n;refine⟨v,H',c,w',_,_,_,⟨rfl,rfl⟩,o,La hat a,?_⟩;exact Steps.trans d (.one (step_leave_returned g))
theorem GZ(x:Int):∀l,(mS x l).Perm (x::l)
 |[]=>ais _
 |y::l=>by
  simp only[mS];split;·exact((GZ x l).cons y).trans (ahw x y l)
  rfl
theorem vn:∀l,(fN l).Perm l|[]=>ais _|x::l=>(GZ x (fN l)).trans ((vn l).cons x)
theorem MD(x:Int):∀l,l.Pairwise (·≤·)→(mS x l).Pairwise (·≤·)
 |[],_=>by simp[mS]
 |y::l,h=>by
  simp only[mS];rw[ah4]at h;split
  ·rename_i a;rw[mO]at a;have a:y<x:=by simpa using a
   rw[ah4];refine⟨λz b=>?_,MD x l h.2⟩;grind[GZ]
  grind[mO,ah4]
theorem zq:∀l,(fN l).Pairwise (·≤·)|[]=>aiv|x::l=>MD x _ (zq l)
theorem Dy:∀{l m:List Int},l.Pairwise (·≤·)→m.Pairwise (·≤·)→l.Perm m→l=m
 |[],m,_,_,h=>(List.nil_perm.1 h).symm
 |a::l,[],_,_,h=>by simp at h
 |a::l,b::m,h1,h2,h=>by
  rw[ah4]at h1 h2;have d:a=b:=by
   have f:a∈b::m:=h.mem_iff.1 (adc ..);have hb:b∈a::l:=h.mem_iff.2 (adc ..);rcases adC.1 f with e|e;·exact e
   rcases adC.1 hb with c|c;·exact c.symm
   have:=h1.1 b c;have:=h2.1 a e;omega
  subst d;rw[Dy h1.2 h2.2 ((List.perm_cons a).1 h)]
theorem Ux{a ks:List Int}(h:a.Perm ks):(a.mergeSort λx y=>decide (x≤y))=fN ks:=by grind[Dy,zq,List.mergeSort_perm,trans,vn,List.pairwise_mergeSort,decide]
def w7(c:am AV):Nat→Nat→Option (List Int)
 |_,0=>some []
 |o,n+1=>match c.bq .aiw o,w7 c (o+1) n with
  |.int 3 z,some l=>some (z::l)
  |_,_=>none
theorem ME{c:am AV}:∀{n o:Nat}{a:List Int},w7 c o n=some a→a.length=n∧∀i(h:i<a.length),c.bq .aiw (o+i)=.int 3 (a[i])
 |0,o,a,h=>by simp_all[w7,acm]
 |n+1,o,a,h=>by
  simp only[w7]at h;split at h;·rename_i z l h1 h2;injection h with h;subst h;obtain⟨b,d⟩:=ME h2;grind
  grind
def sw(args:List AV)(H:af):Option (AV×af):=
 match args with
 |[.aP]=>some (.tuple [],H)
 |[.slice id 0 n _ _]=>match H.get id with
  |.cells c m 3 true aK 0=>if agQ m n&&aha 0 n&&ahG n 4000000 then match w7 c 0 n with
    |some a=>some (.tuple [],(H.fL aK).set id (.cells (cM ((fN a).map λz=>.int 3 z)) n 3 true [] 0))
    |none=>none
   else none
  |_=>none
 |_=>none
open Go.Sort in theorem Uy{f:FuncId}(Y:GW P f)(hs:∀(aF off cap:Nat)(d:List Int)(w:World),Holds (Value.int .i64) w aF off d.toArray→aF<w.heap.size→d.length<4611686018427387904→Calls P f #[.slice (some ⟨aF,off,none⟩) d.length cap] w λe w'=>e=.returned (.tuple #[])∧∃n os,w'=grow (putRow (Value.int .i64) (Sort.ahead w n) aF off (d.mergeSort λx y=>decide (x≤y)).toArray) os)(hn:∀(p:Option Addr)(cap:Nat)(w:World),Calls P f #[.slice p 0 cap] w λe w'=>e=.returned (.tuple #[])∧w'=w):wJ P f sw:=by
 intro Z Q H H' w args v argv hg o N fr cs hat;unfold sw at hg;split at hg
 ·injection hg with hg;injection hg with A B;subst A;subst B;obtain⟨l⟩:=argv;cases l with
  |nil=>trivial
  |cons c l=>
   cases l with
   |cons _ _=>simp[be]at o
   |nil=>
    simp only[be,and_true]at o;have hc:c=.slice none 0 0:=by exact o.mN
    subst hc;refine GY Y (hn none 0 w) ?_ fr cs hat;rintro e w'⟨rfl,rfl⟩;exact⟨_,rfl,cZ.bS N (by trivial)⟩
 ·rename_i id n cap ex;split at hg;case h_2=>cases hg
  rename_i c m aK u;split at hg;case isFalse=>cases hg
  rename_i r;simp only[agM]at r;obtain⟨⟨C,G⟩,I⟩:=r;have C:=agO C;subst C;have G:0<m:=Eq.mp ahF G;have I:=agT I;split at hg;case h_2=>cases hg
  rename_i d hz;injection hg with hg;injection hg with A B;subst A;subst B;obtain⟨J,T⟩:=ME hz;obtain⟨l⟩:=argv;cases l with
  |nil=>simp[be]at o
  |cons cv l=>
   cases l with
   |cons _ _=>simp[be]at o
   |nil=>
    simp only[be,and_true]at o;obtain⟨b,x,ob,R,K,q,D⟩:=N.aF (i:=id) (by rw[u];simp);have V:∃cc,cv=.slice (some ⟨b,x,none⟩) m cc:=by
     cases cv with
     |slice a n' cc=>cases a with|none=>simp[VR]at o|some a=>simp only[VR]at o;obtain⟨h1,h2,h3,h4,b',x',O,h5,h6⟩:=o;rw[R]at O;injection O with O;injection O with q1 q2;subst q1;subst q2;rw[h5 (by omega),h1];exact⟨cc,rfl⟩
     |_=>simp[VR]at o
    obtain⟨cc,rfl⟩:=V;rw[u]at D;cases ob<;>simp only[OR]at D;rename_i cells el fz;obtain⟨rfl,W,M,s⟩:=D;have hH:Holds (Value.int .i64) w b x d.toArray:=by
     intro j hj;have L:j<d.length:=by simpa using hj
     obtain⟨y,hy,S⟩:=M j (by omega);have:=T j L;rw[agW]at this;rw[this]at S;constructor
     ·simp only[World.cell?,q,Option.isSome_none,ac6,bK,hy];cases y<;>simp only[VR]at S;rename_i kk z;obtain⟨h1,h2⟩:=S;have:kk=.i64:=by cases kk<;>simp[kc]at h1<;>rfl
      subst this;rw[←h2];simp[getElem!_pos,L]
     have:=s trivial (x+j) (by omega) (by omega);obtain⟨lo,hi⟩:=fz;simp only[World.frozen?,q];simp only at this;simp;omega
    have g:=hs b x cc d w hH K (by omega);rw[J]at g;refine GY Y g ?_ fr cs hat;rintro e w'⟨rfl,k,os,rfl⟩;refine⟨_,rfl,?_⟩;rw[Ux (ais d)];have X:(fN d).length=m:=by rw[(vn d).length_eq,J]
    have t:bt P Z Q ((H.fL aK).set id (.cells (cM ((fN d).map λz=>.int 3 z)) m 3 true [] 0)) {w with heap:=w.heap.setIfInBounds b (.cells (putCells (Value.int .i64) x (fN d).toArray cells) 3 fz)}∧d9 Z w {w with heap:=w.heap.setIfInBounds b (.cells (putCells (Value.int .i64) x (fN d).toArray cells) 3 fz)}:=by
     have:=N.se (i:=id) (b:=b) (x:=x) (o':=.cells (cM ((fN d).map λz=>.int 3 z)) m 3 true [] 0) (ob':=.cells (putCells (Value.int .i64) x (fN d).toArray cells) 3 fz) (w':={w with heap:=w.heap.setIfInBounds b (.cells (putCells (Value.int .i64) x (fN d).toArray cells) 3 fz)}) (by rw[u];simp) (by rw[u];rfl) R rfl ?_ ?_ rfl rfl rfl rfl;·rw[u]at this;exact this
     ·simp only[OR];refine⟨trivial,by simp[putCells];exact W,λi hi=>?_,λ_ i h1 h2=>s trivial i h1 (by simpa[putCells]using h2)⟩;have E:i<(fN d).length:=by omega
      refine⟨.int .i64 ((fN d)[i]),?_,?_⟩;·simp only[putCells,Array.getElem?_mapIdx];rw[getElem?_pos cells (x+i) (by omega)];simp[X,hi,E,getElem!_pos]
      rw[pa _ _ (by simpa using E)];simp[List.getD,E,VR,kc]
     have h:=N.jQ id b x _ (by rw[u];simp) R q;rw[u]at h;simp only[gB]at h⊢;rw[h];simp[putCells]
    have F:(grow (putRow (Value.int .i64) (Sort.ahead w k) b x (fN d).toArray) os).heap=w.heap.setIfInBounds b (.cells (putCells (Value.int .i64) x (fN d).toArray cells) 3 fz)++os:=by
     show(w.heap.modify b (onCells _))++os=_;congr 1;apply Array.ext_getElem?;intro i;rw[Array.getElem?_modify,ag8];by_cases hi:b=i;·subst hi;rw[aH rfl,aH rfl,q,aH K];rfl
     rw[an hi,an hi]
    obtain⟨u1,u2⟩:=bt.grow t.1 (w':=grow (putRow (Value.int .i64) (Sort.ahead w k) b x (fN d).toArray) os) (os:=os) F rfl rfl rfl;exact⟨Q,cz.refl Q,by simp[VR,be],u1,t.2.trans u2⟩
 grind
end
section
def G0(b a:Nat):bp:=.seq (.region [bL 2 (.bg (.c .aP))]) (.seq (.region [bL 3 (.bg (tt 0)),bL 4 (.call (.c (.func b [] [])) [tt 3]),bL 5 (.call (.c (.func a [] [])) [tt 4]),bL 2 (.bg (tt 5))]) .ret)
def Dz(a b:Nat):bp:=.seq (.region [bL 2 (.bg (.c .aP))]) (.seq (.region [bL 4 (.bg (tt 0)),bL 5 (.call (.c (.func a [] [])) [tt 4]),bL 3 (.bg (tt 5))]) (.seq (.region [bL 6 (.bg (tt 3)),bL 7 (.call (.c (.func b [] [])) [tt 6])]) (.seq (.region [bL 8 (.bg (tt 3)),bL 2 (.bg (tt 8))]) .ret)))
def DA(a e1:Nat):bp:=.seq (.region [bL 1 (.box e1 (tt 0)),bL 2 (.bg (.c .nilFunc))]) (.seq (.region [bL 3 (.iG a [] [tt 1]),bL 2 (.bg (tt 3))]) .ret)
def Bi(a:Nat):bp:=.seq (.region [bL 2 (.bg (.c .aP))]) (.seq (.region [bL 3 (.bg (tt 0)),bL 4 (.call (.c (.func a [] [])) [.c .aP,tt 3]),bL 2 (.bg (tt 4))]) .ret)
def Uz:bp:=.seq (.region [bL 10 (.bg (tt 0)),bL 11 (.bg (tt 3)),bL 12 (.call (tt 10) [tt 11]),bL 13 (.unary .not (tt 12))]) (.cond (tt 13) .ret .skip)
def DB:bp:=.seq (.region [bL 4 (.aW (tt 1)),bL 5 (.oh (tt 4))]) (qZ 0 1 (sl 5) (sl 6) (sl 7) (sl 8) (sl 9) (sl 3) Uz)
def vq:bp:=.region [bL 5 (.bg (tt 7))]
def vr:bp:=.block 1 (.region [bL 8 (.aW (tt 2)),bL 9 (.bg (tt 5)),bL 10 (.buildSlice 3 1 [.int 3 (.ofNat 0)] [(0,1,tt 9)]),bL 11 (.append 3 8 1 [.int 3 (.ofNat 0)] false (tt 8) (tt 10)),qP (.store 1 (tt 2) (tt 11))])
def w8(e2:Nat):bp:=.seq (.region [bL 2 (.box e2 (tt 0)),bL 4 (.bg (.c .aP))]) (.seq (.seq (.region [bL 6 (.bg (tt 1))]) (.block 0 (.rangeFunc (tt 6) [sl 7] vq vr))) (.seq (.region [bL 12 (.aW (tt 2)),bL 4 (.bg (tt 12))]) .ret))
section
variable[Ov]
variable{ab:Nat→aE}
theorem G1{c:am AV}{n:Nat}:∀{l:List Int}{o:Nat},o+l.length≤n→(∀i(h:i<l.length),c.bq .aiw (o+i)=.int 3 (l[i]))→ip c n o l.length=some (l.map λz=>.int 3 z)|[],o,_,_=>by rfl|z::l,o,h,hg=>by simp only[ahh,ip,agN];have h0:c.bq .aiw o=.int 3 z:=hg 0 (by simp);have a:=G1 (c:=c) (n:=n) (l:=l) (o:=o+1) (by simp at h;omega) (λi hi=>by have:=hg (i+1) (by simpa using hi);rw[show o+(i+1)=o+1+i by omega]at this;simpa using this);grind
def sx(H:af)(lo:Nat)(l:List Int)(a:AV):Prop:=
 (l=[]∧a=.aP)∨∃id c aK,a=.slice id 0 l.length l.length false∧l≠ []∧lo<id.al∧id.al<H.next.al∧H.get id=.cells c l.length 3 true aK 0∧(∀i(h:i<l.length),c.bq .aiw i=.int 3 (l[i]))∧∀p∈aK,lo<p.al
theorem sx.frame{H H':af}{lo:Nat}{l:List Int}{a:AV}(h:sx H lo l a)(e:H.next.al≤H'.next.al)(hg:∀j:ac,lo<j.al→j.al<H.next.al→H'.get j=H.get j):sx H' lo l a:=by
 rcases h with h|⟨id,c,aK,h1,h2,h3,f,g,b,d⟩;·exact .inl h
 exact .inr ⟨id,c,aK,h1,h2,h3,by omega,by grind,b,d⟩
theorem UA{aa:am AV}{H:af}{x y:aG}{g:AV}{T:ac}{lo:Nat}{l:List Int}{k:Int}(m:gv aa x=g)(o:gv aa y=.slice T 0 1 1 true)(r:H.get T=.cells (cM [.int 3 k]) 1 3 true [] 0)(hs:sx H lo l g)(d:lo<H.next.al)(hl:l.length<1000):∃f H',aB (.append 3 8 1 [.int 3 (.ofNat 0)] false x y) aa H=some (f,H')∧H.next.al≤H'.next.al∧(∀j:ac,j.al≤lo→H'.get j=H.get j)∧sx H' lo (l++[k]) f:=by
 have a:iS H 1 (.slice T 0 1 1 true)=some (1,[.int 3 k]):=by
  have:ip (cM [AV.int 3 k]) 1 0 1=some [.int 3 k]:=by
   have:=G1 (c:=cM [AV.int 3 k]) (n:=1) (l:=[k]) (o:=0) (by simp) (λi hi=>by
    simp only[ahj]at hi;have:i=0:=by omega
    subst this;rw[pa _ _ (by simp)];rfl);simpa using this
  simp[iS,fj,r,this]
 have b:∀n:Nat,n≤1000→(fc (n*8)&&fc n)=true:=λn B=>by simp only[fc,agM];exact⟨ahi (by omega),ahi (by omega)⟩
 rcases hs with⟨rfl,rfl⟩|⟨id,c,aK,rfl,A,h3,C,s,t,u⟩
 ·refine⟨.slice H.next 0 1 1 false,H.new (.cells (cM [.int 3 k]) 1 3 true [] 0),?_,?_,?_,?_⟩;·simp only[aB,ac6,bK,m,o,a,kw];have:=b 1 (by omega);simp[dI,AV.dQ,fc]
  ·show _≤H.next.succ.al;rw[ac.gz];omega
  ·intro j hj;rw[af.dt,an (cr (by omega))]
  refine .inr ⟨H.next,cM [.int 3 k],[],rfl,by simp,d,by show _<H.next.succ.al;rw[ac.gz];omega,by rw[af.dt,aH rfl];rfl,λi hi=>?_,by simp⟩;simp only[ahH,ahj]at hi;have:i=0:=by omega
  subst this;rw[pa _ _ (by simp)];rfl
 have hrd:ip c l.length 0 (l.length*1)=some (l.map λz=>.int 3 z):=by rw[ah9];exact G1 (by omega) λi hi=>by rw[agW];exact t i hi
 have q:id≠H.next:=cr (by omega);refine⟨.slice H.next 0 (l.length+1) (l.length+1) false,(H.set id (.cells c l.length 3 false aK 0)).new (.cells (cM ((l.map λz=>.int 3 z)++[.int 3 k])) ((l.length+1)*1) 3 true (id::aK) (0 - 0)),?_,?_,?_,?_⟩
 ·simp only[aB,ac6,bK,m,o,a,kw];have hb:=b (l.length+1) (by omega);have h1:dI [.int 3 k]=true:=rfl;have h2:ahG (l.length+1) l.length=false:=by cases h:ahG (l.length+1) l.length with|false=>rfl|true=>have:=agT h;omega
  have v:(true&&agQ l.length l.length&&agQ (0+l.length*1) l.length&&agQ 3 3&&ahG 0 l.length)=true:=by simp[ahQ]
  simp only[h1,h2,hb,s,hrd,v,ag9,ac6,bK,bm]
 ·show _≤H.next.succ.al;rw[ac.gz];omega
 ·intro j hj;rw[af.dt,af.fR,an (cr (by omega)),af.aD,an (cr (by omega))]
 refine .inr ⟨H.next,cM ((l.map λz=>.int 3 z)++[.int 3 k]),id::aK,by simp,by simp,d,by show _<H.next.succ.al;rw[ac.gz];omega,by rw[af.dt,af.fR,aH rfl];simp,λi hi=>?_,?_⟩
 ·rw[pa _ _ (by simpa using hi)];simp only[agP,ahj]at hi;by_cases he:i<l.length;·simp[List.getD,ahd,he,List.getElem_append_left]
  have:i=l.length:=by omega
  subst this;simp[List.getD]
 intro p w;rcases adC.1 w with e|e;·rw[e];exact h3
 exact u p e
theorem Xf.yield{n:Nat}{L p d:ac}{v:AV}{H:af}{cq:cG}{fn:Nat}{aa:am AV}{as a:bp}{K:AV→af→Prop}(U:H.get L=.loop .ready cq fn aa [p] as a d)(h:Xc ab n as ⟨aa.set .aiw p v,[],some L⟩ H λj fr H1=>j=.none∧H1.get L=.loop .ready cq fn aa [p] as a d∧Xc ab n a fr (H1.set L (.loop .busy cq fn aa [p] as a d)) λj _ b=>j=.none∧b.get L=.loop .busy cq fn aa [p] as a d∧K (.bool true) (b.set L (.loop .ready .none fn aa [p] as a d))):Xf ab (n+1) (.yield L) [v] H K:=by simp only[Xf,gS,U,ahj,bm];refine Xc.mono (adW _) ?_ h;rintro j fr H1⟨rfl,h1,h2⟩;simp only[h1];refine Xc.mono (adW _) ?_ h2;grind
theorem Xc.rangeFunc{n:Nat}{f:aG}{e:List ac}{as g:bp}{aa:am AV}{bF:List ac}{H:af}{K:cG→Fr→af→Prop}(h:Xf ab n (gv aa f) [.yield (H.new (.deferred false)).next] ((H.new (.deferred false)).new (.loop .ready .none 0 aa e as g H.next)) λ_ H'=>∃st cq fn a b c d i,st≠rV.busy∧H'.get (H.new (.deferred false)).next=.loop st cq fn a b c d i∧K cq ⟨aa,H.next::bF,none⟩ (H'.set (H.new (.deferred false)).next (.loop .exhausted cq fn a b c d i))):Xc ab (n+1) (.rangeFunc f e as g) ⟨aa,bF,none⟩ H K:=by refine Xf.mono (adW _) ?_ h;grind
end
end
section
variable[Ov]
section
variable{ab:Nat→aE}
theorem MF:∀{l m:List Int},l.Nodup→(∀x∈l,x∈m)→l.length≤m.length
 |[],_,_,_=>by simp
 |a::l,m,b,hs=>by
  rw[ahg]at b;have g:a∈m:=hs a (adc ..);have f:=MF (l:=l) (m:=m.erase a) b.2 λx d=>by have c:x≠a:=λe=>b.1 (e▸d);exact(List.mem_erase_of_ne c).2 (hs x (adD _ d))
  grind
theorem UB{aa:am AV}{H:af}{x:aG}{k:Int}(h:gv aa x=.int 3 k):aB (.buildSlice 3 1 [.int 3 (.ofNat 0)] [(0,1,x)]) aa H=some (.slice H.next 0 1 1 true,H.new (.cells (cM [.int 3 k]) 1 3 true [] 0)):=by
 have h1:nI aa (fx [AV.int 3 (.ofNat 0)] 1) [(0,1,x)]=some [.int 3 k]:=by simp only[nI,h];rfl
 simp only[aB,h1];rfl
theorem MG{aa:am AV}{H:af}{x:aG}{v:AV}{e:Nat}(h:gv aa x=v)(h1:v.cells=[v])(h2:v.dQ=true):aB (.box e x) aa H=some (.aw H.next 0,H.new (.cells (cM [v]) 1 e true [] 0)):=by simp[h,h1,h2,aB,dI,Bool.and_true,bm,ahj]
structure sy(A:af)(bv:AV)(B1 B2 D L:ac)(e1 e2:Nat)(envA:am AV)(lo:Nat)(l:List Int)(H1:af):Prop where
 nx:lo<H1.next.al
 oF:∀j:ac,j.al<A.next.al→H1.get j=A.get j
 b1:H1.get B1=.cells (cM [bv]) 1 e1 true [] 0
 b2:∃c2 sv,H1.get B2=.cells c2 1 e2 true [] 0∧c2.bq .aiw 0=sv∧sx H1 lo l sv
 dd:H1.get D=.deferred false
 ll:H1.get L=.loop .ready .none 0 envA [sl 7] vq vr D
 o1:A.next.al≤B1.al
 o2:B1.al<B2.al
 o3:B2.al<D.al
 o4:D.al<L.al
 o5:L.al≤lo
theorem sy.CN{A:af}{bv:AV}{B1 B2 D L:ac}{e1 e2:Nat}{envA:am AV}{lo:Nat}{l:List Int}{H1:af}(J:sy A bv B1 B2 D L e1 e2 envA lo l H1){I:ac}(h1:L.al<I.al)(h2:I.al≤lo)(a:b9):sy A bv B1 B2 D L e1 e2 envA lo l (H1.set I a):=by
 have o1:=J.o1;have o2:=J.o2;have o3:=J.o3;have o4:=J.o4;obtain⟨c2,b,c,d,e⟩:=J.b2;refine⟨J.nx,λj hj=>?_,?_,⟨c2,b,?_,d,?_⟩,?_,?_,J.o1,J.o2,J.o3,J.o4,J.o5⟩;·rw[af.aD,an (cr (by omega))];exact J.oF j hj
 ·rw[af.aD,an (cr (by omega))];exact J.b1
 ·rw[af.aD,an (cr (by omega))];exact c
 ·refine e.frame (adW _) λj h3 f=>?_;rw[af.aD,an (cr (by omega))]
 ·rw[af.aD,an (cr (by omega))];exact J.dd
 rw[af.aD,an (cr (by omega))];exact J.ll
theorem UC{A:af}{bv:AV}{B1 B2 D L:ac}{e1 e2:Nat}{envA:am AV}{lo:Nat}{l:List Int}{H1:af}(J:sy A bv B1 B2 D L e1 e2 envA lo l H1)(x:envA.get .aiw (sl 2)=.aw B2 0)(hl:l.length<1000){k:Int}{K:AV→af→Prop}(y:∀p:af,sy A bv B1 B2 D L e1 e2 envA lo (l++[k]) p→(∀j:ac,L.al<j.al→j.al≤lo→p.get j=H1.get j)→K (.bool true) p):Xf ab 40 (.yield L) [.int 3 k] H1 K:=by
 have o1:=J.o1;have o2:=J.o2;have o3:=J.o3;have o4:=J.o4;have o5:=J.o5;have I:=J.nx;obtain⟨c2,g,b1,b2,z⟩:=J.b2;refine Xf.yield (n:=39) J.ll (Xc.region (n:=38) ?_);refine Xo.op (n:=37) (v:=.int 3 k) (H':=H1) (by simp[aB,gv,am.aD]) (Xo.nil (n:=36) ⟨rfl,J.ll,?_⟩);generalize f:H1.set L (.loop .busy .none 0 envA [sl 7] vq vr D)=b;have i:∀j:ac,j≠L→b.get j=H1.get j:=λj hj=>by rw[←f,af.aD,an hj]
 have B:b.get L=.loop .busy .none 0 envA [sl 7] vq vr D:=by rw[←f,af.aD,aH rfl]
 have nb:b.next=H1.next:=by rw[←f];rfl
 have r:bh b B2 0=some g:=by unfold bh;rw[i B2 (cr (by omega)),b1];simp only[show aha 0 1=true from rfl,bm,b2]
 generalize d:b.new (.cells (cM [.int 3 k]) 1 3 true [] 0)=m;have n:∀j:ac,j≠b.next→m.get j=b.get j:=λj hj=>by rw[←d,af.dt,an hj]
 have M:m.next.al=H1.next.al+1:=by rw[←d];show b.next.succ.al=_;rw[ac.gz,nb]
 have s:sx m lo l g:=z.frame (by omega) λj h1 h2=>by rw[n j (cr (by rw[nb];omega)),i j (cr (by omega))]
 refine Xo.op (n:=36) (v:=g) (H':=b) (jm (by simp[gv,aM,am.aD,bH];exact x) r) ?_;refine Xo.op (n:=35) (v:=.int 3 k) (H':=b) (by simp[aB,gv,aM,am.aD,bH]) ?_;refine Xo.op (n:=34) (v:=.slice b.next 0 1 1 true) (H':=m) (by rw[←d];exact UB (by simp[gv,aM,am.aD,bH])) ?_;generalize q:aM (aM (aM (aM (am.set .aiw (sl 7) (.int 3 k) envA) (some (sl 5)) (.int 3 k)) (some (sl 8)) g) (some (sl 9)) (.int 3 k)) (some (sl 10)) (.slice b.next 0 1 1 true)=E;have C:gv E (tt 8)=g:=by rw[←q];simp[gv,aM,am.aD,bH]
 have t:gv E (tt 10)=.slice b.next 0 1 1 true:=by rw[←q];simp[gv,aM,am.aD,bH]
 have F:E.get .aiw (sl 2)=.aw B2 0:=by rw[←q];simp[aM,am.aD,bH];exact x
 obtain⟨a,H',G,N,a3,a4⟩:=UA (lo:=lo) (l:=l) (k:=k) C t (by rw[←d,af.dt,aH rfl]) s (by omega) hl;refine Xo.op (n:=33) (v:=a) (H':=H') G ?_;have u:H'.get B2=.cells c2 1 e2 true [] 0:=by rw[a3 B2 (by omega),n B2 (cr (by rw[nb];omega)),i B2 (cr (by omega))];exact b1
 have e:([a]:List AV)=a.cells∧dI [a]=true:=by
  rcases a4 with⟨h,_⟩|⟨id,c,aK,h,_⟩;·simp at h
  subst h;exact⟨rfl,rfl⟩
 have v:iI H' B2 0 [a]=some (H'.set B2 (.cells (fD c2 0 [a]) 1 e2 true [] 0)):=by unfold iI;rw[u];simp only[adW,decide_true,ahj,agW,Bool.true_and,e.2,bm];rfl
 refine Xo.op (n:=32) (v:=.aiw) (H':=H'.set B2 (.cells (fD c2 0 [a]) 1 e2 true [] 0)) ?_ (Xo.nil (n:=31) ?_)
 ·have H:gv (aM E (some (sl 11)) a) (tt 2)=.aw B2 0:=by simp[gv,aM,am.aD,bH];exact F
  have w:gv (aM E (some (sl 11)) a) (tt 11)=a:=by simp[gv,aM,am.aD,bH]
  simp only[aB,H,w,←e.1,ahj,bm,v]
 have o:∀j:ac,j.al≤lo→j≠L→j≠B2→((H'.set B2 (.cells (fD c2 0 [a]) 1 e2 true [] 0)).set L (.loop .ready .none 0 envA [sl 7] vq vr D)).get j=H1.get j:=λj h1 h2 h3=>by rw[af.aD,an h2,af.aD,an h3,a3 j h1,n j (cr (by rw[nb];omega)),i j h2]
 refine⟨rfl,?_,y _ ⟨?_,λj hj=>?_,?_,⟨fD c2 0 [a],a,?_,?_,?_⟩,?_,?_,o1,o2,o3,o4,o5⟩ λj h1 h2=>?_⟩;·rw[af.aD,an (cr (by omega)),a3 L (by omega),n L (cr (by rw[nb];omega))];exact B
 ·show lo<H'.next.al;omega
 ·rw[o j (by omega) (cr (by omega)) (cr (by omega))];exact J.oF j hj
 ·rw[o B1 (by omega) (cr (by omega)) (cr (by omega))];exact J.b1
 ·rw[af.aD,an (cr (by omega)),af.aD,aH rfl]
 ·rw[mL];simp
 ·refine a4.frame (adW _) λj h1 h2=>?_;rw[af.aD,an (cr (by omega)),af.aD,an (cr (by omega))]
 ·rw[o D (by omega) (cr (by omega)) (cr (by omega))];exact J.dd
 ·rw[af.aD,aH rfl]
 exact o j (by omega) (cr (by omega)) (cr (by omega))
end
section
variable{ab:Nat→aE}
theorem MH:∀{es:List aR}{ks:List Int},jA es=some ks→ks.Nodup→∀{x y:aR}{k:Int},x∈es→y∈es→x.key=.int 3 k→y.key=.int 3 k→x=y
 |[],_,_,_,_,_,_,h,_,_,_=>by grind
 |a::es,ks,h,d,x,y,k,f,g,e1,e2=>by
  simp only[jA]at h;split at h
  ·rename_i i l h1 h2;injection h with h;subst h;rw[ahg]at d;have e:∀z∈es,z.key=.int 3 i→False:=λz j he=>by obtain⟨m,c,b⟩:=(zl h2).1 z j;rw[he]at b;injection b with _ b;exact d.1 (b▸c)
   rcases adC.1 f with c|c<;>rcases adC.1 g with b|b;·rw[c,b]
   ·subst c;rw[h1]at e1;injection e1 with _ e1;subst e1;exact(e y b e2).elim
   ·subst b;rw[h1]at e2;injection e2 with _ e2;subst e2;exact(e x c e1).elim
   exact MH h2 d.2 c b e1 e2
  grind
theorem Xf.UD{n c:Nat}{f:Nat}{first args a:List AV}{d:List iH}{body:bp}{H:af}{K:AV→af→Prop}(g:ab f=.code c d body)(hl:(first++args++a).length≤c)(h:Xc ab n body ⟨kx (first++args++a) .xH .aJ,[],none⟩ H λj fr H'=>(match j with|.exit _=>False|_=>True)∧∃b l,jw H' fr.bF=some b∧gG fr.aa b d=some l∧K (iu l) b):Xf ab (n+1) (.func f first a) args H K:=by simp only[Xf,gS,g];rw[aH (ahi hl)];refine Xc.mono (adW _) ?_ h;rintro j fr H'⟨h1,b,l,h2,h3,e⟩;cases j with|exit=>exact h1.elim|none=>simp only[h2,h3];exact e|ret=>simp only[h2,h3];exact e
theorem MI(a b:AV):kx ([]++[a]++[b]) .xH .aJ=(am.aJ.set AV.aiw (sl 0) a).set .aiw (sl 1) b:=rfl
def vt(ab:Nat→aE)(n a:Nat)(bv:AV)(A:af)(ks:List Int):Prop:=
 ∀{B1 B2 D L:ac}{e1 e2:Nat}{envA:am AV}{H1:af}{K:AV→af→Prop},sy A bv B1 B2 D L e1 e2 envA L.al [] H1→H1.next=L.succ→envA.get .aiw (sl 2)=.aw B2 0→
  (∀lo l b,sy A bv B1 B2 D L e1 e2 envA lo l b→l.Perm ks→K (.tuple []) b)→Xf ab n (.func a [] [.aw B1 0]) [.yield L] H1 K
theorem UE{g:Nat}(Z:ab g=.code 14 [] DB){m:ac}{A:af}{d:List aR}{c:Nat}{ks:List Int}(V:A.get m=.map d c)(v:m.al<A.next.al)(hb:(d.map (·.born)).Nodup)(O:∀e∈d,e.born<c)(H:jA d=some ks)(W:ks.Nodup)(ag:ks.length≤1000):vt ab (d.length+100) g (.map m) A ks:=by
 intro B1 B2 D L e1 e2 envA H1 K J P hA hK;have o1:=J.o1;have o2:=J.o2;have o3:=J.o3;have o4:=J.o4;have hI:H1.next.al=L.al+1:=by rw[P,ac.gz]
 refine Xf.code (n:=d.length+99) Z (by simp) ?_;rw[MI];generalize X:(am.aJ.set AV.aiw (sl 0) (.yield L)).set .aiw (sl 1) (.aw B1 0)=aa;have h0:aa.get .aiw (sl 0)=.yield L:=by rw[←X];simp[am.aD,bH]
 have h1:aa.get .aiw (sl 1)=.aw B1 0:=by rw[←X];simp[am.aD,bH]
 have gm:H1.get m=.map d c:=by rw[J.oF m v];exact V
 have Q:bh H1 B1 0=some (.map m):=by unfold bh;rw[J.b1];simp only[show aha 0 1=true from rfl,bm];rw[pa _ _ (by simp)];rfl
 refine Xc.jf (n:=20) (m:=60+15+d.length) (k:=d.length+98) (by omega) (by omega) (Xc.region (n:=19) ?_);refine Xo.op (n:=18) (v:=.map m) (H':=H1) (jm h1 Q) ?_;refine Xo.op (n:=17) (v:=.aw H1.next 0) (H':=H1.new (.mapIter (some m) c [] c)) (by simp[aB,gv,aM,am.aD,gm]) (Xo.nil (n:=16) ?_);have J1:sy A (.map m) B1 B2 D L e1 e2 envA H1.next.al [] (H1.new (.mapIter (some m) c [] c)):=by
  have s:∀j:ac,j.al≤L.al→(H1.new (.mapIter (some m) c [] c)).get j=H1.get j:=λj hj=>by rw[af.dt,an (cr (by omega))]
  obtain⟨c2,sv,b1,b2,b3⟩:=J.b2;refine⟨by show _<H1.next.succ.al;rw[ac.gz];omega,λj hj=>by rw[s j (by omega)];exact J.oF j hj,by rw[s B1 (by omega)];exact J.b1,⟨c2,sv,by rw[s B2 (by omega)];exact b1,b2,?_⟩,by rw[s D (by omega)];exact J.dd,by rw[s L (by omega)];exact J.ll,o1,o2,o3,o4,by omega⟩;rcases b3 with h|⟨_,_,_,_,h,_⟩;·exact .inl h
  exact absurd rfl h
 refine LY (by decide) (by decide) (by decide) (by decide) (by decide) hb O (id:=H1.next) (m:=m) (I:=λseen aa n=>aa.get .aiw (sl 0)=.yield L∧aa.get .aiw (sl 5)=.aw H1.next 0∧n.get H1.next=.mapIter (some m) c seen c∧∃l,sy A (.map m) B1 B2 D L e1 e2 envA H1.next.al l n∧l.Nodup∧(∀k∈l,k∈ks∧∃e∈d,e.born∈seen∧e.key=.int 3 k)∧∀e∈d,e.born∈seen→∃k∈l,e.key=.int 3 k) ?_ 60 ?_ ?_ d.length [] _ _ ?_ (List.length_filter_le ..);·rintro seen aa n⟨C,E,I,l,t,_⟩;exact⟨E,I,by rw[t.oF m v];exact V⟩
 ·rintro seen aa n e⟨C,E,I,l,t,F,u,M⟩he w;obtain⟨r,y,f⟩:=(zl H).1 e he;have o:r∉l:=λh=>by obtain⟨G,p,i,a3⟩:=(u r h).2;rw[MH H W he p f a3]at w;exact w i
  have B:l.length<1000:=by
   have R:(l++[r]).Nodup:=by rw[ahy];exact⟨F,by simp,λa N b hb=>by simp only[ac3]at hb;subst hb;exact λe=>o (e▸N)⟩
   have:=MF R (m:=ks) λx hx=>by
    rcases agI.1 hx with h|h;·exact(u x h).1
    rw[ac3]at h;rw[h];exact y
   simp at this;omega
  refine Xc.jf (n:=50) (m:=50) (k:=59) (by omega) (by omega) (Xc.region (n:=49) ?_);refine Xo.op (n:=48) (v:=.yield L) (H':=n.set H1.next (.mapIter (some m) c (seen++[e.born]) c)) (by simp[aB,gv,am.aD,bH];exact C) ?_;refine Xo.op (n:=47) (v:=.int 3 r) (H':=n.set H1.next (.mapIter (some m) c (seen++[e.born]) c)) (by simp[aB,gv,aM,am.aD,bH];exact f) ?_;refine Xo.call (n:=46) ?_;simp only[gv,aM,am.aD,bH,agN,ahX];refine Xf.mono (n:=40) (by omega) (λ_ _ h=>h) (UC (t.CN (I:=H1.next) (by omega) (adW _) _) hA B λH3 J3 q=>?_);refine Xo.op (n:=45) (v:=.bool false) (H':=H3) (by simp[aB,gv,aM,am.aD,bH,CD]) (Xo.nil (n:=44) ?_);refine Xc.mQ (n:=49) (by simp[gv,aM,am.aD,bH]) (Xc.skip (n:=48) ⟨rfl,rfl,rfl,?_,?_,?_,l++[r],J3,?_,?_,?_⟩);·simp[aM,am.aD,bH];exact C
  ·simp[aM,am.aD,bH];exact E
  ·rw[q H1.next (by omega) (adW _),af.aD,aH rfl]
  ·rw[ahy];exact⟨F,by simp,λa N b hb=>by simp only[ac3]at hb;subst hb;exact λe=>o (e▸N)⟩
  ·intro k S;rcases agI.1 S with h|h;·obtain⟨a0,G,p,i,a3⟩:=u k h;exact⟨a0,G,p,agU _ i,a3⟩
   rw[ac3]at h;subst h;exact⟨y,e,he,ag7 _ (ac3.2 rfl),f⟩
  intro G z T;rcases agI.1 T with h|h;·obtain⟨Y,p,i⟩:=M G z h;exact⟨Y,agU _ p,i⟩
  rw[ac3]at h;rw[GM hb z he h];exact⟨r,ag7 _ (ac3.2 rfl),f⟩
 ·rintro seen aa n⟨C,E,I,l,t,F,u,M⟩eS;refine⟨trivial,rfl,[],rfl,hK _ l n t ((List.perm_ext_iff_of_nodup F W).2 λx=>⟨λh=>(u x h).1,λh=>?_⟩)⟩;obtain⟨e,he,f⟩:=(zl H).2 x h;obtain⟨Y,p,i⟩:=M e he (eS e he);rw[f]at i;injection i with _ i;rw[i];exact p
 exact⟨by simp[aM,am.aD,bH];exact h0,by simp[aM,am.aD,bH],by rw[af.dt,aH rfl],[],J1,aim,by simp,by simp⟩
theorem UF{a:Nat}(f:ab a=.code 14 [] DB){A:af}:vt ab 100 a .cL A []:=by
 intro B1 B2 D L e1 e2 envA H1 K J d n g;have o1:=J.o1;have o2:=J.o2;have o3:=J.o3;have o4:=J.o4;have o:H1.next.al=L.al+1:=by rw[d,ac.gz]
 refine Xf.code (n:=99) f (by simp) ?_;rw[MI];generalize i:(am.aJ.set AV.aiw (sl 0) (.yield L)).set .aiw (sl 1) (.aw B1 0)=aa;have h1:aa.get .aiw (sl 1)=.aw B1 0:=by rw[←i];simp[am.aD,bH]
 have e:bh H1 B1 0=some .cL:=by unfold bh;rw[J.b1];simp only[show aha 0 1=true from rfl,bm];rw[pa _ _ (by simp)];rfl
 refine Xc.jf (n:=90) (m:=90) (k:=98) (by simp) (by simp) (Xc.region (n:=89) ?_);refine Xo.op (n:=88) (v:=.cL) (H':=H1) (jm h1 e) ?_;refine Xo.op (n:=87) (v:=.aw H1.next 0) (H':=H1.new (.mapIter none 0 [] 0)) (by rfl) (Xo.nil (n:=86) ?_);have k:sy A .cL B1 B2 D L e1 e2 envA L.al [] (H1.new (.mapIter none 0 [] 0)):=by
  have b:∀j:ac,j.al≤L.al→(H1.new (.mapIter none 0 [] 0)).get j=H1.get j:=λj hj=>by rw[af.dt,an (cr (by omega))]
  obtain⟨c2,l,b1,b2,m⟩:=J.b2;refine⟨by show _<H1.next.succ.al;rw[ac.gz];omega,λj hj=>by rw[b j (by omega)];exact J.oF j hj,by rw[b B1 (by omega)];exact J.b1,⟨c2,l,by rw[b B2 (by omega)];exact b1,b2,?_⟩,by rw[b D (by omega)];exact J.dd,by rw[b L (by omega)];exact J.ll,o1,o2,o3,o4,adW _⟩;rcases m with h|⟨_,_,_,_,h,_⟩;·exact .inl h
  exact absurd rfl h
 refine Xc.block (n:=89) (Xc.loop (n:=88) (Xc.seq (n:=87) (Xc.region (n:=86) (Xo.next (n:=85) (cs:=[none]) (aft:=λ_=>(.tuple [.bool false],H1.new (.mapIter none 0 [] 0))) ?_ ?_))));·simp[gv,aM,am.aD,tz,af.dt]
 intro c _;refine Xo.op (n:=84) (v:=.bool false) (H':=H1.new (.mapIter none 0 [] 0)) (by rfl) (Xo.nil (n:=83) ?_);exact⟨trivial,rfl,[],rfl,g _ [] _ k (ais _)⟩
theorem UG{k a n e2:Nat}(y:ab k=.code 13 [.tmp (sl 4)] (w8 e2)){bv:AV}{A d:af}{ks:List Int}(t:vt ab n a bv A ks){B1:ac}{e1:Nat}(z:d.get B1=.cells (cM [bv]) 1 e1 true [] 0)(B:A.next.al≤B1.al)(u:B1.al<d.next.al)(v:∀j:ac,j.al<A.next.al→d.get j=A.get j){K:AV→af→Prop}(C:∀g e lo l,A.next.al≤lo∧lo<e.next.al→sx e lo l g→l.Perm ks→(∀j:ac,j.al<A.next.al→e.get j=A.get j)→K g e):Xf ab (n+40) (.func k [] []) [.aP,.func a [] [.aw B1 0]] d K:=by
 refine Xf.UD (n:=n+39) y (by simp) ?_;show Xc ab (n+39) (w8 e2) ⟨(am.aJ.set .aiw (sl 0) .aP).set .aiw (sl 1) (.func a [] [.aw B1 0]),[],none⟩ d _;generalize i:(am.aJ.set AV.aiw (sl 0) .aP).set .aiw (sl 1) (.func a [] [.aw B1 0])=aa;have h0:aa.get .aiw (sl 0)=.aP:=by rw[←i];simp[am.aD,bH]
 have h1:aa.get .aiw (sl 1)=.func a [] [.aw B1 0]:=by rw[←i];simp[am.aD,bH]
 refine Xc.jf (n:=20) (m:=n+37) (k:=n+38) (by omega) (by omega) (Xc.region (n:=19) ?_);refine Xo.op (n:=18) (v:=.aw d.next 0) (H':=d.new (.cells (cM [.aP]) 1 e2 true [] 0)) (MG h0 rfl rfl) ?_;refine Xo.op (n:=17) (v:=.aP) (H':=d.new (.cells (cM [.aP]) 1 e2 true [] 0)) (by simp[aB,gv]) (Xo.nil (n:=16) ?_);generalize o:d.new (.cells (cM [.aP]) 1 e2 true [] 0)=b;have D:b.next=d.next.succ:=by rw[←o];rfl
 have r:∀j,b.get j=if j=d.next then .cells (cM [.aP]) 1 e2 true [] 0 else d.get j:=λj=>by rw[←o,af.dt]
 generalize i:aM (aM aa (some (sl 2)) (.aw d.next 0)) (some (sl 4)) .aP=f;have E:f.get .aiw (sl 1)=.func a [] [.aw B1 0]:=by rw[←i];simp[aM,am.aD,bH];exact h1
 have F:f.get .aiw (sl 2)=.aw d.next 0:=by rw[←i];simp[aM,am.aD,bH]
 refine Xc.jf (n:=n+30) (m:=20) (k:=n+36) (by omega) (by omega) (Xc.jf (n:=20) (m:=n+20) (k:=n+29) (by omega) (by omega) (Xc.region (n:=19) ?_));refine Xo.op (n:=18) (v:=.func a [] [.aw B1 0]) (H':=b) (by simp[aB,gv];exact E) (Xo.nil (n:=17) ?_);generalize i:aM f (some (sl 6)) (.func a [] [.aw B1 0])=c;have w:c.get .aiw (sl 2)=.aw d.next 0:=by rw[←i];simp[aM,am.aD,bH];exact F
 have G:gv c (tt 6)=.func a [] [.aw B1 0]:=by rw[←i];simp[gv,aM,am.aD]
 refine Xc.block (n:=n+19) (Xc.mono (n:=n+1) (by omega) (λ_ _ _ h=>h) (Xc.rangeFunc (n:=n) ?_));rw[G];have nd:(b.new (.deferred false)).next=b.next.succ:=rfl;have i2:b.next.al=d.next.al+1:=by rw[D,ac.gz]
 have i3:(b.new (.deferred false)).next.al=d.next.al+2:=by rw[nd,ac.gz,i2]
 have m:∀j,((b.new (.deferred false)).new (.loop .ready .none 0 c [sl 7] vq vr b.next)).get j=if j=(b.new (.deferred false)).next then .loop .ready .none 0 c [sl 7] vq vr b.next else if j=b.next then .deferred false else b.get j:=λj=>by rw[af.dt,af.dt]
 refine t (B1:=B1) (B2:=d.next) (D:=b.next) (L:=(b.new (.deferred false)).next) (e1:=e1) (e2:=e2) (envA:=c) ?_ rfl w ?_
 ·refine⟨by show _<(b.new (.deferred false)).next.succ.al;rw[ac.gz];omega,λj hj=>?_,?_,⟨cM [.aP],.aP,?_,?_,.inl ⟨rfl,rfl⟩⟩,?_,?_,B,u,by omega,by omega,adW _⟩;·rw[m,an (cr (by omega)),an (cr (by omega)),r,an (cr (by omega))];exact v j hj
  ·rw[m,an (cr (by omega)),an (cr (by omega)),r,an (cr (by omega))];exact z
  ·rw[m,an (cr (by omega)),an (cr (by omega)),r,aH rfl]
  ·rw[pa _ _ (by simp)];rfl
  ·rw[m,an (cr (by omega)),aH rfl]
  rw[m,aH rfl]
 intro lo l s J H;have o5:=J.o5;refine⟨_,_,_,_,_,_,_,_,by simp,J.ll,?_⟩;obtain⟨c2,g,b1,b2,I⟩:=J.b2;generalize p:s.set (b.new (.deferred false)).next (.loop .exhausted .none 0 c [sl 7] vq vr b.next)=e;have q:∀j,j≠(b.new (.deferred false)).next→e.get j=s.get j:=λj hj=>by rw[←p,af.aD,an hj]
 have x:e.next=s.next:=by rw[←p];rfl
 have L:bh e d.next 0=some g:=by unfold bh;rw[q _ (cr (by omega)),b1];simp only[show aha 0 1=true from rfl,bm,b2]
 refine Xc.jf (n:=18) (m:=18) (k:=19) (by omega) (by omega) (Xc.region (n:=17) ?_);refine Xo.op (n:=16) (v:=g) (H':=e) (jm (by simp[gv];exact w) L) ?_;refine Xo.op (n:=15) (v:=g) (H':=e) (by simp[aB,gv,aM,am.aD]) (Xo.nil (n:=14) ?_);refine Xc.ret (n:=17) ⟨trivial,e.set b.next (.deferred true),[g],?_,?_,?_⟩;·simp only[jw,q b.next (cr (by omega)),J.dd]
 ·simp[gG,aM,am.aD]
 refine C g _ lo l ⟨by omega,by show lo<e.next.al;rw[x];exact J.nx⟩ ?_ H λj hj=>?_;·refine I.frame (by show _≤e.next.al;rw[x];exact adW _) λj h1 h2=>?_;rw[af.aD,an (cr (by omega)),q j (cr (by omega))]
 rw[af.aD,an (cr (by omega)),q j (cr (by omega))];exact J.oF j hj
end
section
variable{ab:Nat→aE}
theorem Xf.gZ{n f:Nat}{g:List AV→af→Option (AV×af)}{first args a:List AV}{H H':af}{v:AV}{K:AV→af→Prop}(b:ab f=.gZ g)(hg:g (first++args++a) H=some (v,H'))(c:K v H'):Xf ab (n+1) (.func f first a) args H K:=by simp_all[Xf,gS]
theorem UH{b c a n e2:Nat}(m:ab b=.code 5 [.tmp (sl 2)] (Bi c))(o:ab c=.code 13 [.tmp (sl 4)] (w8 e2)){bv:AV}{A e:af}{ks:List Int}(g:vt ab n a bv A ks){B1:ac}{e1:Nat}(p:e.get B1=.cells (cM [bv]) 1 e1 true [] 0)(q:A.next.al≤B1.al)(i:B1.al<e.next.al)(k:∀j:ac,j.al<A.next.al→e.get j=A.get j){K:AV→af→Prop}(r:∀f d lo l,A.next.al≤lo∧lo<d.next.al→sx d lo l f→l.Perm ks→(∀j:ac,j.al<A.next.al→d.get j=A.get j)→K f d):Xf ab (n+60) (.func b [] []) [.func a [] [.aw B1 0]] e K:=by
 refine Xf.code (n:=n+59) m (by simp) ?_;rw[show kx ([]++[AV.func a [] [.aw B1 0]]++[]) .xH .aJ=am.aJ.set AV.aiw (sl 0) (.func a [] [.aw B1 0])from rfl];generalize s:am.aJ.set AV.aiw (sl 0) (.func a [] [.aw B1 0])=aa;have h0:aa.get .aiw (sl 0)=.func a [] [.aw B1 0]:=by rw[←s];simp[am.aD]
 refine Xc.jf (n:=20) (m:=n+57) (k:=n+58) (by simp) (by simp) (Xc.region (n:=19) ?_);refine Xo.op (n:=18) (v:=.aP) (H':=e) (by rfl) (Xo.nil (n:=17) ?_);refine Xc.jf (n:=n+50) (m:=10) (k:=n+56) (by simp) (by simp) (Xc.region (n:=n+49) ?_);refine Xo.op (n:=n+48) (v:=.func a [] [.aw B1 0]) (H':=e) (by simp[h0,aB,gv,aM,am.aD,bH]) ?_;refine Xo.call (n:=n+47) ?_;refine Xf.mono (n:=n+40) (by simp) (λ_ _ h=>h) (UG o g p q i k λf d lo l t u v w=>?_);refine Xo.op (n:=n+46) (v:=f) (H':=d) (by rfl) (Xo.nil (n:=n+45) ?_);exact Xc.ret (n:=9) ⟨trivial,rfl,[f],by rfl,r f d lo l t u v w⟩
theorem MJ{c:am AV}:∀{l:List Int}{o:Nat},(∀i(h:i<l.length),c.bq .aiw (o+i)=.int 3 (l[i]))→w7 c o l.length=some l
 |[],_,_=>rfl
 |z::l,o,h=>by
  have h0:c.bq .aiw o=.int 3 z:=h 0 (by simp);have a:=MJ (c:=c) (l:=l) (o:=o+1) λi hi=>by have:=h (i+1) (by simpa using hi);rw[show o+(i+1)=o+1+i by omega]at this;exact this
  simp[h0,a,ahh,w7]
def DC(H:af)(lo:Nat)(ks:List Int)(v:AV):Prop:=
 (ks=[]∧v=.aP)∨∃id,v=.slice id 0 ks.length ks.length false∧ks≠ []∧lo≤id.al∧H.get id=.cells (cM ((fN ks).map λz=>.int 3 z)) ks.length 3 true [] 0
theorem UI{b:Nat}(hs:ab b=.gZ sw){A d:af}{m:AV}{lo:Nat}{l ks:List Int}(h1:A.next.al≤lo∧lo<d.next.al)(h2:sx d lo l m)(h3:l.Perm ks)(w:ks.length≤1000)(p:∀j:ac,j.al<A.next.al→d.get j=A.get j){n:Nat}{K:AV→af→Prop}(q:∀f,DC f A.next.al ks m→(∀j:ac,j.al<A.next.al→f.get j=A.get j)→((∀id o n c e,m=.slice id o n c e→id.al<f.next.al)∧A.next.al≤f.next.al)→K (.tuple []) f):Xf ab (n+1) (.func b [] []) [m] d K:=by
 have a:=h3.length_eq;rcases h2 with⟨rfl,rfl⟩|⟨id,c,aK,rfl,r,x,s,t,u,v⟩;·refine Xf.gZ hs (H':=d) (v:=.tuple []) rfl (q d (.inl ⟨List.nil_perm.1 h3,rfl⟩) p ⟨λ_ _ _ _ _ h=>(by cases h),by omega⟩)
 have g:0<l.length:=by cases l with|nil=>exact absurd rfl r|cons _ _=>simp
 have k:fN l=fN ks:=Dy (zq l) (zq ks) ((vn l).trans (h3.trans (vn ks).symm));have hg:sw [.slice id 0 l.length l.length false] d=some (.tuple [],(d.fL aK).set id (.cells (cM ((fN l).map λz=>.int 3 z)) l.length 3 true [] 0)):=by
  have e1:(agQ l.length l.length&&aha 0 l.length&&ahG l.length 4000000)=true:=by rw[ahQ,show aha 0 l.length=true from aiu ahF g,ahi (by omega)];rfl
  simp only[sw,t,e1,bm,MJ (l:=l) (o:=0) λi hi=>by rw[agW];exact u i hi]
 refine Xf.gZ hs hg (q _ (.inr ⟨id,by rw[a],λe=>?_,by omega,?_⟩) (λj hj=>?_) ⟨λ_ _ _ _ _ h=>(by injection h with h;subst h;rw[af.fR,af.jS];exact s),by rw[af.fR,af.jS];omega⟩);·rw[e]at a;simp at a;exact r (by simpa using a)
 ·rw[af.aD,aH rfl,k,a]
 rw[af.aD,an (cr (by omega)),af.wE,an λh=>by have:=v j h;omega];exact p j hj
theorem UJ{b d f i a n e2:Nat}(hd:ab b=.code 9 [.tmp (sl 2)] (Dz f d))(hs:ab d=.gZ sw)(t:ab f=.code 5 [.tmp (sl 2)] (Bi i))(u:ab i=.code 13 [.tmp (sl 4)] (w8 e2)){bv:AV}{A A1:af}{ks:List Int}(m:ks.length≤1000)(p:vt ab n a bv A ks){B1:ac}{e1:Nat}(w:A1.get B1=.cells (cM [bv]) 1 e1 true [] 0)(x:A.next.al≤B1.al)(q:B1.al<A1.next.al)(r:∀j:ac,j.al<A.next.al→A1.get j=A.get j){K:AV→af→Prop}(y:∀v g,DC g A.next.al ks v→(∀j:ac,j.al<A.next.al→g.get j=A.get j)→((∀id o n c e,v=.slice id o n c e→id.al<g.next.al)∧A.next.al≤g.next.al)→K v g):Xf ab (n+90) (.func b [] []) [.func a [] [.aw B1 0]] A1 K:=by
 refine Xf.code (n:=n+89) hd (by simp) ?_;rw[show kx ([]++[AV.func a [] [.aw B1 0]]++[]) .xH .aJ=am.aJ.set AV.aiw (sl 0) (.func a [] [.aw B1 0])from rfl];generalize z:am.aJ.set AV.aiw (sl 0) (.func a [] [.aw B1 0])=aa;have h0:aa.get .aiw (sl 0)=.func a [] [.aw B1 0]:=by rw[←z];simp[am.aD]
 refine Xc.jf (n:=20) (m:=n+87) (k:=n+88) (by simp) (by simp) (Xc.region (n:=19) ?_);refine Xo.op (n:=18) (v:=.aP) (H':=A1) (by rfl) (Xo.nil (n:=17) ?_);refine Xc.jf (n:=n+70) (m:=n+80) (k:=n+86) (by simp) (by simp) (Xc.region (n:=n+69) ?_);refine Xo.op (n:=n+68) (v:=.func a [] [.aw B1 0]) (H':=A1) (by simp[h0,aB,gv,aM,am.aD,bH]) ?_;refine Xo.call (n:=n+67) ?_;refine Xf.mono (n:=n+60) (by simp) (λ_ _ h=>h) (UH t u p w x q r λk s lo l B C D E=>?_);refine Xo.op (n:=n+66) (v:=k) (H':=s) (by rfl) (Xo.nil (n:=n+65) ?_);refine Xc.jf (n:=20) (m:=20) (k:=n+79) (by simp) (by simp) (Xc.region (n:=19) ?_);refine Xo.op (n:=18) (v:=k) (H':=s) (by rfl) ?_;refine Xo.call (n:=17) ?_;refine UI hs B C D m E λg F G H=>?_;refine Xc.jf (n:=10) (m:=10) (k:=19) (by simp) (by simp) (Xc.region (n:=9) ?_);refine Xo.op (n:=8) (v:=k) (H':=g) (by rfl) ?_;refine Xo.op (n:=7) (v:=k) (H':=g) (by rfl) (Xo.nil (n:=6) ?_);exact Xc.ret (n:=9) ⟨trivial,rfl,[k],by rfl,y k g F G H⟩
theorem UK{b a e1:Nat}(d:ab b=.code 4 [.tmp (sl 2)] (DA a e1)){bv:AV}(hb:bv.cells=[bv])(c:bv.dQ=true){A:af}{K:AV→af→Prop}(e:K (.func a [] [.aw A.next 0]) (A.new (.cells (cM [bv]) 1 e1 true [] 0))):Xf ab 40 (.func b [] []) [bv] A K:=by
 refine Xf.code (n:=39) d (by simp) ?_;rw[show kx ([]++[bv]++[]) .xH .aJ=am.aJ.set AV.aiw (sl 0) bv from rfl];generalize f:am.aJ.set AV.aiw (sl 0) bv=aa;have h0:aa.get .aiw (sl 0)=bv:=by rw[←f];simp[am.aD]
 refine Xc.jf (n:=20) (m:=30) (k:=38) (by simp) (by simp) (Xc.region (n:=19) ?_);refine Xo.op (n:=18) (v:=.aw A.next 0) (H':=A.new (.cells (cM [bv]) 1 e1 true [] 0)) (MG h0 hb c) ?_;refine Xo.op (n:=17) (v:=.nilFunc) (H':=A.new (.cells (cM [bv]) 1 e1 true [] 0)) (by rfl) (Xo.nil (n:=16) ?_);refine Xc.jf (n:=20) (m:=20) (k:=29) (by simp) (by simp) (Xc.region (n:=19) ?_);refine Xo.op (n:=18) (v:=.func a [] [.aw A.next 0]) (H':=A.new (.cells (cM [bv]) 1 e1 true [] 0)) (by rfl) ?_;refine Xo.op (n:=17) (v:=.func a [] [.aw A.next 0]) (H':=A.new (.cells (cM [bv]) 1 e1 true [] 0)) (by rfl) (Xo.nil (n:=16) ?_);exact Xc.ret (n:=19) ⟨trivial,rfl,[.func a [] [.aw A.next 0]],by rfl,e⟩
theorem UL{b c a d e g f n e1 e2:Nat}(hl:ab b=.code 6 [.tmp (sl 2)] (G0 c a))(o:ab c=.code 4 [.tmp (sl 2)] (DA f e1))(hd:ab a=.code 9 [.tmp (sl 2)] (Dz e d))(hs:ab d=.gZ sw)(p:ab e=.code 5 [.tmp (sl 2)] (Bi g))(q:ab g=.code 13 [.tmp (sl 4)] (w8 e2)){bv:AV}(hb:bv.cells=[bv])(k:bv.dQ=true){A:af}{ks:List Int}(l:ks.length≤1000)(m:vt ab n f bv A ks){K:AV→af→Prop}(r:∀v i,DC i A.next.al ks v→(∀j:ac,j.al<A.next.al→i.get j=A.get j)→K v i):Xf ab (n+150) (.func b [] []) [bv] A K:=by
 refine Xf.code (n:=n+149) hl (by simp) ?_;rw[show kx ([]++[bv]++[]) .xH .aJ=am.aJ.set AV.aiw (sl 0) bv from rfl];generalize s:am.aJ.set AV.aiw (sl 0) bv=aa;have h0:aa.get .aiw (sl 0)=bv:=by rw[←s];simp[am.aD]
 refine Xc.jf (n:=20) (m:=n+140) (k:=n+148) (by omega) (by omega) (Xc.region (n:=19) ?_);refine Xo.op (n:=18) (v:=.aP) (H':=A) (by simp[aB,gv]) (Xo.nil (n:=17) ?_);refine Xc.jf (n:=n+130) (m:=10) (k:=n+139) (by omega) (by omega) (Xc.region (n:=n+129) ?_);refine Xo.op (n:=n+128) (v:=bv) (H':=A) (by simp[aB,gv,aM,am.aD,bH];exact h0) ?_;refine Xo.call (n:=n+127) ?_;refine Xf.mono (n:=40) (by omega) (λ_ _ h=>h) (UK o hb k ?_);refine Xo.call (n:=n+126) ?_;refine Xf.mono (n:=n+90) (by omega) (λ_ _ h=>h) (UJ hd hs p q l m (A1:=A.new (.cells (cM [bv]) 1 e1 true [] 0)) (B1:=A.next) (e1:=e1) (by rw[af.dt,aH rfl]) (adW _) (by show _<A.next.succ.al;rw[ac.gz];omega) (λj hj=>by rw[af.dt,an (cr (by omega))]) λv i t u _=>?_);refine Xo.op (n:=n+125) (v:=v) (H':=i) (by simp[aB,gv,aM,am.aD]) (Xo.nil (n:=n+124) ?_);exact Xc.ret (n:=9) ⟨trivial,rfl,[v],by simp[gG,aM,am.aD],r v i t u⟩
end
section
variable{P:Program}
theorem ch.gj{ρ a:aL}(h:cz ρ a):∀{es:List aR}{f l:List MapEntry},ch ρ es f→ch a es l→ch ρ es l|[],_,[],_,_=>by trivial|[],_,_::_,_,k=>by trivial|_::_,[],_,b,_=>by trivial|_::_,_::_,[],_,k=>by trivial|e::es,c0::f,c::l,b,k=>by exact⟨VR.gj h _ _ _ b.1 k.1,VR.gj h _ _ _ b.2.1 k.2.1,k.2.2.1,ch.gj h b.2.2.2 k.2.2.2⟩
theorem dG.gj{ρ a:aL}(h:cz ρ a):∀{es:List aR}{f l:List MapEntry},dG ρ es f→dG a es l→dG ρ es l|[],_,[],_,_=>by trivial|[],_,_::_,_,k=>by trivial|_::_,[],_,b,_=>by trivial|_::_,_::_,[],_,k=>by trivial|e::es,c0::f,c::l,b,k=>by exact⟨VR.gj h _ _ _ b.1 k.1,VR.gj h _ _ _ b.2.1 k.2.1,dG.gj h b.2.2 k.2.2⟩
theorem OR.gj{ρ b:aL}(h:cz ρ b){o:b9}(m:(∃c n e f aK fz,o=.cells c n e f aK fz)∨∃es,eJ o=some es){p x:Nat}{a g:Obj}(i:OR P ρ o p a)(k:OR P b o x g):OR P ρ o x g:=by
 rcases m with⟨c,n,e,f,aK,fz,rfl⟩|⟨es,he⟩;·grind[OR.MA]
 cases o with|map j c=>cases a<;>simp only[OR]at i;cases g<;>simp only[OR]at k⊢;exact⟨k.1,k.2.1,k.2.2.1,ch.gj h i.2.2.2 k.2.2.2⟩|dB j=>cases a<;>simp only[OR]at i;cases g<;>simp only[OR]at k⊢;obtain⟨_,_,v,_,r⟩:=i;obtain⟨s,t,l,u,q⟩:=k;exact⟨s,t,l,u,dG.gj h r q⟩|_=>simp[eJ]at he
variable{d:cJ}{ρ:aL}{H:af}{w:World}
theorem bt.UM(z:bt P d ρ H w){hl:ac→Prop}(A:∀j,hl j→(H.get j).nQ){Hs:af}(l:Hs.next=H.next)(i:∀j,(hl j→Hs.get j=.none)∧(¬hl j→Hs.get j=H.get j))(b:bt P (d.ka ρ hl λ_=>False) ρ Hs w){f:aL}{v:af}{w':World}(q:cz ρ f)(r:bt P (d.ka ρ hl λ_=>False) f v w')(B:d9 (d.ka ρ hl λ_=>False) w w')(s:∀j:ac,j.al<H.next.al→v.get j=Hs.get j)(t:∀j,¬hl j→H.get j≠.none→(∃c n e u aK fz,H.get j=.cells c n e u aK fz)∨∃es,eJ (H.get j)=some es):∃a,cz ρ a∧bt P d a H w'∧d9 d w w':=by
 classical
  let a:aL:=⟨λj=>if j.al<Hs.next.al then ρ j else if False then f j else none,f.k⟩;have p:cz ρ a:=by
   intro j x hj;refine⟨?_,(q j x hj).2⟩;show(if j.al<Hs.next.al then ρ j else _)=_;rcases ahz j.al Hs.next.al with h|h;·rw[aH h];exact hj
   rw[(b.dV j h).2]at hj;cases hj
  have y:=bt.GR b q r (H2:=Hs) (adW _) id (λ_=>False) a rfl (λj h1 h2=>absurd (b.dV j h1).1 h2) (λ_ h=>h.elim) (λ_ _ h=>h.elim) (λj hj hg=>by have m:¬hl j:=λh=>hg ((i j).1 h);have e1:=s j (by rw[←l];exact hj);rw[e1];refine⟨hg,hg,rfl,rfl,rfl,rfl,λx D o=>?_,λ_ _ h=>h⟩;obtain⟨E,F,C,_,_,g⟩:=b.ev j hg;rw[(i j).2 m]at o g hg⊢;exact OR.mono p (OR.gj q (t j m hg) g o));obtain⟨G,I⟩:=z.GQ A y.1 y.2 B (H2:=H) l.symm (λ_ _=>rfl) (λj h=>((i j).2 h).symm);grind
theorem bt.UN(L:bt P d ρ H w){hl:ac→Prop}(M:∀j,hl j→(H.get j).nQ){Hs:af}(g:Hs.next=H.next)(r:∀j,(hl j→Hs.get j=.none)∧(¬hl j→Hs.get j=H.get j))(m:bt P (d.ka ρ hl λ_=>False) ρ Hs w){l:aL}{z:af}{w':World}(A:cz ρ l)(u:bt P (d.ka ρ hl λ_=>False) l z w')(O:d9 (d.ka ρ hl λ_=>False) w w')(C:∀j:ac,j.al<H.next.al→z.get j=Hs.get j)(D:∀j,¬hl j→H.get j≠.none→(∃c n e E aK fz,H.get j=.cells c n e E aK fz)∨∃es,eJ (H.get j)=some es){id:ac}{o:b9}(F:H.next.al≤id.al)(N:z.get id=o)(f:o.nQ)(G:∀I a:aL,∀x t,OR P I o x t→OR P a o x t):∃a:aL,cz ρ a∧bt P d a (H.new o) w'∧d9 d w w'∧a H.next=l id∧a.k=l.k:=by
 classical
  let a:aL:=⟨λj=>if j.al<Hs.next.al then ρ j else if j=H.next then l ((λ_=>id) j)else none,l.k⟩;have y:cz ρ a:=by
   intro j x hj;refine⟨?_,(A j x hj).2⟩;show(if j.al<Hs.next.al then ρ j else _)=_;rcases ahz j.al Hs.next.al with h|h;·rw[aH h];exact hj
   rw[(m.dV j h).2]at hj;cases hj
  have J:a H.next=l id:=by show(if H.next.al<Hs.next.al then _ else if H.next=H.next then _ else _)=_;rw[an (by rw[g];omega),aH rfl]
  have p:(Hs.new o).next.al=Hs.next.al+1:=ac.gz _;obtain⟨b,x,t,W,S,T,s⟩:=u.aF (i:=id) (by rw[N];exact f.2.2);have B:=bt.GR m A u (H2:=Hs.new o) (by rw[p];omega) (λ_=>id) (λj=>j=H.next) a rfl (λj h1 h2=>by
   rw[af.dt]at h2;split at h2;·rename_i e;rw[e,g]
   exact absurd (m.dV j h1).1 h2) (λj hj=>by rw[hj,N,af.dt,aH g.symm];exact⟨by rw[g];exact adW _,by rw[p,g];omega,by rw[g];exact F,f.2.2,f.2.1,f.1,f.2.1,f.1,rfl,λx t h=>G _ _ x t h,λ_ _ h=>h⟩) (λi j h1 h2 _=>h1.trans h2.symm) (λj hj hg=>by rw[af.dt,an (cr (by omega))]at hg⊢;have v:¬hl j:=λh=>hg ((r j).1 h);have e1:=C j (by rw[←g];exact hj);rw[e1];refine⟨hg,hg,rfl,rfl,rfl,rfl,λx t s=>?_,λ_ _ h=>h⟩;obtain⟨X,Y,V,_,_,q⟩:=m.ev j hg;rw[(r j).2 v]at s q hg⊢;exact OR.mono y (OR.gj A (D j v hg) q s));have K:¬hl H.next:=λh=>(M _ h).2.2 (L.dV _ (adW _)).1;obtain⟨Q,R⟩:=L.GQ M B.1 B.2 O (H2:=H.new o) (by show H.next.succ=Hs.next.succ;rw[g]) (λj h=>by rw[af.dt,an λe:j=H.next=>K (e▸h)]) (λj h=>by
   rw[af.dt,af.dt,g];split;·rfl
   exact((r j).2 h).symm);exact⟨a,B.1,Q,R,J,rfl⟩
theorem MK(m:bt P d ρ H w)(sA:ac→Prop):∃(hl:ac→Prop)(Hs:af),(∀j,hl j→(H.get j).nQ)∧(∀j,sA j→¬hl j)∧Hs.next=H.next∧(∀j,(hl j→Hs.get j=.none)∧(¬hl j→Hs.get j=H.get j))∧bt P (d.ka ρ hl λ_=>False) ρ Hs w∧∀j,¬hl j→H.get j≠.none→sA j∨∃c n e b aK fz,H.get j=.cells c n e b aK fz:=by
 classical
  let hl:ac→Prop:=λj=>(H.get j).nQ∧¬sA j;obtain⟨Hs,f,a⟩:=H.jv (λj h=>(m.dV j h).1) hl;refine⟨hl,Hs,λj h=>h.1,λj g h=>h.2 g,f,a,m.mP (λi h=>h.1) (λ_ h=>h.elim) f (λj=>?_) (λj h=>(a j).1 h),λj h1 h2=>?_⟩
  ·by_cases h:hl j;·exact .inr ((a j).1 h)
   exact .inl ((a j).2 h)
  by_cases g:sA j;·exact .inl g
  right;have l:¬(H.get j).nQ:=λh=>h1 ⟨h,g⟩;cases k:H.get j with|cells c n e b aK fz=>exact⟨c,n,e,b,aK,fz,rfl⟩|none=>exact absurd k h2|_=>exact absurd ⟨by rw[k];rfl,by rw[k];rfl,h2⟩ l
theorem UO{l:List Int}{n e:Nat}(g:n=l.length)(b c:aL)(x:Nat)(a:Obj)(h:OR P b (.cells (cM (l.map λz=>.int 3 z)) n e true [] 0) x a):OR P c (.cells (cM (l.map λz=>.int 3 z)) n e true [] 0) x a:=by
 cases a<;>simp only[OR]at h⊢;refine⟨h.1,h.2.1,λi hi=>?_,h.2.2.2⟩;obtain⟨v,h1,h2⟩:=h.2.2.1 i hi;refine⟨v,h1,?_⟩;have f:i<l.length:=by omega
 rw[pa _ _ (by grind)]at h2⊢;simp only[List.getD,ahc,getElem?_pos l i f,ahb,ahs]at h2⊢;cases v<;>simp only[VR]at h2⊢;omega
theorem DD:∀{es:List aR}{ks:List Int},jA es=some ks↔es.map (·.key)=ks.map λk=>.int 3 k
 |[],ks=>by simp[jA]
 |e::es,ks=>by
  simp only[jA];constructor
  ·intro h;split at h;·rename_i k l h1 h2;injection h with h;subst h;simp only[agN,h1,DD.1 h2]
   grind
  intro h;cases ks with|nil=>grind|cons k ks=>simp only[agN,ag4]at h;simp only[h.1,DD.2 h.2]
theorem UP{es a:List aR}{ks:List Int}(c:(a.map aR.kv).Perm (es.map aR.kv))(h:jA es=some ks):∃b,jA a=some b∧b.Perm ks:=by
 have g:(a.map (·.key)).Perm (ks.map λk=>.int 3 k):=by have:=c.map Prod.fst;rw[aii,aii]at this;rw[←DD.1 h];exact this
 let f:AV→Int:=λv=>match v with|.int _ k=>k|_=>0;have e:(ks.map λk=>AV.int 3 k).map f=ks:=by
  rw[aii];have:(f∘λk=>AV.int 3 k)=id:=by funext k;rfl
  rw[this,List.map_id]
 refine⟨(a.map (·.key)).map f,DD.2 ?_,by grind⟩;rw[aii];conv=>lhs;rw[←List.map_id (a.map (·.key))]
 refine ahZ λv i=>?_;have:=g.mem_iff.1 i;rw[ag3]at this;obtain⟨k,_,rfl⟩:=this;rfl
theorem UQ{ab:Nat→aE}(ht:j9 P ab){listF keysF sortedF sortF collF appF iterF e1 e2:Nat}(hl:ab listF=.code 6 [.tmp (sl 2)] (G0 keysF sortedF))(hk:ab keysF=.code 4 [.tmp (sl 2)] (DA iterF e1))(hd:ab sortedF=.code 9 [.tmp (sl 2)] (Dz collF sortF))(hs:ab sortF=.gZ sw)(hc:ab collF=.code 5 [.tmp (sl 2)] (Bi appF))(hf:ab appF=.code 13 [.tmp (sl 4)] (w8 e2))(hi:ab iterF=.code 14 [] DB):wJ P listF wS:=by
 have y:∀{d:cJ}{ρ:aL}{H A:af}{w:World}{b:ac→Prop}{Hs:af}{bv:AV}{ks:List Int}{argv:Array Value}{n:Nat}(gj:∀{z:cJ}{p:aL}{G:af}{w':World},bt P z p G w'→(∀j:ac,j.al<H.next.al→G.get j=A.get j)→∃K:af,K.next=G.next∧bt P z p K w'∧(∀j:ac,j.al<H.next.al→K.get j=Hs.get j)∧∀j:ac,H.next.al≤j.al→K.get j=G.get j),bt P d ρ H w→(∀j,b j→(H.get j).nQ)→Hs.next=H.next→(∀j,(b j→Hs.get j=.none)∧(¬b j→Hs.get j=H.get j))→bt P (d.ka ρ b λ_=>False) ρ A w→A.next=H.next→bt P (d.ka ρ b λ_=>False) ρ Hs w→(∀j,¬b j→H.get j≠.none→(∃c n e ar aK fz,H.get j=.cells c n e ar aK fz)∨∃es,eJ (H.get j)=some es)→be ρ [bv] argv.toList→bv.cells=[bv]→bv.dQ=true→ks.length≤1000→vt ab n iterF bv A ks→∀(fr:Frame)(cs:List Frame),sj fr→yX P d ρ w (callFunc listF argv) fr cs λL f=>(ks=[]∧L=.aP∧f=H)∨(ks≠ []∧L=.slice H.next 0 ks.length ks.length false∧f=H.new (.cells (cM ((fN ks).map λn=>.int 3 n)) ks.length 3 true [] 0)):=by
  intro d ρ H A w b Hs bv ks argv n gj u hy Q R av ax S T ha ay a1 q B fr cs hat;have Z:=UL (n:=n) hl hk hd hs hc hf ay a1 q B (K:=λv H4=>DC H4 A.next.al ks v∧∀j:ac,j.al<A.next.al→H4.get j=A.get j) (λv H4 h1 h2=>⟨h1,h2⟩);have l:=(AT ht (n+150)).1 (n+150) (adW _) Z (fv:=.func (.func listF) #[] #[]) (by simp[VR,be]) ha av fr cs hat;have ag:pb (.func (.func listF) #[] #[]) argv=callFunc listF argv:=by simp[pb,Deferred.ofValue,invoke]
  rw[ag]at l;obtain⟨v,H4,c,w',fr1,g,x,⟨k1,k2⟩,⟨p,hx,M,a2,o⟩,q1,q2⟩:=l;rw[ax]at k1 k2;obtain⟨K,n3,V,f1,f2⟩:=gj a2 k2;rcases k1 with⟨rfl,rfl⟩|⟨id,rfl,W,X,hg⟩;·obtain⟨C,N,k,x3⟩:=bt.UM u hy Q R S hx V o f1 T;have a6:=M.mN;subst a6;exact⟨.aP,H,_,w',fr1,g,x,.inl ⟨rfl,rfl,rfl⟩,⟨C,N,by simp[VR],k,x3⟩,q1,q2⟩
  have a8:ks.length=(fN ks).length:=(vn ks).length_eq.symm;obtain⟨C,N,k,x3,x4,x5⟩:=bt.UN u hy Q R S hx V o f1 T X (by rw[f2 id X];exact hg) ⟨rfl,rfl,by simp⟩ (UO a8);refine⟨_,_,c,w',fr1,g,x,.inr ⟨W,rfl,rfl⟩,⟨C,N,?_,k,x3⟩,q1,q2⟩;cases c with
  |slice a n' m'=>cases a with|none=>simp[VR]at M|some a=>simp only[VR]at M⊢;rw[x4,x5];exact M
  |_=>simp[VR]at M
 intro d ρ H H' w args v argv hg ha u fr cs hat;unfold wS at hg;split at hg
 ·injection hg with hg;injection hg with D E;subst D;subst E;obtain⟨b,Hs,y1,_,I,y3,O,y5⟩:=MK u λ_=>False;obtain⟨v,f,c,w',fr1,g,x,J,r⟩:=y (A:=Hs) (ks:=[]) (n:=100) (bv:=.cL) (λh1 h2=>⟨_,rfl,h1,h2,λ_ _=>rfl⟩) u y1 I y3 O I O (λj h1 h2=>.inl ((y5 j h1 h2).resolve_left id)) ha rfl rfl (by simp) (UF hi) fr cs hat;rcases J with⟨_,rfl,rfl⟩|⟨h,_⟩;·exact⟨_,_,c,w',fr1,g,x,⟨rfl,rfl⟩,r⟩
  grind
 ·rename_i m;have go:∀{ks:List Int},jC H m=some ks→ks.length≤1000→yX P d ρ w (callFunc listF argv) fr cs λL f=>(ks=[]∧L=.aP∧f=H)∨(ks≠ []∧L=.slice H.next 0 ks.length ks.length false∧f=H.new (.cells (cM ((fN ks).map λn=>.int 3 n)) ks.length 3 true [] 0)):=by
   intro ks F q;obtain⟨es,e1,e2,e3⟩:=wU F;obtain⟨b,Hs,y1,y0,I,y3,O,y5⟩:=MK u λj=>j=m;have gm:Hs.get m=H.get m:=(y3 m).2 (y0 m rfl);have Y:m.al<H.next.al:=by
    rcases ahz m.al H.next.al with h|h;·exact h
    rw[(u.dV m h).1]at e1;simp[eJ]at e1
   obtain⟨s,i,i1,p1,p2,p3,gj⟩:=Mh O (m:=m) (es:=es) (by rw[gm];exact e1);obtain⟨t,N,k⟩:=UP p1 e2;have B:vt ab (s.length+100) iterF (.map m) (Hs.set m (.map s i)) t:=UE hi (m:=m) (A:=Hs.set m (.map s i)) (by rw[af.aD,aH rfl]) (by show m.al<Hs.next.al;rw[I];exact Y) p2 p3 N (k.nodup_iff.2 e3) (by rw[k.length_eq];exact q);obtain⟨v,f,c,w',fr1,g,x,J,r⟩:=y (A:=Hs.set m (.map s i)) (ks:=t) (bv:=.map m) (H:=H) (Hs:=Hs) (λ{z p G w'}h1 h2=>⟨G.set m (Hs.get m),rfl,gj h1 (by rw[h2 m Y,af.aD,aH rfl]),λj hj=>by
    rw[af.aD];split;·rename_i e;rw[e]
    rename_i e;rw[h2 j hj,af.aD,an e],λj hj=>by rw[af.aD,an (cr (by omega))]⟩) u y1 I y3 i1 (by show Hs.next=_;exact I) O (λj h1 h2=>by
    rcases y5 j h1 h2 with h|h;·exact .inr ⟨es,by rw[h];exact e1⟩
    exact .inl h) ha rfl rfl (by rw[k.length_eq];exact q) B fr cs hat;refine⟨v,f,c,w',fr1,g,x,?_,r⟩;rw[Dy (zq t) (zq ks) ((vn t).trans (k.trans (vn ks).symm)),k.length_eq]at J;rcases J with⟨h,h'⟩|⟨h,h'⟩;·exact .inl ⟨by rw[h]at k;exact List.nil_perm.1 k,h'⟩
   exact .inr ⟨λe=>h (by rw[e]at k;exact List.perm_nil.1 k),h'⟩
  split at hg;·grind
  ·rename_i ks W F;split at hg;case isFalse=>grind
   rename_i a';injection hg with hg;injection hg with D E;subst D;subst E;obtain⟨v,f,c,w',fr1,g,x,J,r⟩:=go F (agT a');rcases J with⟨h,_⟩|⟨_,rfl,rfl⟩;·grind
   exact⟨_,_,c,w',fr1,g,x,⟨rfl,rfl⟩,r⟩
  grind
 grind
end
section
variable{P:Program}
theorem UR{f:FuncId}{fn:Func}(h1:P.funcs[f]?=some fn)(h2:(fn.name== "runtime.NumGoroutine")=false)(h3:fn.body.isNone=true)(I:Extern.findNext fn=none)(J:Extern.find fn=some Extern.MapsClone.clone):wJ P f wT:=by
 intro V W H H' w args v argv hg a p fr cs hat;unfold wT at hg;split at hg;case h_2=>grind
 rename_i t m;split at hg;case h_2=>grind
 rename_i es c K;injection hg with hg;injection hg with q s;subst q;subst s;obtain⟨b,x,ob,L,T,A,h⟩:=p.aF (i:=m) (by grind);rw[K]at h;cases ob<;>simp only[OR]at h;rename_i br k;obtain⟨rfl,rfl,gJ,M⟩:=h;have B:argv= #[.iface t (.map (some b))]:=by
  obtain⟨l⟩:=argv;cases l with
  |nil=>simp[be]at a
  |cons N l=>
   cases l with
   |cons _ _=>simp[be]at a
   |nil=>
    simp only[be,and_true]at a;cases N with
    |iface u z=>
     simp only[VR]at a;obtain⟨rfl,a⟩:=a;cases z with
     |map E=>cases E with|none=>simp[VR]at a|some E=>simp only[VR]at a;rw[L]at a;injection a with a;injection a with a _;rw[a]
     |_=>simp[VR]at a
    |_=>simp[VR]at a
 subst B;have C:(getObj b).run P w=.ok (.map br k) w:=by simp[getObj,Sem.run,A]
 have n:(callFunc f #[.iface t (.map (some b))]).run P w=.ok (.value (.iface t (.map (some w.heap.size)))) {w with heap:=w.heap.push (.map br k)}:=by
  have F:Extern.MapsClone.clone #[.iface t (.map (some b))]=((getObj b).bind λo=>match o with|.map d i=>(newObj (.map d i)).bind λr=>pure (.iface t (.map (some r)))|_=>stuck "maps.clone: a map expected"):=rfl;have D:(Extern.MapsClone.clone #[.iface t (.map (some b))]).run P w=.ok (.iface t (.map (some w.heap.size))) {w with heap:=w.heap.push (.map br k)}:=by rw[F];have:∀{G O:Type}(x:Sem G)(g:G→Sem O),x.bind g=x>>=g:=λ_ _=>rfl;simp only[this,Sem.run_bind,C,Result.andThen_ok,run_newObj,Sem.run_pure]
  simp only[callFunc,Sem.run_bind,run_program,Result.andThen_ok,h1,h2,h3,I,J,ac6,bK,bm,run_mark,Sem.run_pure,D]
 obtain⟨Q,R,S⟩:=p.alloc (o:=.map es k) (ob:=.map br k) (0,0) (by trivial) (by simp) rfl (by simp only[OR];refine⟨trivial,trivial,gJ,ch.mono (aL.sd w.heap.size 0 (0,0) (p.dV H.next (adW _)).2 λj c y e F=>by have:=p.fu j c y e;omega) M⟩);exact⟨_,_,_,_,_,_,_,⟨rfl,rfl⟩,⟨_,Q,by simp[VR,aL.fy],R,S⟩,C9 n,Steps.refl _ _⟩
end
section
variable{P:Program}
def kA(P:Program)(f:Nat):aE→Prop
 |.none=>True
 |.code a b body=>∃fn,P.funcs[f]?=some fn∧tH P fn=some (.code a b body)∧(fn.name== "runtime.NumGoroutine")=false
 |.gZ g=>wJ P f g
 |.eB g=>wK P f g
theorem DE{ab:Nat→aE}(h:∀f,kA P f (ab f)):j9 P ab:=by have key:∀f v,ab f=v→kA P f v:=λf v e=>e▸h f;exact⟨λf a b body e=>key f _ e,λf g e=>key f (.gZ g) e,λf g e=>key f (.eB g) e⟩
def w9(Q:Nat→aE→Prop):am aE→(Nat→Nat)→Prop
 |.aJ,_=>True
 |.node l v r,g=>Q (g 0) v∧w9 Q l (λm=>g (2*m+1))∧w9 Q r (λm=>g (2*m+2))
theorem w9.get{Q:Nat→aE→Prop}(hd:∀n,Q n .none):∀{t:am aE}{g:Nat→Nat},w9 Q t g→∀n,Q (g n) (t.bq .none n)
 |.aJ,g,_,n=>by simp[hd,am.bq]
 |.node l v r,g,h,0=>by exact h.1
 |.node l v r,g,h,m+1=>by
  simp only[am.bq];split;·have:=w9.get hd h.2.1 (m/2);grind
  have:=w9.get hd h.2.2 (m/2);grind
theorem US{t:am aE}(h:w9 (kA P) t λn=>n):j9 P (t.bq .none):=DE λf=>h.get (λ_=>trivial) f
theorem UT{ee a:Nat}(h1:kA P ee (.code 32 [] (Bg a)))(h2:kA P a (.code 13 [.tmp (sl 4)] zo)):j9 P (ph ee a):=DE λf=>by
 unfold ph;split;·simp_all
 split;·simp_all
 trivial
def DF(l:List (Nat×aE))(f:Nat):aE:=
 match l with
 |[]=>.none
 |(n,v)::l=>if agQ n f then v else DF l f
def ML(Q:Nat→aE→Prop):List (Nat×aE)→Prop
 |[]=>True
 |(n,v)::l=>Q n v∧ML Q l
theorem MM:∀{l:List (Nat×aE)},ML (kA P) l→∀f,kA P f (DF l f)
 |[],_,_=>trivial
 |(n,v)::l,h,f=>by
  simp only[DF];split;·rename_i e;rw[←agO e];exact h.1
  exact MM h.2 f
end
section
variable{P:Program}
theorem UU{ab:Nat→aE}(G:j9 P ab){f nt:Nat}{rs:List iH}{body:bp}(hg:ab f=.code nt rs body){n:Nat}{args:List AV}{H:af}{K:AV→af→Prop}(he:Xf ab n (.func f [] []) args H K){I:cJ}{ρ:aL}{w:World}{argv:Array Value}(N:be ρ args argv.toList)(O:bt P I ρ H w):Calls P f argv w λe w'=>∃v H' c,e=.returned c∧K v H'∧cZ P I ρ w v H' c w':=by
 intro cs;cases n with
 |zero=>simp only[Xf,gS]at he
 |succ n=>
  have m:yY P ab n:=(AT G n).2.1;simp only[Xf,gS,hg,ahH,ahx]at he;obtain⟨fn,p,q,C⟩:=G.code f nt rs body hg;split at he;case isFalse=>exact he.elim
  rename_i k;have k:=agT k;simp only[tH,adO,acR,af1,acm,aE.code.injEq]at q;obtain⟨cc,y,F,o,z,A,e1,e2,Q⟩:=q;subst e1;subst e2;subst Q;let b:Frame:={(default:Frame)with fn:=f,kind:=.normal};let a:Act:={tmps:=argv++ain (fn.ntmps - argv.size) undef,defers:=[]};have h:Frame.enter P f argv .normal=b.atR a [.code cc]:=by simp only[Frame.enter,Frame.atR,p,y,b,a,ahb,ahs,ah5];rfl
  have R:iv ρ fn.ntmps ⟨kx args .xH .aJ,[],none⟩ b.roundOf a:=⟨Gg N k,trivial,trivial⟩;obtain⟨j,r,H',B,x,w',t,h1,h2,h3,S,T,J,V⟩:=m o he R O [] cs;have s:∃i:Frame,i={b.atR x i.todo with mode:=.returning}∧step P (lone (b.atR x t) cs w')=.next (lone i cs w'):=by cases j with|none=>rw[show t=[]from J];exact⟨_,rfl,stepR_end rfl⟩|exit id=>exact h1.elim|ret=>obtain⟨k0,rfl⟩:=J;exact⟨_,rfl,stepR_ret rfl⟩
  obtain⟨i,d,dW⟩:=s;have g:(match jw H' r.bF with
   |some H=>match gG r.aa H z with|some l=>K (iu l) H|none=>False
   |none=>False):=by cases j with|none=>exact h1|exit id=>exact h1.elim|ret=>exact h1
  split at g
  ·rename_i W X;split at g
   ·rename_i l hl;have u:i={i with defers:=x.defers}:=by rw[d];rfl
    obtain⟨Y,L,M,Z⟩:=C' S h3.D X i cs (by rw[d]);rw[←u]at L;obtain⟨c,hc,hv⟩:=Gi M h3.E A hl;refine⟨.returned c,Y,{i with defers:=[]},⟨iu l,W,c,rfl,g,B,h2,hv,M,T.trans Z⟩,?_,?_,?_⟩;·rw[h];exact V.trans (.head dW L)
    ·rw[d];rfl
    refine⟨by rw[d],rfl,by rw[d];rfl,fn,by rw[d];exact p,?_⟩;rw[d];exact hc
   exact g.elim
  exact g.elim
end
section
variable{P:Program}
def UV(w:World):cJ:=⟨λb=>w.heap.size≤b,λb=>w.heap.size≤b,λ_=>False,λ_=>False⟩
def MN(n:Nat):aL:=⟨λj=>if j.al≤n then some (j.al - 1,0)else none,λ_=>(0,0)⟩
theorem UW{n:Nat}(d:P.globals.size=n){w:World}(e:n≤w.heap.size):bt P (UV w) (MN n) ⟨.aJ,ac.dj n⟩ w:=by
 have hg:∀j,af.get ⟨.aJ,ac.dj n⟩ j=.none:=qV _;have hi:∀j b x,MN n j=some (b,x)→j.al≤n∧b=j.al - 1:=by
  intro j b x h;have:(if j.al≤n then some (j.al - 1,0)else none)=some (b,x):=h;split at this;·rename_i a;injection this with this;injection this with h1 _;exact⟨a,h1.symm⟩
  cases this
 refine⟨λi h=>absurd (hg i) h,λi j b x y _ h=>absurd (hg i) h,λi j h=>?_,λi b x h=>absurd (hg i) h,λi h=>⟨hg i,?_⟩,λk c=>⟨c,c⟩,λg h=>?_,λi b x f h=>absurd (hg i) h,λi b x h=>?_,λi b x h=>absurd (hg i) h,λi h=>h.elim,λi h=>h.elim⟩;·rw[hg]at h;cases h
 ·have:(ac.dj n).al≤i.al:=h;rw[ac.lS]at this;show(if i.al≤n then _ else _)=_;rw[an (by omega)]
 ·show(if(ac.dj g).al≤n then _ else _)=_;rw[ac.lS,aH (by omega)];simp
 obtain⟨h1,h2⟩:=hi i b x h;have:=ac.tJ i;omega
end
end
section
variable{ab:Nat→aE}
structure DG(ab:Nat→aE)(n:Nat):Prop where
 exec:∀{c fr H}{K:Nat→cG→Fr→af→Prop},(∀m m' j fr H,m≤m'→K m j fr H→K m' j fr H)→exec False dF ab n c fr H (λj fr H=>∃m,K m j fr H)→∃m,exec False dF ab n c fr H (K m)
 az:∀{l fr H}{K:Nat→Fr→af→Prop},(∀m m' fr H,m≤m'→K m fr H→K m' fr H)→Go.ak.az False dF ab n l fr H (λfr H=>∃m,K m fr H)→∃m,Go.ak.az False dF ab n l fr H (K m)
 call:∀{f args H}{K:Nat→AV→af→Prop},(∀m m' v H,m≤m'→K m v H→K m' v H)→gS False dF ab n f args H (λv H=>∃m,K m v H)→∃m,gS False dF ab n f args H (K m)
theorem UX{n:Nat}(h:DG ab n){c:bp}{fr:Fr}{H:af}{K:Nat→cG→Fr→af→Prop}(e:∀m o j fr H,m≤o→K m j fr H→K o j fr H)(he:exec False dF ab (n+1) c fr H (λj fr H=>∃m,K m j fr H)):∃m,exec False dF ab (n+1) c fr H (K m):=by
 have mo:=mono ab n;cases c with
 |skip=>simp only[exec]at he⊢;exact he
 |region l=>simp only[exec]at he⊢;exact h.az (λm o fr H=>e m o .none fr H) he
 |seq a b=>
  simp only[exec]at he⊢;refine h.exec (K:=λm j fr H=>match j with|.none=>exec False dF ab n b fr H (K m)|j=>K m j fr H) (λm o j fr H g hj=>?_) (mo.exec (adW _) (λj fr H hj=>?_) he);·cases j with|none=>exact mo.exec (adW _) (λj fr H=>e m o j fr H g) hj|exit i=>exact e _ _ _ _ _ g hj|ret=>exact e _ _ _ _ _ g hj
  cases j with|none=>exact h.exec e hj|exit i=>exact hj|ret=>exact hj
 |cond c a b=>
  simp only[exec]at he⊢;split at he;·exact h.exec e he
  ·exact h.exec e he
  exact he.elim
 |block id b=>
  simp only[exec]at he⊢;refine h.exec (K:=λm j fr H=>match j with|.exit i=>if agQ i id then K m .none fr H else K m (.exit i) fr H|j=>K m j fr H) (λm o j fr H g hj=>?_) (mo.exec (adW _) (λj fr H hj=>?_) he);·cases j with|none=>exact e _ _ _ _ _ g hj|exit i=>simp only at hj⊢;split at hj<;>rename_i hi<;>simp only[hi,bm,bK,ac6]<;>exact e _ _ _ _ _ g hj|ret=>exact e _ _ _ _ _ g hj
  cases j with|none=>exact hj|exit i=>simp only at hj⊢;split at hj<;>rename_i hi<;>simp only[hi,bm,bK,ac6]<;>exact hj|ret=>exact hj
 |loop b=>
  simp only[exec]at he⊢;refine h.exec (K:=λm j fr H=>match j with|.none=>exec False dF ab n (.loop b) fr H (K m)|j=>K m j fr H) (λm o j fr H g hj=>?_) (mo.exec (adW _) (λj fr H hj=>?_) he);·cases j with|none=>exact mo.exec (adW _) (λj fr H=>e m o j fr H g) hj|exit i=>exact e _ _ _ _ _ g hj|ret=>exact e _ _ _ _ _ g hj
  cases j with|none=>exact h.exec e hj|exit i=>exact hj|ret=>exact hj
 |rangeFunc f p as q=>
  simp only[exec]at he⊢;have go:∀(K:cG→Fr→af→Prop)(u:cG→Fr→af→Prop)(_:∀j fr H,K j fr H→u j fr H)(fr:Fr)(l:ac)(H':af),(match H'.get l with
   |.loop st cq fn aa p as q d=>match st with|.busy=>False|_=>K cq fr (H'.set l (.loop .exhausted cq fn aa p as q d))
   |_=>False)→(match H'.get l with
   |.loop st cq fn aa p as q d=>match st with|.busy=>False|_=>u cq fr (H'.set l (.loop .exhausted cq fn aa p as q d))
   |_=>False):=by
   intro K u w fr l H' k;cases r:H'.get l with
   |loop st cq fn aa p as q d=>rw[r]at k;cases st<;>first|exact k.elim|exact w _ _ _ k
   |_=>rw[r]at k;exact k.elim
  have s:∀(fr:Fr)(l:ac)(H':af),(match H'.get l with
   |.loop st cq fn aa p as q d=>match st with|.busy=>False|_=>∃m,K m cq fr (H'.set l (.loop .exhausted cq fn aa p as q d))
   |_=>False)→∃m,(match H'.get l with
   |.loop st cq fn aa p as q d=>match st with|.busy=>False|_=>K m cq fr (H'.set l (.loop .exhausted cq fn aa p as q d))
   |_=>False):=by
   intro fr l H' k;cases r:H'.get l with
   |loop st cq fn aa p as q d=>rw[r]at k;cases st<;>first|exact k.elim|exact k
   |_=>rw[r]at k;exact k.elim
  cases x:fr.bD with
  |none=>rw[x]at he;simp only at he⊢;exact h.call (λm o v H' g=>go _ _ (λj fr H=>e m o j fr H g) _ _ _) (mo.call (adW _) (λv H' k=>s _ _ _ k) he)
  |some l=>
   rw[x]at he;simp only at he⊢;split at he;·exact h.call (λm o v H' g=>go _ _ (λj fr H=>e m o j fr H g) _ _ _) (mo.call (adW _) (λv H' k=>s _ _ _ k) he)
   exact he.elim
 |exit id=>simp only[exec]at he⊢;exact he
 |ret=>simp only[exec]at he⊢;exact he
 |eB t=>
  simp only[exec]at he⊢;split at he
  ·split at he;·exact he
   exact he.elim
  exact he.elim
theorem MO{Q:Nat→Nat→Prop}(c:∀i m d,m≤d→Q i m→Q i d):∀n,(∀i,i<n→∃m,Q i m)→∃m,∀i,i<n→Q i m
 |0,_=>⟨0,λi h=>by omega⟩
 |n+1,h=>by
  obtain⟨a,f⟩:=MO c n λi hi=>h i (by omega);obtain⟨b,hb⟩:=h n (by simp);refine⟨max a b,λi hi=>?_⟩;by_cases e:i=n;·grind
  exact c _ _ _ (Nat.le_max_left ..) (f i (by omega))
theorem UY{n:Nat}(h:DG ab n){l:List aS}{fr:Fr}{H:af}{K:Nat→Fr→af→Prop}(j:∀m a fr H,m≤a→K m fr H→K a fr H)(he:Go.ak.az False dF ab (n+1) l fr H (λfr H=>∃m,K m fr H)):∃m,Go.ak.az False dF ab (n+1) l fr H (K m):=by
 have mo:=mono ab n;cases l with
 |nil=>trivial
 |cons o l=>
  simp only[Go.ak.az]at he⊢;have f:∀(m a:Nat)(s:List (ac×b9))(v:AV)(H:af),m≤a→(if fh (aM fr.aa o.dst v) (d8 H s) o.re=true then Go.ak.az False dF ab n l {fr with aa:=aM fr.aa o.dst v} (d8 H s) (K m)else False)→(if fh (aM fr.aa o.dst v) (d8 H s) o.re=true then Go.ak.az False dF ab n l {fr with aa:=aM fr.aa o.dst v} (d8 H s) (K a)else False):=by
   intro m a s v H e b;split at b;·rename_i k;rw[aH k];exact mo.az (adW _) (λfr H=>j m a fr H e) b
   exact b.elim
  have g:∀(s:List (ac×b9))(v:AV)(H:af),(if fh (aM fr.aa o.dst v) (d8 H s) o.re=true then Go.ak.az False dF ab n l {fr with aa:=aM fr.aa o.dst v} (d8 H s) (λfr H=>∃m,K m fr H)else False)→∃m,(if fh (aM fr.aa o.dst v) (d8 H s) o.re=true then Go.ak.az False dF ab n l {fr with aa:=aM fr.aa o.dst v} (d8 H s) (K m)else False):=by
   intro s v H b;split at b;·rename_i k;obtain⟨m,e⟩:=h.az j b;exact⟨m,by rw[aH k];exact e⟩
   exact b.elim
  split at he
  ·rename_i hg;simp only[aH hg];split at he;·exact h.call (λm a v H' e=>f m a _ v H' e) (mo.call (adW _) (λv H' b=>g _ v H' b) he)
   ·split at he
    ·rename_i cs d _;refine MO (Q:=λi m=>match cs[i]? with|some c=>if fh (aM fr.aa o.dst (d c).1) (d8 (d c).2 (eM fr.aa H o.jv).2) o.re=true then Go.ak.az False dF ab n l {fr with aa:=aM fr.aa o.dst (d c).1} (d8 (d c).2 (eM fr.aa H o.jv).2) (K m)else False|none=>False) (λi m a e b=>?_) cs.length λi hi=>?_;·grind
     have:=he i hi;simp_all
    grind
   split at he;all_goals grind
  rename_i hg;simp only[an hg];split at he;·rename_i hd;simp only[aH hd];exact h.az j he
  grind
def Bj(l:ac)(K:AV→af→Prop)(j:cG)(H:af):Prop:=
 match H.get l with
 |.loop _ _ fn aa a as b d=>match j with
  |.none=>K (.bool true) (H.set l (.loop .ready .none fn aa a as b d))
  |j=>K (.bool false) (H.set l (.loop .done j fn aa a as b d))
 |_=>False
theorem UZ{n:Nat}(h:DG ab n){f:AV}{args:List AV}{H:af}{K:Nat→AV→af→Prop}(p:∀m k v H,m≤k→K m v H→K k v H)(he:gS False dF ab (n+1) f args H (λv H=>∃m,K m v H)):∃m,gS False dF ab (n+1) f args H (K m):=by
 have mo:=mono ab n;cases f<;>(try(simp only[gS]at he;done))
 ·simp only[gS]at he⊢;split at he;·grind
  ·grind
  ·grind
  split at he
  ·rename_i u results body _ q;simp only[aH q];have aq:∀(K:AV→af→Prop)(K':AV→af→Prop)(_:∀v H,K v H→K' v H)(fr:Fr)(H:af),(match jw H fr.bF with
    |some H=>match gG fr.aa H results with|some l=>K (iu l) H|none=>False
    |none=>False)→(match jw H fr.bF with
    |some H=>match gG fr.aa H results with|some l=>K' (iu l) H|none=>False
    |none=>False):=by
    intro K K' r fr H a;split at a
    ·split at a;·exact r _ _ a
     exact a.elim
    exact a.elim
   have g:∀(fr:Fr)(H:af),(match jw H fr.bF with
    |some H=>match gG fr.aa H results with|some l=>∃m,K m (iu l) H|none=>False
    |none=>False)→∃m,(match jw H fr.bF with
    |some H=>match gG fr.aa H results with|some l=>K m (iu l) H|none=>False
    |none=>False):=by
    intro fr H a;split at a
    ·split at a;·exact a
     exact a.elim
    exact a.elim
   refine h.exec (K:=λm j fr H=>match j with
    |.exit _=>False
    |_=>match jw H fr.bF with
     |some H=>match gG fr.aa H results with|some l=>K m (iu l) H|none=>False
     |none=>False) (λm k j fr H c hj=>?_) (mo.exec (adW _) (λj fr H hj=>?_) he);·cases j with|exit i=>omega|none=>exact aq _ _ (λv H=>p m k v H c) _ _ hj|ret=>exact aq _ _ (λv H=>p m k v H c) _ _ hj
   cases j with|exit i=>grind|none=>exact g _ _ hj|ret=>exact g _ _ hj
  grind
 rename_i l;simp only[gS]at he⊢;split at he
 ·split at he
  ·split at he
   ·rename_i hl;simp only[aH hl];refine h.exec (K:=λm j fr H=>match j,H.get l with
     |.none,.loop .ready cq fn aa e as bd' d=>exec False dF ab n _ fr (H.set l (.loop .busy cq fn aa e as bd' d)) λj _ H=>match H.get l with
      |.loop _ _ fn aa e as o d=>match j with|.none=>K m (.bool true) (H.set l (.loop .ready .none fn aa e as o d))|j=>K m (.bool false) (H.set l (.loop .done j fn aa e as o d))
      |_=>False
     |_,_=>False) (λm k j fr H c hj=>?_) (mo.exec (adW _) (λj fr H hj=>?_) he)
    ·split at hj;·refine mo.exec (adW _) (λj _ H a=>?_) hj;cases b:H.get l with|loop st cq fn aa e as o d=>rw[b]at a;cases j<;>exact p _ _ _ _ c a|_=>rw[b]at a;exact a.elim
     exact hj.elim
    split at hj;·have s:=mo.exec (adW _) (K':=λj _ H=>∃m,Bj l (K m) j H) (λj _ H a=>(by unfold Bj;cases b:H.get l with|loop st cq fn aa e as o d=>rw[b]at a;cases j<;>exact a|_=>rw[b]at a;exact a.elim)) hj;obtain⟨m,c⟩:=h.exec (K:=λm j _ H=>Bj l (K m) j H) (λm k j _ H c a=>by unfold Bj at a⊢;cases b:H.get l with|loop st cq fn aa e as o d=>rw[b]at a;cases j<;>exact p _ _ _ _ c a|_=>rw[b]at a;exact a.elim) s;rename_i t;refine⟨m,?_⟩;simp only[t];refine mo.exec (adW _) (λj _ H a=>?_) c;unfold Bj at a;cases b:H.get l with|loop st cq fn aa e as o d=>rw[b]at a;cases j<;>exact a|_=>rw[b]at a;exact a.elim
    exact hj.elim
   exact he.elim
  exact he.elim
 exact he.elim
theorem zr(ab:Nat→aE):∀n,DG ab n|0=>⟨λ_ he=>by trivial,λ_ he=>by trivial,λ_ he=>by trivial⟩|n+1=>by have h:=zr ab n;exact⟨UX h,UY h,UZ h⟩
end
end Go.ak
end
