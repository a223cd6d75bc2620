/- A part of the proof. No conditions. -/
import Derived.Test.YtjhkgigolpfcfaaGreatDoorA10
set_option linter.all false
set_option maxHeartbeats 16000000
open Option renaming map_some→ahb
open List renaming mem_singleton→ac3,mem_cons_self→adc,mem_cons→adC,mem_cons_of_mem→adD,getElem_mem→af0,replicate→af3,mem_append→agI,append_assoc→agJ,map_cons→agN,length_append→agP,drop_eq_getElem_cons→agR,getElem_of_mem→agS,mem_append_left→agU,range→agV,take_append_getElem→agX,getD_eq_getElem?_getD→agY,length_map→agZ,not_mem_nil→ag0,perm_middle→ag1,take_of_length_le→ag2,mem_map→ag3,mem_map_of_mem→ag5,mem_append_right→ag7,getElem?_map→ahc,getElem?_append_left→ahd,nodup_cons→ahg,length_cons→ahh,length_singleton→ahj,map_append→ahk,length_take→ahl,flatMap_append→ahn,eq_nil_of_length_eq_zero→ahp,getElem?_eq_getElem→ahr,getElem_map→aht,flatMap_singleton→ahu,append_nil→ahx,nodup_append→ahy,cons_append→ahC,perm_append_comm→ahD,nil_append→ahH,getElem?_cons_succ→ahK,getElem?_replicate→ahL,length_replicate→ahM,length_set→ahN,range_succ→ahO,take_append_drop→ahR,ext_getElem→ahU,mem_range→ahV,map_nil→ahX,map_congr_left→ahZ,take_zero→ah0,take_length→ah2,pairwise_cons→ah4,mem_flatMap→ah6,take_succ_cons→ah7,flatMap_cons→ah8,map_replicate→aie,getElem_range→aif,map_map→aii
open Bool renaming false_eq_true→ac6,and_eq_true→agM,not_true→ag9,not_eq_true'→ahA,or_eq_true→ahT,and_self→aiq
open Nat renaming le_refl→adW,le_of_ble_eq_true→agT,zero_add→agW,lt_of_lt_of_le→ag6,ble_eq_true_of_le→ahi,lt_or_ge→ahz,blt_eq→ahF,ble→ahG,beq_refl→ahQ,le_trans→ahY,add_assoc→ah3,mul_one→ah9,add_zero→ail
open Int renaming toNat_natCast→agK,ofNat_eq_natCast→agL,ofNat→ahI
open Classical renaming byContradiction→ahe
open List.Perm renaming cons→ahq,swap→ahw
open List.Sublist renaming refl→ahB
open Eq renaming mpr→aiu
open List.Pairwise renaming nil→aiv
noncomputable section
namespace Go.ak.R
section
variable{ab:Nat→aE}
section
def ln(h:ac)(n:Nat)(vs:List AV)(ids:Nat→ac)(ap:List Nat)(S:Nat→Int→Prop):List Th:=tS MY 1 vs n true (.slice h 0 n n true)::ap.map λb=>tM false (ids b) (S b)
structure z6(n:Nat)(vs:List AV)(ids:Nat→ac)(ap:List Nat):Prop where
 len:vs.length=n
 nd:ap.Nodup
 bC:∀b∈ap,b<n∧vs.getD b .bX=.map (ids b)
def eV(S:Nat→Int→Prop)(b:Nat)(P:Int→Prop):Nat→Int→Prop:=λx=>if x=b then P else S x
section
variable{n:Nat}{vs:List AV}{ids:Nat→ac}{ap:List Nat}{S:Nat→Int→Prop}{P:Int→Prop}{h:ac}{b:Nat}{xs us:List Th}
theorem ad6{l:List Nat}(a:l.Nodup){i b:Nat}(hi:i<l.length)(hb:b∈l):l.idxOf b=i↔l[i]=b:=by grind
theorem ad7(a:ap.Nodup)(hb:b∈ap):(ln h n vs ids ap S).set (ap.idxOf b+1) (tM false (ids b) P)=ln h n vs ids ap (eV S b P):=by simp only[ln,List.set_cons_succ];congr 1;apply ahU (by simp);intro i h1 h2;rw[agZ]at h2;rw[List.getElem_set,aht,aht];by_cases e:ap.idxOf b=i;all_goals simp_all[aH,ad6,eV,an]
theorem EG(hb:b∈ap):(ln h n vs ids ap S)[ap.idxOf b+1]?=some (tM false (ids b) (S b)):=by simp[hb,List.idxOf_lt_length_of_mem,ln,ahK,ahc,ahr,List.getElem_idxOf,ahb]
theorem rS{l m:List Th}{i:Nat}{t:Th}(a:l[i]?=some t):(xs++(l++m))[xs.length+i]?=some t:=by grind
theorem Pg{l m:List Th}{i:Nat}{t:Th}(a:i<l.length):(xs++(l++m)).set (xs.length+i) t=xs++(l.set i t++m):=by grind
theorem ad8(hb:b∈ap):ap.idxOf b+1<(ln h n vs ids ap S).length:=by simp[hb,List.idxOf_lt_length_of_mem,ln,ahh,agZ]
theorem Ph{H:af}{q:ac}{n j:Nat}{vs:List AV}{v:AV}(c:Sl H 1 vs n (.slice q 0 n n true))(hj:j<n)(a:vs.getD j .bX=v):mR H (.slice q 0 n n true) (.ofNat j)=some v:=by have hl:=c.length;obtain⟨i,o,cap,ex,e,_,_,b,_⟩:=c.at (by omega);simp_all[mR,aiu,ahF,bm,bE]
end
theorem Pj{pl:List (Int×Int)}{bC v:Int}(b:(pl.map Prod.fst).Nodup):fB.rf pl bC v=true↔∀i,(v,i)∈pl→bC≤i:=by
 induction pl with
 |nil=>simp[fB.rf]
 |cons a pl e=>
  obtain⟨k,g⟩:=a;simp only[agN,ahg]at b;simp only[fB.rf];by_cases c:v=k
  ·subst c;rw[aH (by simp[fA])];have f:(!ly g bC)=true↔bC≤g:=by rw[mO];simp
   grind
  simp[c,e,b,an,fA,adC,absurd,adD]
def gY(s p d u pm h:ac)(n b:Nat)(pl:List (Int×Int))(w:Bool)(vs:List AV)(ids:Nat→ac)(ap:List Nat)(S:Nat→Int→Prop):List Th:=[tB 4 d [.bool w],tB 3 s [aN b],tB vH p [.slice h 0 n n true],tB DK u [.map pm],tI pm pl]++ln h n vs ids ap S
abbrev ee(s p d u:ac):AV:=.func HG [] [.aw u 0,.aw p 0,.aw s 0,.aw d 0]
section
variable{A H:af}{n b:Nat}{vs:List AV}{ids:Nat→ac}{ap:List Nat}{S:Nat→Int→Prop}{s p d u pm h:ac}{pl:List (Int×Int)}{w:Bool}{us:List Th}
theorem tB.I5{H:af}{q:ac}{e:Nat}{vs:List AV}{f:List ac}(a:(tB e q vs).P H f):∃c,H.get q=.cells c vs.length e true [] 0∧(∀j(a:j<vs.length),c.bq .aiw j=vs[j])∧q.al<H.next.al:=a.2.2
theorem ai.nR(o:z6 n vs ids ap)(hb:b∈ap)(U:ai A H (gY s p d u pm h n b pl w vs ids ap S++us)){H2:af}{ks:List Int}{c:am AV}{nw2:Bool}{P:Int→Prop}(q:H.next.al≤H2.next.al)(hg:∀j,j≠ids b→j≠d→H2.get j=H.get j)(h1:gK (H2.get (ids b)) ks)(r:∀x,x∈ks↔P x)(h2:H2.get d=.cells c 1 4 true [] 0)(h3:c.bq .aiw 0=.bool nw2):ai A H2 (gY s p d u pm h n b pl nw2 vs ids ap (eV S b P)++us):=by
 have hat:(gY s p d u pm h n b pl w vs ids ap S++us)[5+(ap.idxOf b+1)]?=some (tM false (ids b) (S b)):=by simp only[gY,agJ];exact rS (xs:=[_,_,_,_,_]) (EG hb)
 obtain⟨_,_,g⟩:=U.n9 _ hat;have i:d.al<H.next.al:=by obtain⟨_,a⟩:=U.get 0 rfl;obtain⟨_,_,_,_,_,v⟩:=a;exact v
 let f:af:=H.set (ids b) (H2.get (ids b));have ga:∀j,f.get j=if j=ids b then H2.get (ids b)else H.get j:=λj=>af.aD .. ;have e:ai A f ((gY s p d u pm h n b pl w vs ids ap S++us).set (5+(ap.idxOf b+1)) (tM false (ids b) P)):=by refine U.uI (q:=ids b) _ hat rfl (λj hj=>by rw[ga,an hj]) (λt a=>a.1) ⟨ac3.2 rfl,λj hj=>ac3.1 hj,⟨ks,?_,r⟩,(λv=>by cases v),g⟩;rw[ga,aH rfl];exact h1
 have e1:(gY s p d u pm h n b pl w vs ids ap S++us).set (5+(ap.idxOf b+1)) (tM false (ids b) P)=gY s p d u pm h n b pl w vs ids ap (eV S b P)++us:=by simp only[gY,agJ];refine(Pg (xs:=[_,_,_,_,_]) (ad8 hb)).trans ?_;rw[ad7 o.nd hb]
 rw[e1]at e;let l:af:=f.set d (H2.get d);have m:∀j,l.get j=if j=d then H2.get d else f.get j:=λj=>af.aD .. ;have k:ai A l (gY s p d u pm h n b pl nw2 vs ids ap (eV S b P)++us):=by
  refine e.uI (q:=d) 0 rfl (t':=tB 4 d [.bool nw2]) rfl (λj hj=>by rw[m,an hj]) (λt a=>a.1) ⟨ac3.2 rfl,λj hj=>ac3.1 hj,c,?_,λj hj=>?_,i⟩;·rw[m,aH rfl];exact h2
  simp only[ahj]at hj;obtain rfl:j=0:=by omega
  exact h3
 refine k.cV ⟨q,λj _=>?_⟩;grind
theorem ad9(T:Tb ab)(D:z6 n vs ids ap)(hb:b∈ap)(U:ai A H (gY s p d u pm h n b pl w vs ids ap S++us)){v bC:Int}{K:AV→af→Prop}(E:∀r H' P g,(∀x,P x↔S b x∨x=v∧∀Y,(v,Y)∈pl→bC≤Y)→(g=true↔w=true∨∃x,P x∧¬S b x)→ai A H' (gY s p d u pm h n b pl g vs ids ap (eV S b P)++us)→K r H'):YF ab (ee s p d u) [aI v,aI bC] H K:=by
 have hat:(gY s p d u pm h n b pl w vs ids ap S++us)[5+(ap.idxOf b+1)]?=some (tM false (ids b) (S b)):=by simp only[gY,agJ];exact rS (xs:=[_,_,_,_,_]) (EG hb)
 obtain⟨⟨ks,l,f⟩,_,V⟩:=U.n9 _ hat;obtain⟨⟨_,_,_,_⟩,m,_⟩:=U.ED 4 rfl;obtain⟨o,t⟩:=U.tc 4 rfl;obtain⟨y,z⟩:=D.bC b hb;have j:∀(i:Nat){e:Nat}{q:ac}{v:AV},(gY s p d u pm h n b pl w vs ids ap S++us)[i]?=some (tB e q [v])→pf H (.aw q 0)=some v:=λi _ _ _ hi=>by obtain⟨_,F⟩:=U.get i hi;exact tB.cell F rfl
 obtain⟨W,B⟩:=U.get 0 rfl;obtain⟨c,G,I,_⟩:=tB.I5 B;refine⟨80,Mv (pm:=pm) (s2:=.slice h 0 n n true) (kb:=3) (b:=.ofNat b) (N:=ids b) (ks:=ks) (q:=w) (fz:=0) T.aaZ T.aa0 (j 3 rfl) (j 2 rfl) (j 1 rfl) o t (Ph (U.sl 5) y z) G (Nat.zero_le _) (by simp) (I 0 (by simp)) l λr J C c2 L M N k O _ Q _=>?_⟩;have a:=Pj (bC:=bC) (v:=v) m;refine E r J (λx=>x∈C) _ (λx=>?_) ?_ (ai.nR D hb U (by rw[L];exact adW _) M N (λx=>Iff.rfl) O Q);·rw[k,f,a]
 rw[ahT,agM,a,ahA];have R:ib v ks=false↔¬S b v:=by rw[←f,←su];simp
 rw[R];constructor
 ·rintro(X|⟨h1,h2⟩);·exact .inl X
  exact .inr ⟨v,(k v).2 (.inr ⟨rfl,a.2 h1⟩),h2⟩
 rintro(X|⟨x,h1,h2⟩);·exact .inl X
 rcases(k x).1 h1 with X|⟨rfl,X⟩;·exact absurd ((f x).1 X) h2
 exact .inr ⟨a.1 X,h2⟩
theorem ye{i j:ac}(a:i≠j):ac.beq i j=false:=by grind[ac.beq,absurd,ac.gT]
theorem aea{H:af}{i q:ac}{o:Nat}{v:AV}(b:i≠q)(a:bh H i o=some v):l6 H q (.aw i o)=some v:=by simp[b,a,l6,ye,ac6,bK]
theorem Pk(y:z6 n vs ids ap)(hb:b∈ap){to:Nat}(g:to∈ap){a:ac}(U:ai A H (tB mX a [ee s p d u]::(gY s p d u pm h n b pl w vs ids ap S++us))){bC:Int}{tos:Nat}{cH:List ac}:∃H' P m,(∀aa k,aa.get .aiw (sl 11)=.aw a 0→aa.get .aiw (sl 5)=.aw p 0→aa.get .aiw (sl tos)=aN to→k d=some bC→zk HG k tos cH aa H=some (kJ aa cH,H'))∧(∀x,P x↔S b x∨S to x∧∀ar,(x,ar)∈pl→bC≤ar)∧(m=true↔w=true∨∃x,P x∧¬S b x)∧ai A H' (tB mX a [ee s p d u]::(gY s p d u pm h n b pl m vs ids ap (eV S b P)++us)):=by
 have hat:∀x,x∈ap→(tB mX a [ee s p d u]::(gY s p d u pm h n b pl w vs ids ap S++us))[6+(ap.idxOf x+1)]?=some (tM false (ids x) (S x)):=λx l=>by simp only[gY,agJ];exact rS (xs:=[_,_,_,_,_,_]) (EG l)
 obtain⟨⟨t0,o,r⟩,_,_⟩:=U.n9 _ (hat b hb);obtain⟨⟨ks,z,B⟩,_,_⟩:=U.n9 _ (hat to g);obtain⟨_,C,_⟩:=U.ED 5 rfl;obtain⟨D,E⟩:=U.tc 5 rfl;obtain⟨F,G⟩:=y.bC b hb;obtain⟨I,J⟩:=y.bC to g;obtain⟨k1,Z⟩:=Cj z;obtain⟨s1,s2⟩:=Cj o;have X:∀(i:Nat){e:Nat}{q:ac}{v:AV},(tB mX a [ee s p d u]::(gY s p d u pm h n b pl w vs ids ap S++us))[i]?=some (tB e q [v])→bh H q 0=some v:=λi _ _ _ hi=>by obtain⟨_,hp⟩:=U.get i hi;exact tB.cell hp rfl
 have l:∀(i:Nat){e:Nat}{q:ac}{v:AV},(tB mX a [ee s p d u]::(gY s p d u pm h n b pl w vs ids ap S++us))[i]?=some (tB e q [v])→i≠1→l6 H d (.aw q 0)=some v:=λi _ _ _ hi K=>aea (U.ne i 1 hi rfl K (λf ag=>ag.1) (λf ag=>ag.1)) (X i hi);have L:h≠d:=U.ne 6 1 rfl rfl (by omega) (λf ag=>tS.wc ag) (λf ag=>ag.1);have M:pm≠ids b:=U.ne 5 _ rfl (hat b hb) (by omega) (λf ag=>ag.1) (λf ag=>ag.1);have N:ids to≠pm:=U.ne _ 5 (hat to g) rfl (by omega) (λf ag=>ag.1) (λf ag=>ag.1);have O:ids b≠d:=U.ne _ 1 (hat b hb) rfl (by omega) (λf ag=>ag.1) (λf ag=>ag.1);have he:∀x,x<n→∀v,vs.getD x .bX=v→uh H d (.slice h 0 n n true) (.ofNat x)=some v:=λx h1 v h2=>by simp only[uh,ye L,ac6,bK];exact Ph (U.sl 6) h1 h2
 obtain⟨f6,Q⟩:=U.get 1 rfl;obtain⟨c,h6,h7,_⟩:=tB.I5 Q;have R:c.bq .aiw 0=.bool w:=h7 0 (by simp);have Y:([AV.bool w]:List AV).length=1:=rfl;refine⟨((H.set (ids b) (.dB (eE (gU (fB pl bC ks) t0)))).set d (.cells (fD c 0 [.bool (w||lZ t0 (fB pl bC ks))]) 1 4 true [] 0)).skip,λx=>x∈gU (fB pl bC ks) t0,w||lZ t0 (fB pl bC ks),λaa k T e5 et ea=>?_,λx=>?_,?_,?_⟩;·unfold zk;rw[T,e5,et];have V:pf H (.aw a 0)=some (.func HG [] [.aw u 0,.aw p 0,.aw s 0,.aw d 0]):=X 0 rfl;rw[V];simp only[ahQ,bm,l 3 rfl (by simp),l 0 rfl (by simp),l 4 rfl (by simp),l 2 rfl (by simp),ea,he to I _ J,he b F _ G,h6,ye M,ye N,Z,D,E,s1,R];rfl
 ·simp[r,B,C,gU,fB,oE,Bh,Pj,or_comm]
 ·rw[ahT,GO];constructor
  ·rintro(ag|⟨x,h1,h2⟩);·grind
   exact .inr ⟨x,(oE ..).2 (.inl h1),λag=>h2 ((r x).2 ag)⟩
  rintro(ag|⟨x,h1,h2⟩);all_goals grind[oE,absurd]
 have W:ai A H (gY s p d u pm h n b pl w vs ids ap S++(us++[tB mX a [ee s p d u]])):=by rw[←agJ];exact U.cO (ahD (l₁:=[_]))
 have t:=ai.nR (c:=fD c 0 [.bool (w||lZ t0 (fB pl bC ks))]) (nw2:=w||lZ t0 (fB pl bC ks)) (P:=λx=>x∈gU (fB pl bC ks) t0) (ks:=gU (fB pl bC ks) t0) (H2:=((H.set (ids b) (.dB (eE (gU (fB pl bC ks) t0)))).set d (.cells (fD c 0 [.bool (w||lZ t0 (fB pl bC ks))]) 1 4 true [] 0)).skip) y hb W (by show H.next.al≤H.next.succ.al;rw[ac.gz];omega) (λj h1 h2=>by show((H.set (ids b) _).set d _).get j=_;rw[af.aD,an h2,af.aD,an h1]) (by show gK (((H.set (ids b) _).set d _).get (ids b)) _;rw[af.aD,an O,af.aD,aH rfl];exact wV (rc _ o.1)) (λx=>Iff.rfl) (by show((H.set (ids b) _).set d _).get d=_;rw[af.aD,aH rfl]) (by rw[mL];simp);rw[←agJ]at t;exact t.cO (ahD (l₂:=[_]))
end
end
section
def yf(g:G.bu)(os:List (List bU))(S:Nat→Int→Prop)(b:Nat)(v:Int):Prop:=
 (∃bC,(v,bC)∈kp (aF g b)∧qC g b v bC)∨(∃w∈wW g os b,S w v∧qC g b v (aF g b).aA.length)∨∃t,nD g (os.getD b [])=some t∧S t.toNat v∧qC g b v 0
theorem I6{c P e:Int→Prop}{u b:Bool}(h0:∀x,c x→P x)(h1:∀x,P x→e x)(g:u=true↔∃x,P x∧¬c x)(f:b=true↔u=true∨∃x,e x∧¬P x):b=true↔∃x,e x∧¬c x:=by grind
theorem I7(S:Nat→Int→Prop)(b:Nat)(P Q:Int→Prop):eV (eV S b P) b Q=eV S b Q:=by grind[eV]
theorem aeb{l:List (Int×Int)}(b:(l.map (·.1)).Nodup){i j:Nat}(hi:i<l.length)(hj:j<l.length)(e:l[i].1=l[j].1):i=j:=(List.getElem_inj (h₀:=by grind) (h₁:=by grind) b).1 (by grind)
theorem aec{v:AV}{n:Nat}(b:lenOf v=some n):(∃i o c e,v=.slice i o n c e)∨v=.aP∧n=0:=by unfold lenOf at b;grind
theorem aed(S:Nat→Int→Prop)(b:Nat):eV S b (S b)=S:=by grind[eV]
theorem EH(S:Nat→Int→Prop)(b:Nat)(P:Int→Prop):eV S b P b=P:=by simp[eV]
section
variable{A H:af}{n b:Nat}{vs:List AV}{ids:Nat→ac}{ap:List Nat}{S:Nat→Int→Prop}{h m a d pm y:ac}{pl:List (Int×Int)}{u:Bool}{us:List Th}
theorem aee{t:Th}(T:Tb ab)(g:z6 n vs ids ap)(hb:b∈ap)(U:ai A H (t::(gY h m a d pm y n b pl u vs ids ap S++us))){v bC:Int}{K:AV→af→Prop}(i:∀r H' P c,(∀x,P x↔S b x∨x=v∧∀p,(v,p)∈pl→bC≤p)→(c=true↔u=true∨∃x,P x∧¬S b x)→ai A H' (t::(gY h m a d pm y n b pl c vs ids ap (eV S b P)++us))→K r H'):YF ab (ee h m a d) [aI v,aI bC] H K:=by
 have f:ai A H (gY h m a d pm y n b pl u vs ids ap S++(us++[t])):=by rw[←agJ];exact U.cO (ahD (l₁:=[_]))
 refine ad9 T g hb f λr H' P c h1 h2 e=>i r H' P c h1 h2 ?_;rw[←agJ]at e;exact e.cO (ahD (l₂:=[_]))
theorem ai.aef{xs ys:List Th}{e:Nat}{q:ac}{cs:List AV}(U:ai A H (xs++tB e q cs::ys)){o:Nat}{v:AV}(b:cs[o]?=some v):bh H q o=some v:=by obtain⟨_,c⟩:=(U.vE).get 0 rfl;grind[tB.cell]
end
section
variable{g:G.bu}{B C:AV}{z:ac}{A H:af}{come:List Bool}{os:List (List bU)}{D:List AV}{n b:Nat}{vs:List AV}{ids:Nat→ac}{ap:List Nat}{S:Nat→Int→Prop}{y:ac}{us:List Th}
theorem aeg(T:Tb ab)(V:Vd g)(hX:GX g A z B C come os D)(hK:dA g come os)(hO:z6 n vs ids ap)(hm:∀x,x∈ap↔come.getD x false=true)(hb:come.getD b false=true)(U:ai A H (ln y n vs ids ap S++us)){K:AV→af→Prop}(ej:∀H' P u,(∀v,P v↔S b v∨yf g os S b v)→(u=true↔∃v,P v∧¬S b v)→ai A H' (ln y n vs ids ap (eV S b P)++us)→K (.bool u) H'):YF ab (.func Wb [] []) [.aw z 0,aN b,.slice y 0 n n true] H K:=by
 have hB:=V.sm;have dy:=hB.nb;have ba:=hK.lt hb;have bb:=(hm b).2 hb;have ag:=hX.kB.lt;have cn:=hX.kB.aF;have⟨dz,_,_,_⟩:=hX.bl.all;have ax:=rQ ba;have d0:=hB.bl _ ax;have dW:=hB.st _ ax;have cp:=hB.ed _ ax;have cv:=V.gv.nd _ ax;have cx:g.aj[b]=aF g b:=(bE ba _).symm;have dv:(wW g os b).length≤12:=by have:=Eu (now:=os.getD b []) hB ba;simpa[wW,lN]using this
 refine YF.code T.aaN (by simp) ?_;refine au ?_;refine RO.dS U λH1 h U=>?_;refine RO.dS U λH2 m U=>?_;refine RO.gk U λH3 a U=>?_;refine ah ?_;refine RO.aW ?_ (v:=B) (hc:=by rw[U.gr.bh ag];exact cn);refine ah ?_;refine RO.cP U.gr hX.bl (λq9 o9 ei d1 ay d2 hat hrd=>?_) (j:=b);rw[cx]at ay;generalize J:aF g b=ek at*;have a8:=ay.one;have bv:=ay;obtain⟨vp,F,jc,rfl,d3,cy,va,vk,vg,rfl,_,_,_⟩:=ay;have⟨_,_,_,b'⟩:=cy.all;refine ah ?_;refine RO.fG U λH4 W U=>?_;refine ah ?_;refine RO.adT U λH5 pm U=>?_;refine RO.fG U λH6 d U=>?_;refine ah ?_;refine RO.eG U 2 ?_;refine RO.cl (OG T (cs:=[vp,F,aU ek.aq.op,va,.aC ek.aq.name,vk,vg]) a8 rfl λH7 q hl=>?_);have U:=U.fF hl;refine ah ?_;refine Ru.wk (L:=[(b7,.func D3 [] [.aw q 0]),(p0,.aw z 0),(p4,.aw h 0),(p5,.aw m 0),(p6,.aw a 0),(p7,.aw W 0),(p8,.aw d 0)]) ?_;have U:ai A H7 ([tB dM q [vp,F,aU ek.aq.op,va,.aC ek.aq.name,vk,vg]]++[tB DK d [.map pm],tI pm ((dE ek).take 0)]++(tB dM W [vp,F,aU ek.aq.op,va,.aC ek.aq.name,vk,vg]::tB 4 a [.bool false]::tB vH m [.slice y 0 n n true]::tB 3 h [aN b]::(ln y n vs ids ap S++us))):=U;refine Ru.qz (J:=λk ts=>ts=[tB DK d [.map pm],tI pm ((dE ek).take k)]) (Dn:=λ_ _=>False) U (OH T bv (by omega) (by omega)) (λ_ _=>trivial) rfl (λk args ws ej=>by obtain⟨rfl,_,rfl⟩:=ej;rfl) (λ_ _ _ _ _ _=>trivial) (λk args ws ts us l o1 o2 H' hk bc hJ U=>?_) (λH' bd Z hJ U=>?_) (λj H' bd Z _ ej=>ej.elim)
 ·obtain⟨rfl,a1,rfl⟩:=bc;subst hJ;have ca:((dE ek)[k]).1∉((dE ek).take k).map Prod.fst:=λI=>by obtain⟨p,hp,e⟩:=ag3.1 I;obtain⟨i,hi,rfl⟩:=agS hp;rw[ahl]at hi;rw[List.getElem_take]at e;have:=aeb cv (by omega) a1 e;omega
  refine au ?_;refine Ru.dO (xs:=[_,_]) U λH2 U=>?_;refine ah ?_;refine RO.adU U 1 ca (λH3 U=>?_);refine ah ?_;refine Ru.bD (ts:=[_,_]) U ?_;rw[←agX a1]
 subst hJ;rw[ah2]at U;refine ah ?_;refine RO.fG (xv:=ee h m a d) U λH8 E U=>?_;refine ah ?_;refine RO.eG U 4 ?_;refine RO.cl (OM T (cs:=[vp,F,aU ek.aq.op,va,.aC ek.aq.name,vk,vg]) a8 λH9 qr hl=>?_);have U:=U.fF hl;refine ah ?_;refine Ru.wk (L:=[(db,.func D4 [] [.aw qr 0]),(p0,.aw z 0),(p4,.aw h 0),(p5,.aw m 0),(p6,.aw a 0),(p7,.aw W 0),(p8,.aw d 0),(aQ,.aw E 0)]) ?_;have U:=((((((U.fO 3 rfl).fO 3 rfl).fO 7 rfl).fO 8 rfl).fO 8 rfl).fO 6 rfl).fO 6 rfl;have U:ai A H9 ([tB dM qr [vp,F,aU ek.aq.op,va,.aC ek.aq.name,vk,vg]]++(tB mX E [ee h m a d]::gY h m a d pm y n b (dE ek) false vs ids ap S)++(tX Z (.deferred false)::tB dM W [vp,F,aU ek.aq.op,va,.aC ek.aq.name,vk,vg]::us)):=by rw[agJ];exact U.cO (List.Perm.append_left [_,_,_,_,_,_,_] (List.perm_append_comm_assoc [_,_] _ _))
 refine Ru.qz (J:=λk ts=>∃P u,(∀x,P x↔S b x∨∃q∈(kp ek).take k,q.1=x∧∀p,(x,p)∈dE ek→q.2≤p)∧(u=true↔∃x,P x∧¬S b x)∧ts=tB mX E [ee h m a d]::gY h m a d pm y n b (dE ek) u vs ids ap (eV S b P)) (Dn:=λ_ _=>False) U (ON T bv (by omega) (λs hs=>by have:=(dW s hs).1;omega) (by omega) (by omega) (λe he=>by have:=cp e he;omega)) (λ_ _=>trivial) ⟨S b,false,by simp,by simp,by rw[aed]⟩ (λk args ws ej=>by obtain⟨rfl,_,rfl⟩:=ej;rfl) (λ_ _ _ _ _ _=>trivial) (λk args ws ts us l o1 o2 H' hk bc hJ U=>?_) (λH' bd L hJ U=>?_) (λj H' bd Z _ ej=>ej.elim)
 ·obtain⟨rfl,a1,rfl⟩:=bc;obtain⟨P,u,Q,hn,rfl⟩:=hJ;refine au ?_;refine Ru.dO (xs:=tB mX E [ee h m a d]::gY h m a d pm y n b (dE ek) u vs ids ap (eV S b P)) U λH2 U=>?_;refine ah ?_;refine RO.cl (aee T hO bb (us:=tX l o2::us) U λr H3 P2 N h1 h2 U=>?_);rw[EH]at h1 h2;rw[I7]at U;refine ah ?_;refine Ru.bD (ts:=tB mX E [ee h m a d]::gY h m a d pm y n b (dE ek) N vs ids ap (eV S b P2)) U ⟨P2,N,λx=>?_,I6 (λx I=>(Q x).2 (.inl I)) (λx I=>(h1 x).2 (.inl I)) hn h2,rfl⟩;rw[h1,Q,←agX a1,or_assoc];refine or_congr Iff.rfl ⟨?_,?_⟩
  ·rintro(⟨q,X,ej⟩|⟨rfl,ej⟩);·exact⟨q,agU _ X,ej⟩
   exact⟨_,ag7 _ (ac3.2 rfl),rfl,ej⟩
  rintro⟨q,X,e,ej⟩;rcases agI.1 X with X|X;·exact .inl ⟨q,X,e,ej⟩
  rw[ac3]at X;subst X;exact .inr ⟨e.symm,by rw[e];exact ej⟩
 obtain⟨P0,b0,R,cE,rfl⟩:=hJ;rw[ah2]at R;refine ah ?_;refine RO.cl (IP T V.sm V.dP (hX.cV U.gr) hK hb λd4 v hl=>?_);have U:=(U.fF hl).cO (ag1 (l₁:=tB mX E [ee h m a d]::gY h m a d pm y n b (dE ek) b0 vs ids ap (eV S b P0))).symm;have⟨d5,_,_,d6⟩:=(hl.sl (e:=3) (size:=1) (sv:=v) (vs:=(wW g os b).map aN) (n:=(wW g os b).length) (full:=true) 0).all;refine ah ?_;refine Ru.nm λS0 M hS hM=>?_;refine Ru.cA hM (up (P:=λk=>∀HX P u,(∀x,P x↔P0 x∨∃w∈(wW g os b).take k,S w x∧∀p,(x,p)∈dE ek→(ek.aA.length:Int)≤p)→(u=true↔∃x,P x∧¬S b x)→ai A HX (tB mX E [ee h m a d]::gY h m a d pm y n b (dE ek) u vs ids ap (eV S b P)++tS 3 1 ((wW g os b).map aN) (wW g os b).length true v::(tX L (.deferred false)::tX Z (.deferred false)::tB dM W [vp,F,aU ek.aq.op,va,.aC ek.aq.name,vk,vg]::us))→Ru ab _ S0 ([(dN,aN k)]++pk M [p0,p4,p5,p6,p7,p8,aQ,cK,dD]) HX) (wW g os b).length (λk hk ih HX P u Q hn U=>?_) 0 (by omega) _ P0 b0 (by simp) cE U);subst hS;subst hM;refine Ru.loop ?_;refine au ?_;refine Ru.cond (λag=>?_) (λag=>?_)
 ·refine ah ?_;have c8:=(U.vE).sl (e:=3) (size:=1) (sv:=v) (vs:=(wW g os b).map aN) (n:=(wW g os b).length) (full:=true) 0;refine RO.jX (bf.refl _) c8 (λd7 d' dx ea=>?_) (j:=k);refine ah ?_;have c9:(wW g os b)[k]∈wW g os b:=af0 ag;have a2:=(hm _).2 (hK.lO hb c9);have b3:(wW g os b).take (k+1)=(wW g os b).take k++[(wW g os b)[k]]:=(agX ag).symm;have ih:=ih (k+1) (by omega) (by omega);rw[b3]at ih;clear b3;generalize(wW g os b)[k]=to at*;obtain⟨H',P2,N,hg,h1,h2,ar⟩:=Pk hO bb a2 U (bC:=.ofNat ek.aA.length) (tos:=15) (cH:=A9);have c':W≠a:=λe=>by have h8:=U.cO (ag1 (l₁:=tB mX E [ee h m a d]::gY h m a d pm y n b (dE ek) u vs ids ap (eV S b P)++[tS 3 1 ((wW g os b).map aN) (wW g os b).length true v,tX L (.deferred false),tX Z (.deferred false)]) (l₂:=us) (a:=tB dM W [vp,F,aU ek.aq.op,va,.aC ek.aq.name,vk,vg])|>λej=>by simpa using ej);exact h8.ne 0 2 rfl rfl (by omega) (λf ej=>ej.1) (λf ej=>ej.1) e
  have dm:bh HX W 1=some F:=by refine ai.aef (xs:=tB mX E [ee h m a d]::gY h m a d pm y n b (dE ek) u vs ids ap (eV S b P)++[tS 3 1 ((wW g os b).map aN) (wW g os b).length true v,tX L (.deferred false),tX Z (.deferred false)]) (ys:=us) (by simpa using U) rfl
  refine Ru.eB (cH:=A9) (H':=H') T.ab0 (M:=[(p0,.aw z 0),(p4,.aw h 0),(p5,.aw m 0),(p6,.aw a 0),(p7,.aw W 0),(p8,.aw d 0),(aQ,.aw E 0),(cK,v),(dD,aN (wW g os b).length),(dN,aN k)]) (λaa O=>?_) ?_
  ·refine hg aa _ (O.get (p:=sl 11) rfl rfl) (O.get (p:=sl 5) rfl rfl) (O.get (p:=sl 15) rfl rfl) ?_;simp only[O.get (p:=sl 7) (v:=.aw W 0) rfl rfl,ye c',ac6,bK,dm,agW];rcases aec b' with⟨i,o,c,e,rfl⟩|⟨rfl,h0⟩;·rfl
   rw[h0]
  rw[EH]at h1 h2;rw[I7]at ar;have key:∀x,P2 x↔P0 x∨∃w∈(wW g os b).take k++[to],S w x∧∀p,(x,p)∈dE ek→(ek.aA.length:Int)≤p:=λx=>by
   have cd:∀x,S b x→P x:=λx I=>(Q x).2 (.inl ((R x).2 (.inl I)));have b4:P x→P0 x∨∃w∈(wW g os b).take k++[to],S w x∧∀p,(x,p)∈dE ek→(ek.aA.length:Int)≤p:=λej=>by
    rcases(Q x).1 ej with ej|⟨w,Y,ej⟩;·exact .inl ej
    exact .inr ⟨w,agU _ Y,ej⟩
   rw[h1];constructor
   ·rintro(ej|⟨ej,a6⟩);·exact b4 ej
    simp only[eV]at ej;split at ej;·exact b4 ej
    exact .inr ⟨to,ag7 _ (ac3.2 rfl),ej,a6⟩
   rintro(ej|⟨w,Y,hs,a6⟩);·exact .inl ((Q x).2 (.inl ej))
   rcases agI.1 Y with Y|Y;·exact .inl ((Q x).2 (.inr ⟨w,Y,hs,a6⟩))
   rw[ac3]at Y;subst Y;by_cases e:w=b;·subst e;exact .inl (cd x hs)
   refine .inr ⟨?_,a6⟩;simp only[eV,an e];exact hs
  refine ah ?_;exact Ru.wk (ih H' P2 N key (I6 (λx I=>(Q x).2 (.inl ((R x).2 (.inl I)))) (λx I=>(h1 x).2 (.inl I)) hn h2) ar)
 refine Ru.exitTo ?_;rw[ag2 (by omega)]at Q;refine ah ?_;have hR:∀x,(P x→S b x∨yf g os S b x)∧((∃q∈kp ek,q.1=x∧∀p,(x,p)∈dE ek→q.2≤p)∨(∃w∈wW g os b,S w x∧∀p,(x,p)∈dE ek→(ek.aA.length:Int)≤p)→P x)∧(S b x→P x):=λx=>by
  refine⟨λej=>?_,λej=>?_,λej=>(Q x).2 (.inl ((R x).2 (.inl ej)))⟩
  ·rcases(Q x).1 ej with ej|⟨w,Y,h1,h2⟩
   ·rcases(R x).1 ej with ej|⟨q,X,rfl,h2⟩;·exact .inl ej
    refine .inr (.inl ⟨q.2,?_,?_⟩);·rw[J];exact X
    simp only[qC,J];exact h2
   refine .inr (.inr (.inl ⟨w,Y,h1,?_⟩));simp only[qC,J];exact h2
  rcases ej with⟨q,X,ej⟩|⟨w,Y,ej⟩;·exact(Q x).2 (.inl ((R x).2 (.inr ⟨q,X,ej⟩)))
  exact(Q x).2 (.inr ⟨w,Y,ej⟩)
 have b5:∀x,yf g os S b x→P x∨∃t,nD g (os.getD b [])=some t∧S t.toNat x∧∀p,(x,p)∈dE ek→0≤p:=λx ej=>by
  rcases ej with⟨bC,h1,h2⟩|⟨w,h1,h2,h3⟩|⟨t,h1,h2,h3⟩
  ·refine .inl ((hR x).2.1 (.inl ⟨(x,bC),?_,rfl,?_⟩));·rw[←J];exact h1
   simp only[qC,J]at h2;exact h2
  ·refine .inl ((hR x).2.1 (.inr ⟨w,h1,h2,?_⟩));simp only[qC,J]at h3;exact h3
  refine .inr ⟨t,h1,h2,?_⟩;simp only[qC,J]at h3;exact h3
 refine RO.cl (adX T hB V.dP (hX.cV U.gr) hK hb λeb cf=>?_);have U:=U.cV cf;have a':∀HX P u,ai A HX (tB mX E [ee h m a d]::gY h m a d pm y n b (dE ek) u vs ids ap (eV S b P)++tS 3 1 ((wW g os b).map aN) (wW g os b).length true v::(tX L (.deferred false)::tX Z (.deferred false)::tB dM W [vp,F,aU ek.aq.op,va,.aC ek.aq.name,vk,vg]::us))→ai A HX (iN [L,Z]++(tB 4 a [.bool u]::(ln y n vs ids ap (eV S b P)++us))):=λHX P u U=>by
  have h1:ai A HX (tB mX E [ee h m a d]::tB 4 a [.bool u]::tB 3 h [aN b]::tB vH m [.slice y 0 n n true]::tB DK d [.map pm]::tI pm (dE ek)::(ln y n vs ids ap (eV S b P)++(tS 3 1 ((wW g os b).map aN) (wW g os b).length true v::(tX L (.deferred false)::tX Z (.deferred false)::tB dM W [vp,F,aU ek.aq.op,va,.aC ek.aq.name,vk,vg]::us)))):=by simpa only[gY,ahC,ahH,agJ]using U
  have h2:=h1.sub (.cons _ (.cons_cons _ (.cons _ (.cons _ (.cons _ (.cons _ ((ahB (ln y n vs ids ap (eV S b P))).append (.cons _ (.cons_cons _ (.cons_cons _ (.cons _ (ahB us))))))))))));exact h2.cO (List.perm_append_comm_assoc (tB 4 a [.bool u]::ln y n vs ids ap (eV S b P)) [_,_] us)
 cases ht:nD g (os.getD b [])with
 |none=>
  refine ah ?_;refine RO.fU U 1 (λdr U=>?_);refine ah ?_;refine Ru.nu (M:=[L,Z]) (a' _ P u U) λH' U=>⟨[.bool u],⟨⟨_,_,rfl,U.one 0⟩,trivial⟩,ej H' P u (λx=>⟨(hR x).1,λI=>?_⟩) hn U.tail⟩;rcases I with I|I;·exact(hR x).2.2 I
  rcases b5 x I with G|⟨t,G,_⟩;·exact G
  rw[ht]at G;cases G
 |some t=>
  obtain⟨_,_,_,_,b6,ec⟩:=wd V.dP hK hb ht;have a2:=(hm _).2 b6;obtain⟨to,rfl⟩:∃to:Nat,t=(to:Int):=⟨t.toNat,by omega⟩;rw[agK]at a2 b6;obtain⟨H',P2,N,hg,h1,h2,ar⟩:=Pk hO bb a2 U (bC:=.ofNat 0) (tos:=17) (cH:=Ba);rw[EH]at h1 h2;rw[I7]at ar;refine ah ?_;refine Ru.eB (cH:=Ba) (H':=H') T.ab1 (M:=[(p6,.aw a 0)]) (λaa O=>?_) ?_;·exact hg aa _ (O.get (p:=sl 11) rfl rfl) (O.get (p:=sl 5) rfl rfl) (O.get (p:=sl 17) rfl rfl) rfl
  refine ah ?_;have U:=ar;refine RO.gM U 1 ?_;refine RO.fU U 1 (λdr U=>?_);refine ah ?_;refine Ru.nu (M:=[L,Z]) (a' _ P2 N U) λH' U=>⟨[.bool N],⟨⟨_,_,rfl,U.one 0⟩,trivial⟩,ej H' P2 N (λx=>?_) (I6 (λx I=>(hR x).2.2 I) (λx I=>(h1 x).2 (.inl I)) hn h2) U.tail⟩;rw[h1];constructor
  ·rintro(G|⟨G,av⟩);·exact(hR x).1 G
   simp only[eV]at G;split at G;·exact(hR x).1 G
   refine .inr (.inr (.inr ⟨_,ht,by rw[agK];exact G,?_⟩));simp only[qC,J];exact av
  rintro(G|G);·exact .inl ((hR x).2.2 G)
  rcases b5 x G with G|⟨t,G,av,ds⟩;·exact .inl G
  rw[ht]at G;injection G with G;subst G;rw[agK]at av;by_cases e:to=b;·subst e;exact .inl ((hR x).2.2 av)
  refine .inr ⟨?_,ds⟩;simp only[eV,an e];exact av
end
end
theorem RO.aeh{c:Cx}{s:List SI}{L:Kn}{H:af}{d:Option ac}{l:List aS}{z:Int}{x y:aG}(h:RO ab c l s (bA L d (.bool false)) H)(b:aV L x=.cL:=by(conv=>lhs;whnf)<;>rfl)(e:aV L y=.int 3 z:=by(conv=>lhs;whnf)<;>rfl):RO ab c (⟨d,.lookup .int (.bool false) false x y,none,[],[]⟩::l) s L H:=RO.op (λaa a=>by simp only[aB,jk,ag9,ac6,bK,a.gv b rfl,a.gv e rfl]) h
def cb(p:Prop):Bool:= @decide p (Classical.propDecidable p)
theorem I8{p:Prop}:cb p=true↔p:= @decide_eq_true_iff p (Classical.propDecidable p)
def EI(nv:Nat)(ap:List Nat)(S:Nat→Int→Prop):Nat:=(ap.map λb=>((agV nv).filter λ(v:Nat)=>cb (¬S b (v:Int))).length).sum
theorem I9{b:Type}{p q:b→Bool}(h:∀x,p x=true→q x=true):∀l:List b,(l.filter p).length≤(l.filter q).length|[]=>adW _|a::l=>by have c:=I9 h l;grind
theorem Pl{d:Type}{p q:d→Bool}(h:∀x,p x=true→q x=true){y:d}(f:q y=true)(g:p y=false):∀l:List d,y∈l→(l.filter p).length<(l.filter q).length
 |[],c=>by grind
 |a::l,c=>by
  rcases adC.1 c with rfl|c;·have:=I9 h l;grind
  have i:=Pl h f g l c;cases b:p a with|true=>simp only[List.filter_cons,b,h a b,bm,ahh];omega|false=>cases e:q a<;>simp only[List.filter_cons,b,e,bm,ac6,bK,ahh]<;>omega
theorem Pm{b:Type}{f g:b→Nat}:∀l:List b,(∀x∈l,f x≤g x)→(l.map f).sum≤(l.map g).sum|[],_=>adW _|a::l,h=>by have:=Pm l λx c=>h x (adD _ c);grind
theorem Pn{c:Type}{f g:c→Nat}{y:c}(e:f y<g y):∀l:List c,(∀x∈l,f x≤g x)→y∈l→(l.map f).sum<(l.map g).sum
 |[],_,b=>by grind
 |a::l,h,b=>by
  have h1:=h a (adc ..);simp only[agN,List.sum_cons];rcases adC.1 b with rfl|b;·have:=Pm l λx d=>h x (adD _ d);omega
  have:=Pn e l (λx d=>h x (adD _ d)) b;omega
theorem aei{nv:Nat}{ap:List Nat}{S c:Nat→Int→Prop}(h:∀b∈ap,∀v,S b v→c b v){b:Nat}(hb:b∈ap){v:Nat}(f:v<nv)(h1:c b v)(h2:¬S b v):EI nv ap c<EI nv ap S:=by
 have a:∀x∈ap,∀w:Nat,cb (¬c x (w:Int))=true→cb (¬S x (w:Int))=true:=λx d w e=>by rw[I8]at e⊢;exact λhs=>e (h x d _ hs)
 refine Pn (y:=b) ?_ ap (λx d=>I9 (a x d) _) hb;refine Pl (a b hb) (y:=v) (I8.2 h2) ?_ _ (ahV.2 f);simp[h1,cb,absurd,I8]
def I'(g:G.bu)(os:List (List bU))(ap:List Nat)(S:Nat→Int→Prop):Prop:=∀b∈ap,∀v,yf g os S b v→S b v
def z7(g:G.bu)(os:List (List bU))(S:Nat→Int→Prop):Prop:=∀b v,S b v→Lv g os b v
theorem z7.jV{g:G.bu}{os:List (List bU)}{S:Nat→Int→Prop}{b:Nat}{P:Int→Prop}(h:z7 g os S)(c:∀v,P v→S b v∨yf g os S b v):z7 g os (eV S b P):=λx v a=>by
 simp only[eV]at a;split at a
 ·rename_i e;subst e;rcases c v a with h1|⟨bC,h1,h2⟩|⟨w,h1,h2,h3⟩|⟨t,h1,h2,h3⟩;·exact h _ _ h1
  ·exact .pj h1 h2
  ·exact .lO h1 (h _ _ h2) h3
  exact .rN h1 (h _ _ h2) h3
 exact h _ _ a
theorem I'.all{g:G.bu}{a:List Bool}{os:List (List bU)}{ap:List Nat}{S:Nat→Int→Prop}(k:iO g)(f:dA g a os)(c:∀x,x∈ap↔a.getD x false=true)(h:I' g os ap S){b:Nat}{v:Int}(hl:Lv g os b v):b∈ap→S b v:=by induction hl with| @pj b v bC h1 h2=>intro hb;exact h b hb v (.inl ⟨bC,h1,h2⟩)| @lO b w v i _ d e=>intro hb;exact h b hb v (.inr (.inl ⟨w,i,e ((c w).2 (f.lO ((c b).1 hb) i)),d⟩))| @rN b t v j _ d e=>intro hb;obtain⟨_,_,_,_,l,_⟩:=wd k f ((c b).1 hb) j;exact h b hb v (.inr (.inr ⟨t,j,e ((c _).2 l),d⟩))
section
def Po:af→List Int→List AV→Prop:=λH l cs=>∃v,cs=[v]∧iy H l v
abbrev Cm(H:af)(a:List (List Int))(v:AV):Prop:=dL 1 Po H a v
theorem dH.Pp:dH Po:=λhg⟨v,h1,h2⟩=>⟨v,h1,hg.sl h2⟩
structure jJ(g:G.bu)(come:List Bool)(os:List (List bU))(lv:List (List Int)):Prop where
 len:lv.length=g.aj.length
 mem:∀b,come.getD b false=true→∀v,v∈lv.getD b []↔Lv g os b v
 Ja:∀b,come.getD b false=false→lv.getD b []=[]
 kq:∀b,(lv.getD b []).length≤6000
structure lq(lv:List (List Int))(vsl:List AV)(F:List Th):Prop where
 len:vsl.length=lv.length
 mem:∀b,b<lv.length→tR 1 ((lv.getD b []).map aI) (lv.getD b []).length (vsl.getD b .bX)∈F
theorem lq.sl{e:List (List Int)}{a:List AV}{F:List Th}(k:lq e a F){A H:af}{g:List Th}(U:ai A H g)(i:Nat)(hi:g[i]?=some (tZ F)){v:AV}(hs:Sl H 1 a a.length v):Cm H e v:=by have hl:=k.len;refine⟨a,by rw[←hl];exact hs,λb hb=>?_⟩;obtain⟨f,j,_⟩:=U.mC i hi (k.mem b hb);refine⟨a.getD b .bX,?_,by rw[←bE hb []];exact j⟩;rw[ah9,agR (by omega),bE (by omega)];rfl
abbrev Pq:Nat→List AV→Prop:=λb cs=>cs=[aN b]
theorem Pr{H:af}{l:List Nat}{v:AV}(b:Sl H 1 (l.map aN) l.length v):dL 1 (λ_=>Pq) H l v:=⟨_,b,λk a=>by simp[a,ah9,agR]⟩
section
variable{g:G.bu}{d h:AV}{c:ac}{H:af}{come:List Bool}{os:List (List bU)}{o:List AV}
def nE(e f g b c:ac)(n:Nat)(i:AV)(j:Bool)(k:List AV)(a:Nat→ac)(ap:List Nat)(S:Nat→Int→Prop):List Th:=[tB 4 g [.bool j],tB vH f [.slice b 0 n n true],tB l7 e [.aw c 0],tS 3 1 (ap.map aN) ap.length true i]++ln b n k a ap S
theorem aej(T:Tb ab)(V:Vd g)(hX:GX g H c d h come os o)(Q:dA g come os){K:AV→af→Prop}(e4:∀H' v R r F,jJ g come os R→lq R r F→ai H H' [tZ F,tS gp 1 r r.length true v]→K v H'):YF ab (.func VW [] []) [.aw c 0] H K:=by
 have hB:=V.sm;have ar:=hB.nb;have⟨d6,_,_,d7⟩:=hX.bl.all;have bv:=hX.kB.aF;have a6:=hX.kB.lt;have d':=Q.lt Q.c0;refine YF.code T.aav (by simp) ?_;refine au ?_;refine RO.dS (ai.cW H) λH1 G U=>?_;refine ah ?_;refine RO.aW ?_ (v:=d) (hc:=by rw[U.gr.bh a6];exact bv);refine ah ?_;refine RO.nV U (n:=g.aj.length) (λH2 B U=>?_) (hz:=by rw[iM];simp);rw[iM]at U;refine RO.fG U λH3 I U=>?_;refine ah ?_;refine RO.cl (IQ T V.sm V.dP (hX.cV U.gr) Q λH4 u ap N hl=>?_);have U:=U.fF hl;have⟨cn,cp,cv,ea⟩:=(hl.sl (e:=3) (size:=1) (sv:=u) (vs:=ap.map aN) (n:=ap.length) (full:=true) 0).all;have eb:ap.length≤g.aj.length:=xV _ _ N.nd λx hx=>Q.lt ((N.mem x).1 hx);refine ah ?_;have U:ai H H4 ([tS 3 1 (ap.map aN) ap.length true u,tB vH I [.slice B 0 g.aj.length g.aj.length true],tB l7 G [.aw c 0]]++ln B g.aj.length (af3 g.aj.length .cL) (λ_=>.xH) (ap.take 0) (λ_ _=>False)):=U.cO (ahq _ (ahq _ (ahw ..)));refine Ru.nm λS0 M hS W=>?_;refine Ru.cA W (up (P:=λk=>∀A vs f,vs.length=g.aj.length→(∀b∈ap.take k,vs.getD b .bX=.map (f b))→(∀b,b<g.aj.length→b∉ap.take k→vs.getD b .bX=.cL)→ai H A ([tS 3 1 (ap.map aN) ap.length true u,tB vH I [.slice B 0 g.aj.length g.aj.length true],tB l7 G [.aw c 0]]++ln B g.aj.length vs f (ap.take k) (λ_ _=>False))→Ru ab _ S0 ([(bR,aN k)]++pk M [p1,p3,p4,bI,bG]) A) ap.length (λk hk ih A vs f L X a8 U=>?_) 0 (by omega) _ _ (λ_=>.xH) (by simp) (by simp) (λb hb _=>by rw[bE (by simpa using hb)];simp) U);subst hS;subst W;refine Ru.loop ?_;refine au ?_;refine Ru.cond (λy=>?_) (λy=>?_)
 ·refine ah ?_;refine RO.jX (bf.refl _) (U.sl (e:=3) (size:=1) (sv:=u) (vs:=ap.map aN) (n:=ap.length) (full:=true) 0) (λq5 o5 ec ei=>?_) (j:=k);have ej:ap[k]<g.aj.length:=Q.lt ((N.mem _).1 (af0 y));refine ah ?_;refine RO.OX U λH5 qm U=>?_;refine ah ?_;refine RO.xK U 4 L (λH6 U=>?_) (k:=ap[k]);refine ah ?_;have a':ap.take (k+1)=ap.take k++[ap[k]]:=(agX y).symm;have cx:ap[k]∉ap.take k:=λhx=>by obtain⟨i,hi,e⟩:=agS hx;rw[ahl]at hi;rw[List.getElem_take]at e;have:=OD N.nd (by omega) y e;omega
  refine Ru.wk (ih (k+1) (by omega) (by omega) H6 (vs.set ap[k] (.map qm)) (λx=>if x=ap[k]then qm else f x) (by simpa using L) (λb hb=>?_) (λb hb ar=>?_) ?_)
  ·rw[a']at hb;rw[e9 (by omega)];by_cases e:b=ap[k];·rw[aH e,aH e]
   rw[an e,an e];exact X b ((agI.1 hb).resolve_right λe4=>e (ac3.1 e4))
  ·rw[a']at ar;rw[e9 (by omega),an λe=>ar (by rw[e];exact ag7 _ (ac3.2 rfl))];exact a8 b hb λe4=>ar (agU _ e4)
  have U:=U.as (t':=tM false qm λ_=>False) 0 rfl λfp hp=>⟨hp.1,hp.2.1,hp.2.2.1,(λe4=>by cases e4),hp.2.2.2.2⟩;have U:=U.cO (ahD (l₁:=[_]));have e:ln B g.aj.length (vs.set ap[k] (.map qm)) (λx=>if x=ap[k]then qm else f x) (ap.take (k+1)) (λ_ _=>False)=tS MY 1 (vs.set ap[k] (.map qm)) g.aj.length true (.slice B 0 g.aj.length g.aj.length true)::((ap.take k).map (λb=>tM false (f b) λ_=>False)++[tM false qm λ_=>False]):=by
   rw[ln,a',ahk];congr 2;·exact ahZ λb hb=>by rw[an λe=>cx (by rw[←e];exact hb)]
   simp
  rw[e];exact U
 refine Ru.exitTo ?_;rw[ag2 (by omega)]at X a8 U;have b':=X;have ca:=a8;have cy:z6 g.aj.length vs f ap:=⟨L,N.nd,λb hb=>⟨Q.lt ((N.mem b).1 hb),X b hb⟩⟩;refine ah ?_;refine RO.fG U λH5 D U=>?_;have U:ai H H5 (nE G I D B c g.aj.length u true vs f ap (λ_ _=>False)++iN []):=by rw[show iN []=[]from rfl,ahx];exact((U.fO 3 rfl).fO 3 rfl).fO 2 rfl
 refine ah ?_;refine Ru.nm λS0 M hS W=>?_;refine Ru.cA W (dn (P:=λm=>∀A O S cd D,(if cd=true then EI g.bi.toNat ap S+1 else 0)=m→(cd=false→I' g os ap S)→z7 g os S→ai H A (nE G I D B c g.aj.length u cd vs f ap S++iN O)→Ru ab ⟨pi [.tmp p2] K,O,none⟩ S0 ([(p7,.aw D 0)]++pk M [p1,p3,p4]) A) (λm ih A O S cd D cE Y ba U=>?_) _ _ [] (λ_ _=>False) true D rfl (λe4=>by cases e4) (λ_ _ e4=>e4.elim) U);subst hS;subst W;refine Ru.loop ?_;refine ah ?_;refine Ru.kh (λC=>?_) (λC=>?_)
 ·subst C;refine ah ?_;refine RO.fU U 0 (λH6 U=>?_);refine ah ?_;refine RO.cl (EC T.aaM (by decide) cn cp cv λH7 q hl=>?_);have U:=U.fF hl;refine ah ?_;refine Ru.wk (L:=[(bZ,.func Wk [] [.aw q 0]),(p1,.aw G 0),(p3,.aw I 0),(p4,u),(p7,.aw D 0)]) ?_;have U:ai H H7 ([tB gp q [u]]++nE G I D B c g.aj.length u false vs f ap S++iN O):=U;refine Ru.qz (J:=λk ts=>∃E s,(∀b∈ap,∀v,S b v→E b v)∧(s=true→∃b∈ap,∃v,E b v∧¬S b v)∧(s=false→E=S∧∀j,j<k→∀(hj:ap.length - 1 - j<ap.length),∀v,yf g os S ap[ap.length - 1 - j] v→S ap[ap.length - 1 - j] v)∧z7 g os E∧ts=nE G I D B c g.aj.length u s vs f ap E) (Dn:=λ_ _=>False) U (EB (R:=Pq) (agg:=false) (size:=1) (la:=ap) (sv:=u) (e:=gp) (nt:=19) T.aaX (by decide) (by omega) (λ_=>rfl) (λa cs e4=>by cases e4;rfl)) (λH2 hg=>Pr ((U.cV hg).sl (e:=3) (size:=1) (sv:=u) (vs:=ap.map aN) (n:=ap.length) (full:=true) 4)) ⟨S,false,λ_ _ _ e4=>e4,(λe4=>by cases e4),λ_=>⟨rfl,λj hj=>absurd hj (by omega)⟩,ba,rfl⟩ (λk args ws e4=>by obtain⟨_,_,_,_,rfl⟩:=e4;rfl) (λk ts us H' hJ U=>by obtain⟨E,s,_,_,_,_,rfl⟩:=hJ;exact Pr (U.sl (e:=3) (size:=1) (sv:=u) (vs:=ap.map aN) (n:=ap.length) (full:=true) 3)) (λk args ws ts us l o1 o2 H' hk c8 hJ U=>?_) (λH' c9 dm hJ U=>?_) (λj H' c9 dm hj hD U=>hD.elim)
  ·obtain⟨rfl,bb,cs,rfl,rfl⟩:=c8;obtain⟨E,s,h1,h2,h3,h4,rfl⟩:=hJ;have bc:=af0 bb;have c':=(N.mem _).1 bc;generalize dr:ap[ap.length - 1 - k]=b at*;refine au ?_;refine Ru.dO (xs:=nE G I D B c g.aj.length u s vs f ap E) U λH8 U=>?_;refine ah ?_;have U:=ai.gC (xs:=[tB 4 D [.bool s],tB vH I [.slice B 0 g.aj.length g.aj.length true],tB l7 G [.aw c 0],tS 3 1 (ap.map aN) ap.length true u]) U;refine RO.cl (aeg T V hX Q cy N.mem c' U λH9 P nw hP b0 U=>?_);have U:=ai.lE (xs:=[tB 4 D [.bool s],tB vH I [.slice B 0 g.aj.length g.aj.length true],tB l7 G [.aw c 0],tS 3 1 (ap.map aN) ap.length true u]) U;have ay:∀A,ai H A (nE G I D B c g.aj.length u (nw||s) vs f ap (eV E b P)++tX l o2::us)→Ru ab (B5 H l o2 us (λts=>∃E s,(∀b∈ap,∀v,S b v→E b v)∧(s=true→∃b∈ap,∃v,E b v∧¬S b v)∧(s=false→E=S∧∀j,j<k+1→∀(hj:ap.length - 1 - j<ap.length),∀v,yf g os S ap[ap.length - 1 - j] v→S ap[ap.length - 1 - j] v)∧z7 g os E∧ts=nE G I D B c g.aj.length u s vs f ap E) (λ_ _=>False)) [] [] A:=λA U=>by
    refine Ru.bD (ts:=nE G I D B c g.aj.length u (nw||s) vs f ap (eV E b P)) U ⟨_,_,λx hx v hv=>?_,λC=>?_,λC=>?_,h4.jV λv hv=>(hP v).1 hv,rfl⟩
    ·simp only[eV];split;·rename_i e;subst e;exact(hP v).2 (.inl (h1 x hx v hv))
     exact h1 x hx v hv
    ·cases nw with
     |true=>obtain⟨v,hv,hn⟩:=b0.1 rfl;exact⟨b,bc,v,by simp only[EH];exact hv,λe4=>hn (h1 b bc v e4)⟩
     |false=>
      obtain⟨x,hx,v,hv,hn⟩:=h2 C;refine⟨x,hx,v,?_,hn⟩;simp only[eV];split;·rename_i e;subst e;exact(hP v).2 (.inl hv)
      exact hv
    simp only[Bool.or_eq_false_iff]at C;obtain⟨e,Y⟩:=h3 C.2;have b3:∀v,P v→E b v:=λv hv=>ahe λhn=>by have:=b0.2 ⟨v,hv,hn⟩;rw[C.1]at this;cases this
    refine⟨?_,λj hj ds v hv=>?_⟩
    ·rw[←e];funext x v;simp only[eV];split;·rename_i e2;subst e2;exact propext ⟨b3 v,λe4=>(hP v).2 (.inl e4)⟩
     rfl
    by_cases dv:j=k;·subst dv;rw[dr]at hv⊢;rw[←e]at hv⊢;exact b3 v ((hP v).2 (.inr hv))
    exact Y j (by omega) ds v hv
   cases nw with|true=>refine ah ?_;refine RO.fU U 0 (λdx U=>?_);refine ah ?_;exact Ru.wk (ay _ U)|false=>refine ah ?_;refine RO.fU U 0 (λdx U=>?_);refine ah ?_;exact Ru.wk (ay _ U)
  obtain⟨E,s,h1,h2,h3,h4,rfl⟩:=hJ;refine ah ?_;refine RO.fG U λH8 b4 U=>?_;refine ah ?_;have U:ai H H8 (nE G I b4 B c g.aj.length u s vs f ap E++iN (dm::O)):=U.sub (.cons_cons _ (.cons _ (ahB _)));have Z:(if s=true then EI g.bi.toNat ap E+1 else 0)<m:=by rw[←cE,aH rfl];cases s with|false=>simp|true=>obtain⟨b,hb,v,hv,hn⟩:=h2 rfl;have hf:=(h4 b v hv).Ci V.dP Q (V.rR come os Q) V.gv N ((N.mem b).1 hb);obtain⟨t,rfl⟩:∃t:Nat,v=(t:Int):=⟨v.toNat,by have:=hf.1;omega⟩;have:=aei (nv:=g.bi.toNat) h1 hb (v:=t) (by have:=hf.2.1;omega) hv hn;rw[aH rfl];omega
  exact Ru.wk (ih _ Z H8 (dm::O) E s b4 rfl (λC b hb v hv=>by obtain⟨rfl,Y⟩:=h3 C;obtain⟨i,hi,rfl⟩:=agS hb;have:=Y (ap.length - 1 - i) (by omega) (by omega);simp only[show ap.length - 1 - (ap.length - 1 - i)=i by omega]at this;exact this v hv) h4 U)
 subst C;refine Ru.exitTo ?_;have eS:∀b,come.getD b false=true→∀v,S b v↔Lv g os b v:=λb hb v=>⟨ba b v,λe4=>(Y rfl).all V.dP Q N.mem e4 ((N.mem b).2 hb)⟩;have dy:=hX.c2;have ek:=V.gv.v0;have X:=V.fm.fv.h2;obtain⟨nv,dz⟩:∃n:Nat,g.bi=(n:Int):=⟨g.bi.toNat,by omega⟩;refine ah ?_;refine RO.aW ?_ (v:=d) (hc:=by rw[U.gr.bh a6];exact bv);refine ah ?_;refine RO.nV U (n:=g.aj.length) (λH6 qo U=>?_) (hz:=by rw[iM];simp);rw[iM]at U;refine ah ?_;have U:=U.rH;refine Ru.nm λS0 M hS W=>?_;refine Ru.cA W (up (P:=λk=>∀A r R F,r.length=g.aj.length→(∀b,b<k→tR 1 ((R b).map aI) (R b).length (r.getD b .bX)∈F)→(∀b:Nat,b<k→(R b).length≤nv∧∀v:Int,v∈R b↔come.getD b false=true∧S b v)→(∀b,k≤b→b<g.aj.length→r.getD b .bX=.aP)→ai H A (tZ F::tS gp 1 r g.aj.length true (.slice qo 0 g.aj.length g.aj.length true)::(nE G I D B c g.aj.length u false vs f ap S++iN O))→Ru ab ⟨pi [.tmp p2] K,O,none⟩ S0 ([(dU,aN k)]++pk M [p1,p3,aO,dX,eC]) A) g.aj.length (λk hk ih A r R F L hF av a1 U=>?_) 0 (by omega) _ _ (λ_=>[]) [] (by simp) (λb hb=>absurd hb (by omega)) (λb hb=>absurd hb (by omega)) (λb _ hb=>by rw[bE (by simpa using hb)];simp) U);subst hS;subst W;refine Ru.loop ?_;refine au ?_;refine Ru.cond (λy=>?_) (λy=>?_)
 ·refine ah ?_;have d0:vs[0+k*1]?=some (vs.getD k .bX):=by rw[show 0+k*1=k by omega,bE (by omega)];simp
  have bd:vs.getD k .bX=.map (f k)∧k∈ap∨vs.getD k .bX=.cL∧k∉ap:=by
   by_cases J:k∈ap;·exact .inl ⟨b' k J,J⟩
   exact .inr ⟨ca k y J,J⟩
  have d1:(vs.getD k .bX).bB=true:=by rcases bd with⟨e,_⟩|⟨e,_⟩<;>rw[e]<;>rfl
  refine RO.eH U 6 (hv:=d0) ?_;generalize vs.getD k .bX=mv at bd d1;refine ah ?_;refine RO.aW ?_ (v:=aN nv) (hc:=by rw[U.gr.bh a6,dy,dz];rfl);refine ah ?_;have U:=U.oG 3 1;have d2:r.set k .aP=r:=by have:=a1 k (adW _) y;rw[bE (by omega)]at this;rw[←this];exact List.set_getElem_self _
  rw[←d2]at U;refine Ru.nm λS0 M hS W=>?_;refine Ru.cA W (up (P:=λj=>∀A(p:List Int)w,p.length≤j→(∀v:Int,v∈p↔0≤v∧v<j∧come.getD k false=true∧S k v)→ai H A (tS 3 1 (p.map aI) p.length true w::tZ F::tS gp 1 (r.set k w) g.aj.length true (.slice qo 0 g.aj.length g.aj.length true)::(nE G I D B c g.aj.length u false vs f ap S++iN O))→Ru ab ⟨pi [.tmp p2] K,O,none⟩ S0 ([(eI,aN j)]++pk M [p1,p3,aO,aQ,aZ,dX,eC,dU,eR]) A) nv (λj hj b5 A p w d3 ag U=>?_) 0 (by omega) _ [] .aP (by simp) (λv=>by simp;omega) U);subst hS;subst W;have⟨el,er,et,_⟩:=(U.sl (e:=3) (size:=1) (sv:=w) (vs:=p.map aI) (n:=p.length) (full:=true) 0).all;have bb:(r.set k w)[0+k*1]?=some w:=by rw[show 0+k*1=k by omega,List.getElem?_set_self (by omega)]
  refine Ru.loop ?_;refine au ?_;refine Ru.cond (λZ=>?_) (λZ=>?_)
  ·have b6:∀A,¬(come.getD k false=true∧S k j)→ai H A (tS 3 1 (p.map aI) p.length true w::tZ F::tS gp 1 (r.set k w) g.aj.length true (.slice qo 0 g.aj.length g.aj.length true)::(nE G I D B c g.aj.length u false vs f ap S++iN O))→_:=λA hn U=>b5 (j+1) (by omega) (by omega) A p w (by omega) (λv=>by
    rw[ag];constructor;·rintro⟨a2,cf,a3⟩;exact⟨a2,by omega,a3⟩
    rintro⟨a2,cf,a3⟩;refine⟨a2,?_,a3⟩;rcases ahz v.toNat j with e4|e4;·omega
    obtain rfl:v=(j:Int):=by omega
    exact absurd a3 hn) U;refine ah ?_;rcases bd with⟨rfl,J⟩|⟨rfl,J⟩
   ·have hat:(tS 3 1 (p.map aI) p.length true w::tZ F::tS gp 1 (r.set k w) g.aj.length true (.slice qo 0 g.aj.length g.aj.length true)::(nE G I D B c g.aj.length u false vs f ap S++iN O))[7+(ap.idxOf k+1)]?=some (tM false (f k) (S k)):=by simp only[nE,agJ];exact rS (xs:=[_,_,_,_,_,_,_]) (EG J)
    have d4:=(N.mem k).1 J;refine RO.adS U _ (λt ht=>?_) (hi:=hat) (z:=(j:Int));refine ah ?_;refine Ru.kh (λax=>?_) (λax=>?_)
    ·have d5:=ht.1 ax;refine ah ?_;refine RO.eH U 2 (hv:=bb) ?_;refine ah ?_;refine RO.push U 0 (λw0 H7 v2 U=>?_) (ws:=[aN j]);have⟨ew,e0,e3,_⟩:=(U.sl (e:=3) (size:=1) (n:=p.length+1) (full:=true) (sv:=v2) 0).all;refine ah ?_;refine RO.xK (vs:=r.set k w) (n:=g.aj.length) U 2 (by rw[ahN];exact L) (λH8 U=>?_) (k:=k) (ho:=by rw[ahN];omega);refine ah ?_;have e1:(p++[(j:Int)]).map aI=p.map aI++[aN j]:=by simp
     have e2:(p++[(j:Int)]).length=p.length+1:=by simp
     have U:ai H H8 (tS 3 1 ((p++[(j:Int)]).map aI) (p++[(j:Int)]).length true v2::tZ F::tS gp 1 (r.set k v2) g.aj.length true (.slice qo 0 g.aj.length g.aj.length true)::(nE G I D B c g.aj.length u false vs f ap S++iN O)):=by rw[e1,e2,←List.set_set (a:=w)];exact U
     exact Ru.wk (b5 (j+1) (by omega) (by omega) H8 _ v2 (by rw[e2];omega) (λv=>by
      rw[agI,ac3,ag];constructor
      ·rintro(⟨a2,cf,a3⟩|rfl);·exact⟨a2,by omega,a3⟩
       exact⟨by omega,by omega,d4,d5⟩
      rintro⟨a2,cf,a3⟩;by_cases e:v=(j:Int);·exact .inr e
      exact .inl ⟨a2,by omega,a3⟩) U)
    refine ah ?_;exact Ru.wk (b6 _ (λe4=>by rw[ht.2 e4.2]at ax;cases ax) U)
   refine RO.aeh (z:=(j:Int)) ?_;refine ah ?_;exact Ru.wk (b6 _ (λe4=>J ((N.mem k).2 e4.1)) U)
  refine Ru.exitTo ?_;obtain rfl:j=nv:=by omega
  refine ah ?_;have U:=(U.as 0 rfl λfp hp=>tS.lL hp).lJ;exact Ru.wk (ih (k+1) (by omega) (by omega) A (r.set k w) (λb=>if b=k then p else R b) _ (by simpa using L) (λb hb=>by
   rw[e9 (by omega)];by_cases e:b=k;·rw[aH e,aH e];exact adc ..
   rw[an e,an e];exact adD _ (hF b (by omega))) (λb hb=>by
   by_cases e:b=k;·subst e;rw[aH rfl];refine⟨d3,λv=>?_⟩;rw[ag];refine⟨λe4=>e4.2.2,λe4=>?_⟩;have hf:=((ba b v e4.2).Ci V.dP Q (V.rR come os Q) V.gv N e4.1);exact⟨hf.1,by have:=hf.2.1;omega,e4⟩
   rw[an e];exact av b (by omega)) (λb hb z=>by rw[e9 (by omega),an (by omega)];exact a1 b (by omega) z) U)
 refine Ru.exitTo ?_;obtain rfl:k=g.aj.length:=by omega
 refine ah ?_;refine Ru.nu (M:=O) (U.cO (ahD (l₁:=_::_::nE G I D B c g.aj.length u false vs f ap S))) λH' U=>⟨[.slice qo 0 g.aj.length g.aj.length true],⟨rfl,rfl,trivial⟩,e4 H' _ ((agV g.aj.length).map R) r F ?_ ?_ ?_⟩
 ·have e:∀b,b<g.aj.length→((agV g.aj.length).map R).getD b []=R b:=λb hb=>by rw[bE (by simpa using hb)];simp
  refine⟨by simp,λb hb v=>?_,λb hb=>?_,λb=>?_⟩;·have z:=Q.lt hb;rw[e b z,(av b z).2,eS b hb];exact⟨λe4=>e4.2,λe4=>⟨hb,e4⟩⟩
  ·by_cases z:b<g.aj.length;·rw[e b z];refine List.eq_nil_iff_forall_not_mem.2 λv hv=>?_;have:=((av b z).2 v).1 hv;rw[hb]at this;cases this.1
   rw[agY,List.getElem?_eq_none (by simpa using z)];rfl
  by_cases z:b<g.aj.length;·rw[e b z];have:=(av b z).1;omega
  rw[agY,List.getElem?_eq_none (by simpa using z)];exact Nat.zero_le _
 ·refine⟨by simpa using L,λb hb=>?_⟩;simp only[agZ,List.length_range]at hb;rw[bE (by simpa using hb)];simp only[aht,aif];exact hF b hb
 rw[L];exact U.sub (.cons_cons _ (.cons_cons _ (List.nil_sublist _)))
end
end
section
section
variable{g:G.bu}{H:af}
theorem aek(T:Tb ab)(V:Vd g){cs:List AV}(hg:iD H g cs){K:AV→af→Prop}(p:∀H' v b os j a F,dA g b os→jJ g b os j→lq j a F→ai H H' [tZ F,tS gp 1 a a.length true v]→K (.tuple [v,aI 0]) H'):YF ab (.func VI [] []) [.agg cs] H K:=by have o:=hg.one;obtain⟨h,rfl,co⟩:=hg;refine YF.code T.aaf (by simp) ?_;refine au ?_;refine RO.dS (ai.cW H) λH1 q U=>?_;refine ah ?_;refine RO.eG U 0 ?_;refine RO.cl (adZ T V (cs:=[.aC g.name,aI g.params,aI g.bi,h]) ⟨h,rfl,dH.block.jD U.gr co⟩ rfl λt u d w b os c k r i=>aej T V r i λs v j a F l m hl=>?_);have⟨n,_,_,_⟩:=(hl.sl (e:=gp) (size:=1) (sv:=v) (vs:=a) (n:=a.length) (full:=true) 1).all;refine⟨n,?_⟩;refine ah ?_;exact Ru.sB (p s v b os j a F i l m (hl.MS (U.gr.trans k)))
end
def iQ:List bU→List AV
 |[]=>[]
 |o::l=>aI o.1:: .bool (o.2==0)::iQ l
theorem Pt:∀{l:List bU}{k:Nat}(h:k<l.length),((iQ l).drop (k*2)).take 2=[aI l[k].1,.bool (l[k].2==0)]|o::l,0,_=>rfl|o::l,k+1,h=>by have:=Pt (l:=l) (k:=k) (by simpa using h);rw[show(k+1)*2=k*2+2 by omega];simpa[iQ]using this
theorem Jb:∀(a b:List bU),iQ (a++b)=iQ a++iQ b|[],b=>rfl|o::a,b=>by simp only[ahC,iQ,Jb a b]
theorem Pu:∀(l:List bU)(b:Nat),(iQ l).take (b*2)=iQ (l.take b)|[],b=>by simp[iQ]|o::l,0=>by simp[iQ]|o::l,b+1=>by rw[show(b+1)*2=b*2+2 by omega];simp only[iQ,ah7,Pu l b]
abbrev oV(H:af)(l:List bU)(v:AV):Prop:=Sl H 2 (iQ l) l.length v
abbrev Pv:bU→List AV→Prop:=λo cs=>cs=[aI o.1,.bool (o.2==0)]
theorem oV.r{H:af}{l:List bU}{v:AV}(h:oV H l v):dL 2 (λ_=>Pv) H l v:=⟨_,h,λk a=>Pt a⟩
structure yg(H:af)(fq:ac)(vb ov:AV)(svs:List AV)(n:Nat):Prop where
 lt:fq.al<H.next.al
 aF:bh H fq 3=some vb
 jG:bh H fq 5=some ov
 sl:Sl H 1 svs n ov
theorem yg.cV{H H':af}{f:ac}{d e:AV}{c:List AV}{n:Nat}(h:yg H f d e c n)(g:bf H H'):yg H' f d e c n:=⟨ag6 h.lt g.nx,by rw[g.bh h.lt];exact h.aF,by rw[g.bh h.lt];exact h.jG,g.sl h.sl⟩
section
variable{g:G.bu}{d e:AV}{f:ac}{A H:af}{us:List Th}{c:List AV}{now:List bU}
theorem ael(T:Tb ab)(a:yg H f d e c g.aj.length){b:Nat}(hb:b<g.aj.length)(hs:oV H now (c.getD b .bX))(h0:now≠ [])(m:now.length≤1000){K:AV→af→Prop}(j:∀H' o,now.getLast?=some o→bf H H'→K (.agg [aI o.1,.bool (o.2==0)]) H'):YF ab (.func Wc [] []) [.aw f 0,aN b] H K:=by
 have⟨n,_,_,_⟩:=a.sl.all;have⟨p,_,_,q⟩:=hs.all;have h:=a.jG;have i:0<now.length:=by cases now with|nil=>exact absurd rfl h0|cons _ _=>simp
 refine YF.code T.aaO (by simp) ?_;refine au ?_;refine RO.gk (ai.cW H) λH1 x U=>?_;refine ah ?_;refine RO.aW ?_ (v:=e) (hc:=by rw[U.gr.bh a.lt];exact h);refine ah ?_;refine RO.uF U.gr a.sl (λy z s _=>?_) (j:=b);refine ah ?_;refine RO.aW ?_ (v:=e) (hc:=by rw[U.gr.bh a.lt];exact h);refine ah ?_;refine RO.uF U.gr a.sl (λA B t _=>?_) (j:=b);refine ah ?_;refine RO.arith (v:=aN (now.length - 1)) ?_ (hv:=nU (by omega) (by omega));refine RO.cP U.gr (oV.r hs) (λu v w hj k _ _ hrd=>?_) (j:=now.length - 1);subst k;refine ah ?_;refine RO.iL U 0 (λl U=>?_);refine ah ?_;refine Ru.lj (vs:=[.agg [aI (now[now.length - 1]).1,.bool ((now[now.length - 1]).2==0)]]) ⟨⟨_,_,rfl,U.agg 0⟩,trivial⟩ (j l _ ?_ U.gr);rw[List.getLast?_eq_getElem?,ahr hj]
theorem aem(T:Tb ab)(v:G.Sm g)(hb:dL 7 jW A g.aj d)(r:bf A H)(j:yg H f d e c g.aj.length){b:Nat}(k:b<g.aj.length)(hs:oV H now (c.getD b .bX))(w:Cc g now)(h0:now≠ [])(l:now.length≤1000){K:AV→af→Prop}(h:∀H' o,now.getLast?=some o→bf H H'→K (aI (mD g o)) H'):YF ab (.func VY [] []) [.aw f 0,aN b] H K:=by
 have⟨z,_,_,_⟩:=hb.all;have m:=j.aF;have B:=v.nb;refine YF.code T.aay (by simp) ?_;refine ah ?_;refine RO.Ed (ael T j k hs h0 l λH1 o s a=>⟨by rw[a.bh j.lt];exact m,?_⟩) (hvs:=hb.bS);obtain⟨h1,h2,h3⟩:=w.ok o (List.mem_of_getLast? s);obtain⟨t,u⟩:∃t:Nat,o.1=(t:Int):=⟨o.1.toNat,by omega⟩;have h:=h H1 o s a;simp only[mD,u,agK]at h3 h;have n:t<g.aj.length:=by omega
 rw[bE n]at h3 h;rw[u];refine ah ?_;refine RO.cP (r.trans a) hb (λx o2 c2 C p _ hat _=>?_) (j:=t);obtain⟨F,I,J,rfl,_,_,L,M,y,rfl,_,_,i⟩:=p;have⟨D,_,_,_⟩:=i.all;refine ah ?_;refine RO.aW (i:=x) (o:=o2+2+4) (v:=y) ?_ (hc:=hat 6 _ rfl);refine RO.cP (r.trans a) i (λN o3 c3 E q _ hat _=>?_) (hj:=by omega);obtain⟨v3,rfl,_⟩:=q;refine ah ?_;refine Ru.aT ?_;rw[bE (by omega)]at h;exact h
end
end
section
theorem Pw(T:Tb ab){B H:af}{size n:Nat}{d:List AV}{v:AV}(hs:Sl B size d n v):YF ab (.func VX [] []) [v] H λe H'=>e=vY v n∧H'=H:=by
 have⟨hd,_,_,g⟩:=hs.all;refine YF.code T.aax (by simp) ?_;refine au ?_;rcases hs with⟨rfl,rfl,rfl⟩|⟨i,o,cap,ex,h,m,j,f,aK,fz,rfl,hg,k,hl,l,hi,b⟩;·refine RO.Bo (m:=0) (b:=0) (a:=0) rfl rfl rfl rfl ?_;refine au ?_;exact Ru.aT ⟨rfl,rfl⟩
 refine RO.G7 (m:=n) (b:=n) (a:=0) (v:=.slice i o n n true) rfl (by show nJ (aN n) cap=_;exact sF b) (by show nJ (aN n) n=_;exact sF (adW n)) rfl (by simp) (by simp) ?_;refine au ?_;exact Ru.aT ⟨rfl,rfl⟩
def aen(W:List (Int×List bU))(b:List bU)(nv:AV)(k:Nat)(args:List AV)(d:List Th):Prop:=
 ∃(h:k<W.length)(v:AV),args=[aI W[k].1,v]∧v.bB=true∧v.dQ=true∧v.cells=[v]∧((d=[]∧∀H,oV H b nv→oV H W[k].2 v)∨d=[tS MX 2 (iQ W[k].2) W[k].2.length true v])
section
variable{g:G.bu}{c:AV}{a:ac}{A H:af}{us:List Th}
theorem Px(T:Tb ab){b:Nat}{K:AV→af→Prop}(f:∀H' d e,ai H H' [tB 3 e [aN b],tB lF d [.aw a 0]]→K (.func D0 [] [.aw d 0,.aw e 0]) H'):YF ab (.func VJ [] []) [.aw a 0,aN b] H K:=by refine YF.code T.aag (by simp) ?_;refine au ?_;refine RO.dS (ai.cW H) λH1 d U=>?_;refine RO.dS U λg e U=>?_;refine au ?_;exact Ru.aT (f _ d e U)
theorem Py(T:Tb ab)(hB:G.Sm g)(hb:dL 7 jW A g.aj c){b:Nat}{now:List bU}{nv:AV}{q1 N:ac}(hE:IJ g b)(hO:Cc g now)(bv:now.length≤1000)(ar:(g.aj.getD b default).aq.op=68→now≠ []):zW ab A (.func D0 [] [.aw q1 0,.aw N 0]) (cI g b now).length (aen (cI g b now) now nv) [tB 3 N [aN b],tB lF q1 [.aw a 0]] (λH=>∃ov Q,yg H a c ov Q g.aj.length∧Q.getD b .bX=nv∧oV H now nv) (λH=>oV H now nv):=by
 intro y J D t us H K ds dv dx B i s U hR l;obtain⟨ov,Q,O,av,hs⟩:=hR;have hA:=U.gr;have⟨b0,_,_,dy⟩:=O.sl.all;have⟨ax,b3,b4,dz⟩:=hs.all;have⟨d0,d1,_,d2⟩:=hb.all;have d3:=O.aF;have b5:=O.jG;have b6:bh H q1 0=some (.aw a 0):=by obtain⟨_,m⟩:=U.get 1 rfl;exact tB.cell m rfl
 have b':bh H N 0=some (aN b):=by obtain⟨_,m⟩:=U.get 0 rfl;exact tB.cell m rfl
 have ca:q1.al<H.next.al:=by obtain⟨_,m⟩:=U.get 1 rfl;obtain⟨_,_,_,_,_,h⟩:=m;exact h
 have cd:N.al<H.next.al:=by obtain⟨_,m⟩:=U.get 0 rfl;obtain⟨_,_,_,_,_,h⟩:=m;exact h
 obtain⟨q,I⟩:=hE;rw[bE q]at I ar;refine YF.code T.aaw (by simp) ?_;refine ah ?_;refine RO.cP hA hb (λq3 o3 c3 d4 ay _ hat hrd=>?_) (j:=b);have c':=ay.one;obtain⟨vp,vs,jc,rfl,_,_,hj⟩:=ay;have d5:=hj.one;obtain⟨va,vk,vg,rfl,d6,d7,n⟩:=hj;have⟨C,_,_,d'⟩:=n.all;refine ah ?_;refine RO.fZ ?_ (hc:=Iz (k:=2) (m:=5) hrd (by decide));refine ah ?_;refine RO.uF (bf.refl H) O.sl (λq4 o4 a1 cf=>?_) (j:=b);rw[av]at a1;refine ah ?_;refine RO.gk (ai.cW H) λH1 q5 hl=>?_;refine RO.IA hl 0 (λH2 hl=>⟨λaa d=>?_,?_⟩);·have hg:=hl.gr;refine gQ d rfl rfl ax hs.bS (by rw[hg.bh cf];exact a1) (gQ (v:=aN b) d rfl rfl rfl (by simp[hZ,fM,fA]) (by rw[hg.bh cd];exact b') (gQ d rfl rfl b0 O.sl.bS (by rw[hg.bh O.lt];exact b5) (gQ (v:=.aw a 0) d rfl rfl rfl (by simp[hZ,fM,ac.gT]) (by rw[hg.bh ca];exact b6) rfl)))
 have a2:=hl.gr;have U:=U.fF hl;refine ah ?_;have E:(g.aj.getD b default).aq=(g.aj[b]).aq:=by rw[bE q]
 refine Ru.cond (λ(r:(g.aj[b]).aq.op=67)=>?_) (λ(r:¬(g.aj[b]).aq.op=67)=>?_)
 ·have h3:=I r;have a6:∀k(h:k<2),∃h':k<(cI g b now).length,(cI g b now)[k]=(((g.aj[b]).aq.go[k]'(by omega)).block,now++[((b:Int),k)]):=λk h=>by
   have u:cI g b now=[(((g.aj[b]).aq.go[0]'(by omega)).block,now++[((b:Int),0)]),(((g.aj[b]).aq.go[1]'(by omega)).block,now++[((b:Int),1)])]:=by simp only[cI,E,aH r];rw[bE (by omega),bE (by omega)]
   refine⟨by rw[u];simpa using h,?_⟩;simp only[u];match k,h with|0,_=>rfl|1,_=>rfl
  have cn:(cI g b now).length=2:=by simp only[cI,E,aH r];rfl
  obtain⟨a8,a'⟩:=a6 0 (by omega);obtain⟨ba,bb⟩:=a6 1 (by omega);have cp:=B 0 t _ H2 s (ai.gC (xs:=[_,_,_]) U);refine ah ?_;refine RO.ID U.gr n (λq8 o8 dr cv he _ f=>?_) (j:=0) (hj:=by omega);obtain⟨v8,rfl,_⟩:=he;refine ah ?_;refine RO.aW ?_ (hc:=f 0 _ rfl U.gr);refine ah ?_;refine RO.kZ U 2 (ws:=[aN b,.bool true]) (λH4 q9 U=>?_);refine RO.IB (v:=vY nv now.length) (λH0 _ _=>Pw T hs) (λP p R=>?_);have U:=U.bS R p;have V:=B 0 t _ P s (ai.gC (xs:=[_,_,_,_]) U);have w:bh P N 0=some (aN b):=by obtain⟨_,m⟩:=U.get 2 rfl;exact tB.cell m rfl
  have x:bh P q5 4=some vg:=by obtain⟨_,m⟩:=U.get 1 rfl;exact tB.cell m rfl
  refine⟨λaa d=>gQ (v:=aN b) d rfl rfl rfl (by simp[hZ,fM,fA]) w (gQ (v:=aI ((g.aj[b]).aq.go[0]'(by omega)).block) d rfl rfl rfl (by simp[hZ,fM,fA]) (f 0 _ rfl U.gr) (gQ d rfl rfl C (n.bS) x rfl)),?_⟩;refine RO.IC U (IK V) (U.sl 0) (λH5 v5 _ U=>?_);have z:bh H5 q5 4=some vg:=by obtain⟨_,m⟩:=U.get 2 rfl;exact tB.cell m rfl
  refine⟨λaa d=>gQ (v:=aI ((g.aj[b]).aq.go[0]'(by omega)).block) d rfl rfl rfl (by simp[hZ,fM,fA]) (f 0 _ rfl U.gr) (gQ d rfl rfl C (n.bS) z rfl),?_⟩;have W:Sl H5 2 (iQ now++[aN b,.bool true]) (now.length+1) v5:=U.sl 0;have⟨X,Y,Z,_⟩:=W.all;have e5:iQ (now++[((b:Int),0)])=iQ now++[aN b,.bool true]:=Jb _ _;have e6:(now++[((b:Int),0)]).length=now.length+1:=by simp
  rw[←e5,←e6]at U;refine ah ?_;refine RO.cl ((i 0 [aI ((g.aj[b]).aq.go[0]'(by omega)).block,v5] [_] t _ _ a8 ⟨a8,v5,by rw[a'],X,Y,Z,.inr (by rw[a'])⟩ s (U.cO (ahq _ (uE (xs:=[_,_,_,_]))))).mono ?_);rintro v H3⟨j,U,hc⟩;rcases hc with⟨rfl,s⟩|⟨rfl,h⟩
  ·have U:=ai.lE (xs:=[_,_,_,_]) U;have cp:=B 1 j _ _ s (ai.gC (xs:=[_,_,_,_]) U);refine ah ?_;refine RO.ID U.gr n (λq8 o8 dr cv he _ f=>?_) (j:=1) (hj:=by omega);obtain⟨v8,rfl,_⟩:=he;refine ah ?_;refine RO.aW ?_ (hc:=f 0 _ rfl U.gr);refine ah ?_;refine RO.kZ U 2 (ws:=[aN b,.bool false]) (λH4 q9 U=>?_);refine RO.IB (v:=vY nv now.length) (λH0 _ _=>Pw T hs) (λP p R=>?_);have U:=U.bS R p;have V:=B 1 j _ P s (ai.gC (xs:=[_,_,_,_,_]) U);have w:bh P N 0=some (aN b):=by obtain⟨_,m⟩:=U.get 3 rfl;exact tB.cell m rfl
   have x:bh P q5 4=some vg:=by obtain⟨_,m⟩:=U.get 2 rfl;exact tB.cell m rfl
   refine⟨λaa d=>gQ (v:=aN b) d rfl rfl rfl (by simp[hZ,fM,fA]) w (gQ (v:=aI ((g.aj[b]).aq.go[1]'(by omega)).block) d rfl rfl rfl (by simp[hZ,fM,fA]) (f 0 _ rfl U.gr) (gQ d rfl rfl C (n.bS) x rfl)),?_⟩;refine RO.IC U (IK V) (U.sl 0) (λH5 v5 _ U=>?_);have z:bh H5 q5 4=some vg:=by obtain⟨_,m⟩:=U.get 3 rfl;exact tB.cell m rfl
   refine⟨λaa d=>gQ (v:=aI ((g.aj[b]).aq.go[1]'(by omega)).block) d rfl rfl rfl (by simp[hZ,fM,fA]) (f 0 _ rfl U.gr) (gQ d rfl rfl C (n.bS) z rfl),?_⟩;have W:Sl H5 2 (iQ now++[aN b,.bool false]) (now.length+1) v5:=U.sl 0;have⟨X,Y,Z,_⟩:=W.all;have e5:iQ (now++[((b:Int),1)])=iQ now++[aN b,.bool false]:=Jb _ _;have e6:(now++[((b:Int),1)]).length=now.length+1:=by simp
   rw[←e5,←e6]at U;refine ah ?_;refine RO.cl ((i 1 [aI ((g.aj[b]).aq.go[1]'(by omega)).block,v5] [_] j _ _ ba ⟨ba,v5,by rw[bb],X,Y,Z,.inr (by rw[bb])⟩ s (U.cO (ahq _ (uE (xs:=[_,_,_,_,_]))))).mono ?_);rintro v H3⟨j,U,hc⟩;refine ah ?_;refine Ru.aq (vs:=[]) trivial (l _ j _ (by rw[←agJ]at U;exact U.skip) ?_);rcases hc with⟨_,h⟩|⟨_,h⟩;·left;rw[cn];exact h
   exact .inr h
  refine ah ?_;exact Ru.aq (vs:=[]) trivial (l _ j _ (by rw[←agJ]at U;exact U.skip) (.inr h))
 refine ah ?_;refine Ru.cond (λ(F:(g.aj[b]).aq.op=68)=>?_) (λ(F:¬(g.aj[b]).aq.op=68)=>?_)
 ·have h0:=ar F;have dm:0<now.length:=by cases now with|nil=>exact absurd rfl h0|cons _ _=>simp
  have u:cI g b now=match now.getLast? with|some o=>[(mD g o,now.take (now.length - 1))]|none=>[]:=by simp only[cI,E,an r,aH F]<;>rfl
  refine ah ?_;refine RO.arith (v:=aN (now.length - 1)) ?_ (hv:=nU (by omega) (by omega));refine ah ?_;refine RO.n8 hs (b:=now.length - 1) ?_;have L:∀H',oV H' now nv→oV H' (now.take (now.length - 1)) (n8 nv (now.length - 1)):=λH' h=>by
   have e:(now.take (now.length - 1)).length=now.length - 1:=by rw[ahl];omega
   show Sl H' 2 (iQ _) _ _;rw[e,←Pu];exact B6 h (by omega)
  have⟨cx,cy,cE,_⟩:=(L _ hs).all;refine RO.cl (aem T hB hb U.gr (O.cV a2) q (by rw[av];exact a2.sl hs) hO h0 bv λH3 o ag c8=>?_);have U:=U.cV c8;rw[ag]at u;simp only at u;rw[u]at i l;refine RO.cl ((i 0 [aI (mD g o),n8 nv (now.length - 1)] [] t _ _ (by simp) ⟨by simp,_,rfl,cx,cy,cE,.inl ⟨rfl,L⟩⟩ s (ai.gC (xs:=[_,_,_]) U)).mono ?_);rintro v H3⟨j,U,hc⟩;refine ah ?_;refine Ru.aq (vs:=[]) trivial (l _ j _ (by rw[←agJ]at U;exact U.skip) ?_);rcases hc with⟨_,h⟩|⟨_,h⟩;·exact .inl h
  exact .inr h
 have u:cI g b now=(g.aj[b]).aq.go.map λe=>(e.block,now):=by simp only[cI,E,an r,an F]
 have ea:=hB.bl _ (af0 q);refine ah ?_;refine Ru.nm λS M hS hM=>?_;refine Ru.cA hM (up (P:=λk=>∀HX t,J k t→ai A HX (tB sH q5 _::([tB 3 N [aN b],tB lF q1 [.aw a 0]]++t++us))→Ru ab _ S ([(b7,aN k)]++pk M [p0,p5,cC,ct]) HX) (g.aj[b]).aq.go.length (λk hk ih HX t s U=>?_) 0 (by omega) _ t s U);subst hS;subst hM;refine Ru.loop ?_;refine au ?_;refine Ru.cond (λbc=>?_) (λbc=>?_)
 ·refine au ?_;refine RO.cP U.gr n λq6 o6 c6 eb he _ hat hrd=>?_;have c9:=he.one;obtain⟨v6,rfl,_⟩:=he;refine ah ?_;refine RO.fG U λH5 q7 U=>?_;refine ah ?_;have bd:k<(cI g b now).length:=by rw[u,agZ];exact bc
  refine RO.cl ((i k [aI ((g.aj[b]).aq.go[k]).block,nv] [] t _ _ bd ⟨bd,nv,by simp only[u,aht],ax,b3,b4,.inl ⟨rfl,λH' h=>by simp only[u,aht];exact h⟩⟩ s (ai.gC (xs:=[_,_,_,_]) U)).mono ?_);rintro v H3⟨j,U,hc⟩;rcases hc with⟨rfl,h⟩|⟨rfl,h⟩;·refine ah ?_;exact Ru.wk (ih (k+1) (by omega) (by omega) _ _ h (ai.lE (xs:=[_,_,_,_]) U).tail)
  refine ah ?_;exact Ru.nS (vs:=[]) trivial (l _ j _ (by rw[←agJ]at U;exact U.skip) (.inr h))
 refine Ru.exitTo ?_;refine ah ?_;refine Ru.aq (vs:=[]) trivial (l _ t _ U.tail.tail.tail (.inl ?_));rw[u,agZ,show(g.aj[b]).aq.go.length=k by omega];exact s
end
end
section
structure FX(g:G.bu)(H:af)(fq:ac)(vb ov av lvv:AV)(svs:List AV)(come:List Bool)(os:List (List bU))(ap:List Nat)(lv:List (List Int)):Prop where
 ro:yg H fq vb av svs g.aj.length
 bl:dL 7 jW H g.aj vb
 c1:bh H fq 1=some (aI g.params)
 c2:bh H fq 2=some (aI g.bi)
 c4:bh H fq 4=some ov
 od:Sl H 1 (ap.map aN) ap.length ov
 c6:bh H fq 6=some lvv
 sl:Cm H lv lvv
 op:∀b,come.getD b false=true→oV H (os.getD b []) (svs.getD b .bX)
theorem FX.cV{g:G.bu}{H H':af}{d:ac}{a h e p:AV}{c:List AV}{come:List Bool}{os:List (List bU)}{ap:List Nat}{f:List (List Int)}(o:FX g H d a h e p c come os ap f)(hg:bf H H'):FX g H' d a h e p c come os ap f:=by have hl:=o.ro.lt;obtain⟨h1,h2,h3,i,j,k,l,m,n⟩:=o;exact⟨h1.cV hg,dH.block.jD hg h2,by rw[hg.bh hl];exact h3,by rw[hg.bh hl];exact i,by rw[hg.bh hl];exact j,hg.sl k,by rw[hg.bh hl];exact l,dH.Pp.jD hg m,λb hb=>hg.sl (n b hb)⟩
section
variable{g:G.bu}{come z:List Bool}{os u:List (List bU)}
theorem dA.bS(c:iO g)(f:dA g come os)(e:dA g z u){b:Nat}(hb:come.getD b false=true):z.getD b false=true∧u.getD b []=os.getD b []:=e.qD c (f.dP b hb)
theorem Lv.bS(c:iO g)(n:dA g come os)(j:dA g z u){b:Nat}{v:Int}(hl:Lv g os b v):come.getD b false=true→Lv g u b v:=by
 induction hl with
 |pj h1 h2=>intro _;exact .pj h1 h2
 | @lO b w v k _ f i=>
  intro hb;have e:wW g u b=wW g os b:=by simp only[wW,(n.bS c j hb).2]
  exact .lO (by rw[e];exact k) (i (n.lO hb k)) f
 | @rN b t v l _ f i=>intro hb;obtain⟨_,_,_,_,m,_⟩:=wd c n hb l;exact .rN (by rw[(n.bS c j hb).2];exact l) (i m) f
theorem jJ.bS{i:List (List Int)}(e:iO g)(k:dA g come os)(f:dA g z u)(hl:jJ g come os i):jJ g z u i:=by
 refine⟨hl.len,λb hb v=>?_,λb hb=>hl.Ja b ?_,hl.kq⟩;·have c:=(f.bS e k hb).1;rw[hl.mem b c];exact⟨λx=>x.bS e k f c,λx=>x.bS e f k hb⟩
 cases j:come.getD b false with|false=>rfl|true=>rw[(k.bS e f j).1]at hb;cases hb
end
theorem kr{L:Kn}{e c cs r:List AV}{off size:Nat}{x:aG}{v:AV}{b:List (Nat×Nat×aG)}(f:aV L x=v)(hd:v.bB=true)(g:v.cells=cs)(hs:cs.length=size)(hl:tw e off cs=some c)(i:pQ L c b=some r):pQ L e ((off,size,x)::b)=some r:=by simp[f,hd,g,hs,hl,i,pQ,decide_true,aiq,bm]
theorem Pz{size:Nat}{l w:List AV}{n m:Nat}{nv v:AV}(g:∀H,Sl H size l n nv→Sl H size w m v){H:af}{f:List ac}(F:(tR size l n nv).P H f):(tR size w m v).P H f:=by
 obtain⟨h1,h2,h3⟩:=F;refine⟨g H h1,λi o m c e D=>?_,h3⟩;apply ahe;intro hi;have E:Sl (H.set i .none) size l n nv:=by
  rcases h1 with F|⟨r,x,cap,ex,y,A,B,j,aK,fz,b,k,C⟩;·exact .inl F
  have t:r≠i:=λe=>hi (e▸h2 _ _ _ _ _ b);exact .inr ⟨r,x,cap,ex,y,A,B,j,aK,fz,b,by rw[af.aD,an t];exact k,C⟩
 have b:=g _ E;subst D;rcases b with⟨F,_⟩|⟨r,x,cap,ex,y,A,B,j,aK,fz,b,k,C⟩;·cases F
 injection b with b;subst b;rw[af.aD,aH rfl]at k;cases k
section
variable{g:G.bu}{a h p:AV}{d s q:ac}{A H:af}{us:List Th}
def we(g:G.bu)(a h p:AV)(d s q:ac)(ap:List Nat)(b:List AV)(F:List Th):List Th:=[tB Vi d [.aC g.name,aI g.params,aI g.bi,a,h,.slice q 0 g.aj.length g.aj.length true,p],tS Hi 1 b g.aj.length true (.slice q 0 g.aj.length g.aj.length true),tB lF s [.aw d 0],tZ F,tS 3 1 (ap.map aN) ap.length true h]
theorem aeo(T:Tb ab)(V:Vd g){cs:List AV}(hg:iD H g cs){K:AV→af→Prop}(hK:∀H' d a h c9 p i come os ap lv,dA g come os→iP g come os ap→jJ g come os lv→bf H H'→FX g H' d a h c9 p i come os ap lv→K (.tuple [.aw d 0,aI 0]) H'):YF ab (.func Vt [] []) [.agg cs] H K:=by
 have cE:=hg.one;have hB:=V.sm;have c':=hB.nb;obtain⟨a,rfl,co⟩:=hg;have⟨dr,ds,dv,a6⟩:=co.all;refine YF.code T.Z1 (by simp) ?_;refine au ?_;refine RO.dS (ai.cW H) λH1 q1 U=>?_;refine ah ?_;refine RO.eG U 0 ?_;refine RO.cl (ad0 T V (cs:=[.aC g.name,aI g.params,aI g.bi,a]) ⟨a,rfl,dH.block.jD U.gr co⟩ λH2 h come os ap n P hl=>?_);have U:=U.fF hl;have⟨a8,dx,a',dy⟩:=(hl.sl (e:=3) (size:=1) (sv:=h) (vs:=ap.map aN) (n:=ap.length) (full:=true) 0).all;have dz:ap.length≤g.aj.length:=xV _ _ P.nd λx L=>n.lt ((P.mem x).1 L);refine ah ?_;refine RO.eG U 1 ?_;refine ah ?_;refine RO.nV U (n:=g.aj.length) (λH3 q U=>?_) (hz:=by rw[iM];simp);rw[iM]at U;refine ah ?_;refine RO.build (vs:=[.aC g.name,aI g.params,aI g.bi,a,h,.slice q 0 g.aj.length g.aj.length true,.aP]) ?_ (hl:=kr rfl rfl rfl rfl rfl (kr rfl a8 a' rfl rfl (kr rfl rfl rfl rfl rfl rfl)));refine RO.dS U (λH4 d U=>?_) (v:=.agg [.aC g.name,aI g.params,aI g.bi,a,h,.slice q 0 g.aj.length g.aj.length true,.aP]);refine RO.fG U λH5 s U=>?_;refine ah ?_;refine RO.eG U 4 ?_;have d0:d.al<H5.next.al:=by obtain⟨_,A⟩:=U.get 1 rfl;obtain⟨_,_,_,_,_,d'⟩:=A;exact d'
 have ba:s.al<H5.next.al:=by obtain⟨_,A⟩:=U.get 0 rfl;obtain⟨_,_,_,_,_,d'⟩:=A;exact d'
 have bb:bh H5 s 0=some (.aw d 0):=by obtain⟨_,A⟩:=U.get 0 rfl;exact tB.cell A rfl
 refine RO.Ed (aek T V (cs:=[.aC g.name,aI g.params,aI g.bi,a]) ⟨a,rfl,dH.block.jD U.gr co⟩ λH6 p cy d1 lv r F2 bc Q bd R=>⟨by rw[R.gr.bh ba];exact bb,?_⟩) (hvs:=by simp[hZ,fM,ac.gT]);have Q:=Q.bS V.dP bc n;have⟨bv,b0,b3,_⟩:=(R.sl (e:=gp) (size:=1) (sv:=p) (vs:=r) (n:=r.length) (full:=true) 1).all;have U:ai H H6 ([_,_,_,_,_]++[tZ F2,tS gp 1 r r.length true p]):=(U.fF R).cO ahD;refine ah ?_;refine RO.fU U 1 (λH7 U=>?_);refine ah ?_;have U:=(((((U.oG 222 2).as 0 rfl λfp A=>tS.lL A).rH.cO (ahw ..)).lJ.fO 1 rfl).fO 3 rfl).fO 3 rfl;have U:ai H H7 (we g a h p d s q ap (af3 g.aj.length .aP) [tR 2 (iQ []) 0 .aP]++(iN []++[tB fC q1 [.aC g.name,aI g.params,aI g.bi,a],tZ F2,tS gp 1 r r.length true p])):=U;refine Ru.nm λS0 M hS hM=>?_;refine Ru.cA hM (up (P:=λk=>∀HX W i F,i.length=g.aj.length→(∀x,come.getD x false=true→(x=0∨∃y∈ap.take k,x∈wW g os y)→tR 2 (iQ (os.getD x [])) (os.getD x []).length (i.getD x .bX)∈F)→ai H HX (we g a h p d s q ap i F++(iN W++[tB fC q1 [.aC g.name,aI g.params,aI g.bi,a],tZ F2,tS gp 1 r r.length true p]))→Ru ab ⟨pi [.tmp p2,.tmp p3] K,W,none⟩ S0 ([(dc,aN k)]++pk M [p6,cB,bZ]) HX) ap.length (λk hk ih HX W i F b4 hF U=>?_) 0 (by omega) _ [] _ _ (by simp) (λx L d'=>?_) U);rotate_left
 ·rcases d' with rfl|⟨y,E,_⟩;·have b5:=n.lt n.c0;rw[(n.qD V.dP .zero).2,bE (by simpa using b5)];simp
  simp at E
 subst hS;subst hM;refine Ru.loop ?_;refine au ?_;refine Ru.cond (λC=>?_) (λC=>?_)
 ·have b6:=af0 C;have J:=(P.mem _).1 b6;have Z:ap.take (k+1)=ap.take k++[ap[k]]:=(agX C).symm;have N:=P.aK (ap.take k) ap[k] (ap.drop (k+1)) (by conv=>lhs;rw[←ahR k ap,agR C]);have ag:=hF _ J N;refine ah ?_;refine RO.jX (bf.refl _) (U.sl (e:=3) (size:=1) (sv:=h) (vs:=ap.map aN) (n:=ap.length) (full:=true) 4) (λq5 o5 d2 d3=>?_) (j:=k);have ih:=ih (k+1) (by omega) (by omega);rw[Z]at ih;clear Z N;generalize ap[k]=b at*;have B:=n.dP b J;have a6:=n.lt J;have b':(g.aj.getD b default).aq.op=68→os.getD b []≠ []:=λca e=>by obtain⟨o,ho,_⟩:=(V.rR come os n).en b J ca;rw[e]at ho;cases ho
  generalize a1:os.getD b []=now at*;generalize cd:i.getD b .bX=nv at*;refine ah ?_;refine RO.cl (Px T λH8 ar av hl=>?_);have U:ai H H8 ([tB 3 av [aN b],tB lF ar [.aw d 0]]++we g a h p d s q ap i F++(iN W++[tB fC q1 [.aC g.name,aI g.params,aI g.bi,a],tZ F2,tS gp 1 r r.length true p])):=U.fF hl;refine ah ?_;refine Ru.wk (L:=[(de,.func D0 [] [.aw ar 0,.aw av 0]),(p6,.aw s 0),(cB,h),(bZ,aN ap.length),(dc,aN k)]) ?_;refine Ru.qz (J:=λm ts=>∃c G,c.length=g.aj.length∧tR 2 (iQ now) now.length nv∈G∧(∀x,come.getD x false=true→(x=0∨(∃y∈ap.take k,x∈wW g os y)∨∃w∈(cI g b now).take m,x=w.1.toNat)→tR 2 (iQ (os.getD x [])) (os.getD x []).length (c.getD x .bX)∈G)∧ts=we g a h p d s q ap c G) (Dn:=λ_ _=>False) U (Py T hB co (b:=b) (now:=now) (nv:=nv) (V.dP.aF B) (V.dP.jG B).1 (by have:=(V.dP.jG B).2;omega) b') (λH2 hg=>?_) ⟨i,F,b4,ag,λx L d'=>hF x L (by rcases d' with d'|d'|⟨w,D,_⟩;exact .inl d';exact .inr d';simp at D),rfl⟩ (λk args ws d'=>by obtain⟨_,v,rfl,_⟩:=d';rfl) (λm ts us H' X U=>?_) (λm args ws ts us l o1 o2 H' hm cf X U=>?_) (λH' cn dm X U=>?_) (λj H' cn dm _ d'=>d'.elim)
  ·have U:=U.cV hg;have I:∀(o:Nat)(v:AV),([.aC g.name,aI g.params,aI g.bi,a,h,.slice q 0 g.aj.length g.aj.length true,p]:List AV)[o]?=some v→bh H2 d o=some v:=λo v d'=>by obtain⟨_,A⟩:=U.get 2 rfl;exact tB.cell A d'
   have S:d.al<H2.next.al:=by obtain⟨_,A⟩:=U.get 2 rfl;obtain⟨_,_,_,_,_,d'⟩:=A;exact d'
   obtain⟨f,Y,_⟩:=U.mC 5 rfl ag;exact⟨_,i,⟨S,I 3 _ rfl,I 5 _ rfl,U.sl 3⟩,cd,Y⟩
  ·obtain⟨c,G,_,h2,_,rfl⟩:=X;obtain⟨f,Y,_⟩:=U.mC 3 rfl h2;exact Y
  ·obtain⟨c,G,g1,g2,g3,rfl⟩:=X;obtain⟨ax,v,rfl,bv,b0,b3,cp⟩:=cf;have U:ai H H' (we g a h p d s q ap c (tR 2 (iQ (cI g b now)[m].2) (cI g b now)[m].2.length v::G)++tX l o1::us):=by
    rcases cp with⟨rfl,a2⟩|rfl;·exact((U.fO 3 rfl).N6 g2 (t':=tR 2 (iQ (cI g b now)[m].2) (cI g b now)[m].2.length v) λf d'=>Pz a2 d').cO (ag1 (l₁:=[_,_,_])).symm
    have h5:=U.as 0 rfl λfp A=>tS.lL A;have h6:=h5.cO (ahq _ (ag1 (l₁:=[_,_,_])));exact(ai.lJ h6).cO (ag1 (l₁:=[_,_,_])).symm
   have ay:(cI g b now)[m]∈cI g b now:=af0 ax;obtain⟨d4,d5⟩:=V.dP.Cd B _ ay;have cv:=kP.step B ay;obtain⟨t,ht⟩:∃t:Nat,(cI g b now)[m].1=(t:Int):=⟨(cI g b now)[m].1.toNat,by omega⟩;have d6:t<g.aj.length:=by omega
   have cx:(cI g b now).take (m+1)=(cI g b now).take m++[(cI g b now)[m]]:=(agX ax).symm;have O:=(n.qD V.dP cv).2;rw[ht,agK]at O;rw[ht];refine au ?_;refine Ru.dO (xs:=we g a h p d s q ap c (tR 2 (iQ (cI g b now)[m].2) (cI g b now)[m].2.length v::G)) U λH9 U=>?_;refine ah ?_;refine RO.xK U 1 g1 (λd7 U=>?_) (k:=t);refine ah ?_;refine Ru.bD (ts:=we g a h p d s q ap (c.set t v) (tR 2 (iQ (cI g b now)[m].2) (cI g b now)[m].2.length v::G)) U ⟨_,_,by simpa using g1,adD _ g2,λx L d'=>?_,rfl⟩;rw[e9 (by omega)];by_cases e:x=t;·rw[aH e,e,O];exact adc ..
   rw[an e];refine adD _ (g3 x L ?_);rcases d' with d'|d'|⟨w,D,d'⟩;·exact .inl d'
   ·exact .inr (.inl d')
   rw[cx]at D;rcases agI.1 D with D|D;·exact .inr (.inr ⟨w,D,d'⟩)
   rw[ac3]at D;subst D;rw[ht,agK]at d';exact absurd d' e
  obtain⟨c,G,g1,g2,g3,rfl⟩:=X;rw[ah2]at g3;refine ah ?_;exact Ru.wk (ih H' (dm::W) c G g1 (λx L d'=>g3 x L (by
   rcases d' with d'|⟨y,E,d'⟩;·exact .inl d'
   rcases agI.1 E with E|E;·exact .inr (.inl ⟨y,E,d'⟩)
   rw[ac3]at E;subst E;simp only[wW,lN,a1,ag3]at d';obtain⟨w,D,d'⟩:=d';exact .inr (.inr ⟨w,D,d'.symm⟩))) U)
 refine Ru.exitTo ?_;rw[ag2 (by omega)]at hF;refine ah ?_;have U:=ai.gC (xs:=we g a h p d s q ap i F) (by rw[agJ];exact U);refine Ru.nu (M:=W) U λH' U=>⟨[.aw d 0,aI 0],⟨rfl,rfl,rfl,rfl,trivial⟩,?_⟩;have I:∀(o:Nat)(v:AV),([.aC g.name,aI g.params,aI g.bi,a,h,.slice q 0 g.aj.length g.aj.length true,p]:List AV)[o]?=some v→bh H' d o=some v:=λo v d'=>by obtain⟨_,A⟩:=U.get 0 rfl;exact tB.cell A d'
 have S:d.al<H'.next.al:=by obtain⟨_,A⟩:=U.get 0 rfl;obtain⟨_,_,_,_,_,d'⟩:=A;exact d'
 refine hK H' d a h _ p i come os ap lv n P Q U.gr ⟨⟨S,I 3 _ rfl,I 5 _ rfl,U.sl 1⟩,dH.block.jD U.gr co,I 1 _ rfl,I 2 _ rfl,I 4 _ rfl,U.sl 4,I 6 _ rfl,bd.sl U 6 rfl (U.sl (e:=gp) (size:=1) (full:=true) 7),λb hb=>?_⟩;have:b=0∨∃y∈ap,b∈wW g os y:=by
  obtain⟨da,c8,e⟩:=List.append_of_mem ((P.mem b).2 hb);rcases P.aK _ _ _ e with d'|⟨y,E,d'⟩;·exact .inl d'
  exact .inr ⟨y,by rw[e];exact agU _ E,d'⟩
 obtain⟨f,Y,_⟩:=U.mC 3 rfl (hF b hb this);exact Y
end
end
section
def qE(g:G.bu)(x:Int):Int:=((aF g (x.toNat/2)).aq.go.getD 2 default).block
def kR(g:G.bu)(b:Nat)(o:List Int):List (Int×List Int):=
 if(aF g b).aq.op=67 then[(((aF g b).aq.go.getD 0 default).block,o++[2*(b:Int)]),(((aF g b).aq.go.getD 1 default).block,o++[2*(b:Int)+1])]
 else if(aF g b).aq.op=68 then(if o.length=0 then[]else[(qE g (o.getD (o.length - 1) 0),o.take (o.length - 1))])
 else(aF g b).aq.go.map λe=>(e.block,o)
def wg(g:G.bu)(o:List Int):Prop:=∀x∈o,0≤x∧x.toNat/2<g.aj.length∧(aF g (x.toNat/2)).aq.go.length=3
def qF(w:List (Int×List Int))(a:Nat→AV):List AV:=(agV w.length).flatMap λk=>[aI (w.getD k (0,[])).1,a k]
def aep(o:List Int)(c:AV)(w:List (Int×List Int))(a:Nat→AV)(F:List Th):Prop:=∀k,k<w.length→tR 1 ((w.getD k (0,[])).2.map aI) (w.getD k (0,[])).2.length (a k)∈F∨∀b,Sl b 1 (o.map aI) o.length c→Sl b 1 ((w.getD k (0,[])).2.map aI) (w.getD k (0,[])).2.length (a k)
theorem Cn{b c:Type}{f g:b→List c}:∀{l:List b},(∀x∈l,f x=g x)→l.flatMap f=l.flatMap g|[],_=>rfl|a::l,h=>by rw[ah8,ah8,h a (adc ..),Cn λx d=>h x (adD _ d)]
theorem aeq{w:List (Int×List Int)}{x:Int×List Int}{a:Nat→AV}:qF (w++[x]) a=qF w a++[aI x.1,a w.length]:=by
 unfold qF;rw[agP,ahj,ahO,ahn,ahu];congr 1;·refine Cn λk b=>?_;rw[ahV]at b;simp[ahd b]
 simp
theorem _root_.Go.ak.ai.PA{A H:af}{t:Th}{a:List Th}(U:ai A H (t::a)):ai A H (tZ [t]::a):=(U.rH.cO (ahw t (tZ []) a)).lJ
section
variable{g:G.bu}{H:af}{cs:List AV}
theorem aer(T:Tb ab)(hg:iD H g cs)(hB:G.Sm g){b:Nat}(hb:b<g.aj.length)(n:(aF g b).aq.op=67→(aF g b).aq.go.length=3){o:List Int}{a:AV}(q:iy H o a)(c9:o.length≤1000)(hO:wg g o){K:AV→af→Prop}(h:∀H' wv vs F,aep o a (kR g b o) vs F→ai H H' [tZ F,tS mW 2 (qF (kR g b o) vs) (kR g b o).length true wv]→K wv H'):YF ab (.func VO [] []) [.agg cs,aN b,a] H K:=by
 have cn:=hg.one;obtain⟨vb,rfl,co⟩:=hg;have⟨c',_,_,dm⟩:=co.all;have⟨Y,dr,Z,ds⟩:=q.all;have dv:=hB.nb;have ag:=af0 hb;have dx:=hB.bl _ ag;have l:aF g b=g.aj[b]:=by rw[aF,bE hb]
 rw[l]at n;refine YF.code T.aao (by simp) ?_;refine ah ?_;refine RO.dS (ai.cW H) λH1 q3 U=>?_;refine ah ?_;refine RO.cP U.gr co (λq1 o1 c1 ar p av hat hrd=>?_) (j:=b);unfold kR at h;rw[l]at h;generalize dy:g.aj[b]=B at*;obtain⟨vp,dz,jc,rfl,d0,d1,va,vk,vg,rfl,ax,ay,c⟩:=p;have⟨d2,_,_,d3⟩:=c.all;have⟨d4,d5,_,_⟩:=ax.all;have⟨d6,d7,_,_⟩:=ay.all;have d':=c.dQ;have cp:=Iz (k:=2) (m:=5) hrd (by decide);refine ah ?_;refine RO.rj U 2 λH2 N U=>?_;have⟨ea,_,_,_⟩:=(U.sl (e:=mW) (size:=2) (sv:=N) (vs:=[]) (n:=0) (full:=true) 0).all;refine RO.fG U λH3 q7 U=>?_;have U:ai H H3 [tB sH q7 [aU B.aq.op,va,.aC B.aq.name,vk,vg],tS mW 2 [] 0 true N,tB fC q3 [.aC g.name,aI g.params,aI g.bi,vb]]:=U;refine ah ?_;refine Ru.cond (λE=>?_) (λE=>?_)
 ·have n:=n E;rw[aH E]at h;have s:ir .mul 3 (.ofNat 2) (.ofNat b)=some (aI (2*(b:Int))):=by simp only[ir];rw[show(ahI 2*ahI b:Int)=2*(b:Int)from rfl,pP (by omega) (by omega)]
  refine ah ?_;refine RO.rj U 1 λH4 a1 U=>?_;have⟨eb,_,_,_⟩:=(U.sl (e:=3) (size:=1) (sv:=a1) (vs:=[]) (n:=0) (full:=true) 0).all;refine ah ?_;refine RO.pT U 0 (U.gr.sl q) (λH5 a2 U=>?_) (h1:=ri _);have⟨ec,_,_,_⟩:=(U.sl (e:=3) (size:=1) (sv:=a2) (vs:=[]++o.map aI) (n:=0+o.length) (full:=true) 0).all;refine ah ?_;refine RO.arith ?_ (hv:=s);refine RO.push U 0 (λw1 H6 v9 U=>?_) (ws:=[aI (2*(b:Int))]);have⟨a6,ei,a8,_⟩:=(U.sl (e:=3) (size:=1) (n:=0+o.length+1) (full:=true) (sv:=v9) 0).all;refine ah ?_;refine RO.rj U 1 λH7 a' U=>?_;have⟨ej,_,_,_⟩:=(U.sl (e:=3) (size:=1) (sv:=a') (vs:=[]) (n:=0) (full:=true) 0).all;refine ah ?_;refine RO.pT U 0 (U.gr.sl q) (λH8 ba U=>?_) (h1:=ri _);have⟨ek,_,_,_⟩:=(U.sl (e:=3) (size:=1) (sv:=ba) (vs:=[]++o.map aI) (n:=0+o.length) (full:=true) 0).all;refine ah ?_;refine RO.arith ?_ (hv:=s);refine RO.add ?_ (a:=2*(b:Int)) (b:=1);refine RO.push U 0 (λw1 H9 j U=>?_) (ws:=[aI (2*(b:Int)+1)]);have⟨C,cv,D,_⟩:=(U.sl (e:=3) (size:=1) (n:=0+o.length+1) (full:=true) (sv:=j) 0).all;refine ah ?_;refine RO.cP U.gr c (λO P c8 bb d t hat hrd=>?_) (j:=0);obtain⟨Q,rfl,_⟩:=d;refine ah ?_;refine RO.build (vs:=[aI B.aq.go[0].block,v9]) ?_ (hl:=kr rfl rfl rfl rfl rfl (kr rfl a6 a8 rfl rfl rfl));refine ah ?_;refine RO.cP U.gr c (λO P c8 cx d t hat hrd=>?_) (j:=1);obtain⟨Q,rfl,_⟩:=d;refine ah ?_;refine RO.build (vs:=[aI B.aq.go[1].block,j]) ?_ (hl:=kr rfl rfl rfl rfl rfl (kr rfl C D rfl rfl rfl));refine RO.kZ U 2 (ws:=[aI B.aq.go[0].block,v9,aI B.aq.go[1].block,j]) (n:=2) (λHA bc U=>?_) (hl:=kr rfl rfl rfl rfl rfl (kr rfl rfl rfl rfl rfl rfl));refine RO.pT U 4 (U.sl (e:=mW) (size:=2) (n:=2) (full:=true) 0) (λR f U=>?_);have⟨bd,_,_,_⟩:=(U.sl (e:=mW) (size:=2) (n:=0+2) (full:=true) (sv:=f) 4).all;refine ah ?_;have e1:∀x:Int,[]++o.map aI++[aI x]=(o++[x]).map aI:=λx=>by simp
  have e2:∀x:Int,0+o.length+1=(o++[x]).length:=λx=>by simp
  have bv:=((U.sub (.cons _ (.cons_cons _ (.cons_cons _ (.cons _ (.cons_cons _ (.cons _ .slnil))))))).as 0 rfl λfp S=>tS.lL S).as 1 rfl λfp S=>tS.lL S;have u:=((((bv.cO (ahw _ _ _)).PA).cO (ahw _ _ _)).lJ);rw[e1,e1,e2 (2*(b:Int))]at u;have V:B.aq.go.getD 0 default=B.aq.go[0]:=bE (by omega) _;have b0:B.aq.go.getD 1 default=B.aq.go[1]:=bE (by omega) _;rw[V,b0]at h;refine Ru.aT (h R f (λk=>if k=0 then v9 else j) _ (λk r=>.inl ?_) u);match k,r with|0,_=>simp|1,_=>simp
 rw[an E]at h;refine ah ?_;refine Ru.cond (λW=>?_) (λW=>?_)
 ·rw[aH W]at h;refine ah ?_;refine Ru.cond (λX=>?_) (λX=>?_);·rw[aH X]at h;refine ah ?_;exact Ru.aT (h _ N (λ_=>.aP) [] (λk r=>absurd r (by simp)) (U.sub (.cons _ (.cons_cons _ (.cons _ .slnil)))).rH)
  rw[an X]at h;have i:o.length - 1<o.length:=by omega
  refine ah ?_;refine RO.arith (v:=aN (o.length - 1)) ?_ (hv:=nU (k:=o.length) (by omega) (by omega));refine RO.oH U.gr q (λO P hj el=>?_) (j:=o.length - 1);have v:=hO _ (af0 i);have b3:o.getD (o.length - 1) 0=o[o.length - 1]:=bE i _;rw[b3]at h;generalize o[o.length - 1]=x at*;obtain⟨x,rfl⟩:∃y:Nat,x=y:=⟨x.toNat,by omega⟩;rw[qE,agK]at h;rw[agK]at v;obtain⟨_,b4,z⟩:=v;have hq:ir .quo 3 (x:Int) (.ofNat 2)=some (aN (x/2)):=by simp only[ir];rw[an (by decide),show((x:Int).tdiv (ahI 2))=((x/2:Nat):Int)from by rw[agL,Int.tdiv_eq_ediv_of_nonneg (by omega)];simp,pP (by omega) (by omega)];rfl
  refine ah ?_;refine RO.arith ?_ (hv:=hq);refine RO.cP U.gr co (λq1 o1 c1 ar p av hat hrd=>?_) (j:=x/2);rw[aF,bE b4]at z h;generalize g.aj[x/2]=B2 at*;obtain⟨er,cy,et,rfl,_,_,ew,e0,b5,rfl,_,_,m⟩:=p;have⟨cE,_,_,_⟩:=m.all;refine ah ?_;refine RO.aW (v:=b5) ?_ (hc:=hat 6 _ rfl);refine RO.cP U.gr m (λO P c8 bb d t hat hrd=>?_) (j:=2);obtain⟨Q,rfl,_⟩:=d;refine ah ?_;refine RO.arith (v:=aN (o.length - 1)) ?_ (hv:=nU (k:=o.length) (by omega) (by omega));refine RO.n8 (U.gr.sl q) (b:=o.length - 1) ?_;have A:=λI(hs:Sl I 1 (o.map aI) o.length a)=>B6 hs (b:=o.length - 1) (by omega);have⟨b6,_,b',_⟩:=(A _ q).all;refine RO.build (vs:=[aI B2.aq.go[2].block,n8 a (o.length - 1)]) ?_ (hl:=kr rfl rfl rfl rfl rfl (kr rfl b6 b' rfl rfl rfl));refine RO.kZ U 2 (ws:=[aI B2.aq.go[2].block,n8 a (o.length - 1)]) (n:=1) (λHA bc U=>?_) (hl:=kr rfl rfl rfl rfl rfl rfl);refine RO.pT U 2 (U.sl (e:=mW) (size:=2) (n:=1) (full:=true) 0) (λR f U=>?_);have⟨bd,_,_,_⟩:=(U.sl (e:=mW) (size:=2) (n:=0+1) (full:=true) (sv:=f) 2).all;refine ah ?_;have V:B2.aq.go.getD 2 default=B2.aq.go[2]:=bE (by omega) _;rw[V]at h;refine Ru.aT (h R f (λk=>n8 a (o.length - 1)) [] (λk r=>.inr λI hs=>?_) (U.sub (.cons _ (.cons _ (.cons_cons _ (.cons _ .slnil))))).rH);have ca:k=0:=by simpa using r
  subst ca;have:=A I hs;rw[ah9,←List.map_take]at this;simpa using this
 rw[an W]at h;refine ah ?_;refine Ru.nm λS0 M hS hM=>?_;refine Ru.cA hM (up (P:=λk=>∀J w,ai H J [tB sH q7 [aU B.aq.op,va,.aC B.aq.name,vk,vg],tS mW 2 (qF ((B.aq.go.take k).map λe=>(e.block,o)) λ_=>a) k true w,tB fC q3 [.aC g.name,aI g.params,aI g.bi,vb]]→Ru ab _ S0 ([(aZ,aN k),(p8,w)]++pk M [p2,p7]) J) B.aq.go.length (λk r L J w U=>?_) 0 (by omega) _ _ U);subst hS;subst hM;have⟨e3,_,_,_⟩:=(U.sl (e:=mW) (size:=2) (sv:=w) (n:=k) (full:=true) 1).all;refine Ru.loop ?_;refine ah ?_;refine Ru.cond (λi=>?_) (λi=>?_);·have L:=L (k+1) (by omega) (by omega);rw[(agX i).symm,ahk,List.map_singleton,aeq]at L;refine ah ?_;refine RO.cP U.gr c (λq9 o9 e8 e4 cd e5 hat hrd=>?_) (j:=k);generalize B.aq.go[k]=e at*;obtain⟨Q,rfl,e6⟩:=cd;refine ah ?_;refine RO.build (vs:=[aI e.block,a]) ?_ (hl:=kr rfl rfl rfl rfl rfl (kr rfl Y Z rfl rfl rfl));refine RO.push U 1 (λw0 H5 v2 U=>?_) (ws:=[aI e.block,a]);have⟨e7,_,_,_⟩:=(U.sl (e:=mW) (size:=2) (n:=k+1) (full:=true) (sv:=v2) 1).all;refine ah ?_;exact Ru.wk (L _ v2 U)
 refine Ru.exitTo ?_;rw[ag2 (by omega)]at U;have cf:k=(B.aq.go.map λe=>(e.block,o)).length:=by rw[agZ];omega
 refine ah ?_;refine Ru.aT (h J w (λ_=>a) [] (λx hx=>.inr λI hs=>?_) ?_)
 ·have z:x<B.aq.go.length:=by simpa using hx
  have e:((B.aq.go.map λe=>(e.block,o)).getD x (0,[])).2=o:=by rw[bE hx,aht]
  rw[e];exact hs
 rw[←cf];exact(U.sub (.cons _ (.cons_cons _ (.cons _ .slnil)))).rH
end
end
section
theorem RO.aes{A H:af}{j:List Th}{c:Cx}{s:List SI}{L:Kn}{d:Option ac}{l:List aS}{e n k cap:Nat}{b ex:Bool}{q:ac}{m:Type}{f:m→AV}{zs:List m}(U:ai A H j)(i:Nat)(z:m)(o:zs.length=n){a x:aG}{re:List i9}(h:∀H',ai A H' (j.set i (tS e 1 ((zs.set k z).map f) n b (.slice q 0 n cap ex)))→(∀aa,Le (bA L d .aiw) aa→fh aa H' re=true)∧RO ab c l s (bA L d .aiw) H')(p:aV L a=.aw q (0+k*1):=by(conv=>lhs;whnf)<;>rfl)(r:aV L x=f z:=by(conv=>lhs;whnf)<;>rfl)(hi:j[i]?=some (tS e 1 (zs.map f) n b (.slice q 0 n cap ex)):=by rfl)(t:k<zs.length:=by first|omega|assumption)(u:(f z).dQ=true:=by first|rfl|assumption)(v:(f z).cells=[f z]:=by first|rfl|assumption)(hd:(f z).bB=true:=by first|rfl|assumption):RO ab c (⟨d,.store 1 a x,none,[],re⟩::l) s L H:=by subst o;obtain⟨C,w,_,hu⟩:=U.jV i hi;obtain⟨H',h1,h2,h3⟩:=MV.set (k:=k) w t z u;have:=hu (t':=tS e 1 ((zs.set k z).map f) (zs.set k z).length b (.slice q 0 (zs.set k z).length cap ex)) h2 h3;rw[ahN]at this;obtain⟨y,B⟩:=h H' this;refine RO.DI (λ_ _ h=>by cases h) (λ_ h=>by cases h) (λaa g=>⟨H',?_,rfl⟩) y B;simp only[eM,aB,g.gv p rfl,g.gv r hd,v,ahj,bm,h1]
theorem aet(T:Tb ab){H:af}{l m:List Int}{v w:AV}(g:iy H l v)(j:iy H m w)(hl:l.length≤1000000){K:AV→af→Prop}(h1:l=m→K (.bool true) H)(h2:l≠m→K (.bool false) H):YF ab (.func Vo [] []) [v,w] H K:=by
 have⟨s,t,u,x⟩:=g.all;have⟨y,z,A,B⟩:=j.all;refine YF.code T.ZW (by simp) ?_;refine ah ?_;refine Ru.cond (λa=>?_) (λa=>?_);·refine ah ?_;exact Ru.aT (h2 λe=>a (by rw[e]))
 have a:l.length=m.length:=by omega
 refine ah ?_;refine Ru.nm λS M p n=>?_;refine Ru.cA n (up (P:=λk=>(∀i(h:i<l.length)(b:i<m.length),i<k→l[i]=m[i])→Ru ab _ S ([(p5,aN k)]++pk M [p0,p1]) H) l.length (λk C q o=>?_) 0 (by omega) (λi _ _ hi=>by omega));subst p;subst n;refine Ru.loop ?_;refine ah ?_;refine Ru.cond (λd=>?_) (λd=>?_)
 ·refine ah ?_;refine RO.oH (bf.refl H) g (λr o1 hj f=>?_) (j:=k);refine ah ?_;refine RO.oH (bf.refl H) j (λr o1 hj f=>?_) (j:=k);refine ah ?_;refine Ru.cond (λc=>?_) (λc=>?_);·refine ah ?_;exact Ru.aT (h2 λe=>c (by subst e;rfl))
  refine ah ?_;refine Ru.wk (q (k+1) (by omega) (by omega) λi h b hi=>?_);by_cases e:i=k;·subst e;exact Classical.not_not.1 c
  exact o i h b (by omega)
 refine Ru.exitTo ?_;refine ah ?_;exact Ru.aT (h1 (ahU a λi h b=>o i h b (by omega)))
structure me(g:G.bu):Prop where
 ne:0<g.aj.length
 t3:∀b,b<g.aj.length→(aF g b).aq.op=67→(aF g b).aq.go.length=3
 rg:∀b,b<g.aj.length→∀e∈(aF g b).aq.go,1≤e.block∧e.block≤(g.aj.length:Int) - 1
theorem rO.sh{g:G.bu}(h:rO g):me g:=by
 have hb:∀b,b<g.aj.length→xQ g (aF g b).aq:=λb hb=>by rw[aF,bE hb];exact h.B4 _ (af0 hb)
 refine⟨h.ne,λb c d=>?_,λb c e he=>?_⟩;·have:=(hb b c).ae;generalize(aF g b).aq.go.length=n at*;generalize(aF g b).aq.args.length=a at*;cases this<;>simp_all
 obtain⟨i,hi,rfl⟩:=agS he;have:=(hb b c).Er i hi;exact⟨this.lo,this.hi⟩
inductive lr(g:G.bu)(wo:Int):Nat→List Int→Prop
 |zero(h:wo≠0):lr g wo 0 []
 |step{b:Nat}{o:List Int}{w:Int×List Int}(h:lr g wo b o)(hw:w∈kR g b o)(hn:w.1≠wo):lr g wo w.1.toNat w.2
section
variable{g:G.bu}{wo:Int}
theorem wg.vF{o:List Int}{x:Int}(h:wg g o)(b:0≤x∧x.toNat/2<g.aj.length∧(aF g (x.toNat/2)).aq.go.length=3):wg g (o++[x]):=λy a=>by
 rcases agI.1 a with a|a;·exact h y a
 rw[ac3]at a;subst a;exact b
theorem uJ(d:me g){b:Nat}(hb:b<g.aj.length){o:List Int}(c:wg g o):∀w∈kR g b o,(1≤w.1∧w.1≤(g.aj.length:Int) - 1)∧wg g w.2∧w.2.length≤o.length+1:=by
 intro w a;unfold kR at a;split at a
 ·rename_i f;have h3:=d.t3 b hb f;have h:=d.rg b hb;have e1:(2*(b:Int)).toNat/2=b:=by omega
  have e2:(2*(b:Int)+1).toNat/2=b:=by omega
  simp only[adC,ag0,or_false]at a;rcases a with rfl|rfl;·refine⟨h _ (by rw[bE (by omega)];exact af0 _),c.vF ⟨by omega,by rw[e1];exact hb,by rw[e1];exact h3⟩,by simp⟩
  refine⟨h _ (by rw[bE (by omega)];exact af0 _),c.vF ⟨by omega,by rw[e2];exact hb,by rw[e2];exact h3⟩,by simp⟩
 split at a
 ·split at a;·cases a
  rename_i h0;rw[ac3]at a;subst a;have i:=af0 (l:=o) (n:=o.length - 1) (by omega);obtain⟨_,h2,h3⟩:=c _ i;refine⟨?_,λx j=>c x (List.mem_of_mem_take j),by rw[ahl];omega⟩;show 1≤qE g _∧_;rw[bE (by omega),qE];exact d.rg _ h2 _ (by rw[bE (by omega)];exact af0 _)
 obtain⟨e,he,rfl⟩:=ag3.1 a;exact⟨d.rg b hb e he,c,by simp⟩
theorem lr.ok(a:me g){b:Nat}{o:List Int}(h:lr g wo b o):b<g.aj.length∧wg g o:=by induction h with|zero _=>exact⟨a.ne,λx d=>by cases d⟩|step _ e _ c=>obtain⟨⟨h1,h2⟩,h3,_⟩:=uJ a c.1 c.2 _ e;exact⟨by omega,h3⟩
structure kS(g:G.bu)(wo:Int)(come:List Bool)(az:List (List Int)):Prop where
 lc:come.length=g.aj.length
 lo:az.length=g.aj.length
 c0:wo≠0→come.getD 0 false=true
 Ja:∀b,come.getD b false=false→az.getD b []=[]
 snd:∀b,come.getD b false=true→lr g wo b (az.getD b [])
 kq:∀b,come.getD b false=true→(az.getD b []).length+kQ come<g.aj.length
def z8(wo:Int)(a:List Bool)(az:List (List Int))(b:Bool)(w:Int×List Int):Prop:=w.1=wo∨a.getD w.1.toNat false=true∧(b=false→az.getD w.1.toNat []=w.2)
def nF(g:G.bu)(wo:Int)(a:List Bool)(az:List (List Int))(c:Bool)(b:Nat):Prop:=a.getD b false=true→∀w∈kR g b (az.getD b []),z8 wo a az c w
theorem kS.add(k:me g){a:List Bool}{az:List (List Int)}(h:kS g wo a az){b:Nat}{w:Int×List Int}(hb:a.getD b false=true)(l:w∈kR g b (az.getD b []))(m:w.1≠wo)(n:a.getD w.1.toNat false=false):kS g wo (a.set w.1.toNat true) (az.set w.1.toNat w.2):=by
 have d:=h.lc;have f:=h.lo;obtain⟨j,o⟩:=(h.snd b hb).ok k;obtain⟨⟨h1,h2⟩,h3,q⟩:=uJ k j o _ l;have i:w.1.toNat<g.aj.length:=by omega
 have r:=h.kq b hb;have p:=vZ (by rw[d];exact i) n;refine⟨by simpa using d,by simpa using f,λh0=>?_,λx c=>?_,λx c=>?_,λx c=>?_⟩
 ·rw[e9 (by rw[d];exact i)];split;·rfl
  exact h.c0 h0
 ·rw[e9 (by rw[d];exact i)]at c;rw[e9 (by rw[f];exact i)];split;·rename_i e;rw[aH e]at c;cases c
  rename_i e;rw[an e]at c;exact h.Ja x c
 ·rw[e9 (by rw[d];exact i)]at c;rw[e9 (by rw[f];exact i)];split;·rename_i e;subst e;exact .step (h.snd b hb) l m
  rename_i e;rw[an e]at c;exact h.snd x c
 rw[e9 (by rw[d];exact i)]at c;rw[e9 (by rw[f];exact i)];split;·omega
 rename_i e;rw[an e]at c;have:=h.kq x c;omega
end
end
section
theorem _root_.Go.ak.ai.aeu{A H:af}{F G:List Th}{b:List Th}(U:ai A H (tZ F::tZ G::b)):ai A H (tZ (F++G)::b):=by
 refine U.lJ.as 0 rfl λd a=>⟨λu hu=>?_,a.2⟩;rcases agI.1 hu with hu|hu;·obtain⟨f,e,c⟩:=a.1 _ (adc ..);obtain⟨g,h,i⟩:=c.1 u hu;grind
 exact a.1 u (adD _ hu)
theorem _root_.Go.ak.ai.aev{A H:af}{F G:List Th}{b:List Th}(U:ai A H (tZ F::b))(h:∀t∈G,∃t0∈F,∀c f,t0.P c f→t.P c f):ai A H (tZ (G++F)::b):=by
 refine U.as 0 rfl λd a=>⟨λu hu=>?_,a.2⟩;rcases agI.1 hu with hu|hu;·obtain⟨t0,h0,h1⟩:=h u hu;obtain⟨f,e,g⟩:=a.1 _ h0;grind
 exact a.1 u hu
theorem lq.IN{c:List (List Int)}{a:List AV}{F G:List Th}(h:lq c a F)(hs:∀t∈F,t∈G):lq c a G:=⟨h.len,λb hb=>hs _ (h.mem b hb)⟩
theorem lq.set{c:List (List Int)}{a:List AV}{F:List Th}(h:lq c a F){t:Nat}(d:t<c.length){l:List Int}{v:AV}(f:tR 1 (l.map aI) l.length v∈F):lq (c.set t l) (a.set t v) F:=by
 have hl:=h.len;refine⟨by grind,λb hb=>?_⟩;rw[ahN]at hb;rw[e9 d,e9 (by omega)];by_cases e:b=t;·grind
 rw[an e,an e];exact h.mem b hb
theorem Jc{w:List (Int×List Int)}{vs:Nat→AV}:∀n,((agV n).flatMap λk=>[aI (w.getD k (0,[])).1,vs k]).length=n*2|0=>rfl|n+1=>by rw[ahO,ahn,agP,Jc n];simp;omega
theorem aew{w:List (Int×List Int)}{vs:Nat→AV}{k:Nat}(a:k<w.length):(qF w vs)[0+k*2]?=some (aI (w.getD k (0,[])).1)∧(qF w vs)[0+k*2+1]?=some (vs k):=by unfold qF;obtain⟨d,hd⟩:∃d,w.length=k+1+d:=⟨w.length - (k+1),by omega⟩;rw[hd,agW];clear hd a;induction d with|zero=>rw[ail,ahO,ahn,ahu];have hl:=Jc (w:=w) (vs:=vs) k;grind|succ d b=>have hl:=Jc (w:=w) (vs:=vs) (k+1+d);grind[ah3,ahO,ahd]
def yh(f h i d e:ac)(g:G.bu)(j:AV)(F:List Th)(a:List Bool)(b:List AV)(c:Bool):List Th:=[tZ F,tB zF f [.slice d 0 g.aj.length g.aj.length true,.slice e 0 g.aj.length g.aj.length true,.bool c],tS Hj 1 b g.aj.length true (.slice e 0 g.aj.length g.aj.length true),tS 4 1 (a.map .bool) g.aj.length true (.slice d 0 g.aj.length g.aj.length true),tB zF h [.aP,.aP,.bool false],tB fC i [.aC g.name,aI g.params,aI g.bi,j]]
section
variable{g:G.bu}{wo:Int}{H:af}{cs:List AV}
theorem kS.zero(i:me g):kS g wo (if wo≠0 then(af3 g.aj.length false).set 0 true else af3 g.aj.length false) (af3 g.aj.length []):=by
 have a:=i.ne;have c:∀b,(af3 g.aj.length ([]:List Int)).getD b []=[]:=λb=>by simp only[agY,ahL];split<;>rfl
 have f:∀b,(af3 g.aj.length false).getD b false=false:=λb=>by simp only[agY,ahL];split<;>rfl
 by_cases h:wo≠0
 ·rw[aH h];have j:∀b,((af3 g.aj.length false).set 0 true).getD b false=true→b=0:=λb hb=>by
   rw[e9 (by simpa using a)]at hb;by_cases e:b=0;·exact e
   rw[an e,f]at hb;cases hb
  have d:=vZ (come:=af3 g.aj.length false) (k:=0) (by simpa using a) (f 0);rw[Ce]at d;refine⟨by simp,by simp,λ_=>by grind,λb _=>c b,λb hb=>?_,λb hb=>?_⟩;·rw[c,j b hb];exact .zero h
  grind
 rw[an h];exact⟨by simp,by simp,λh0=>absurd h0 h,λb _=>c b,λb hb=>(by grind),λb hb=>(by grind)⟩
theorem Jd(T:Tb ab)(hg:iD H g cs)(hB:G.Sm g)(hS:me g)(d6:g.aj.length≤30){K:AV→af→Prop}(h:∀H' P L l F c az p,kS g wo c az→(∀b,nF g wo c az p b)→lq az l F→ai H H' [tZ F,tS Hj 1 l g.aj.length true (.slice L 0 g.aj.length g.aj.length true),tS 4 1 (c.map .bool) g.aj.length true (.slice P 0 g.aj.length g.aj.length true)]→K (.agg [.slice P 0 g.aj.length g.aj.length true,.slice L 0 g.aj.length g.aj.length true,.bool p]) H'):YF ab (.func Vy [] []) [.agg cs,aI wo] H K:=by
 have d7:=hg.one;have cp:=hg;obtain⟨vb,rfl,co⟩:=hg;have⟨ei,_,_,ej⟩:=co.all;have cv:=hS.ne;refine YF.code T.Z6 (by simp) ?_;refine au ?_;refine RO.dS (ai.cW H) λH1 Y U=>?_;refine RO.gk U λH2 S U=>?_;refine ah ?_;refine RO.nV U (n:=g.aj.length) (λH3 P U=>?_) (hz:=by rw[iM];simp);refine ah ?_;refine RO.nV U (n:=g.aj.length) (λH4 L U=>?_) (hz:=by rw[iM];simp);refine ah ?_;refine RO.fG U λH5 V U=>?_;have U:=U.oG 3 1;have U:=(U.as 0 rfl λfp hp=>tS.lL hp).PA;rw[iM,iM]at U;have U:ai H H5 (yh V S Y P L g vb [tR 1 [] 0 .aP] (af3 g.aj.length false) (af3 g.aj.length .aP) false):=by unfold yh;rw[aie];exact U
 have f:lq (af3 g.aj.length []) (af3 g.aj.length .aP) [tR 1 [] 0 .aP]:=⟨by simp,λb hb=>by rw[ahM]at hb;rw[bE (by simpa using hb),bE (by simpa using hb),List.getElem_replicate,List.getElem_replicate];exact adc ..⟩;refine RO.nil ?_;refine Ru.seq ?_;refine Ru.xP (P:=λM H'=>M=[(p1,aI wo),(p2,.aw Y 0),(p4,.aw S 0),(p5,aN g.aj.length),(p6,.aw V 0)]∧ai H H' (yh V S Y P L g vb [tR 1 [] 0 .aP] (if wo≠0 then(af3 g.aj.length false).set 0 true else af3 g.aj.length false) (af3 g.aj.length .aP) false)) (λM H6⟨hM,U⟩=>?_) (λs' q=>?_);rotate_left
 ·refine ah ?_;refine Ru.cond (λu=>?_) (λu=>?_);·have u:wo≠0:=u;rw[aH u]at q;refine ah ?_;refine RO.ml (f:=AV.bool) (zs:=af3 g.aj.length false) U 3 true (n:=g.aj.length) (ahM ..) (λH6 U=>?_) (k:=0) (ho:=by simpa using cv);refine ah ?_;exact q _ _ _ ⟨rfl,U⟩ (by repeat'(first|exact trivial|refine⟨rfl,?_⟩))
  have u:¬wo≠0:=u;rw[an u]at q;refine ah ?_;exact q _ _ _ ⟨rfl,U⟩ (by repeat'(first|exact trivial|refine⟨rfl,?_⟩))
 subst hM;have r:=kS.zero (wo:=wo) hS;generalize(if wo≠0 then(af3 g.aj.length false).set 0 true else af3 g.aj.length false)=d4 at*;generalize [tR 1 [] 0 .aP]=F0 at*;generalize af3 g.aj.length AV.aP=d' at*;generalize af3 g.aj.length ([]:List Int)=ea at*;refine ah ?_;refine Ru.nm λS0 M cx hM=>?_;refine Ru.cA hM (dn (P:=λm=>∀B c az l F p C,(if C=true then kQ c+1 else 0)=m→kS g wo c az→lq az l F→(C=false→∀b,nF g wo c az p b)→ai H B (yh V S Y P L g vb F c l p)→Ru ab _ S0 ([(p7,.bool C)]++pk M [p1,p2,p4,p5,p6]) B) (λm ih B c az l F p C cy r f y U=>?_) _ _ _ _ _ _ false true rfl r f (λh=>by cases h) U);subst cx;subst hM;refine Ru.loop ?_;refine ah ?_;refine Ru.kh (λay=>?_) (λay=>?_)
 ·subst ay;simp only[bm]at cy;refine ah ?_;refine Ru.nm λS1 M1 cE a'=>?_;refine Ru.cA a' (up (P:=λk=>∀B c az l F p C,(C=true→kQ c+1<m)→kQ c+1≤m→kS g wo c az→lq az l F→(C=false→∀b,b<k→nF g wo c az p b)→ai H B (yh V S Y P L g vb F c l p)→Ru ab _ S1 ([(p8,aN k),(p7,.bool C)]++pk M1 [p1,p2,p4,p5,p6]) B) g.aj.length (λb hb a1 B c az l F p C A D r f y U=>?_) 0 (by omega) _ c az l F p false (λh=>by cases h) (by omega) r f (λ_ b hb=>by omega) U);subst cE;subst a';refine Ru.loop ?_;refine ah ?_;refine Ru.cond (λba=>?_) (λba=>?_)
  ·have bb:=r.lc;have bc:=r.lo;have bd:=f.len;refine ah ?_;refine RO.rj U 2 λH6 v9 U=>?_;have⟨ek,_,_,el⟩:=(U.sl (e:=mW) (size:=2) (sv:=v9) (vs:=[]) (n:=0) (full:=true) 0).all;refine RO.bg ?_;refine RO.nil ?_;refine Ru.seq ?_;refine Ru.xP (P:=λM H'=>∃w vs F' W,M=[(p9,W),(p1,aI wo),(p2,.aw Y 0),(p4,.aw S 0),(p5,aN g.aj.length),(p6,.aw V 0),(p7,.bool C),(p8,aN b)]∧(c.getD b false=true→w=kR g b (az.getD b []))∧(c.getD b false=false→w=[])∧w.length≤12∧(∀k,k<w.length→tR 1 ((w.getD k (0,[])).2.map aI) (w.getD k (0,[])).2.length (vs k)∈F')∧lq az l F'∧ai H H' (tS mW 2 (qF w vs) w.length true W::yh V S Y P L g vb F' c l p)) (λM H7⟨w,vs,F',W,hM,bv,c8,eb,c9,f,U⟩=>?_) (λs' q=>?_);rotate_left
   ·have c':(c.map AV.bool)[0+b*1]?=some (.bool (c.getD b false)):=by rw[show 0+b*1=b by omega,ahc,getElem?_pos c b (by omega),bE (by omega)];rfl
    refine ah ?_;refine RO.eH U 4 (hv:=c') ?_;refine ah ?_;refine Ru.kh (λu=>?_) (λu=>?_)
    ·have dm:l[0+b*1]?=some (l.getD b .bX):=by rw[show 0+b*1=b by omega,getElem?_pos l b (by omega),bE (by omega)]
     have hF:=f.mem b (by omega);obtain⟨_,b0,_,_⟩:=U.mC 1 rfl hF;have⟨er,_,_,_⟩:=b0.all;obtain⟨E,a2⟩:=(r.snd b u).ok hS;have cn:=r.kq b u;refine ah ?_;refine RO.eG U 6 ?_;refine ah ?_;refine RO.eH U 3 (hv:=dm) ?_;refine RO.cl (aer T (dH.mU U.gr cp) hB E (hS.t3 b E) b0 (by omega) a2 λH7 W vs Fw dr hl=>?_);have U:=U.fF hl;have X:=(hl.sl (e:=mW) (size:=2) (sv:=W) (full:=true) (vs:=qF (kR g b (az.getD b [])) vs) (n:=(kR g b (az.getD b [])).length) 1).all.1;refine ah ?_;have ds:=((U.sub (.cons_cons _ (.cons_cons _ (.cons _ (ahB _))))).cO (ahq _ (ahw _ _ _))).aeu;have dv:(kR g b (az.getD b [])).length≤12:=by
      have:=(hB.bl _ (af0 E)).2.2.2.2.1;unfold kR;split;·simp
      split;·split<;>simp
      rw[agZ,aF,bE E];omega
     generalize kR g b (az.getD b [])=w at*;have dx:=(ds.aev (G:=(agV w.length).map λk=>tR 1 ((w.getD k (0,[])).2.map aI) (w.getD k (0,[])).2.length (vs k)) λt N=>by
      obtain⟨k,hk,rfl⟩:=ag3.1 N;rw[ahV]at hk;rcases dr k hk with h9|h9;·exact⟨_,agU _ h9,λ_ _ h=>h⟩
      exact⟨_,ag7 _ hF,λ_ _ h=>Pz h9 h⟩).cO (ahw _ _ _);exact q _ _ _ ⟨w,vs,_,W,rfl,λ_=>rfl,λh=>(by rw[u]at h;cases h),dv,λk hk=>agU _ (ag3.2 ⟨k,ahV.2 hk,rfl⟩),f.IN λt N=>ag7 _ (ag7 _ N),dx⟩ (by repeat'(first|exact trivial|refine⟨rfl,?_⟩))
    refine ah ?_;exact q _ _ _ ⟨[],λ_=>.aP,F,v9,rfl,λh=>(by rw[u]at h;cases h),λ_=>rfl,by simp,λk hk=>absurd hk (by simp),f,U⟩ (by repeat'(first|exact trivial|refine⟨rfl,?_⟩))
   subst hM;have ec:b<g.aj.length:=ba;refine ah ?_;have a1:=a1 (b+1) (by omega) (by omega);refine Ru.nm λS2 M2 dy b3=>?_;refine Ru.cA b3 (up (P:=λj=>∀B a d n o v,(v=true→kQ a+1<m)→kQ a+1≤m→kS g wo a d→lq d n F'→(c.getD b false=true→a.getD b false=true∧d.getD b []=az.getD b [])→(v=false→a.getD b false=c.getD b false∧(∀Q,Q<b→nF g wo a d o Q)∧∀i,i<w.length→i<j→z8 wo a d o (w.getD i (0,[])))→ai H B (tS mW 2 (qF w vs) w.length true W::yh V S Y P L g vb F' a n o)→Ru ab _ S2 ([(aO,aN j),(p7,.bool v)]++pk M2 [p1,p2,p4,p5,p6,p8,p9]) B) w.length (λj hj I B a d n o v A D r f O y U=>?_) 0 (by omega) _ c az l p C A D r f (λh=>⟨h,rfl⟩) (λh=>⟨rfl,y h,λi _ hi=>by omega⟩) U);subst dy;subst b3;have X:=(U.sl (e:=mW) (size:=2) (sv:=W) (full:=true) (vs:=qF w vs) (n:=w.length) 0).all;have et:=X.2.2.2;have X:=X.1;have bb:=r.lc;have bc:=r.lo;have bd:=f.len;refine Ru.loop ?_;refine ah ?_;refine Ru.cond (λs=>?_) (λs=>?_)
   ·have b4:c.getD b false=true:=by cases R:c.getD b false with|true=>rfl|false=>rw[c8 R]at s;simp at s
    obtain⟨z,Z⟩:=O b4;have b5:w.getD j (0,[])∈kR g b (d.getD b []):=by rw[Z,←bv b4,bE s];exact af0 s
    obtain⟨E,a2⟩:=(r.snd b z).ok hS;obtain⟨⟨ew,e0⟩,e2,e3⟩:=uJ hS E a2 _ b5;have cn:=r.kq b z;have hF:=c9 j s;have I:=I (j+1) (by omega) (by omega);have ag:v=false→z8 wo a d o (w.getD j (0,[]))→a.getD b false=c.getD b false∧(∀Q,Q<b→nF g wo a d o Q)∧∀i,i<w.length→i<j+1→z8 wo a d o (w.getD i (0,[])):=λh hd=>by
     obtain⟨a6,a8,a3⟩:=y h;refine⟨a6,a8,λi hi dz=>?_⟩;by_cases e:i=j;·subst e;exact hd
     exact a3 i hi (by omega)
    obtain⟨b6,b'⟩:=aew (vs:=vs) s;generalize d0:w.getD j (0,[])=wj at*;obtain⟨t,N⟩:∃t:Nat,wj.1=t:=⟨wj.1.toNat,by omega⟩;rw[N]at b6;have e4:t<g.aj.length:=by omega
    obtain⟨qw,cap,ex,rfl⟩:=U.uj (e:=mW) (size:=2) (n:=w.length) (full:=true) (sv:=W) 0 rfl (by omega);obtain⟨_,ar,_,_⟩:=U.mC 1 rfl hF;have⟨e5,e6,e7,_⟩:=ar.all;refine ah ?_;refine RO.eH U 0 (hv:=b6) ?_;refine ah ?_;refine Ru.cond (λu=>?_) (λu=>?_)
    ·have u:wj.1=wo:=by rw[N];exact u
     refine ah ?_;exact Ru.wk (I _ a d n o v A D r f O (λh=>ag h (.inl u)) U)
    have u:wj.1≠wo:=by rw[N];exact u
    have d1:(a.map AV.bool)[0+t*1]?=some (.bool (a.getD t false)):=by rw[show 0+t*1=t by omega,ahc,getElem?_pos a t (by omega),bE (by omega)];rfl
    refine ah ?_;refine RO.eH U 4 (hv:=d1) ?_;refine ah ?_;refine Ru.kh (λJ=>?_) (λJ=>?_)
    ·have J:a.getD t false=false:=by simpa using J
     have ca:b≠t:=λe=>by rw[←e,z]at J;cases J
     have e8:=vZ (by omega) J;refine ah ?_;refine RO.eH U 0 (hv:=b') ?_;refine ah ?_;refine RO.aes (f:=AV.bool) (zs:=a) U 4 true bb (k:=t) (λH8 U=>⟨λaa d2=>?_,?_⟩);·obtain⟨_,hp⟩:=U.get 2 rfl;exact gQ (i:=V) (o:=1) (v:=.slice L 0 g.aj.length g.aj.length true) d2 (by(conv=>lhs;whnf)<;>rfl) (by(conv=>lhs;whnf)<;>rfl) rfl (by simp[hZ,fM,ac.gT]) (tB.cell hp rfl) rfl
     refine ah ?_;refine RO.xK U 3 (n:=g.aj.length) (vs:=n) (by omega) (k:=t) (w:=vs j) (λH9 U=>?_);refine ah ?_;have av:=r.add hS z b5 u (by rw[N,agK];exact J);rw[N,agK]at av;exact Ru.wk (I _ (a.set t true) (d.set t wj.2) (n.set t (vs j)) o true (λ_=>by omega) (by omega) av (f.set (by omega) hF) (λh=>by rw[e9 (by omega),e9 (by omega),an ca,an ca];exact⟨z,Z⟩) (λh=>by cases h) U)
    have J:a.getD t false=true:=by simpa using J
    have d3:n[0+t*1]?=some (n.getD t .bX):=by rw[show 0+t*1=t by omega,getElem?_pos n t (by omega),bE (by omega)]
    obtain⟨_,ax,_,_⟩:=U.mC 1 rfl (f.mem t (by omega));have⟨e',_,_,_⟩:=ax.all;have d5:=r.kq t J;refine ah ?_;refine RO.eH U 3 (hv:=d3) ?_;refine ah ?_;refine RO.eH U 0 (hv:=b') ?_;refine RO.cl (aet T ax ar (by omega) (λg3=>?_) (λg3=>?_));·refine ah ?_;exact Ru.wk (I _ a d n o v A D r f O (λh=>ag h (.inr (by rw[N,agK];exact⟨J,λ_=>g3⟩))) U)
    refine ah ?_;refine RO.fU U 2 (λH8 U=>?_);refine ah ?_;have cd:∀w,z8 wo a d o w→z8 wo a d true w:=λw hw=>hw.imp id λh=>⟨h.1,λh=>by cases h⟩;exact Ru.wk (I _ a d n true v A D r f O (λh=>by
     obtain⟨a6,a8,a3⟩:=y h;refine⟨a6,λQ cf R x hx=>cd _ (a8 Q cf R x hx),λi hi dz=>?_⟩;by_cases e:i=j;·subst e;rw[d0];exact .inr (by rw[N,agK];exact⟨J,λh=>by cases h⟩)
     exact cd _ (a3 i hi (by omega))) U)
   refine Ru.exitTo ?_;refine ah ?_;refine Ru.wk (a1 B a d n F' o v A D r f (λh Q cf=>?_) U.tail);obtain⟨a6,a8,a3⟩:=y h;by_cases e:Q=b;·subst e;intro R x hx;rw[a6]at R;rw[(O R).2,←bv R]at hx;obtain⟨i,hi,rfl⟩:=agS hx;have:=a3 i hi (by omega);rw[bE hi]at this;exact this
   exact a8 Q (by omega)
  refine Ru.exitTo ?_;obtain rfl:b=g.aj.length:=by omega
  refine ah ?_;refine Ru.wk (ih _ ?_ B c az l F p C rfl r f (λh x=>?_) U);·cases C with|true=>rw[aH rfl];exact A rfl|false=>rw[an (by simp)];omega
  by_cases hx:x<g.aj.length;·exact y h x hx
  intro R;have:=r.lc;rw[agY,List.getElem?_eq_none (by omega)]at R;cases R
 subst ay;refine Ru.exitTo ?_;have bc:=r.lo;have bd:=f.len;refine ah ?_;refine RO.eG U 1 ?_;refine RO.iL U 4 (λH7 U=>?_);refine ah ?_;exact Ru.lj (vs:=[_]) ⟨⟨S,0,rfl,U.agg 4⟩,trivial⟩ (h H7 P L l F c az p r (y rfl) f (U.sub (.cons_cons _ (.cons _ (.cons_cons _ (.cons_cons _ (.cons _ (.cons _ .slnil))))))))
end
end
section
def tk(j:G.k6):List Int:=j.args++j.go.flatMap (·.args)
theorem Je(l:List G.gW):(eK l).length≤l.length:=ahY (List.length_filter_le _ _) (by simp)
section
variable{g:G.bu}{H:af}{cs:List AV}
theorem aex(T:Tb ab){B:G.gD}(hb:jW H B cs)(hl:B.params.length≤12∧B.aA.length≤40){K:AV→af→Prop}(h:∀H' v,ai H H' [tS 3 1 ((gF B).map aI) (gF B).length true v]→K v H'):YF ab (.func VD [] []) [.agg cs] H K:=by
 have E:=hb.one;obtain⟨w,i,jc,rfl,o,f,y,z,A,rfl,P,Q,R⟩:=hb;have⟨S,_,_,_⟩:=f.all;refine YF.code T.aab (by simp) ?_;refine au ?_;refine RO.dS (ai.cW H) λH1 q U=>?_;refine ah ?_;refine RO.rj U 1 λH2 v5 U=>?_;have⟨V,_,_,_⟩:=(U.sl (e:=3) (size:=1) (sv:=v5) (vs:=[]) (n:=0) (full:=true) 0).all;refine ah ?_;refine RO.pT U 0 (U.gr.sl o) (λF C U=>?_) (h1:=ri _);have U:ai H F [tS 3 1 ((B.params++eK (B.aA.take 0)).map aI) (B.params++eK (B.aA.take 0)).length true C,tB dM q [w,i,aU B.aq.op,y,.aC B.aq.name,z,A]]:=by rw[ah0,show eK []=[]from rfl,ahx];rw[agW]at U;exact U
 have⟨W,_,_,_⟩:=(U.sl (e:=3) (size:=1) (sv:=C) (full:=true) (vs:=(B.params++eK (B.aA.take 0)).map aI) (n:=(B.params++eK (B.aA.take 0)).length) 0).all;refine ah ?_;refine Ru.nm λI J p k=>?_;refine Ru.cA k (up (P:=λj=>∀n g,ai H n [tS 3 1 ((B.params++eK (B.aA.take j)).map aI) (B.params++eK (B.aA.take j)).length true g,tB dM q [w,i,aU B.aq.op,y,.aC B.aq.name,z,A]]→Ru ab _ I ([(p4,aN j),(p3,g)]++pk J [p1]) n) B.aA.length (λj hj d n g U=>?_) 0 (by omega) _ _ U);subst p;subst k;have⟨X,_,_,r⟩:=(U.sl (e:=3) (size:=1) (sv:=g) (vs:=(B.params++eK (B.aA.take j)).map aI) (n:=(B.params++eK (B.aA.take j)).length) (full:=true) 0).all;refine Ru.loop ?_;refine ah ?_;refine Ru.cond (λc=>?_) (λc=>?_)
 ·have d:=d (j+1) (by omega) (by omega);rw[(agX c).symm,IT,←agJ]at d;have Y:(B.params++eK (B.aA.take j)).length≤100:=by have:=Je (B.aA.take j);rw[ahl]at this;rw[agP];omega
  generalize B.params++eK (B.aA.take j)=L at*;refine ah ?_;refine RO.cP U.gr f (λM N c7 s b t a l=>?_) (j:=j);generalize O:B.aA[j]=x at*;obtain⟨u,rfl,m⟩:=b;refine ah ?_;refine RO.aW (v:=aI x.to) ?_ (hc:=a 1 _ rfl);refine ah ?_;refine Ru.cond (λe=>?_) (λe=>?_);·have e:0≤x.to:=e;rw[aH e]at d;refine ah ?_;refine RO.cP U.gr f (λM N c7 s b t a l=>?_) (j:=j);rw[O]at b;obtain⟨u,rfl,m⟩:=b;refine ah ?_;refine RO.aW (v:=aI x.to) ?_ (hc:=a 1 _ rfl);refine RO.push U 0 (λw0 H9 D U=>?_) (ws:=[aI x.to]);have⟨Z,ag,ar,_⟩:=(U.sl (e:=3) (size:=1) (n:=L.length+1) (full:=true) (sv:=D) 0).all;refine ah ?_;exact Ru.wk (d _ D (by rw[ahk,agP];exact U))
  have e:¬0≤x.to:=e;rw[an e,ahx]at d;refine ah ?_;exact Ru.wk (d _ g U)
 refine Ru.exitTo ?_;rw[ag2 (by omega)]at U r;refine ah ?_;exact Ru.aT (h _ g (U.sub (.cons_cons _ (.cons _ .slnil))))
theorem aey(T:Tb ab){j:G.k6}(hj:sG H j cs)(hl:j.args.length≤12∧j.go.length≤12)(m:∀e∈j.go,e.args.length≤12){K:AV→af→Prop}(h:∀H' v,ai H H' [tS 3 1 ((tk j).map aI) (tk j).length true v]→K v H'):YF ab (.func Vz [] []) [.agg cs] H K:=by
 have y:=hj.one;obtain⟨s,t,u,rfl,n,F,c⟩:=hj;have⟨I,_,_,_⟩:=c.all;refine YF.code T.Z7 (by simp) ?_;refine au ?_;refine RO.dS (ai.cW H) λH1 q U=>?_;refine ah ?_;refine RO.rj U 1 λX v5 U=>?_;have⟨J,_,_,_⟩:=(U.sl (e:=3) (size:=1) (sv:=v5) (vs:=[]) (n:=0) (full:=true) 0).all;refine ah ?_;refine RO.pT U 0 (U.gr.sl n) (λA w U=>?_) (h1:=ri _);have U:ai H A [tS 3 1 ((j.args++(j.go.take 0).flatMap (·.args)).map aI) (j.args++(j.go.take 0).flatMap (·.args)).length true w,tB sH q [aU j.op,s,.aC j.name,t,u]]:=by rw[ah0,List.flatMap_nil,ahx];rw[agW]at U;exact U
 have⟨L,_,_,_⟩:=(U.sl (e:=3) (size:=1) (sv:=w) (full:=true) (vs:=(j.args++(j.go.take 0).flatMap (·.args)).map aI) (n:=(j.args++(j.go.take 0).flatMap (·.args)).length) 0).all;refine ah ?_;refine Ru.nm λB C o d=>?_;refine Ru.cA d (up (P:=λk=>∀l b,(j.args++(j.go.take k).flatMap (·.args)).length≤12+12*k→ai H l [tS 3 1 ((j.args++(j.go.take k).flatMap (·.args)).map aI) (j.args++(j.go.take k).flatMap (·.args)).length true b,tB sH q [aU j.op,s,.aC j.name,t,u]]→Ru ab _ B ([(p4,aN k),(p3,b)]++pk C [p1]) l) j.go.length (λk Y i l b M U=>?_) 0 (by omega) _ _ (by simp;omega) U);subst o;subst d;have⟨N,_,_,p⟩:=(U.sl (e:=3) (size:=1) (sv:=b) (vs:=(j.args++(j.go.take k).flatMap (·.args)).map aI) (n:=(j.args++(j.go.take k).flatMap (·.args)).length) (full:=true) 0).all;refine Ru.loop ?_;refine ah ?_;refine Ru.cond (λa=>?_) (λa=>?_);·have i:=i (k+1) (by omega) (by omega);have O:=m _ (af0 a);rw[(agX a).symm,ahn,ahu,←agJ]at i;generalize j.args++(j.go.take k).flatMap (·.args)=D at*;refine ah ?_;refine RO.cP U.gr c (λZ o7 c7 P r Q g z=>?_) (j:=k);generalize j.go[k]=e at*;obtain⟨E,rfl,f⟩:=r;have⟨R,_,_,_⟩:=f.all;refine ah ?_;refine RO.aW (v:=E) ?_ (hc:=g 1 _ rfl);refine RO.pT U 0 (U.gr.sl f) (λH9 x U=>?_) (h1:=ri _);have⟨S,V,W,_⟩:=(U.sl (e:=3) (size:=1) (n:=D.length+e.args.length) (full:=true) (sv:=x) 0).all;refine ah ?_;exact Ru.wk (i _ x (by rw[agP];omega) (by rw[ahk,agP];exact U))
 refine Ru.exitTo ?_;rw[ag2 (by omega)]at U p;refine ah ?_;exact Ru.aT (h _ b (U.sub (.cons_cons _ (.cons _ .slnil))))
structure rT(n np:Nat)(gl:List Int)(hist:List (Int×Nat)):Prop where
 len:gl.length=n
 aK:∀v:Nat,v<np→gl.getD v 0= -1
 bC:∀p∈hist,gl.getD p.1.toNat 0=(p.2:Int)
theorem rT.add{n c:Nat}{gl:List Int}{a:List (Int×Nat)}(h:rT n c gl a){v k:Nat}(i:v<n)(j:c≤v)(f:(v:Int)∉a.map (·.1))(b:∀x∈a.map (·.1),(0:Int)≤x):rT n c (gl.set v (k:Int)) (a++[((v:Int),k)]):=by
 have hl:=h.len;refine⟨by grind,λx g=>?_,λp d=>?_⟩;·rw[e9 (by omega),an (by omega)];exact h.aK x g
 rw[e9 (by omega)];rcases agI.1 d with h2|h2;·have h3:=ag5 (f:=(·.1)) h2;have l:=b _ h3;rw[an λe=>f (by grind)];exact h.bC p h2
 grind
def og(g:G.bu)(k:Nat):List (Int×Nat):=(agV k).flatMap λi=>(gF (aF g i)).map λv=>(v,i)
theorem EJ(g:G.bu):∀k,k≤g.aj.length→(og g k).map (·.1)=(g.aj.take k).flatMap gF|0,_=>rfl|k+1,h=>by rw[og,ahO,ahn,ahu,ahk,←og,EJ g k (by omega),(agX (show k<g.aj.length by omega)).symm,ahn,ahu,aii,aF,bE (by omega)];congr 1;exact List.map_id _
theorem PB(T:Tb ab)(hg:iD H g cs)(hB:G.Sm g)(O:rO g)(V:g.bi≤6000){K:AV→af→Prop}(h:∀H' q gl,rT g.bi.toNat g.params.toNat gl (og g g.aj.length)→ai H H' [tS 3 1 (gl.map aI) g.bi.toNat true (.slice q 0 g.bi.toNat g.bi.toNat true)]→K (.slice q 0 g.bi.toNat g.bi.toNat true) H'):YF ab (.func Vr [] []) [.agg cs] H K:=by
 have E:=hg.one;obtain⟨P,rfl,co⟩:=hg;have⟨av,_,_,ax⟩:=co.all;have ay:=hB.nb;have h0:=O.p0;have h1:=O.p1;obtain⟨n,Q⟩:∃n:Nat,g.bi=n:=⟨g.bi.toNat,by omega⟩;obtain⟨j,u⟩:∃n:Nat,g.params=n:=⟨g.params.toNat,by omega⟩;have o:=O.rg;have w:=O.nd;rw[Q,u]at h h1 o E;rw[Q]at V;simp only[agK]at h;refine YF.code T.ZZ (by simp) ?_;rw[Q,u];refine ah ?_;refine RO.dS (ai.cW H) λH1 q U=>?_;refine ah ?_;refine RO.nV U (n:=n) (λH2 s U=>?_) (hz:=by rw[iM];simp);have U:ai H H2 [tS 3 1 ((af3 n (0:Int)).map aI) n true (.slice s 0 n n true),tB fC q [.aC g.name,aI j,aI n,P]]:=by rw[iM]at U;rw[aie];exact U
 refine ah ?_;refine Ru.nm λS0 M hS hM=>?_;refine Ru.cA hM (up (P:=λk=>∀c gl,rT n k gl []→ai H c [tS 3 1 (gl.map aI) n true (.slice s 0 n n true),tB fC q [.aC g.name,aI j,aI n,P]]→Ru ab _ S0 ([(p4,aN k)]++pk M [p1,p3]) c) j (λk hk r c gl a U=>?_) 0 (by omega) _ _ ⟨by simp,λv hv=>by omega,λp R=>by cases R⟩ U);subst hS;subst hM;have d:=a.len;refine Ru.loop ?_;refine ah ?_;refine Ru.cond (λb=>?_) (λb=>?_)
 ·refine ah ?_;refine RO.ml (f:=aI) U 0 (-1) d (λH4 U=>?_) (k:=k);refine ah ?_;exact Ru.wk (r (k+1) (by omega) (by omega) H4 _ ⟨by simpa using d,λv hv=>by
   rw[e9 (by omega)];by_cases e:v=k;·rw[aH e]
   rw[an e];exact a.aK v (by omega),λp R=>by cases R⟩ U)
 refine Ru.exitTo ?_;obtain rfl:j=k:=by omega
 refine ah ?_;refine Ru.nm λS1 M1 W y=>?_;refine Ru.cA y (up (P:=λk=>∀c gl,rT n j gl (og g k)→ai H c [tS 3 1 (gl.map aI) n true (.slice s 0 n n true),tB fC q [.aC g.name,aI j,aI n,P]]→Ru ab _ S1 ([(p5,aN k)]++pk M1 [p1,p3]) c) g.aj.length (λk hk r c gl a U=>?_) 0 (by omega) _ _ a U);subst W;subst y;have d:=a.len;refine Ru.loop ?_;refine ah ?_;refine Ru.cond (λb=>?_) (λb=>?_)
 ·have X:=af0 b;have a1:=hB.bl _ X;have F:=EJ g k (by omega);have I:aF g k=g.aj[k]:=by rw[aF,bE b]
  have eS:(og g k).map (·.1)++(gF g.aj[k]++(g.aj.drop (k+1)).flatMap gF)=g.aj.flatMap gF:=by rw[F];conv=>rhs;rw[←ahR k g.aj,ahn,agR b,ah8]
  have r:=r (k+1) (by omega) (by omega);rw[og,ahO,ahn,ahu,←og,I]at r;refine ah ?_;refine RO.cP U.gr co (λq1 o1 c1 a2 A a6 hat hrd=>?_) (j:=k);have J:=A;generalize g.aj[k]=B at*;have ar:=A.one;refine ah ?_;refine RO.cl (aex T (dH.block U.gr J) ⟨by omega,by omega⟩ λH5 S hl=>?_);have U:=U.fF hl;have⟨a8,_,_,a'⟩:=(U.sl (e:=3) (size:=1) (sv:=S) (vs:=(gF B).map aI) (n:=(gF B).length) (full:=true) 0).all;have ba:(gF B).length≤100:=by have:=Je B.aA;rw[gF,agP];omega
  generalize gF B=l at*;refine ah ?_;refine Ru.nm λS2 M2 Y C=>?_;refine Ru.cA C (up (P:=λm=>∀c gl,rT n j gl (og g k++(l.take m).map λv=>(v,k))→ai H c [tS 3 1 (l.map aI) l.length true S,tS 3 1 (gl.map aI) n true (.slice s 0 n n true),tB fC q [.aC g.name,aI j,aI n,P]]→Ru ab _ S2 ([(p7,aN m)]++pk M2 [p1,p3,p5,p6]) c) l.length (λm hm i c gl a U=>?_) 0 (by omega) _ gl (by rw[ah0,ahX,ahx];exact a) U);subst Y;subst C;have d:=a.len;have Z:=U.sl (e:=3) (size:=1) (sv:=S) (vs:=l.map aI) (n:=l.length) (full:=true) 0;refine Ru.loop ?_;refine ah ?_;refine Ru.cond (λf=>?_) (λf=>?_)
  ·have i:=i (m+1) (by omega) (by omega);rw[(agX f).symm,ahk,List.map_singleton,←agJ]at i;have D:((l.take m).map λv=>(v,k)).map (λp:Int×Nat=>p.1)=l.take m:=by rw[aii];exact List.map_id _
   have L:l[m]∉(og g k++(l.take m).map λv=>(v,k)).map (·.1):=by
    have h9:=eS;rw[show l=l.take m++l[m]::l.drop (m+1)from by rw[←agR f,ahR]]at h9;rw[←h9]at w;have h8:(((og g k).map (·.1)++l.take m)++(l[m]::(l.drop (m+1)++(g.aj.drop (k+1)).flatMap gF))).Nodup:=by simpa only[agJ,ahC]using w
    rw[ahy]at h8;intro t;rw[ahk,D]at t;refine h8.2.2 l[m] ?_ l[m] (adc ..) rfl;rcases agI.1 t with h|h;·exact agU _ h
    exact ag7 _ h
   have ag:l[m]∈g.aj.flatMap gF:=by rw[←eS];exact ag7 _ (agU _ (af0 _))
   have hr:=o _ ag;have N:∀x∈(og g k++(l.take m).map λv=>(v,k)).map (·.1),(0:Int)≤x:=λx t=>by
    have:x∈g.aj.flatMap gF:=by
     rw[←eS];rw[ahk,D]at t;rcases agI.1 t with h|h;·exact agU _ h
     refine ag7 _ (agU _ ?_);exact List.mem_of_mem_take h
    have:=o x this;omega
   refine ah ?_;refine RO.jX (bf.refl _) Z (λq9 o9 bb bc=>?_) (j:=m);generalize l[m]=z at*;obtain⟨v,rfl⟩:∃v:Nat,z=v:=⟨z.toNat,by omega⟩;refine ah ?_;refine RO.ml (f:=aI) U 1 (k:Int) d (λH9 U=>?_) (k:=v) (ho:=by omega);refine ah ?_;exact Ru.wk (i _ _ (a.add (by omega) (by omega) L N) U)
  refine Ru.exitTo ?_;rw[ag2 (by omega)]at a;refine ah ?_;exact Ru.wk (r _ gl a U.tail)
 refine Ru.exitTo ?_;obtain rfl:k=g.aj.length:=by omega
 refine ah ?_;exact Ru.aT (h _ s gl a (U.sub (.cons_cons _ (.cons _ .slnil))))
end
end
section
structure Co(dm:List (List Bool))(vsl:List AV)(F:List Th):Prop where
 len:vsl.length=dm.length
 mem:∀b,b<dm.length→tR 1 ((dm.getD b []).map .bool) (dm.getD b []).length (vsl.getD b .bX)∈F
theorem Co.Jf{c:List (List Bool)}{a:List AV}{F:List Th}(h:Co c a F){l:List Bool}{v:AV}:Co (c++[l]) (a++[v]) (tR 1 (l.map .bool) l.length v::F):=by
 have hl:=h.len;refine⟨by simp[hl],λb hb=>?_⟩;simp only[agP,ahj]at hb;by_cases e:b=c.length
 ·subst e;have e1:(c++[l]).getD c.length []=l:=by simp
  have e2:(a++[v]).getD c.length .bX=v:=by rw[←hl];simp
  rw[e1,e2];exact adc ..
 have e1:(c++[l]).getD b []=c.getD b []:=by simp[ahd (show b<c.length by omega)]
 have e2:(a++[v]).getD b .bX=a.getD b .bX:=by simp[ahd (show b<a.length by omega)]
 rw[e1,e2];exact adD _ (h.mem b (by omega))
def uK(c d:List Bool)(a b:Nat):Bool:=c.getD a false&&c.getD b false&&(decide (a=b)||!d.getD b false)
structure PC(g:G.bu)(come:List Bool)(a:Nat)(row:List Bool):Prop where
 len:row.length=g.aj.length
 ex:∃ca oa ot,kS g (a:Int) ca oa∧(∀b,nF g (a:Int) ca oa ot b)∧∀b,b<g.aj.length→row.getD b false=uK come ca a b
structure Jg(g:G.bu)(dm:List (List Bool)):Prop where
 len:dm.length=g.aj.length
 ex:∃come az oth,kS g (-1) come az∧(∀b,nF g (-1) come az oth b)∧∀a,a<g.aj.length→PC g come a (dm.getD a [])
section
variable{g:G.bu}{H:af}{cs:List AV}
theorem PD(T:Tb ab)(hg:iD H g cs)(hB:G.Sm g)(hS:me g)(u:g.aj.length≤30){K:AV→af→Prop}(h:∀H' v f F n,Jg g n→Co n f F→ai H H' [tZ F,tS 61 1 f g.aj.length true v]→K v H'):YF ab (.func Vq [] []) [.agg cs] H K:=by
 have a6:=hg.one;have E:=hg;obtain⟨vb,rfl,co⟩:=hg;have⟨a',_,_,ba⟩:=co.all;have bb:=hS.ne;refine YF.code T.ZY (by simp) ?_;refine au ?_;refine RO.dS (ai.cW H) λH1 q U=>?_;refine ah ?_;refine RO.eG U 0 ?_;refine RO.cl (Jd T (dH.mU U.gr E) hB hS u (wo:= -1) λH2 W qs bc Fo d az A hI ag bd hl=>?_);have U:=(U.fF hl).sub (.cons _ (.cons _ (.cons_cons _ (ahB _))));have I:=hI.lc;refine RO.rj U 1 λH3 J U=>?_;have⟨bv,_,_,_⟩:=(U.sl (e:=61) (size:=1) (sv:=J) (vs:=[]) (n:=0) (full:=true) 0).all;refine RO.fG U λH4 q3 U=>?_;refine ah ?_;have U:=U.rH;refine Ru.nm λS0 M ar hM=>?_;refine Ru.cA hM (up (P:=λa=>∀z f F n v,n.length=a→Co n f F→(∀x,x<a→PC g d x (n.getD x []))→ai H z [tZ F,tB zF q3 [.slice W 0 g.aj.length g.aj.length true,.slice qs 0 g.aj.length g.aj.length true,.bool A],tS 61 1 f a true v,tS 4 1 (d.map .bool) g.aj.length true (.slice W 0 g.aj.length g.aj.length true),tB fC q [.aC g.name,aI g.params,aI g.bi,vb]]→Ru ab _ S0 ([(p5,aN a),(p4,v)]++pk M [p1,p3]) z) g.aj.length (λa ha ih z f F n v B L y U=>?_) 0 (by omega) _ [] [] [] J rfl ⟨rfl,λb hb=>absurd hb (by simp)⟩ (λx hx=>by omega) U);subst ar;subst hM;have⟨b0,b3,b4,_⟩:=(U.sl (e:=61) (size:=1) (sv:=v) (vs:=f) (n:=a) (full:=true) 2).all;refine Ru.loop ?_;refine ah ?_;refine Ru.cond (λN=>?_) (λN=>?_)
 ·have ih:=ih (a+1) (by omega) (by omega);refine ah ?_;refine RO.eG U 4 ?_;refine ah ?_;refine RO.cl (Jd T (dH.mU U.gr E) hB hS u (wo:=(a:Int)) λH5 qa qo b5 Fa s oa ot O S a8 hl=>?_);have U:=(U.fF hl).sub (.cons _ (.cons _ (.cons_cons _ (ahB _))));have av:=O.lc;refine RO.rj U 1 λH6 P U=>?_;have⟨b6,_,_,_⟩:=(U.sl (e:=4) (size:=1) (sv:=P) (vs:=[]) (n:=0) (full:=true) 0).all;refine RO.fG U λH7 q6 U=>?_;refine ah ?_;refine Ru.nm λS1 M1 ax Q=>?_;refine Ru.cA Q (up (P:=λb=>∀z(c:List Bool)w,c.length=b→(∀x,x<b→c.getD x false=uK d s a x)→ai H z [tB zF q6 [.slice qa 0 g.aj.length g.aj.length true,.slice qo 0 g.aj.length g.aj.length true,.bool ot],tS 4 1 (c.map .bool) b true w,tS 4 1 (s.map .bool) g.aj.length true (.slice qa 0 g.aj.length g.aj.length true),tZ F,tB zF q3 [.slice W 0 g.aj.length g.aj.length true,.slice qs 0 g.aj.length g.aj.length true,.bool A],tS 61 1 f a true v,tS 4 1 (d.map .bool) g.aj.length true (.slice W 0 g.aj.length g.aj.length true),tB fC q [.aC g.name,aI g.params,aI g.bi,vb]]→Ru ab _ S1 ([(p8,aN b),(p7,w)]++pk M1 [p1,p3,p4,p5,p6]) z) g.aj.length (λb hb o z c w i R U=>?_) 0 (by omega) _ [] P rfl (λx hx=>by omega) U);subst ax;subst Q;have V:=U.sl (e:=4) (size:=1) (sv:=w) (vs:=c.map .bool) (n:=b) (full:=true) 1;have⟨ay,b',a1,_⟩:=V.all;refine Ru.loop ?_;refine ah ?_;refine RO.gM U 7 ?_;refine ah ?_;refine Ru.cond (λp=>?_) (λp=>?_)
  ·have o:=o (b+1) (by omega) (by omega);have C:∀(l:List Bool)(k:Nat),l.length=g.aj.length→k<g.aj.length→(l.map AV.bool)[0+k*1]?=some (.bool (l.getD k false)):=λl k h1 h2=>by rw[show 0+k*1=k by omega,ahc,getElem?_pos l k (by omega),bE (by omega)];rfl
   have m:∀t,t=uK d s a b→∀x,x<b+1→(c++[t]).getD x false=uK d s a x:=λt ht x hx=>by
    by_cases e:x=b;·subst e;rw[←ht,←i];simp
    rw[←R x (by omega)];simp[ahd (show x<c.length by omega)]
   refine ah ?_;refine RO.eH U 6 (hv:=C d a I N) ?_;refine RO.bg ?_;refine RO.pR (λD=>?_) (λD=>?_)
   ·refine ah ?_;refine RO.eH U 6 (hv:=C d b I p) ?_;refine ah ?_;refine RO.pR (λX=>?_) (λX=>?_)
    ·refine ah ?_;refine RO.cX (λg3=>?_) (λg3=>?_);·refine ah ?_;refine RO.push U 1 (λY Z j U=>?_) (ws:=[.bool true]);have⟨r,_,_,_⟩:=(U.sl (e:=4) (size:=1) (n:=b+1) (full:=true) (sv:=j) 1).all;refine ah ?_;exact Ru.wk (o _ (c++[true]) j (by simp[i]) (m _ (by rw[uK,D,X,decide_eq_true g3];rfl)) (by rw[ahk];exact U))
     refine ah ?_;refine RO.eH U 2 (hv:=C s b av p) ?_;refine ah ?_;refine RO.push U 1 (λY Z j U=>?_) (ws:=[.bool (!s.getD b false)]);have⟨r,_,_,_⟩:=(U.sl (e:=4) (size:=1) (n:=b+1) (full:=true) (sv:=j) 1).all;refine ah ?_;exact Ru.wk (o _ (c++[(!s.getD b false)]) j (by simp[i]) (m _ (by rw[uK,D,X,decide_eq_false g3];rfl)) (by rw[ahk];exact U))
    refine ah ?_;refine RO.push U 1 (λY Z j U=>?_) (ws:=[.bool false]);have⟨r,_,_,_⟩:=(U.sl (e:=4) (size:=1) (n:=b+1) (full:=true) (sv:=j) 1).all;refine ah ?_;exact Ru.wk (o _ (c++[false]) j (by simp[i]) (m _ (by rw[uK,D,X];rfl)) (by rw[ahk];exact U))
   refine ah ?_;refine RO.push U 1 (λY Z j U=>?_) (ws:=[.bool false]);have⟨r,_,_,_⟩:=(U.sl (e:=4) (size:=1) (n:=b+1) (full:=true) (sv:=j) 1).all;refine ah ?_;exact Ru.wk (o _ (c++[false]) j (by simp[i]) (m _ (by rw[uK,D];rfl)) (by rw[ahk];exact U))
  refine Ru.exitTo ?_;obtain rfl:b=g.aj.length:=by omega
  refine ah ?_;have a2:=(((U.sub (.cons _ (.cons_cons _ (.cons _ (ahB _))))).as (t':=tR 1 (c.map .bool) c.length w) 0 rfl λfp hp=>by have h9:=tS.lL hp;rw[←i]at h9;exact h9)).lJ;refine RO.push a2 2 (λY Z j U=>?_) (ws:=[w]) (hl:=kr rfl ay a1 rfl rfl rfl);have⟨r,_,_,_⟩:=(U.sl (e:=61) (size:=1) (n:=a+1) (full:=true) (sv:=j) 2).all;refine ah ?_;exact Ru.wk (ih _ (f++[w]) _ (n++[c]) j (by simp[B]) L.Jf (λx hx=>by
   by_cases e:x=a
   ·subst e;have e1:(n++[c]).getD x []=c:=by rw[←B];simp
    rw[e1];exact⟨i,s,oa,ot,O,S,R⟩
   have e1:(n++[c]).getD x []=n.getD x []:=by simp[ahd (show x<n.length by omega)]
   rw[e1];exact y x (by omega)) U)
 refine Ru.exitTo ?_;obtain rfl:a=g.aj.length:=by omega
 refine ah ?_;exact Ru.aT (h _ v f F n ⟨B,d,az,A,hI,ag,y⟩ L (U.sub (.cons_cons _ (.cons _ (.cons_cons _ (.cons _ (.cons _ .slnil)))))))
end
end
section
theorem RO.Jh{H:af}{c:Cx}{s:List SI}{L:Kn}{d:Option ac}{l:List aS}{f:aG}{args:List aG}{fv:AV}{a:List AV}{re:List i9}(h:YF ab fv a H λr H'=>(∀aa,Le (bA L d r) aa→fh aa H' re=true)∧RO ab c l s (bA L d r) H')(g:aV L f=fv:=by(conv=>lhs;whnf)<;>rfl)(b:fv.bB=true:=by first|rfl|assumption)(i:args.map (aV L)=a:=by rfl)(e:a.all AV.bB=true:=by repeat first|rfl|assumption|(refine ad ?_ ?_)):RO ab c (⟨d,.call f args,none,[],re⟩::l) s L H:=RO.G5 h g b i e
theorem Ji{H:af}{L:Kn}{aa:am AV}{p:ac}{x:aG}{i:ac}{o n:Nat}{vs:List AV}{re:List i9}(a:Le L aa)(b:aV L x=.aw i o)(c:lk L p=.agg vs)(hs:ou vs vs=true)(d:fj H i o n=some vs)(e:fh aa H re=true):fh aa H (⟨p,.fZ n x,none⟩::re)=true:=by simp only[fh,ft,bm,aB,a.gv b rfl,ja,d,ahb,a.get c rfl,hZ,hs,e,aiq]
theorem Sl.fM{H:af}{size n:Nat}{a:List AV}{v:AV}(h:Sl H size a n v):fM v v=true:=by rcases h with⟨rfl,_⟩|⟨i,o,cap,ex,c,m,e,b,aK,fz,rfl,_⟩;all_goals simp[ak.fM,ac.gT]
theorem PE{n:List Nat}{a b:Int}{v:AV}(h:fM v v=true):ou [.aC n,aI a,aI b,v] [.aC n,aI a,aI b,v]=true:=by simp_all[ou,Bool.and_true,fM,pA,fA]
def kD(B:G.gD)(k:Nat):List Int:=if k<B.aA.length then(B.aA.getD k default).args else tk B.aq
def wi(a:List (List Bool))(gl:List Int)(B:G.gD)(i k:Nat)(x:Int):Prop:=gl.getD x.toNat 0<0∨(gl.getD x.toNat 0≠(i:Int)∧(a.getD (gl.getD x.toNat 0).toNat []).getD i false=true)∨x∈B.params++eK (B.aA.take k)
structure Cp(g:G.bu)(az:List (List Int))(dm:List (List Bool))(gl:List Int)(i:Nat):Prop where
 en:(aF g i).aq.op=68→(az.getD i []).length≠0∧(aF g i).aq.args.length=(g.aj.getD (qE g ((az.getD i []).getD ((az.getD i []).length - 1) 0)).toNat default).params.length
 rt:(aF g i).aq.op=69→az.getD i []=[]
 rd:∀k,k≤(aF g i).aA.length→∀x∈kD (aF g i) k,wi dm gl (aF g i) i k x
structure Jj(g:G.bu):Prop where
 ex:∃come az dm gl,kS g (-1) come az∧(∀b,nF g (-1) come az false b)∧Jg g dm∧rT g.bi.toNat g.params.toNat gl (og g g.aj.length)∧∀i,i<g.aj.length→come.getD i false=true→Cp g az dm gl i
theorem rT.tg{g:G.bu}(b:rO g){gl:List Int}(h:rT g.bi.toNat g.params.toNat gl (og g g.aj.length)){v:Int}(h0:0≤v)(h1:v<g.bi):gl.getD v.toNat 0= -1∨∃i:Nat,i<g.aj.length∧gl.getD v.toNat 0=i:=by
 by_cases c:v<g.params;·exact .inl (h.aK _ (by omega))
 have:=b.all v (by omega) h1;rw[←ah2 (l:=g.aj),←EJ g _ (adW _)]at this;obtain⟨p,a,rfl⟩:=ag3.1 this;refine .inr ⟨p.2,?_,h.bC p a⟩;obtain⟨i,hi,d⟩:=ah6.1 a;grind
theorem PF:∀{l:List G.Edge},(∀e∈l,e.args.length≤12)→(l.flatMap (·.args)).length≤12*l.length|[],_=>by simp|a::l,h=>by have h1:=h a (adc ..);have h2:=PF λe he=>h e (adD _ he);grind
abbrev yi(e f h i c d:ac)(cap:Nat)(ex:Bool)(g:G.bu)(j:AV)(gl:List Int)(Fd k:List Th)(l b:List AV)(a:List Bool):List Th:=[tS 3 1 (gl.map aI) g.bi.toNat true (.slice h 0 g.bi.toNat g.bi.toNat true),tZ Fd,tS 61 1 l g.aj.length true (.slice i 0 g.aj.length cap ex),tB zF f [.slice c 0 g.aj.length g.aj.length true,.slice d 0 g.aj.length g.aj.length true,.bool false],tZ k,tS Hj 1 b g.aj.length true (.slice d 0 g.aj.length g.aj.length true),tS 4 1 (a.map .bool) g.aj.length true (.slice c 0 g.aj.length g.aj.length true),tB fC e [.aC g.name,aI g.params,aI g.bi,j]]
section
variable{g:G.bu}{H:af}{cs:List AV}
theorem aez(T:Tb ab)(hg:iD H g cs)(hB:G.Sm g)(hR:rO g)(ar:g.aj.length≤30)(d1:g.bi≤6000){K:AV→af→Prop}(h1:∀H',bf H H'→Jj g→K (.bool true) H')(h2:∀H',bf H H'→K (.bool false) H'):YF ab (.func Vx [] []) [.agg cs] H K:=by
 have fs:=hg.one;have a1:=hg;have hS:=hR.sh;obtain⟨vb,rfl,co⟩:=hg;have dm:=co;have⟨gL,_,_,g0⟩:=co.all;have g1:=hS.ne;have g2:=hR.p0;have g3:=hR.p1;refine YF.code T.Z5 (by simp) ?_;refine ah ?_;refine RO.dS (ai.cW H) λH1 A U=>?_;refine ah ?_;refine RO.eG U 0 ?_;refine RO.cl (Jd T (dH.mU U.gr a1) hB hS ar (wo:= -1) λH2 qc P d Fo b az g5 hI d2 bd hl=>?_);have U:=U.fF hl;refine RO.fG U λH3 N U=>?_;refine ah ?_;refine Ru.kh (λC=>?_) (λC=>?_);·refine ah ?_;exact Ru.aT (h2 _ U.gr)
 subst C;refine ah ?_;refine RO.eG U 4 ?_;refine RO.eG U 4 ?_;refine RO.Jh (PD T (dH.mU U.gr a1) hB hS ar λH4 gx D Fd O a2 bv hl=>⟨λaa V=>?_,?_⟩);·obtain⟨_,hp⟩:=(U.fF hl).get 6 rfl;obtain⟨_,d3,_⟩:=dm;exact Ji (i:=A) (o:=0) (vs:=[.aC g.name,aI g.params,aI g.bi,vb]) V (by(conv=>lhs;whnf)<;>rfl) (by(conv=>lhs;whnf)<;>rfl) (PE (Sl.fM d3)) (tB.pj hp (m:=4) (by show 0+4≤4;omega)) rfl
 have U:=U.fF hl;obtain⟨Q,cap,ex,rfl⟩:=U.uj (e:=61) (size:=1) (n:=g.aj.length) (full:=true) (sv:=gx) 1 rfl (by omega);refine RO.cl (PB T (dH.mU U.gr a1) hB hR d1 λH5 R gl a6 hl=>?_);have U:ai H H5 (yi A N R Q qc P cap ex g vb gl Fd Fo D d b):=U.fF hl;refine ah ?_;have d4:=hI.lc;have g6:=hI.lo;have g7:=bd.len;have g8:=a6.len;refine Ru.nm λS0 M d5 hM=>?_;refine Ru.cA hM (up (P:=λi=>∀HX,(∀x,x<i→b.getD x false=true→Cp g az O gl x)→ai H HX (yi A N R Q qc P cap ex g vb gl Fd Fo D d b)→Ru ab _ S0 ([(p6,aN i)]++pk M [p1,p3,p4,p5]) HX) g.aj.length (λi hi ih HX b0 U=>?_) 0 (by omega) _ (λx m=>by omega) U);subst d5;subst hM;refine Ru.loop ?_;refine ah ?_;refine RO.gM U 7 ?_;refine ah ?_;refine Ru.cond (λW=>?_) (λW=>?_)
 ·have E:=af0 W;have g9:=hB.bl _ E;have d6:=hB.st _ E;have b3:=hB.ed _ E;have b4:=hR.B4 _ E;have F:aF g i=g.aj[i]:=by rw[aF,bE W]
  have ih:=ih (i+1) (by omega) (by omega);have d7:∀(l:List Bool)(k:Nat),l.length=g.aj.length→k<g.aj.length→(l.map AV.bool)[0+k*1]?=some (.bool (l.getD k false)):=λl k h1 h2=>by rw[show 0+k*1=k by omega,ahc,getElem?_pos l k (by omega),bE (by omega)];rfl
  have L:(b.getD i false=true→Cp g az O gl i)→∀x,x<i+1→b.getD x false=true→Cp g az O gl x:=λhb x m=>by
   by_cases e:x=i;·subst e;exact hb
   exact b0 x (by omega)
  have b5:d[0+i*1]?=some (d.getD i .bX):=by rw[show 0+i*1=i by omega,getElem?_pos d i (by omega),bE (by omega)]
  refine ah ?_;refine RO.eH U 6 (hv:=d7 b i d4 W) ?_;refine ah ?_;refine Ru.kh (λC=>?_) (λC=>?_)
  ·have C:b.getD i false=false:=by simpa using C
   refine Ru.exitTo ?_;refine ah ?_;exact Ru.wk (ih _ (L λh=>by rw[C]at h;cases h) U)
  have C:b.getD i false=true:=by simpa using C
  obtain⟨_,d'⟩:=(hI.snd i C).ok hS;have f0:=hI.kq i C;have b6:=bd.mem i (by omega);generalize b':az.getD i []=o at*;generalize g':d.getD i .bX=ov at*;obtain⟨_,q,_,_⟩:=U.mC 4 rfl b6;have⟨ea,_,_,ha⟩:=q.all;refine ah ?_;refine RO.gM U 7 ?_;refine ah ?_;refine RO.cP U.gr co (λq9 o9 hW X a8 hc hat hrd=>?_) (j:=i);have f1:=a8;have eb:hZ ov ov=true:=Sl.bS q;generalize g.aj[i]=B at*;have f2:=a8.one;obtain⟨vp,u,jc,rfl,ca,Y,cd⟩:=a8;have dr:=cd;obtain⟨va,vk,vg,rfl,ec,hh,hk⟩:=cd;have⟨hm,_,_,hn⟩:=ca.all;have⟨ho,_,_,hr⟩:=Y.all;have⟨ht,_,_,hv⟩:=ec.all;refine ah ?_;refine RO.eH U 5 (hv:=b5) ?_;refine RO.gk U λH6 S U=>?_;refine RO.IA U 0 (ws:=[vp,u,aU B.aq.op,va,.aC B.aq.name,vk,vg]) (λH7 U=>⟨λaa V=>?_,?_⟩);·obtain⟨_,hp⟩:=U.get 6 rfl;obtain⟨_,ei⟩:=U.get 4 rfl;exact gQ (i:=P) (o:=0+i*1) (v:=ov) V (by(conv=>lhs;whnf)<;>rfl) (by(conv=>lhs;whnf)<;>rfl) ea eb (dK.MT hp b5) (gQ (re:=[]) (i:=N) (o:=1) (v:=.slice P 0 g.aj.length g.aj.length true) V (by(conv=>lhs;whnf)<;>rfl) (by(conv=>lhs;whnf)<;>rfl) rfl (by simp[hZ,fM,ac.gT]) (tB.cell ei rfl) rfl)
  have U:ai H H7 (tB dM S [vp,u,aU B.aq.op,va,.aC B.aq.name,vk,vg]::yi A N R Q qc P cap ex g vb gl Fd Fo D d b):=U;refine RO.bg ?_;refine RO.nil ?_;refine Ru.seq ?_;have hw:=hB.nb;refine Ru.xP (P:=λM H'=>M=[(p1,.aw A 0),(p3,.aw N 0),(p4,.slice Q 0 g.aj.length cap ex),(p5,.slice R 0 g.bi.toNat g.bi.toNat true),(p6,aN i),(p7,.aw S 0)]∧(B.aq.op=68→o.length≠0∧B.aq.args.length=(g.aj.getD (qE g (o.getD (o.length - 1) 0)).toNat default).params.length)∧(B.aq.op=69→o=[])∧ai H H' (tB dM S [vp,u,aU B.aq.op,va,.aC B.aq.name,vk,vg]::yi A N R Q qc P cap ex g vb gl Fd Fo D d b)) (λM H8⟨hM,gy,gA,U⟩=>?_) (λs' a=>?_);rotate_left
  ·refine ah ?_;refine RO.cX (λp=>?_) (λp=>?_)
   ·refine ah ?_;refine RO.cX (λfp=>?_) (λfp=>?_);·refine ah ?_;exact Ru.aT (h2 _ U.gr)
    have cf:o.length - 1<o.length:=by omega
    obtain⟨_,q,_,_⟩:=U.mC 5 rfl b6;refine ah ?_;refine RO.gM U 8 ?_;refine ah ?_;refine RO.gM U 8 ?_;refine ah ?_;refine RO.arith (v:=aN (o.length - 1)) ?_ (hv:=nU (k:=o.length) (by omega) (by omega));refine ah ?_;refine RO.oH (bf.refl _) q (λq8 o8 hj v=>?_) (j:=o.length - 1);have cn:=d' _ (af0 cf);have ej:o.getD (o.length - 1) 0=o[o.length - 1]:=bE cf _;rw[ej]at a;generalize o[o.length - 1]=x at*;obtain⟨x,rfl⟩:∃y:Nat,x=y:=⟨x.toNat,by omega⟩;rw[qE,agK]at a;rw[agK]at cn;obtain⟨_,cp,hx⟩:=cn;have hq:ir .quo 3 (x:Int) (.ofNat 2)=some (aN (x/2)):=by simp only[ir];rw[an (by decide),show((x:Int).tdiv (ahI 2))=((x/2:Nat):Int)from by rw[agL,Int.tdiv_eq_ediv_of_nonneg (by omega)];simp,pP (by omega) (by omega)];rfl
    have a':=hS.rg _ cp ((aF g (x/2)).aq.go[2]) (af0 _);have ek:(aF g (x/2)).aq.go.getD 2 default=(aF g (x/2)).aq.go[2]:=bE (by omega) _;rw[ek]at a;have el:aF g (x/2)=g.aj[x/2]:=by rw[aF,bE cp]
    refine ah ?_;refine RO.arith ?_ (hv:=hq);refine ah ?_;refine RO.cP U.gr co (λA o1 c1 er Z et hat hrd=>?_) (j:=x/2);rw[←el]at Z;obtain⟨hA,f3,hC,rfl,_,_,hD,hE,ew,rfl,_,_,av⟩:=Z;have⟨f4,_,_,_⟩:=av.all;refine ah ?_;refine RO.aW (v:=ew) ?_ (hc:=hat 6 _ rfl);refine ah ?_;refine RO.cP U.gr av (λq8 o8 gH e0 e2 e3 hat hrd=>?_) (j:=2);obtain⟨ve,rfl,_⟩:=e2;generalize hF:(aF g (x/2)).aq.go[2].block=jb at*;obtain⟨jb,rfl⟩:∃y:Nat,jb=y:=⟨jb.toNat,by omega⟩;rw[agK]at a;have e4:jb<g.aj.length:=by omega
    refine ah ?_;refine RO.cP U.gr co (λA o1 c1 er Z et hat hrd=>?_) (j:=jb);rw[bE e4]at a;obtain⟨hG,f5,hH,rfl,ds,_⟩:=Z;have⟨f6,_,_,f7⟩:=ds.all;refine ah ?_;refine RO.cX (λa3=>?_) (λa3=>?_);·refine ah ?_;exact Ru.aT (h2 _ U.gr)
    refine ah ?_;refine RO.cX (λa4=>absurd (p.symm.trans a4) (by decide)) (λa4=>?_);refine ah ?_;exact a _ _ _ ⟨rfl,λ_=>⟨fp,Classical.not_not.1 a3⟩,λh=>absurd h a4,U⟩ (by repeat'(first|exact trivial|refine⟨rfl,?_⟩))
   refine ah ?_;refine RO.cX (λa4=>?_) (λa4=>?_)
   ·refine ah ?_;refine Ru.cond (λa5=>?_) (λa5=>?_);·refine ah ?_;exact Ru.aT (h2 _ U.gr)
    refine ah ?_;exact a _ _ _ ⟨rfl,λh=>absurd h p,λ_=>ahp (by omega),U⟩ (by repeat'(first|exact trivial|refine⟨rfl,?_⟩))
   refine ah ?_;exact a _ _ _ ⟨rfl,λh=>absurd h p,λh=>absurd h a4,U⟩ (by repeat'(first|exact trivial|refine⟨rfl,?_⟩))
  subst hM;clear hat hrd;have dv:∀k,(B.params++eK (B.aA.take k)).length≤100:=λk=>by have:=Je (B.aA.take k);rw[ahl]at this;rw[agP];omega
  have dx:(tk B.aq).length≤200:=by have:=PF b3;rw[tk,agP];omega
  refine ah ?_;refine RO.rj U 1 λH9 e5 U=>?_;have⟨hJ,_,_,_⟩:=(U.sl (e:=3) (size:=1) (sv:=e5) (vs:=[]) (n:=0) (full:=true) 0).all;refine ah ?_;refine RO.pT U 0 (U.gr.sl ca) (λHA cv U=>?_) (h1:=ri _);have U:ai H HA (tS 3 1 ((B.params++eK (B.aA.take 0)).map aI) (B.params++eK (B.aA.take 0)).length true cv::tB dM S [vp,u,aU B.aq.op,va,.aC B.aq.name,vk,vg]::yi A N R Q qc P cap ex g vb gl Fd Fo D d b):=by rw[ah0,show eK []=[]from rfl,ahx];rw[agW]at U;exact U
  have⟨hK,_,_,_⟩:=(U.sl (e:=3) (size:=1) (sv:=cv) (full:=true) (vs:=(B.params++eK (B.aA.take 0)).map aI) (n:=(B.params++eK (B.aA.take 0)).length) 0).all;refine ah ?_;refine Ru.nm λS1 M1 e6 cx=>?_;refine Ru.cA cx (up (P:=λk=>∀HX kv,(∀y,y<k→∀x∈kD B y,wi O gl B i y x)→ai H HX (tS 3 1 ((B.params++eK (B.aA.take k)).map aI) (B.params++eK (B.aA.take k)).length true kv::tB dM S [vp,u,aU B.aq.op,va,.aC B.aq.name,vk,vg]::yi A N R Q qc P cap ex g vb gl Fd Fo D d b)→Ru ab _ S1 ([(aO,aN k),(p9,kv)]++pk M1 [p1,p3,p4,p5,p6,p7]) HX) (B.aA.length+1) (λk hX n HX kv cy U=>?_) 0 (by omega) _ _ (λy hy=>by omega) U);subst e6;subst cx;have hL:=dv k;have s:=U.sl (e:=3) (size:=1) (sv:=kv) (vs:=(B.params++eK (B.aA.take k)).map aI) (n:=(B.params++eK (B.aA.take k)).length) (full:=true) 0;have⟨f8,_,_,_⟩:=s.all;refine Ru.loop ?_;refine ah ?_;refine Ru.cond (λe7=>?_) (λe7=>?_)
  ·have n:=n (k+1) (by omega) (by omega);refine ah ?_;refine RO.eG U 1 (m:=5) (o:=2) ?_;refine RO.cl (aey T (dH.He U.gr dr) ⟨by omega,by omega⟩ b3 λHB rv hl=>?_);have U:=U.fF hl;have⟨f9,_,_,f'⟩:=(U.sl (e:=3) (size:=1) (sv:=rv) (vs:=(tk B.aq).map aI) (n:=(tk B.aq).length) (full:=true) 0).all;refine RO.bg ?_;refine RO.nil ?_;refine Ru.seq ?_;refine Ru.xP (P:=λM H'=>∃ba,M=[(aQ,ba),(p1,.aw A 0),(p3,.aw N 0),(p4,.slice Q 0 g.aj.length cap ex),(p5,.slice R 0 g.bi.toNat g.bi.toNat true),(p6,aN i),(p7,.aw S 0),(p9,kv),(aO,aN k)]∧iy H' (kD B k) ba∧ai H H' (tS 3 1 ((B.params++eK (B.aA.take k)).map aI) (B.params++eK (B.aA.take k)).length true kv::tB dM S [vp,u,aU B.aq.op,va,.aC B.aq.name,vk,vg]::yi A N R Q qc P cap ex g vb gl Fd Fo D d b)) (λM HC⟨ba,hM,t,U⟩=>?_) (λs' a=>?_);rotate_left
   ·refine ah ?_;refine Ru.cond (λp=>?_) (λp=>?_);·refine ah ?_;refine RO.cP U.gr Y (λq8 o8 gH e0 e8 e3 hat hrd=>?_) (j:=k);obtain⟨e',rfl,ax⟩:=e8;have⟨hN,_,_,_⟩:=ax.all;refine ah ?_;exact a _ _ _ ⟨e',rfl,by rw[kD,aH p,bE p];exact U.gr.sl ax,U.tail⟩ (by repeat'(first|exact trivial|refine⟨rfl,?_⟩))
    refine ah ?_;exact a _ _ _ ⟨rv,rfl,by rw[kD,an p];exact U.sl (e:=3) (size:=1) (sv:=rv) (vs:=(tk B.aq).map aI) (n:=(tk B.aq).length) (full:=true) 0,U.tail⟩ (by repeat'(first|exact trivial|refine⟨rfl,?_⟩))
   subst hM;have⟨gb,_,_,gd⟩:=t.all;have s:=U.sl (e:=3) (size:=1) (sv:=kv) (vs:=(B.params++eK (B.aA.take k)).map aI) (n:=(B.params++eK (B.aA.take k)).length) (full:=true) 0;have dy:∀x∈kD B k,0≤x∧x<g.bi:=λx m=>by
    unfold kD at m;split at m;·rename_i p;rw[bE p]at m;have:=(hR.aA _ E _ (af0 p)).r.oT x m;omega
    rcases agI.1 m with m|m;·have:=b4.oT x m;omega
    obtain⟨e,he,m⟩:=ah6.1 m;obtain⟨y,hy,rfl⟩:=agS he;have:=(b4.Er y hy).oT x m;omega
   have gg:(kD B k).length≤200:=by
    unfold kD;split;·rename_i p;rw[bE p];have:=(d6 _ (af0 p)).1;omega
    exact dx
   refine ah ?_;refine Ru.nm λS2 M2 fa cE=>?_;refine Ru.cA cE (up (P:=λj=>(∀y(h:y<(kD B k).length),y<j→wi O gl B i k (kD B k)[y])→Ru ab _ S2 ([(aZ,aN j)]++pk M2 [p1,p3,p4,p5,p6,p7,p9,aO,aQ]) HC) (kD B k).length (λj hj w c8=>?_) 0 (by omega) (λy _ hy=>by omega));subst fa;subst cE;refine Ru.loop ?_;refine ah ?_;refine Ru.cond (λc9=>?_) (λc9=>?_)
   ·have w:=w (j+1) (by omega) (by omega);have a':=dy _ (af0 c9);have c:wi O gl B i k (kD B k)[j]→∀y(h:y<(kD B k).length),y<j+1→wi O gl B i k (kD B k)[y]:=λhb y hy h=>by
     by_cases e:y=j;·subst e;exact hb
     exact c8 y hy (by omega)
    refine ah ?_;refine RO.oH (bf.refl _) t (λq9 o9 X v=>?_) (j:=j);generalize hz:(kD B k)[j]=x at*;obtain⟨x,rfl⟩:∃y:Nat,x=y:=⟨x.toNat,by omega⟩;have fb:(gl.map aI)[0+x*1]?=some (aI (gl.getD x 0)):=by rw[show 0+x*1=x by omega,ahc,getElem?_pos gl x (by omega),bE (by omega)];rfl
    have c':=a6.tg hR a'.1 a'.2;unfold wi at c;rw[agK]at c' c;generalize gl.getD x 0=fr at*;have hO:x<g.bi.toNat:=by omega
    refine ah ?_;refine RO.eH U 2 (hv:=fb) ?_;refine ah ?_;refine RO.cX (λb1=>?_) (λb1=>?_)
    ·have b1:0≤fr:=b1;obtain⟨f,hf,rfl⟩:∃f:Nat,f<g.aj.length∧fr=f:=by
      rcases c' with e|e;·omega
      exact e
     rw[agK]at c;obtain⟨_,_,_,_,_,bc⟩:=a2.ex;have hP:=a2.len;have gi:=(bc f hf).len;have gn:=bv.len;obtain⟨_,ay,_,_⟩:=U.mC 3 rfl (bv.mem f (by omega));have fd:D[0+f*1]?=some (D.getD f .bX):=by rw[show 0+f*1=f by omega,getElem?_pos D f (by omega),bE (by omega)]
     generalize D.getD f .bX=hY at*;generalize hQ:O.getD f []=bb at*;have⟨gq,_,_,_⟩:=ay.all;refine ah ?_;refine RO.cX (λb2=>?_) (λb2=>?_)
     ·refine ah ?_;refine RO.eH U 4 (hv:=fd) ?_;refine ah ?_;refine RO.jX (bf.refl _) ay (λq9 o9 X v=>?_) (j:=i);have fe:bb.getD i false=bb[i]:=bE (by omega) _;rw[fe]at c;generalize bb[i]=rb at*;refine ah ?_;refine RO.pR (λfq=>?_) (λfq=>?_)
      ·refine ah ?_;refine RO.oH (bf.refl _) t (λq9 o9 X v=>?_) (j:=j);rw[hz]at v;refine ah ?_;refine RO.cl (Ob T s (by omega) (λc1=>?_) (λc1=>?_));·refine ah ?_;exact Ru.wk (w (c (.inr (.inr c1))))
       refine ah ?_;exact Ru.aT (h2 _ U.gr)
      refine ah ?_;exact Ru.wk (w (c (.inr (.inl ⟨by omega,by simpa using fq⟩))))
     refine ah ?_;refine RO.oH (bf.refl _) t (λq9 o9 X v=>?_) (j:=j);rw[hz]at v;refine ah ?_;refine RO.cl (Ob T s (by omega) (λc1=>?_) (λc1=>?_));·refine ah ?_;exact Ru.wk (w (c (.inr (.inr c1))))
     refine ah ?_;exact Ru.aT (h2 _ U.gr)
    have b1:¬0≤fr:=b1;refine ah ?_;exact Ru.wk (w (c (.inl (by omega))))
   refine Ru.exitTo ?_;have I:∀y,y<k+1→∀x∈kD B y,wi O gl B i y x:=λy hy x m=>by
    by_cases e:y=k;·subst e;obtain⟨z,hz,rfl⟩:=agS m;exact c8 z hz (by omega)
    exact cy y (by omega) x m
   refine ah ?_;refine RO.cX (λc1=>?_) (λc1=>?_)
   ·rw[(agX c1).symm,IT,←agJ]at n;generalize B.params++eK (B.aA.take k)=l0 at*;refine ah ?_;refine RO.cP U.gr Y (λS o7 c7 fk ag fl J dz=>?_) (j:=k);generalize m:B.aA[k]=x at*;obtain⟨fo,rfl,d0⟩:=ag;refine ah ?_;refine RO.aW (v:=aI x.to) ?_ (hc:=J 1 _ rfl);refine ah ?_;refine Ru.cond (λg4=>?_) (λg4=>?_);·have g4:0≤x.to:=g4;rw[aH g4]at n;refine ah ?_;refine RO.cP U.gr Y (λS o7 c7 fk ag fl J dz=>?_) (j:=k);rw[m]at ag;obtain⟨fo,rfl,d0⟩:=ag;refine ah ?_;refine RO.aW (v:=aI x.to) ?_ (hc:=J 1 _ rfl);refine RO.push U 0 (λw0 H9 v2 U=>?_) (ws:=[aI x.to]);have⟨hT,hU,hV,_⟩:=(U.sl (e:=3) (size:=1) (n:=l0.length+1) (full:=true) (sv:=v2) 0).all;refine ah ?_;exact Ru.wk (n _ v2 I (by rw[ahk,agP];exact U))
    have g4:¬0≤x.to:=g4;rw[an g4,ahx]at n;refine ah ?_;exact Ru.wk (n _ kv I U)
   rw[show B.aA.take (k+1)=B.aA.take k from by rw[ag2 (by omega),ag2 (by omega)]]at n;refine ah ?_;exact Ru.wk (n _ kv I U)
  refine Ru.exitTo ?_;refine ah ?_;exact Ru.wk (ih _ (L λ_=>⟨by rw[F,b'];exact gy,by rw[F,b'];exact gA,by rw[F];exact λy hy x m=>cy y (by omega) x m⟩) U.tail.tail)
 refine Ru.exitTo ?_;refine ah ?_;exact Ru.aT (h1 _ U.gr ⟨b,az,O,gl,hI,d2,a2,a6,λx m=>b0 x (by omega)⟩)
end
end
section
section
variable{g:G.bu}{i p m n:AV}{f:ac}{A H:af}{h:List AV}{come:List Bool}{os:List (List bU)}{ap:List Nat}{d:List (List Int)}
def lR(g:G.bu)(d:List (List Int))(o:List bU):List Int:=match nD g o with
 |some t=>d.getD t.toNat []
 |none=>[]
theorem aeA(T:Tb ab)(V:Vd g){B:af}(c:bf B H)(s:FX g B f i p m n h come os ap d)(L:dA g come os)(W:jJ g come os d){b:Nat}(hb:come.getD b false=true){K:AV→af→Prop}(ds:∀H' v,iy B (lR g d (os.getD b [])) v→bf H H'→K v H'):YF ab (.func VK [] []) [.aw f 0,aN b] H K:=by
 have hB:=V.sm;have bd:=hB.nb;have bv:=L.lt hb;have⟨hO,b0⟩:=V.dP.jG (L.dP b hb);have hs:=s.op b hb;have⟨X,Y,Z,b3⟩:=hs.all;have w:=s.ro.lt;have ag:=s.ro.aF;have ar:=s.ro.jG;have av:=s.c6;have⟨b4,_,_,_⟩:=s.ro.sl.all;have⟨b5,_,_,_⟩:=s.bl.all;have⟨b6,_,_,_⟩:=s.sl.all;have G:∀t,nD g (os.getD b [])=some t→0≤t∧t.toNat<d.length:=λt Q=>by obtain⟨_,_,_,_,hc,h0⟩:=wd V.dP L hb Q;exact⟨h0,by rw[W.len];exact L.lt hc⟩
 refine YF.code T.aah (by simp) ?_;refine au ?_;refine RO.dS (ai.cW H) λH1 M U=>?_;refine RO.gk U λH2 N U=>?_;refine ah ?_;refine RO.aW ?_ (v:=m) (hc:=by rw[(c.trans U.gr).bh w];exact ar);refine ah ?_;refine RO.uF (c.trans U.gr) s.ro.sl (λq8 o8 b' _=>?_) (j:=b);refine ah ?_;refine RO.cl (EC T.aaz (by decide) X Y Z λH4 q hl=>?_);have U:=U.fF hl;refine ah ?_;generalize os.getD b []=o at*;refine Ru.wk (L:=[(bj,.func Wd [] [.aw q 0]),(p2,.aw M 0),(p4,.aw N 0)]) ?_;have U:ai H H4 ([tB Hi q [h.getD b .bX]]++[tB gp N [.aP],tB lF M [.aw f 0]]++[]):=U;refine Ru.qz (J:=λk ts=>ts=[tB gp N [.aP],tB lF M [.aw f 0]]∧∀j(hj:o.length - 1 - j<o.length),j<k→o[o.length - 1 - j].2≠0) (Dn:=λj ts=>j=.ret∧∃t v,nD g o=some t∧iy B (d.getD t.toNat []) v∧ts=[tB gp N [v],tB lF M [.aw f 0]]) U (EB (R:=Pv) (agg:=true) (size:=2) (la:=o) (sv:=h.getD b .bX) (e:=Hi) (nt:=19) T.aaP (by decide) (by omega) (λds=>by cases ds) (λa cs ds=>by cases ds;rfl)) (λH2 hg=>oV.r (((c.trans U.gr).trans hg).sl hs)) ⟨rfl,λj _ hj=>absurd hj (by omega)⟩ (λk args ws ds=>by obtain⟨_,_,_,_,rfl⟩:=ds;rfl) (λk ts us H' O U=>oV.r ((c.trans U.gr).sl hs)) (λk args ws ts us l o1 o2 H' hk ax O U=>?_) (λH' ay R O U=>?_) (λj H' ay R hj hD U=>?_)
 ·obtain⟨rfl,A,cs,a1,rfl⟩:=ax;obtain⟨rfl,eS⟩:=O;have a2:=af0 A;generalize x:o[o.length - 1 - k]=oo at*;obtain⟨ob,C⟩:=oo;subst a1;refine ah ?_;refine RO.fG U λH5 q7 U=>?_;refine ah ?_;refine Ru.dO (xs:=[_,_,_]) U λH6 U=>?_;refine ah ?_;refine Ru.kh (λh0=>?_) (λh0=>?_)
  ·have a6:C=0:=by simpa using h0
   obtain⟨g1,g2,S⟩:=hO.ok _ a2;simp only at g1 g2 S;obtain⟨t,rfl⟩:∃t:Nat,ob=(t:Int):=⟨ob.toNat,by omega⟩;rw[agK]at S;have D:t<g.aj.length:=by omega
   have g4:g.aj[t].aq.go.length=3:=by rw[←S,bE D]
   have u:=Pa (g:=g) A hk eS (by rw[x];exact a6);rw[x]at u;simp only[aF,agK,bE D]at u;rw[bE (by omega)]at u;obtain⟨i0,i1⟩:=G _ u;refine ah ?_;refine RO.aW ?_ (v:=n) (hc:=by rw[(c.trans U.gr).bh w];exact av);refine ah ?_;refine RO.aW ?_ (v:=i) (hc:=by rw[(c.trans U.gr).bh w];exact ag);refine ah ?_;refine RO.cP (c.trans U.gr) s.bl (λq9 o9 dr ca a8 cd hat _=>?_) (j:=t);obtain⟨vp,vs,jc,rfl,_,_,va,vk,vg,rfl,_,_,E⟩:=a8;have⟨cf,_,_,_⟩:=E.all;refine ah ?_;refine RO.aW (v:=vg) ?_ (hc:=hat 6 _ rfl);refine RO.cP (c.trans U.gr) E (λcn cp cv a' I ba y _=>?_) (j:=1) (hj:=by omega);obtain⟨ve,rfl,_⟩:=I;generalize g.aj[t].aq.go[1].block=tt at*;obtain⟨P,rfl⟩:∃P:Nat,tt=(P:Int):=⟨tt.toNat,by omega⟩;rw[agK]at i1;refine ah ?_;refine RO.aW (v:=aN P) ?_ (hc:=y 0 _ rfl);refine RO.cP (c.trans U.gr) s.sl (λcx cy cE bb J bc z _=>?_) (j:=P);obtain⟨vl,rfl,F⟩:=J;have⟨c8,c9,c',_⟩:=F.all;refine ah ?_;refine RO.aW (v:=vl) ?_ (hc:=z 0 _ rfl);refine RO.fU U 1 (λH7 U=>?_);refine ah ?_;have U:=U.tail (t:=tB MX q7 [aN t,.bool (C==0)]);refine Ru.N3 (ts:=[_,_]) U ⟨rfl,_,vl,u,?_,rfl⟩;rw[agK,bE i1];exact F
  refine ah ?_;refine Ru.bD (ts:=[_,_]) U.tail ⟨rfl,λj hj dm=>?_⟩;by_cases e:j=k;·subst e;rw[x];simpa using h0
  exact eS j hj (by omega)
 ·obtain⟨rfl,eS⟩:=O;refine ah ?_;refine RO.fU U 0 (λH5 U=>?_);refine ah ?_;refine Ru.nu (M:=[R]) (ts:=[_,_]) (U.cO (ag1 (l₁:=[_,_]))) λH' U=>⟨[.aP],⟨⟨_,_,rfl,U.one 0⟩,trivial⟩,ds H' .aP ?_ U.gr⟩;rw[lR,O' eS];exact .inl ⟨rfl,rfl,rfl⟩
 obtain⟨rfl,t,v,Q,hv,rfl⟩:=hD;refine RJ.vu (RJ.nu (M:=[R]) (ts:=[_,_]) (.inr rfl) (U.cO (ag1 (l₁:=[_,_]))) λH' U=>⟨[v],⟨⟨_,_,rfl,U.one 0⟩,trivial⟩,ds H' v ?_ U.gr⟩);rw[lR,Q];exact hv
end
section
variable{H:af}{q:ac}{ks:List Int}
theorem aeB(T:Tb ab)(hs:gK (H.get q) ks){es:List aR}{cc:Nat}(he:H.get q=.map es cc){K:AV→af→Prop}(c:∀H' b,ai H H' [tM true b λx=>x∈ks]→K (.map b) H'):YF ab (.func VZ [] []) [.map q] H K:=by
 refine YF.code T.aaA (by simp) ?_;refine au ?_;refine RO.eq (t:=false) ?_ (ht:=rfl);refine au ?_;have hg:wT [.iface fV (.map q)] H=some (.iface fV (.map H.next),H.new (.map es cc)):=by simp only[wT,he]
 refine RO.cl (YF.gZ T.abY hg ?_);refine RO.typeAssert (u:=fV) (v:=.map H.next) rfl rfl ?_;refine au ?_;have a:gK (.map es cc) ks:=by rw[←he];exact hs
 exact Ru.aT (c _ _ ((ai.cW H).OW (S:=λx=>x∈ks) (ex:=true) a (λ_=>Iff.rfl) λ_=>⟨es,cc,rfl⟩))
theorem Jk(T:Tb ab)(hs:gK (H.get q) ks)(he:∃es c,H.get q=.map es c){w:Int}{l:List Int}{d:AV}(hl:iy H l d)(v:l.length≤1000000){K:AV→af→Prop}(o:∀H' b S,(∀x,S x↔x∈l∨x∈ks∧x≠w)→ai H H' [tM true b S]→K (.map b) H'):YF ab (.func Nk [] []) [.map q,aI w,d] H K:=by
 have⟨y,_,_,z⟩:=hl.all;obtain⟨es,cc,he⟩:=he;refine YF.code T.aai (by simp) ?_;refine au ?_;refine RO.cl (aeB T hs he λH1 b U=>?_);refine au ?_;refine RO.eq (t:=false) ?_ (ht:=rfl);refine au ?_;refine RO.adV U 0 (z:=w) (λB U=>?_);refine au ?_;refine Ru.nm λr M s j=>?_;refine Ru.cA j (up (P:=λk=>∀g S,(∀x,S x↔x∈l.take k∨x∈ks∧x≠w)→ai H g [tM true b S]→Ru ab _ r ([(bJ,aN k)]++pk M [p7,aY,bw]) g) l.length (λk C t g S a U=>?_) 0 (by omega) _ _ (λx=>by simp) U);subst s;subst j;refine Ru.loop ?_;refine au ?_;refine Ru.cond (λe=>?_) (λe=>?_)
 ·refine au ?_;refine RO.oH U.gr hl (λD o1 hj A=>?_) (j:=k);refine au ?_;refine RO.adR U 0 (z:=l[k]) (λu U=>?_);refine au ?_;exact Ru.wk (t (k+1) (by omega) (by omega) u _ (λx=>by
   rw[a,←agX e,agI,ac3];constructor
   ·rintro(E|E|E);·exact .inl (.inr E)
    ·exact .inl (.inl E)
    exact .inr E
   rintro((E|E)|E);·exact .inr (.inl E)
   ·exact .inl E
   exact .inr (.inr E)) U)
 refine Ru.exitTo ?_;rw[ag2 (by omega)]at a;refine au ?_;exact Ru.aT (o g b S a U)
end
end
section
section
variable{A H:af}{ts:List Th}{q:ac}{S:Int→Prop}
theorem Aa(T:Tb ab)(U:ai A H ts)(i:Nat)(hi:ts[i]?=some (tM true q S)){w:Int}{l:List Int}{e:AV}(hl:iy H l e)(c:l.length≤1000000){K:AV→af→Prop}(f:∀H' a b,(∀x,b x↔x∈l∨S x∧x≠w)→ai A H' (tM true a b::ts)→K (.map a) H'):YF ab (.func Nk [] []) [.map q,aI w,e] H K:=by obtain⟨⟨ks,hs,g⟩,he,_⟩:=U.n9 i hi;refine Jk T hs (he rfl) hl c λH' a b h1 d=>f H' a b (λx=>?_) (U.fF d);rw[h1,g]
theorem Jl:∀(l:List Int)(x:Int),x∈fN l↔x∈l
 |[],x=>by simp[fN]
 |y::l,x=>by
  have h:∀(z:Int)(l:List Int),x∈mS z l↔x=z∨x∈l:=by
   intro z l;induction l with
   |nil=>simp[mS]
   |cons a l b=>
    simp only[mS];split
    ·simp only[adC,b];constructor
     ·rintro(h|h|h);·exact .inr (.inl h)
      ·exact .inl h
      exact .inr (.inr h)
     rintro(h|h|h);·exact .inr (.inl h)
     ·exact .inl h
     exact .inr (.inr h)
    simp
  simp only[fN,h,Jl l,adC]
theorem PG:∀l:List Int,(fN l).length=l.length
 |[]=>rfl
 |y::l=>by
  have h:∀(z:Int)(l:List Int),(mS z l).length=l.length+1:=by intro z l;induction l with|nil=>rfl|cons a l b=>simp only[mS];split<;>simp[b]
  simp only[fN,h,PG l,ahh]
theorem PH:∀l:List Int,l.Nodup→(fN l).Pairwise (·<·)
 |[],_=>aiv
 |y::l,k=>by
  obtain⟨h1,h2⟩:=ahg.1 k;have g:=PH l h2;have e:y∉fN l:=by rw[Jl];exact h1
  simp only[fN];generalize fN l=m at*;clear k h1 h2;induction m with
  |nil=>simp[mS]
  |cons a m f=>
   obtain⟨i,n⟩:=ah4.1 g;simp only[adC,not_or]at e;simp only[mS];split
   ·rename_i d;rw[mO,decide_eq_true_eq]at d;refine ah4.2 ⟨λb hb=>?_,f n e.2⟩;have:b=y∨b∈m:=by
     clear f g i n e d;induction m with
     |nil=>simpa[mS]using hb
     |cons c m j=>
      simp only[mS]at hb;split at hb
      ·rcases adC.1 hb with h|h;·exact .inr (h▸adc ..)
       exact(j h).imp id (adD _)
      exact adC.1 hb
    rcases this with rfl|h;·exact d
    exact i b h
   rename_i d;rw[mO,Bool.not_eq_true,decide_eq_false_iff_not]at d;refine ah4.2 ⟨λb hb=>?_,g⟩;rcases adC.1 hb with rfl|h;·have:=e.1;omega
   have:=i b h;have:=e.1;omega
theorem aeC(T:Tb ab)(U:ai A H ts)(i:Nat){ex:Bool}(hi:ts[i]?=some (tM ex q S))(m:∀ks:List Int,ks.Nodup→(∀x,x∈ks↔S x)→ks.length≤1000){K:AV→af→Prop}(g:∀(H':af)(v:AV)(l:List Int),(∀x,x∈l↔S x)→l.Pairwise (·<·)→ai A H' (tR 1 (l.map aI) l.length v::ts)→K v H'):YF ab (.func Nw [] []) [.map q] H K:=by
 obtain⟨⟨ks,hs,d⟩,_,_⟩:=U.n9 i hi;obtain⟨_,h⟩:=Cj hs;have b:=hs.1;have f:=m ks b d;have c:∀x,x∈fN ks↔S x:=λx=>by rw[Jl,d]
 cases ks with
 |nil=>
  refine YF.gZ (v:=.aP) (H':=H) T.Ik (by simp[wS,h]) (g H .aP [] (λx=>?_) aiv ?_);·rw[←d]
  exact(U.oG 3 1).as 0 rfl λo e=>tS.lL e
 |cons k ks=>have hb:ahG (k::ks).length 1000=true:=ahi f;have a:=PG (k::ks);refine YF.gZ (v:=.slice H.next 0 (k::ks).length (k::ks).length false) (H':=H.new (.cells (cM ((fN (k::ks)).map λn=>.int 3 n)) (k::ks).length 3 true [] 0)) T.Ik (by simp only[wS,ahH,ahx,h,hb,bm]) (g _ _ (fN (k::ks)) c (PH _ b) ?_);have j:=dK.new (H:=H) (e:=3) (size:=1) (n:=(k::ks).length) (vs:=(fN (k::ks)).map aI) (by rw[agZ,a];simp) false true;rw[ah9]at j;have:=(U.push (bf.new H _) (t:=tS 3 1 ((fN (k::ks)).map aI) (k::ks).length true (.slice H.next 0 (k::ks).length (k::ks).length false)) j (uk H)).as 0 rfl λo e=>tS.lL e;rw[a];exact this
end
def aeD:bp:=(.seq (.region [O p4 (.bg (T p0)),O p5 (.jN (T p4)),O p6 (.arith .sub 3 (T p5) (I 3 1)),O p2 (.bg (I 3 0)),O p3 (.bg (T p6))]) (.block 0 (.loop (.seq (.seq (.region [O p7 (.bg (T p2)),O p8 (.bg (T p3)),O p9 (.arith .lss 3 (T p7) (T p8))]) (.cond (T p9) .skip (.exit 0))) (.seq (.block 1 (.region [O bj (.bg (T p0)),O bk (.bg (T p2)),O bo (.bg (T p0)),O aY (.bg (T p3)),O bw (.bg (T p0)),O bJ (.bg (T p3)),O bP (.dk 1 (T bw) (T bJ)),O bQ (.aW (T bP)),O bM (.bg (T p0)),O bI (.bg (T p2)),O bG (.dk 1 (T bM) (T bI)),O bR (.aW (T bG)),O b8 (.dk 1 (T bj) (T bk)),N (.store 1 (T b8) (T bQ)),O bV (.dk 1 (T bo) (T aY)),N (.store 1 (T bV) (T bR))])) (.region [O aO (.bg (T p2)),O aQ (.arith .add 3 (T aO) (I 3 1)),O aZ (.bg (T p3)),O aX (.arith .sub 3 (T aZ) (I 3 1)),O p2 (.bg (T aQ)),O p3 (.bg (T aX))]))))))
theorem aeE{l:List AV}{i j x:Nat}{a b:AV}(hi:i<l.length)(hj:j<l.length):((l.set i a).set j b).getD x .bX=if x=j then b else if x=i then a else l.getD x .bX:=by rw[e9 (by simpa using hj),e9 hi]
theorem aeF{f e:Nat}(r:ab f=.code 28 [] aeD){A H:af}{us:List Th}{l:List AV}{n cap:Nat}{q:ac}{ex:Bool}(o:l.length=n)(h0:0<n)(B:n<1000000)(hv:∀v∈l,v.dQ=true∧v.cells=[v]∧v.bB=true)(U:ai A H (tS e 1 l n true (.slice q 0 n cap ex)::us)){K:AV→af→Prop}(s:∀H',ai A H' (tS e 1 l.reverse n true (.slice q 0 n cap ex)::us)→K (iu []) H'):YF ab (.func f [] []) [.slice q 0 n cap ex] H K:=by
 have g:∀x,x<n→(l.getD x .bX).dQ=true∧(l.getD x .bX).cells=[l.getD x .bX]∧(l.getD x .bX).bB=true:=λx d=>by rw[bE (by omega)];exact hv _ (af0 _)
 refine YF.code r (by simp) ?_;refine au ?_;refine RO.arith (v:=aN (n - 1)) ?_ (hv:=nU (k:=n) (by omega) (by omega));refine au ?_;refine Ru.nm λS M t p=>?_;refine Ru.cA p (up (P:=λk=>∀j a,a.length=n→(∀x,x<n→a.getD x .bX=if x<k∨n≤x+k then l.getD (n - 1 - x) .bX else l.getD x .bX)→ai A j (tS e 1 a n true (.slice q 0 n cap ex)::us)→Ru ab _ S ([(p2,aN k),(p3,aN (n - 1 - k))]++pk M [p0]) j) (n - 1) (λk C u j a c d U=>?_) 0 (by omega) _ l o (λx d=>by rw[an (by omega)]) U);subst t;subst p;refine Ru.loop ?_;refine au ?_;refine Ru.cond (λm=>?_) (λm=>?_)
 ·have h:∀x,x<n→(a.getD x .bX).dQ=true∧(a.getD x .bX).cells=[a.getD x .bX]∧(a.getD x .bX).bB=true:=λx b=>by
   rw[d x b];split;·exact g _ (by omega)
   exact g _ b
  have i:∀x,x<n→a[0+x*1]?=some (a.getD x .bX):=λx b=>by rw[show 0+x*1=x by omega,bE (by omega)];simp
  obtain⟨D,E,a3⟩:=h k (by omega);obtain⟨b1,b2,F⟩:=h (n - 1 - k) (by omega);refine sD ?_;refine RO.eH U 0 (hv:=i (n - 1 - k) (by omega)) ?_;refine sD ?_;refine RO.eH U 0 (hv:=i k (by omega)) ?_;refine sD ?_;refine RO.xK U 0 c (λG U=>?_) (k:=k);refine sD ?_;refine RO.xK (vs:=a.set k (a.getD (n - 1 - k) .bX)) (n:=n) U 0 (by rw[ahN];exact c) (λw U=>?_) (k:=n - 1 - k) (ho:=by rw[ahN];omega);refine sD ?_;refine RO.arith (v:=aN (n - 1 - (k+1))) ?_ (hv:=by rw[show n - 1 - (k+1)=n - 1 - k - 1 by omega];exact nU (k:=n - 1 - k) (by omega) (by omega));refine au ?_;have y:∀x,x<n→((a.set k (a.getD (n - 1 - k) .bX)).set (n - 1 - k) (a.getD k .bX)).getD x .bX=if x<k+1∨n≤x+(k+1)then l.getD (n - 1 - x) .bX else l.getD x .bX:=λx b=>by
   rw[aeE (by omega) (by omega)];by_cases h1:x=n - 1 - k;·rw[aH h1,aH (by omega),d k (by omega),an (by omega),h1];congr 1;omega
   rw[an h1];by_cases h2:x=k;·rw[aH h2,aH (by omega),d _ (by omega),an (by omega),h2]
   rw[an h2,d x b];by_cases h3:x<k∨n≤x+k;·rw[aH h3,aH (by omega)]
   rw[an h3,an (by omega)]
  have z:((a.set k (a.getD (n - 1 - k) .bX)).set (n - 1 - k) (a.getD k .bX)).length=n:=by simpa using c
  exact Ru.wk (u (k+1) (by omega) (by omega) w _ z y U)
 refine Ru.exitTo ?_;refine au ?_;have e:a=l.reverse:=by
  apply ahU (by simp[c,o]);intro x h1 h2;have h3:=d x (by omega);rw[bE h1]at h3;rw[h3,List.getElem_reverse];split;·rw[bE (by omega)];congr 1;omega
  rw[bE (by omega)];congr 1;omega
 subst e;exact Ru.aq (vs:=[]) trivial (s _ U)
end
end
end Go.ak.R
end
