/- A part of the proof. No conditions. -/
import Derived.Test.YtjhkgigolpfcfaaGreatDoorA16
set_option linter.all false
set_option maxHeartbeats 16000000
open List renaming mem_singleton->aep,mem_cons_of_mem->aey,mem_cons_self->aeU,replicate->ahr,range->ake,length_map->akg,length_cons->akA,length_take->akF
open Nat renaming le_of_ble_eq_true->akc
open List.Perm renaming cons->akO,swap->akS
open Prod renaming fst->alO
noncomputable section
namespace Go.am.R
section
variable{ac:Nat->aG}
section
def yW(g:G.bu)(os:List (List bV))(S:Nat->Int->Prop)(b:Nat)(v:Int):Prop:=
 (∃bH,(v,bH)∈kF (aH g b)/\rq g b v bH)\/(∃w∈wW g os b,S w v/\rq g b v (aH g b).aD.length)\/∃t,oD g (os.getD b [])=some t/\S t.toNat v/\rq g b v 0
theorem JI{c P e:Int->Prop}{u b:Bool}(h0:∀x,c x->P x)(h1:∀x,P x->e x)(g:u=true↔∃x,P x/\¬c x)(f:b=true↔u=true\/∃x,e x/\¬P x):b=true↔∃x,e x/\¬c x:=by grind
theorem JJ(S:Nat->Int->Prop)(b:Nat)(P Q:Int->Prop):fh (fh S b P) b Q=fh S b Q:=by grind[fh]
theorem afo{l:List (Int×Int)}(b:(l.map (·.1)).Nodup){i j:Nat}(hi:i<l.length)(hj:j<l.length)(e:l[i].1=l[j].1):i=j:=(List.getElem_inj (h₀:=by grind) (h₁:=by grind) b).1 (by grind)
theorem afp{v:AV}{n:Nat}(b:lenOf v=some n):(∃i o c e,v=.slice i o n c e)\/v=.aS/\n=0:=by unfold lenOf at b;grind
theorem afq(S:Nat->Int->Prop)(b:Nat):fh S b (S b)=S:=by grind[fh]
theorem Fi(S:Nat->Int->Prop)(b:Nat)(P:Int->Prop):fh S b P b=P:=by simp[fh]
section
variable{A H:ai}{n b:Nat}{vs:List AV}{ids:Nat->ab}{ak:List Nat}{S:Nat->Int->Prop}{h m a d pm y:ab}{pl:List (Int×Int)}{u:Bool}{us:List Th}
theorem afr{t:Th}(T:Tb ac)(g:AZ n vs ids ak)(hb:b∈ak)(U:aj A H (t::(iv h m a d pm y n b pl u vs ids ak S++us))){v bH:Int}{K:KT}(i:∀r H' P c,(∀x,P x↔S b x\/x=v/\∀p,(v,p)∈pl->bH<=p)->(c=true↔u=true\/∃x,P x/\¬S b x)->aj A H' (t::(iv h m a d pm y n b pl c vs ids ak (fh S b P)++us))->K r H'):YF ac (eD h m a d) [aI v,aI bH] H K:=by
 have f:aj A H (iv h m a d pm y n b pl u vs ids ak S++(us++[t])):=by rw[<-aj2];exact U.cM (akH (l₁:=[_]))
 refine afm T g hb f λr H' P c h1 h2 e=>i r H' P c h1 h2 ?_;rw[<-aj2]at e;exact e.cM (akH (l₂:=[_]))
theorem aj.afs{xs ys:List Th}{e:Nat}{q:ab}{cs:List AV}(U:aj A H (xs++tB e q cs::ys)){o:Nat}{v:AV}(b:cs[o]?=some v):bh H q o=some v:=by obtain⟨_,c⟩:=(U.wy).get 0 rfl;grind[tB.cell]
end
section
variable{g:G.bu}{B C:AV}{z:ab}{A H:ai}{come:List Bool}{os:List (List bV)}{D:List AV}{n b:Nat}{vs:List AV}{ids:Nat->ab}{ak:List Nat}{S:Nat->Int->Prop}{y:ab}{us:List Th}
theorem afu(T:Tb ac)(V:Vd g)(hX:GX g A z B C come os D)(hK:cX g come os)(hO:AZ n vs ids ak)(hm:∀x,x∈ak↔come.getD x false=true)(hb:come.getD b false=true)(U:aj A H (lP y n vs ids ak S++us)){K:KT}(d1:∀H' P u,(∀v,P v↔S b v\/yW g os S b v)->(u=true↔∃v,P v/\¬S b v)->aj A H' (lP y n vs ids ak (fh S b P)++us)->K (.bool u) H'):YN ac Xd [.az z 0,aN b,.slice y 0 n n true] H K:=by
 have hB:=V.sm;have c3:=hB.nb;have a4:=hK.lt hb;have a5:=(hm b).2 hb;have ag:=hX.kS.lt;have b4:=hX.kS.aH;have⟨c5,_,_,_⟩:=hX.bl.all;have aw:=oC a4;have c8:=hB.bl _ aw;have eh:=hB.st _ aw;have b5:=hB.ed _ aw;have b6:=V.gv.nd _ aw;have b':g.al[b]=aH g b:=(bF a4 _).symm;have cE:(wW g os b).length<=12:=by have:=E4 (now:=os.getD b []) hB a4;simpa[wW,mK]using this
 refine YF.code T.ab5 aB ?_;refine au ?_;refine RO.dL U λH1 h U=>?_;refine RO.dL U λH2 m U=>?_;refine RO.gI U λH3 a U=>?_;refine ah ?_;refine RO.aW ?_ (v:=B) (hc:=by rw[U.gr.bh ag];exact b4);refine ah ?_;refine RO.cZ U.gr hX.bl (λq9 o9 d0 c9 ax c' hat hrd=>?_) (j:=b);rw[b']at ax;generalize J:aH g b=d2 at*;have a2:=ax.one;have a9:=ax;obtain⟨vp,F,jc,rfl,dm,ca,va,vk,vg,rfl,_,_,_⟩:=ax;have⟨_,_,_,bv⟩:=ca.all;refine ah ?_;refine RO.fx U λH4 W U=>?_;refine ah ?_;refine RO.ae8 U λH5 pm U=>?_;refine RO.fx U λH6 d U=>?_;refine ah ?_;refine RO.eQ U 2 ?_;refine RO.cl (Pu T (cs:=[vp,F,aU d2.aA.op,va,.str d2.aA.name,vk,vg]) a2 rfl λH7 q hl=>?_);have U:=U.fC hl;refine ah ?_;refine Ru.wk (L:=[(b7,.func EA [] [.az q 0]),(p0,.az z 0),(p4,.az h 0),(p5,.az m 0),(p6,.az a 0),(p7,.az W 0),(p8,.az d 0)]) ?_;have U:aj A H7 ([tB dW q [vp,F,aU d2.aA.op,va,.str d2.aA.name,vk,vg]]++[tB Ek d [.map pm],tI pm ((dC d2).take 0)]++(tB dW W [vp,F,aU d2.aA.op,va,.str d2.aA.name,vk,vg]::tB 4 a [.bool false]::tB wB m [.slice y 0 n n true]::tB 3 h [aN b]::(lP y n vs ids ak S++us))):=U;refine Ru.pG (J:=λk ts=>ts=[tB Ek d [.map pm],tI pm ((dC d2).take k)]) (Dn:=λ_ _=>False) U (Pv T a9 af af) (λ_ _=>trivial) rfl (λk args ws d1=>by obtain⟨rfl,_,rfl⟩:=d1;rfl) (λ_ _ _ _ _ _=>trivial) (λk args ws ts us l o1 o2 H' hk a6 hJ U=>?_) (λH' a8 Z hJ U=>?_) (λj H' a8 Z _ d1=>d1.elim)
 .obtain⟨rfl,ay,rfl⟩:=a6;subst hJ;have bS:((dC d2)[k]).1∉((dC d2).take k).map alO:=λI=>by obtain⟨p,hp,e⟩:=akk.1 I;obtain⟨i,hi,rfl⟩:=aka hp;rw[akF]at hi;rw[List.getElem_take]at e;have:=afo b6 af ay e;omega
  refine au ?_;refine Ru.dN (xs:=[_,_]) U λH2 U=>?_;refine ah ?_;refine RO.ae9 U 1 bS (λH3 U=>?_);refine ah ?_;refine Ru.bG (ts:=[_,_]) U ?_;rw[<-akd ay]
 subst hJ;rw[ak7]at U;refine ah ?_;refine RO.fx (xv:=eD h m a d) U λH8 E U=>?_;refine ah ?_;refine RO.eQ U 4 ?_;refine RO.cl (Pz T (cs:=[vp,F,aU d2.aA.op,va,.str d2.aA.name,vk,vg]) a2 λH9 qr hl=>?_);have U:=U.fC hl;refine ah ?_;refine Ru.wk (L:=[(dh,.func EB [] [.az qr 0]),(p0,.az z 0),(p4,.az h 0),(p5,.az m 0),(p6,.az a 0),(p7,.az W 0),(p8,.az d 0),(aR,.az E 0)]) ?_;have U:=((((((U.gk 3 rfl).gk 3 rfl).gk 7 rfl).gk 8 rfl).gk 8 rfl).gk 6 rfl).gk 6 rfl;have U:aj A H9 ([tB dW qr [vp,F,aU d2.aA.op,va,.str d2.aA.name,vk,vg]]++(tB nP E [eD h m a d]::iv h m a d pm y n b (dC d2) false vs ids ak S)++(tX Z (.deferred false)::tB dW W [vp,F,aU d2.aA.op,va,.str d2.aA.name,vk,vg]::us)):=by rw[aj2];exact U.cM (List.Perm.append_left [_,_,_,_,_,_,_] (List.perm_append_comm_assoc [_,_] _ _))
 refine Ru.pG (J:=λk ts=>∃P u,(∀x,P x↔S b x\/∃q∈(kF d2).take k,q.1=x/\∀p,(x,p)∈dC d2->q.2<=p)/\(u=true↔∃x,P x/\¬S b x)/\ts=tB nP E [eD h m a d]::iv h m a d pm y n b (dC d2) u vs ids ak (fh S b P)) (Dn:=λ_ _=>False) U (PA T a9 af (λs hs=>by have:=(eh s hs).1;omega) af af (λe he=>by have:=b5 e he;omega)) (λ_ _=>trivial) ⟨S b,false,aB,aB,by rw[afq]⟩ (λk args ws d1=>by obtain⟨rfl,_,rfl⟩:=d1;rfl) (λ_ _ _ _ _ _=>trivial) (λk args ws ts us l o1 o2 H' hk a6 hJ U=>?_) (λH' a8 L hJ U=>?_) (λj H' a8 Z _ d1=>d1.elim)
 .obtain⟨rfl,ay,rfl⟩:=a6;obtain⟨P,u,Q,hn,rfl⟩:=hJ;refine au ?_;refine Ru.dN (xs:=tB nP E [eD h m a d]::iv h m a d pm y n b (dC d2) u vs ids ak (fh S b P)) U λH2 U=>?_;refine ah ?_;refine RO.cl (afr T hO a5 (us:=tX l o2::us) U λr H3 P2 N h1 h2 U=>?_);rw[Fi]at h1 h2;rw[JJ]at U;refine ah ?_;refine Ru.bG (ts:=tB nP E [eD h m a d]::iv h m a d pm y n b (dC d2) N vs ids ak (fh S b P2)) U ⟨P2,N,λx=>?_,JI (λx I=>(Q x).2 (.inl I)) (λx I=>(h1 x).2 (.inl I)) hn h2,rfl⟩;rw[h1,Q,<-akd ay,or_assoc];refine or_congr Iff.rfl ⟨?_,?_⟩
  .rintro(⟨q,X,d1⟩|⟨rfl,d1⟩);·exact⟨q,akf _ X,d1⟩
   exact⟨_,akq _ (aep.2 rfl),rfl,d1⟩
  rintro⟨q,X,e,d1⟩;rcases ahp.1 X with X|X;·exact .inl ⟨q,X,e,d1⟩
  rw[aep]at X;subst X;exact .inr ⟨e.symm,by rw[e];exact d1⟩
 obtain⟨P0,a',R,cd,rfl⟩:=hJ;rw[ak7]at R;refine ah ?_;refine RO.cl (Jp T V.sm V.dO (hX.cI U.gr) hK hb λdr v hl=>?_);have U:=(U.fC hl).cM (akj (l₁:=tB nP E [eD h m a d]::iv h m a d pm y n b (dC d2) a' vs ids ak (fh S b P0))).symm;have⟨ds,_,_,dv⟩:=(hl.sl (e:=3) (size:=1) (sv:=v) (vs:=(wW g os b).map aN) (n:=(wW g os b).length) (full:=true) 0).all;refine ah ?_;refine Ru.nm λS0 M hS hM=>?_;refine Ru.cC hM (up (P:=λk=>∀HX P u,(∀x,P x↔P0 x\/∃w∈(wW g os b).take k,S w x/\∀p,(x,p)∈dC d2->(d2.aD.length:Int)<=p)->(u=true↔∃x,P x/\¬S b x)->aj A HX (tB nP E [eD h m a d]::iv h m a d pm y n b (dC d2) u vs ids ak (fh S b P)++tS 3 1 ((wW g os b).map aN) (wW g os b).length true v::(tX L (.deferred false)::tX Z (.deferred false)::tB dW W [vp,F,aU d2.aA.op,va,.str d2.aA.name,vk,vg]::us))->Ru ac _ S0 ([(dH,aN k)]++pk M [p0,p4,p5,p6,p7,p8,aR,cJ,dB]) HX) (wW g os b).length (λk hk ih HX P u Q hn U=>?_) 0 af _ P0 a' aB cd U);subst hS;subst hM;refine Ru.loop ?_;refine au ?_;refine Ru.cond (λag=>?_) (λag=>?_)
 .refine ah ?_;have cf:=(U.wy).sl (e:=3) (size:=1) (sv:=v) (vs:=(wW g os b).map aN) (n:=(wW g os b).length) (full:=true) 0;refine RO.lg (bm.refl _) cf (λdx dy cK dz=>?_) (j:=k);refine ah ?_;have cn:(wW g os b)[k]∈wW g os b:=agB ag;have a0:=(hm _).2 (hK.ls hb cn);have ba:(wW g os b).take (k+1)=(wW g os b).take k++[(wW g os b)[k]]:=(akd ag).symm;have ih:=ih (k+1) af af;rw[ba]at ih;clear ba;generalize(wW g os b)[k]=to at*;obtain⟨H',P2,N,hg,h1,h2,ar⟩:=PY hO a5 a0 U (bH:=.ofNat d2.aD.length) (tos:=15) (cQ:=BW);have cp:W≠a:=λe=>by have h8:=U.cM (akj (l₁:=tB nP E [eD h m a d]::iv h m a d pm y n b (dC d2) u vs ids ak (fh S b P)++[tS 3 1 ((wW g os b).map aN) (wW g os b).length true v,tX L (.deferred false),tX Z (.deferred false)]) (l₂:=us) (a:=tB dW W [vp,F,aU d2.aA.op,va,.str d2.aA.name,vk,vg])|>λd1=>by simpa using d1);exact h8.ne 0 2 rfl rfl af (λf d1=>d1.1) (λf d1=>d1.1) e
  have cv:bh HX W 1=some F:=by refine aj.afs (xs:=tB nP E [eD h m a d]::iv h m a d pm y n b (dC d2) u vs ids ak (fh S b P)++[tS 3 1 ((wW g os b).map aN) (wW g os b).length true v,tX L (.deferred false),tX Z (.deferred false)]) (ys:=us) (by simpa using U) rfl
  refine Ru.ez (cQ:=BW) (H':=H') T.adl (M:=[(p0,.az z 0),(p4,.az h 0),(p5,.az m 0),(p6,.az a 0),(p7,.az W 0),(p8,.az d 0),(aR,.az E 0),(cJ,v),(dB,aN (wW g os b).length),(dH,aN k)]) (λaa O=>?_) ?_
  .refine hg aa _ (O.get (p:=sl 11) rfl rfl) (O.get (p:=sl 5) rfl rfl) (O.get (p:=sl 15) rfl rfl) ?_;simp only[O.get (p:=sl 7) (v:=.az W 0) rfl rfl,wU cp,aes,bP,cv,akh];rcases afp bv with⟨i,o,c,e,rfl⟩|⟨rfl,h0⟩;·rfl
   rw[h0]
  rw[Fi]at h1 h2;rw[JJ]at ar;have key:∀x,P2 x↔P0 x\/∃w∈(wW g os b).take k++[to],S w x/\∀p,(x,p)∈dC d2->(d2.aD.length:Int)<=p:=λx=>by
   have b0:∀x,S b x->P x:=λx I=>(Q x).2 (.inl ((R x).2 (.inl I)));have bb:P x->P0 x\/∃w∈(wW g os b).take k++[to],S w x/\∀p,(x,p)∈dC d2->(d2.aD.length:Int)<=p:=λd1=>by
    rcases(Q x).1 d1 with d1|⟨w,Y,d1⟩;·exact .inl d1
    exact .inr ⟨w,akf _ Y,d1⟩
   rw[h1];constructor
   .rintro(d1|⟨d1,a1⟩);·exact bb d1
    simp only[fh]at d1;split at d1;·exact bb d1
    exact .inr ⟨to,akq _ (aep.2 rfl),d1,a1⟩
   rintro(d1|⟨w,Y,hs,a1⟩);·exact .inl ((Q x).2 (.inl d1))
   rcases ahp.1 Y with Y|Y;·exact .inl ((Q x).2 (.inr ⟨w,Y,hs,a1⟩))
   rw[aep]at Y;subst Y;by_cases e:w=b;·subst e;exact .inl (b0 x hs)
   refine .inr ⟨?_,a1⟩;simp only[fh,aq e];exact hs
  refine ah ?_;exact Ru.wk (ih H' P2 N key (JI (λx I=>(Q x).2 (.inl ((R x).2 (.inl I)))) (λx I=>(h1 x).2 (.inl I)) hn h2) ar)
 refine Ru.exitTo ?_;rw[akl af]at Q;refine ah ?_;have hR:∀x,(P x->S b x\/yW g os S b x)/\((∃q∈kF d2,q.1=x/\∀p,(x,p)∈dC d2->q.2<=p)\/(∃w∈wW g os b,S w x/\∀p,(x,p)∈dC d2->(d2.aD.length:Int)<=p)->P x)/\(S b x->P x):=λx=>by
  refine⟨λd1=>?_,λd1=>?_,λd1=>(Q x).2 (.inl ((R x).2 (.inl d1)))⟩
  .rcases(Q x).1 d1 with d1|⟨w,Y,h1,h2⟩
   .rcases(R x).1 d1 with d1|⟨q,X,rfl,h2⟩;·exact .inl d1
    refine .inr (.inl ⟨q.2,?_,?_⟩);·rw[J];exact X
    simp only[rq,J];exact h2
   refine .inr (.inr (.inl ⟨w,Y,h1,?_⟩));simp only[rq,J];exact h2
  rcases d1 with⟨q,X,d1⟩|⟨w,Y,d1⟩;·exact(Q x).2 (.inl ((R x).2 (.inr ⟨q,X,d1⟩)))
  exact(Q x).2 (.inr ⟨w,Y,d1⟩)
 have bc:∀x,yW g os S b x->P x\/∃t,oD g (os.getD b [])=some t/\S t.toNat x/\∀p,(x,p)∈dC d2->0<=p:=λx d1=>by
  rcases d1 with⟨bH,h1,h2⟩|⟨w,h1,h2,h3⟩|⟨t,h1,h2,h3⟩
  .refine .inl ((hR x).2.1 (.inl ⟨(x,bH),?_,rfl,?_⟩));·rw[<-J];exact h1
   simp only[rq,J]at h2;exact h2
  .refine .inl ((hR x).2.1 (.inr ⟨w,h1,h2,?_⟩));simp only[rq,J]at h3;exact h3
  refine .inr ⟨t,h1,h2,?_⟩;simp only[rq,J]at h3;exact h3
 refine RO.cl (afc T hB V.dO (hX.cI U.gr) hK hb λdD b3=>?_);have U:=U.cI b3;have a3:∀HX P u,aj A HX (tB nP E [eD h m a d]::iv h m a d pm y n b (dC d2) u vs ids ak (fh S b P)++tS 3 1 ((wW g os b).map aN) (wW g os b).length true v::(tX L (.deferred false)::tX Z (.deferred false)::tB dW W [vp,F,aU d2.aA.op,va,.str d2.aA.name,vk,vg]::us))->aj A HX (i9 [L,Z]++(tB 4 a [.bool u]::(lP y n vs ids ak (fh S b P)++us))):=λHX P u U=>by
  have h1:aj A HX (tB nP E [eD h m a d]::tB 4 a [.bool u]::tB 3 h [aN b]::tB wB m [.slice y 0 n n true]::tB Ek d [.map pm]::tI pm (dC d2)::(lP y n vs ids ak (fh S b P)++(tS 3 1 ((wW g os b).map aN) (wW g os b).length true v::(tX L (.deferred false)::tX Z (.deferred false)::tB dW W [vp,F,aU d2.aA.op,va,.str d2.aA.name,vk,vg]::us)))):=by simpa only[iv,akV,ak0,aj2]using U
  have h2:=h1.sub (.cons _ (.cons_cons _ (.cons _ (.cons _ (.cons _ (.cons _ ((akL (lP y n vs ids ak (fh S b P))).append (.cons _ (.cons_cons _ (.cons_cons _ (.cons _ (akL us))))))))))));exact h2.cM (List.perm_append_comm_assoc (tB 4 a [.bool u]::lP y n vs ids ak (fh S b P)) [_,_] us)
 cases ht:oD g (os.getD b [])with
 |none=>
  refine ah ?_;refine RO.gG U 1 (λcx U=>?_);refine ah ?_;refine Ru.mI (M:=[L,Z]) (a3 _ P u U) λH' U=>⟨[.bool u],⟨⟨_,_,rfl,U.one 0⟩,trivial⟩,d1 H' P u (λx=>⟨(hR x).1,λI=>?_⟩) hn U.tail⟩;rcases I with I|I;·exact(hR x).2.2 I
  rcases bc x I with G|⟨t,G,_⟩;·exact G
  rw[ht]at G;cases G
 |some t=>
  obtain⟨_,_,_,_,bd,dE⟩:=vD V.dO hK hb ht;have a0:=(hm _).2 bd;obtain⟨to,rfl⟩:∃to:Nat,t=(to:Int):=⟨t.toNat,af⟩;rw[aj3]at a0 bd;obtain⟨H',P2,N,hg,h1,h2,ar⟩:=PY hO a5 a0 U (bH:=.ofNat 0) (tos:=17) (cQ:=BX);rw[Fi]at h1 h2;rw[JJ]at ar;refine ah ?_;refine Ru.ez (cQ:=BX) (H':=H') T.adm (M:=[(p6,.az a 0)]) (λaa O=>?_) ?_;·exact hg aa _ (O.get (p:=sl 11) rfl rfl) (O.get (p:=sl 5) rfl rfl) (O.get (p:=sl 17) rfl rfl) rfl
  refine ah ?_;have U:=ar;refine RO.gU U 1 ?_;refine RO.gG U 1 (λcx U=>?_);refine ah ?_;refine Ru.mI (M:=[L,Z]) (a3 _ P2 N U) λH' U=>⟨[.bool N],⟨⟨_,_,rfl,U.one 0⟩,trivial⟩,d1 H' P2 N (λx=>?_) (JI (λx I=>(hR x).2.2 I) (λx I=>(h1 x).2 (.inl I)) hn h2) U.tail⟩;rw[h1];constructor
  .rintro(G|⟨G,av⟩);·exact(hR x).1 G
   simp only[fh]at G;split at G;·exact(hR x).1 G
   refine .inr (.inr (.inr ⟨_,ht,by rw[aj3];exact G,?_⟩));simp only[rq,J];exact av
  rintro(G|G);·exact .inl ((hR x).2.2 G)
  rcases bc x G with G|⟨t,G,av,cy⟩;·exact .inl G
  rw[ht]at G;injection G with G;subst G;rw[aj3]at av;by_cases e:to=b;·subst e;exact .inl ((hR x).2.2 av)
  refine .inr ⟨?_,cy⟩;simp only[fh,aq e];exact av
end
end
theorem RO.afv{c:Cx}{s:List SI}{L:Kn}{H:ai}{d:Option ab}{l:List be}{z:Int}{x y:aJ}(h:RO ac c l s (bC L d (.bool false)) H)(b:bf L x=.cY:=by exact cw)(e:bf L y=.int 3 z:=by exact cw):RO ac c (⟨d,.lookup .int (.bool false) false x y,none,[],[]⟩::l) s L H:=RO.op (λaa a=>by simp only[aE,jA,aku,aes,bP,a.gv b rfl,a.gv e rfl]) h
def cb(p:Prop):Bool:= @decide p (Classical.propDecidable p)
theorem JK{p:Prop}:cb p=true↔p:= @decide_eq_true_iff p (Classical.propDecidable p)
def Fj(nv:Nat)(ak:List Nat)(S:Nat->Int->Prop):Nat:=(ak.map λb=>((ake nv).filter λ(v:Nat)=>cb (¬S b (v:Int))).length).sum
theorem JL{b:Type}{p q:b->Bool}(h:∀x,p x=true->q x=true):∀l:List b,(l.filter p).length<=(l.filter q).length|[]=>afb _|a::l=>by have c:=JL h l;grind
theorem PZ{d:Type}{p q:d->Bool}(h:∀x,p x=true->q x=true){y:d}(f:q y=true)(g:p y=false):∀l:List d,y∈l->(l.filter p).length<(l.filter q).length
 |[],c=>by grind
 |a::l,c=>by
  rcases aeV.1 c with rfl|c;·have:=JL h l;grind
  have i:=PZ h f g l c;cases b:p a with|true=>simp only[List.filter_cons,b,h a b,bq,akA];omega|false=>cases e:q a<;>simp only[List.filter_cons,b,e,bq,aes,bP,akA]<;>omega
theorem P1{b:Type}{f g:b->Nat}:∀l:List b,(∀x∈l,f x<=g x)->(l.map f).sum<=(l.map g).sum|[],_=>afb _|a::l,h=>by have:=P1 l λx c=>h x (aey _ c);grind
theorem P3{c:Type}{f g:c->Nat}{y:c}(e:f y<g y):∀l:List c,(∀x∈l,f x<=g x)->y∈l->(l.map f).sum<(l.map g).sum
 |[],_,b=>by grind
 |a::l,h,b=>by
  have h1:=h a (aeU ..);simp only[aj7,List.sum_cons];rcases aeV.1 b with rfl|b;·have:=P1 l λx d=>h x (aey _ d);omega
  have:=P3 e l (λx d=>h x (aey _ d)) b;omega
theorem afw{nv:Nat}{ak:List Nat}{S c:Nat->Int->Prop}(h:∀b∈ak,∀v,S b v->c b v){b:Nat}(hb:b∈ak){v:Nat}(f:v<nv)(h1:c b v)(h2:¬S b v):Fj nv ak c<Fj nv ak S:=by
 have a:∀x∈ak,∀w:Nat,cb (¬c x (w:Int))=true->cb (¬S x (w:Int))=true:=λx d w e=>by rw[JK]at e⊢;exact λhs=>e (h x d _ hs)
 refine P3 (y:=b) ?_ ak (λx d=>JL (a x d) _) hb;refine PZ (a b hb) (y:=v) (JK.2 h2) ?_ _ (ak3.2 f);simp[h1,cb,absurd,JK]
def JM(g:G.bu)(os:List (List bV))(ak:List Nat)(S:Nat->Int->Prop):Prop:=∀b∈ak,∀v,yW g os S b v->S b v
def A0(g:G.bu)(os:List (List bV))(S:Nat->Int->Prop):Prop:=∀b v,S b v->Lv g os b v
theorem A0.ki{g:G.bu}{os:List (List bV)}{S:Nat->Int->Prop}{b:Nat}{P:Int->Prop}(h:A0 g os S)(c:∀v,P v->S b v\/yW g os S b v):A0 g os (fh S b P):=λx v a=>by
 simp only[fh]at a;split at a
 .rename_i e;subst e;rcases c v a with h1|⟨bH,h1,h2⟩|⟨w,h1,h2,h3⟩|⟨t,h1,h2,h3⟩;·exact h _ _ h1
  .exact .qQ h1 h2
  .exact .ls h1 (h _ _ h2) h3
  exact .sC h1 (h _ _ h2) h3
 exact h _ _ a
theorem JM.all{g:G.bu}{a:List Bool}{os:List (List bV)}{ak:List Nat}{S:Nat->Int->Prop}(k:jm g)(f:cX g a os)(c:∀x,x∈ak↔a.getD x false=true)(h:JM g os ak S){b:Nat}{v:Int}(hl:Lv g os b v):b∈ak->S b v:=by induction hl with| @qQ b v bH h1 h2=>intro hb;exact h b hb v (.inl ⟨bH,h1,h2⟩)| @ls b w v i _ d e=>intro hb;exact h b hb v (.inr (.inl ⟨w,i,e ((c w).2 (f.ls ((c b).1 hb) i)),d⟩))| @sC b t v j _ d e=>intro hb;obtain⟨_,_,_,_,l,_⟩:=vD k f ((c b).1 hb) j;exact h b hb v (.inr (.inr ⟨t,j,e ((c _).2 l),d⟩))
section
def P4:ai->List Int->List AV->Prop:=λH l cs=>∃v,cs=[v]/\fZ H l v
abbrev CX(H:ai)(a:List (List Int))(v:AV):Prop:=dV 1 P4 H a v
theorem dQ.P5:dQ P4:=λhg⟨v,h1,h2⟩=>⟨v,h1,hg.sl h2⟩
structure gP(g:G.bu)(come:List Bool)(os:List (List bV))(lv:List (List Int)):Prop where
 len:lv.length=g.al.length
 mem:∀b,come.getD b false=true->∀v,v∈lv.getD b []↔Lv g os b v
 JN:∀b,come.getD b false=false->lv.getD b []=[]
 jx:∀b,(lv.getD b []).length<=6000
structure lQ(lv:List (List Int))(vsl:List AV)(F:List Th):Prop where
 len:vsl.length=lv.length
 mem:∀b,b<lv.length->tR 1 ((lv.getD b []).map aI) (lv.getD b []).length (vsl.getD b .co)∈F
theorem lQ.sl{e:List (List Int)}{a:List AV}{F:List Th}(k:lQ e a F){A H:ai}{g:List Th}(U:aj A H g)(i:Nat)(hi:g[i]?=some (tZ F)){v:AV}(hs:Sl H 1 a a.length v):CX H e v:=by have hl:=k.len;refine⟨a,by rw[<-hl];exact hs,λb hb=>?_⟩;obtain⟨f,j,_⟩:=U.mf i hi (k.mem b hb);refine⟨a.getD b .co,?_,by rw[<-bF hb []];exact j⟩;rw[alt,aj9 af,bF af];rfl
abbrev P6:Nat->List AV->Prop:=λb cs=>cs=[aN b]
theorem P7{H:ai}{l:List Nat}{v:AV}(b:Sl H 1 (l.map aN) l.length v):dV 1 (λ_=>P6) H l v:=⟨_,b,λk a=>by simp[a,alt,aj9]⟩
section
variable{g:G.bu}{d h:AV}{c:ab}{H:ai}{come:List Bool}{os:List (List bV)}{o:List AV}
def oE(e f g b c:ab)(n:Nat)(i:AV)(j:Bool)(k:List AV)(a:Nat->ab)(ak:List Nat)(S:Nat->Int->Prop):List Th:=[tB 4 g [.bool j],tB wB f [.slice b 0 n n true],tB mE e [.az c 0],tS 3 1 (ak.map aN) ak.length true i]++lP b n k a ak S
theorem afx(T:Tb ac)(V:Vd g)(hX:GX g H c d h come os o)(Q:cX g come os){K:KT}(eb:∀H' v R r F,gP g come os R->lQ R r F->aj H H' [tZ F,tS eH 1 r r.length true v]->K v H'):YN ac WV [.az c 0] H K:=by
 have hB:=V.sm;have ar:=hB.nb;have⟨dx,_,_,dy⟩:=hX.bl.all;have a':=hX.kS.aH;have a0:=hX.kS.lt;have dz:=Q.lt Q.c0;refine YF.code T.abK aB ?_;refine au ?_;refine RO.dL (aj.dc H) λH1 G U=>?_;refine ah ?_;refine RO.aW ?_ (v:=d) (hc:=by rw[U.gr.bh a0];exact a');refine ah ?_;refine RO.oT U (n:=g.al.length) (λH2 B U=>?_) (hz:=by rw[iZ];simp);rw[iZ]at U;refine RO.fx U λH3 I U=>?_;refine ah ?_;refine RO.cl (Jq T V.sm V.dO (hX.cI U.gr) Q λH4 u ak N hl=>?_);have U:=U.fC hl;have⟨b5,b6,b',dD⟩:=(hl.sl (e:=3) (size:=1) (sv:=u) (vs:=ak.map aN) (n:=ak.length) (full:=true) 0).all;have dE:ak.length<=g.al.length:=vB _ _ N.nd λx hx=>Q.lt ((N.mem x).1 hx);refine ah ?_;have U:aj H H4 ([tS 3 1 (ak.map aN) ak.length true u,tB wB I [.slice B 0 g.al.length g.al.length true],tB mE G [.az c 0]]++lP B g.al.length (ahr g.al.length .cY) (λ_=>.xH) (ak.take 0) (λ_ _=>False)):=U.cM (akO _ (akO _ (akS ..)));refine Ru.nm λS0 M hS W=>?_;refine Ru.cC W (up (P:=λk=>∀A vs f,vs.length=g.al.length->(∀b∈ak.take k,vs.getD b .co=.map (f b))->(∀b,b<g.al.length->b∉ak.take k->vs.getD b .co=.cY)->aj H A ([tS 3 1 (ak.map aN) ak.length true u,tB wB I [.slice B 0 g.al.length g.al.length true],tB mE G [.az c 0]]++lP B g.al.length vs f (ak.take k) (λ_ _=>False))->Ru ac _ S0 ([(bT,aN k)]++pk M [p1,p3,p4,bL,bK]) A) ak.length (λk hk ih A vs f L X a2 U=>?_) 0 af _ _ (λ_=>.xH) aB aB (λb hb _=>by rw[bF (by simpa using hb)];simp) U);subst hS;subst W;refine Ru.loop ?_;refine au ?_;refine Ru.cond (λy=>?_) (λy=>?_)
 .refine ah ?_;refine RO.lg (bm.refl _) (U.sl (e:=3) (size:=1) (sv:=u) (vs:=ak.map aN) (n:=ak.length) (full:=true) 0) (λq5 o5 d0 d1=>?_) (j:=k);have d2:ak[k]<g.al.length:=Q.lt ((N.mem _).1 (agB y));refine ah ?_;refine RO.Ff U λH5 qm U=>?_;refine ah ?_;refine RO.yK U 4 L (λH6 U=>?_) (k:=ak[k]);refine ah ?_;have a4:ak.take (k+1)=ak.take k++[ak[k]]:=(akd y).symm;have ca:ak[k]∉ak.take k:=λhx=>by obtain⟨i,hi,e⟩:=aka hx;rw[akF]at hi;rw[List.getElem_take]at e;have:=Pq N.nd af y e;omega
  refine Ru.wk (ih (k+1) af af H6 (vs.set ak[k] (.map qm)) (λx=>if x=ak[k]then qm else f x) (by simpa using L) (λb hb=>?_) (λb hb ar=>?_) ?_)
  .rw[a4]at hb;rw[fu af];by_cases e:b=ak[k];·rw[aK e,aK e]
   rw[aq e,aq e];exact X b ((ahp.1 hb).resolve_right λeb=>e (aep.1 eb))
  .rw[a4]at ar;rw[fu af,aq λe=>ar (by rw[e];exact akq _ (aep.2 rfl))];exact a2 b hb λeb=>ar (akf _ eb)
  have U:=U.as (t':=tM false qm λ_=>False) 0 rfl λfp hp=>⟨hp.1,hp.2.1,hp.2.2.1,(λeb=>by cases eb),hp.2.2.2.2⟩;have U:=U.cM (akH (l₁:=[_]));have e:lP B g.al.length (vs.set ak[k] (.map qm)) (λx=>if x=ak[k]then qm else f x) (ak.take (k+1)) (λ_ _=>False)=tS NF 1 (vs.set ak[k] (.map qm)) g.al.length true (.slice B 0 g.al.length g.al.length true)::((ak.take k).map (λb=>tM false (f b) λ_=>False)++[tM false qm λ_=>False]):=by
   rw[lP,a4,akE];congr 2;·exact alk λb hb=>by rw[aq λe=>ca (by rw[<-e];exact hb)]
   simp
  rw[e];exact U
 refine Ru.exitTo ?_;rw[akl af]at X a2 U;have bS:=X;have b0:=a2;have cd:AZ g.al.length vs f ak:=⟨L,N.nd,λb hb=>⟨Q.lt ((N.mem b).1 hb),X b hb⟩⟩;refine ah ?_;refine RO.fx U λH5 D U=>?_;have U:aj H H5 (oE G I D B c g.al.length u true vs f ak (λ_ _=>False)++i9 []):=by rw[show i9 []=[]from rfl,akT];exact((U.gk 3 rfl).gk 3 rfl).gk 2 rfl
 refine ah ?_;refine Ru.nm λS0 M hS W=>?_;refine Ru.cC W (dn (P:=λm=>∀A O S b3 D,(if b3=true then Fj g.bp.toNat ak S+1 else 0)=m->(b3=false->JM g os ak S)->A0 g os S->aj H A (oE G I D B c g.al.length u b3 vs f ak S++i9 O)->Ru ac ⟨pu [.tmp p2] K,O,none⟩ S0 ([(p7,.az D 0)]++pk M [p1,p3,p4]) A) (λm ih A O S b3 D cf Y a5 U=>?_) _ _ [] (λ_ _=>False) true D rfl (λeb=>by cases eb) (λ_ _ eb=>eb.elim) U);subst hS;subst W;refine Ru.loop ?_;refine ah ?_;refine Ru.kN (λC=>?_) (λC=>?_)
 .subst C;refine ah ?_;refine RO.gG U 0 (λH6 U=>?_);refine ah ?_;refine RO.cl (Fc T.ab4 bA b5 b6 b' λH7 q hl=>?_);have U:=U.fC hl;refine ah ?_;refine Ru.wk (L:=[(bZ,.func Xn [] [.az q 0]),(p1,.az G 0),(p3,.az I 0),(p4,u),(p7,.az D 0)]) ?_;have U:aj H H7 ([tB eH q [u]]++oE G I D B c g.al.length u false vs f ak S++i9 O):=U;refine Ru.pG (J:=λk ts=>∃E s,(∀b∈ak,∀v,S b v->E b v)/\(s=true->∃b∈ak,∃v,E b v/\¬S b v)/\(s=false->E=S/\∀j,j<k->∀(hj:ak.length - 1 - j<ak.length),∀v,yW g os S ak[ak.length - 1 - j] v->S ak[ak.length - 1 - j] v)/\A0 g os E/\ts=oE G I D B c g.al.length u s vs f ak E) (Dn:=λ_ _=>False) U (Fb (R:=P6) (agg:=false) (size:=1) (la:=ak) (sv:=u) (e:=eH) (nt:=19) T.acg bA af (λ_=>rfl) (λa cs eb=>by cases eb;rfl)) (λH2 hg=>P7 ((U.cI hg).sl (e:=3) (size:=1) (sv:=u) (vs:=ak.map aN) (n:=ak.length) (full:=true) 4)) ⟨S,false,λ_ _ _ eb=>eb,(λeb=>by cases eb),λ_=>⟨rfl,λj hj=>absurd hj af⟩,a5,rfl⟩ (λk args ws eb=>by obtain⟨_,_,_,_,rfl⟩:=eb;rfl) (λk ts us H' hJ U=>by obtain⟨E,s,_,_,_,_,rfl⟩:=hJ;exact P7 (U.sl (e:=3) (size:=1) (sv:=u) (vs:=ak.map aN) (n:=ak.length) (full:=true) 3)) (λk args ws ts us l o1 o2 H' hk cn hJ U=>?_) (λH' cp dm hJ U=>?_) (λj H' cp dm hj hD U=>hD.elim)
  .obtain⟨rfl,a6,cs,rfl,rfl⟩:=cn;obtain⟨E,s,h1,h2,h3,h4,rfl⟩:=hJ;have a8:=agB a6;have cv:=(N.mem _).1 a8;generalize cx:ak[ak.length - 1 - k]=b at*;refine au ?_;refine Ru.dN (xs:=oE G I D B c g.al.length u s vs f ak E) U λH8 U=>?_;refine ah ?_;have U:=aj.gF (xs:=[tB 4 D [.bool s],tB wB I [.slice B 0 g.al.length g.al.length true],tB mE G [.az c 0],tS 3 1 (ak.map aN) ak.length true u]) U;refine RO.cl (afu T V hX Q cd N.mem cv U λH9 P nw hP ba U=>?_);have U:=aj.kO (xs:=[tB 4 D [.bool s],tB wB I [.slice B 0 g.al.length g.al.length true],tB mE G [.az c 0],tS 3 1 (ak.map aN) ak.length true u]) U;have ax:∀A,aj H A (oE G I D B c g.al.length u (nw||s) vs f ak (fh E b P)++tX l o2::us)->Ru ac (CE H l o2 us (λts=>∃E s,(∀b∈ak,∀v,S b v->E b v)/\(s=true->∃b∈ak,∃v,E b v/\¬S b v)/\(s=false->E=S/\∀j,j<k+1->∀(hj:ak.length - 1 - j<ak.length),∀v,yW g os S ak[ak.length - 1 - j] v->S ak[ak.length - 1 - j] v)/\A0 g os E/\ts=oE G I D B c g.al.length u s vs f ak E) (λ_ _=>False)) [] [] A:=λA U=>by
    refine Ru.bG (ts:=oE G I D B c g.al.length u (nw||s) vs f ak (fh E b P)) U ⟨_,_,λx hx v hv=>?_,λC=>?_,λC=>?_,h4.ki λv hv=>(hP v).1 hv,rfl⟩
    .simp only[fh];split;·rename_i e;subst e;exact(hP v).2 (.inl (h1 x hx v hv))
     exact h1 x hx v hv
    .cases nw with
     |true=>obtain⟨v,hv,hn⟩:=ba.1 rfl;exact⟨b,a8,v,by simp only[Fi];exact hv,λeb=>hn (h1 b a8 v eb)⟩
     |false=>
      obtain⟨x,hx,v,hv,hn⟩:=h2 C;refine⟨x,hx,v,?_,hn⟩;simp only[fh];split;·rename_i e;subst e;exact(hP v).2 (.inl hv)
      exact hv
    simp only[Bool.or_eq_false_iff]at C;obtain⟨e,Y⟩:=h3 C.2;have bb:∀v,P v->E b v:=λv hv=>akx λhn=>by have:=ba.2 ⟨v,hv,hn⟩;rw[C.1]at this;cases this
    refine⟨?_,λj hj cy v hv=>?_⟩
    .rw[<-e];funext x v;simp only[fh];split;·rename_i e2;subst e2;exact propext ⟨bb v,λeb=>(hP v).2 (.inl eb)⟩
     rfl
    by_cases cE:j=k;·subst cE;rw[cx]at hv⊢;rw[<-e]at hv⊢;exact bb v ((hP v).2 (.inr hv))
    exact Y j af cy v hv
   cases nw with|true=>refine ah ?_;refine RO.gG U 0 (λcK U=>?_);refine ah ?_;exact Ru.wk (ax _ U)|false=>refine ah ?_;refine RO.gG U 0 (λcK U=>?_);refine ah ?_;exact Ru.wk (ax _ U)
  obtain⟨E,s,h1,h2,h3,h4,rfl⟩:=hJ;refine ah ?_;refine RO.fx U λH8 bc U=>?_;refine ah ?_;have U:aj H H8 (oE G I bc B c g.al.length u s vs f ak E++i9 (dm::O)):=U.sub (.cons_cons _ (.cons _ (akL _)));have Z:(if s=true then Fj g.bp.toNat ak E+1 else 0)<m:=by rw[<-cf,aK rfl];cases s with|false=>simp|true=>obtain⟨b,hb,v,hv,hn⟩:=h2 rfl;have hf:=(h4 b v hv).CS V.dO Q (V.sG come os Q) V.gv N ((N.mem b).1 hb);obtain⟨t,rfl⟩:∃t:Nat,v=(t:Int):=⟨v.toNat,by have:=hf.1;omega⟩;have:=afw (nv:=g.bp.toNat) h1 hb (v:=t) (by have:=hf.2.1;omega) hv hn;rw[aK rfl];omega
  exact Ru.wk (ih _ Z H8 (dm::O) E s bc rfl (λC b hb v hv=>by obtain⟨rfl,Y⟩:=h3 C;obtain⟨i,hi,rfl⟩:=aka hb;have:=Y (ak.length - 1 - i) af af;simp only[show ak.length - 1 - (ak.length - 1 - i)=i by omega]at this;exact this v hv) h4 U)
 subst C;refine Ru.exitTo ?_;have eZ:∀b,come.getD b false=true->∀v,S b v↔Lv g os b v:=λb hb v=>⟨a5 b v,λeb=>(Y rfl).all V.dO Q N.mem eb ((N.mem b).2 hb)⟩;have c3:=hX.c2;have d3:=V.gv.v0;have X:=V.fm.fv.h2;obtain⟨nv,c5⟩:∃n:Nat,g.bp=(n:Int):=⟨g.bp.toNat,af⟩;refine ah ?_;refine RO.aW ?_ (v:=d) (hc:=by rw[U.gr.bh a0];exact a');refine ah ?_;refine RO.oT U (n:=g.al.length) (λH6 qo U=>?_) (hz:=by rw[iZ];simp);rw[iZ]at U;refine ah ?_;have U:=U.rl;refine Ru.nm λS0 M hS W=>?_;refine Ru.cC W (up (P:=λk=>∀A r R F,r.length=g.al.length->(∀b,b<k->tR 1 ((R b).map aI) (R b).length (r.getD b .co)∈F)->(∀b:Nat,b<k->(R b).length<=nv/\∀v:Int,v∈R b↔come.getD b false=true/\S b v)->(∀b,k<=b->b<g.al.length->r.getD b .co=.aS)->aj H A (tZ F::tS eH 1 r g.al.length true (.slice qo 0 g.al.length g.al.length true)::(oE G I D B c g.al.length u false vs f ak S++i9 O))->Ru ac ⟨pu [.tmp p2] K,O,none⟩ S0 ([(dR,aN k)]++pk M [p1,p3,aO,dY,dZ]) A) g.al.length (λk hk ih A r R F L hF av ay U=>?_) 0 af _ _ (λ_=>[]) [] aB (λb hb=>absurd hb af) (λb hb=>absurd hb af) (λb _ hb=>by rw[bF (by simpa using hb)];simp) U);subst hS;subst W;refine Ru.loop ?_;refine au ?_;refine Ru.cond (λy=>?_) (λy=>?_)
 .refine ah ?_;have c8:vs[0+k*1]?=some (vs.getD k .co):=by rw[show 0+k*1=k by omega,bF af];simp
  have a9:vs.getD k .co=.map (f k)/\k∈ak\/vs.getD k .co=.cY/\k∉ak:=by
   by_cases J:k∈ak;·exact .inl ⟨bS k J,J⟩
   exact .inr ⟨b0 k y J,J⟩
  have c9:(vs.getD k .co).bB=true:=by rcases a9 with⟨e,_⟩|⟨e,_⟩<;>rw[e]<;>rfl
  refine RO.fD U 6 (hv:=c8) ?_;generalize vs.getD k .co=mv at a9 c9;refine ah ?_;refine RO.aW ?_ (v:=aN nv) (hc:=by rw[U.gr.bh a0,c3,c5];rfl);refine ah ?_;have U:=U.py 3 1;have c':r.set k .aS=r:=by have:=ay k (afb _) y;rw[bF af]at this;rw[<-this];exact List.set_getElem_self _
  rw[<-c']at U;refine Ru.nm λS0 M hS W=>?_;refine Ru.cC W (up (P:=λj=>∀A(p:List Int)w,p.length<=j->(∀v:Int,v∈p↔0<=v/\v<j/\come.getD k false=true/\S k v)->aj H A (tS 3 1 (p.map aI) p.length true w::tZ F::tS eH 1 (r.set k w) g.al.length true (.slice qo 0 g.al.length g.al.length true)::(oE G I D B c g.al.length u false vs f ak S++i9 O))->Ru ac ⟨pu [.tmp p2] K,O,none⟩ S0 ([(eO,aN j)]++pk M [p1,p3,aO,aR,aY,dY,dZ,dR,fg]) A) nv (λj hj bd A p w dr ag U=>?_) 0 af _ [] .aS aB (λv=>by simp;omega) U);subst hS;subst W;have⟨d4,d5,d6,_⟩:=(U.sl (e:=3) (size:=1) (sv:=w) (vs:=p.map aI) (n:=p.length) (full:=true) 0).all;have a6:(r.set k w)[0+k*1]?=some w:=by rw[show 0+k*1=k by omega,List.getElem?_set_self af]
  refine Ru.loop ?_;refine au ?_;refine Ru.cond (λZ=>?_) (λZ=>?_)
  .have bv:∀A,¬(come.getD k false=true/\S k j)->aj H A (tS 3 1 (p.map aI) p.length true w::tZ F::tS eH 1 (r.set k w) g.al.length true (.slice qo 0 g.al.length g.al.length true)::(oE G I D B c g.al.length u false vs f ak S++i9 O))->_:=λA hn U=>bd (j+1) af af A p w af (λv=>by
    rw[ag];constructor;·rintro⟨a1,b4,a3⟩;exact⟨a1,af,a3⟩
    rintro⟨a1,b4,a3⟩;refine⟨a1,?_,a3⟩;rcases akW v.toNat j with eb|eb;·omega
    obtain rfl:v=(j:Int):=af;exact absurd a3 hn) U;refine ah ?_;rcases a9 with⟨rfl,J⟩|⟨rfl,J⟩
   .have hat:(tS 3 1 (p.map aI) p.length true w::tZ F::tS eH 1 (r.set k w) g.al.length true (.slice qo 0 g.al.length g.al.length true)::(oE G I D B c g.al.length u false vs f ak S++i9 O))[7+(ak.idxOf k+1)]?=some (tM false (f k) (S k)):=by simp only[oE,aj2];exact rr (xs:=[_,_,_,_,_,_,_]) (Fh J)
    have ds:=(N.mem k).1 J;refine RO.CU U _ (λt ht=>?_) (hi:=hat) (z:=(j:Int));refine ah ?_;refine Ru.kN (λaw=>?_) (λaw=>?_)
    .have dv:=ht.1 aw;refine ah ?_;refine RO.fD U 2 (hv:=a6) ?_;refine ah ?_;refine RO.push U 0 (λw0 H7 v2 U=>?_) (ws:=[aN j]);have⟨d7,d',ea,_⟩:=(U.sl (e:=3) (size:=1) (n:=p.length+1) (full:=true) (sv:=v2) 0).all;refine ah ?_;refine RO.yK (vs:=r.set k w) (n:=g.al.length) U 2 (by rw[ak4];exact L) (λH8 U=>?_) (k:=k) (ho:=by rw[ak4];omega);refine ah ?_;have e1:(p++[(j:Int)]).map aI=p.map aI++[aN j]:=aB;have e2:(p++[(j:Int)]).length=p.length+1:=aB;have U:aj H H8 (tS 3 1 ((p++[(j:Int)]).map aI) (p++[(j:Int)]).length true v2::tZ F::tS eH 1 (r.set k v2) g.al.length true (.slice qo 0 g.al.length g.al.length true)::(oE G I D B c g.al.length u false vs f ak S++i9 O)):=by rw[e1,e2,<-List.set_set (a:=w)];exact U
     exact Ru.wk (bd (j+1) af af H8 _ v2 (by rw[e2];omega) (λv=>by
      rw[ahp,aep,ag];constructor
      .rintro(⟨a1,b4,a3⟩|rfl);·exact⟨a1,af,a3⟩
       exact⟨af,af,ds,dv⟩
      rintro⟨a1,b4,a3⟩;by_cases e:v=(j:Int);·exact .inr e
      exact .inl ⟨a1,af,a3⟩) U)
    refine ah ?_;exact Ru.wk (bv _ (λeb=>by rw[ht.2 eb.2]at aw;cases aw) U)
   refine RO.afv (z:=(j:Int)) ?_;refine ah ?_;exact Ru.wk (bv _ (λeb=>J ((N.mem k).2 eb.1)) U)
  refine Ru.exitTo ?_;obtain rfl:j=nv:=af;refine ah ?_;have U:=(U.as 0 rfl λfp hp=>tS.mg hp).lq;exact Ru.wk (ih (k+1) af af A (r.set k w) (λb=>if b=k then p else R b) _ (by simpa using L) (λb hb=>by
   rw[fu af];by_cases e:b=k;·rw[aK e,aK e];exact aeU ..
   rw[aq e,aq e];exact aey _ (hF b af)) (λb hb=>by
   by_cases e:b=k;·subst e;rw[aK rfl];refine⟨dr,λv=>?_⟩;rw[ag];refine⟨λeb=>eb.2.2,λeb=>?_⟩;have hf:=((a5 b v eb.2).CS V.dO Q (V.sG come os Q) V.gv N eb.1);exact⟨hf.1,by have:=hf.2.1;omega,eb⟩
   rw[aq e];exact av b af) (λb hb z=>by rw[fu af,aq af];exact ay b af z) U)
 refine Ru.exitTo ?_;obtain rfl:k=g.al.length:=af;refine ah ?_;refine Ru.mI (M:=O) (U.cM (akH (l₁:=_::_::oE G I D B c g.al.length u false vs f ak S))) λH' U=>⟨[.slice qo 0 g.al.length g.al.length true],⟨rfl,rfl,trivial⟩,eb H' _ ((ake g.al.length).map R) r F ?_ ?_ ?_⟩
 .have e:∀b,b<g.al.length->((ake g.al.length).map R).getD b []=R b:=λb hb=>by rw[bF (by simpa using hb)];simp
  refine⟨aB,λb hb v=>?_,λb hb=>?_,λb=>?_⟩;·have z:=Q.lt hb;rw[e b z,(av b z).2,eZ b hb];exact⟨λeb=>eb.2,λeb=>⟨hb,eb⟩⟩
  .by_cases z:b<g.al.length;·rw[e b z];refine List.eq_nil_iff_forall_not_mem.2 λv hv=>?_;have:=((av b z).2 v).1 hv;rw[hb]at this;cases this.1
   rw[akm,List.getElem?_eq_none (by simpa using z)];rfl
  by_cases z:b<g.al.length;·rw[e b z];have:=(av b z).1;omega
  rw[akm,List.getElem?_eq_none (by simpa using z)];exact Nat.zero_le _
 .refine⟨by simpa using L,λb hb=>?_⟩;simp only[akg,List.length_range]at hb;rw[bF (by simpa using hb)];simp only[akN,alA];exact hF b hb
 rw[L];exact U.sub (.cons_cons _ (.cons_cons _ (List.nil_sublist _)))
end
end
section
section
variable{g:G.bu}{H:ai}
theorem afy(T:Tb ac)(V:Vd g){cs:List AV}(hg:iG H g cs){K:KT}(p:∀H' v b os j a F,cX g b os->gP g b os j->lQ j a F->aj H H' [tZ F,tS eH 1 a a.length true v]->K (.tuple [v,aI 0]) H'):YN ac WH [.agg cs] H K:=by have o:=hg.one;obtain⟨h,rfl,cA⟩:=hg;refine YF.code T.abs aB ?_;refine au ?_;refine RO.dL (aj.dc H) λH1 q U=>?_;refine ah ?_;refine RO.eQ U 0 ?_;refine RO.cl (afe T V (cs:=[.str g.name,aI g.params,aI g.bp,h]) ⟨h,rfl,dQ.block.jU U.gr cA⟩ rfl λt u d w b os c k r i=>afx T V r i λs v j a F l m hl=>?_);have⟨n,_,_,_⟩:=(hl.sl (e:=eH) (size:=1) (sv:=v) (vs:=a) (n:=a.length) (full:=true) 1).all;refine⟨n,?_⟩;refine ah ?_;exact Ru.tk (p s v b os j a F i l m (hl.Nz (U.gr.trans k)))
end
def jn:List bV->List AV
 |[]=>[]
 |o::l=>aI o.1:: .bool (o.2==0)::jn l
theorem P8:∀{l:List bV}{k:Nat}(h:k<l.length),((jn l).drop (k*2)).take 2=[aI l[k].1,.bool (l[k].2==0)]|o::l,0,_=>rfl|o::l,k+1,h=>by have:=P8 (l:=l) (k:=k) (by simpa using h);grind[jn]
theorem JO:∀(a b:List bV),jn (a++b)=jn a++jn b|[],b=>rfl|o::a,b=>by simp only[akV,jn,JO a b]
theorem P9:∀(l:List bV)(b:Nat),(jn l).take (b*2)=jn (l.take b)|[],b=>by simp[jn]|o::l,0=>by rfl|o::l,b+1=>by rw[show(b+1)*2=b*2+2 by omega];simp only[jn,als,P9 l b]
abbrev pJ(H:ai)(l:List bV)(v:AV):Prop:=Sl H 2 (jn l) l.length v
abbrev Qa:bV->List AV->Prop:=λo cs=>cs=[aI o.1,.bool (o.2==0)]
theorem pJ.r{H:ai}{l:List bV}{v:AV}(h:pJ H l v):dV 2 (λ_=>Qa) H l v:=⟨_,h,λk a=>P8 a⟩
structure yX(H:ai)(fq:ab)(vb ov:AV)(svs:List AV)(n:Nat):Prop where
 lt:fq.an<H.next.an
 aH:bh H fq 3=some vb
 jY:bh H fq 5=some ov
 sl:Sl H 1 svs n ov
theorem yX.cI{H H':ai}{f:ab}{d e:AV}{c:List AV}{n:Nat}(h:yX H f d e c n)(g:bm H H'):yX H' f d e c n:=⟨ako h.lt g.nx,by rw[g.bh h.lt];exact h.aH,by rw[g.bh h.lt];exact h.jY,g.sl h.sl⟩
section
variable{g:G.bu}{d e:AV}{f:ab}{A H:ai}{us:List Th}{c:List AV}{now:List bV}
theorem afz(T:Tb ac)(a:yX H f d e c g.al.length){b:Nat}(hb:b<g.al.length)(hs:pJ H now (c.getD b .co))(h0:now≠ [])(m:now.length<=1000){K:KT}(j:∀H' o,now.getLast?=some o->bm H H'->K (.agg [aI o.1,.bool (o.2==0)]) H'):YN ac Xe [.az f 0,aN b] H K:=by
 have⟨n,_,_,p⟩:=hs.all;have h:=a.jY;have i:0<now.length:=by cases now with|nil=>exact absurd rfl h0|cons _ _=>simp
 refine YF.code T.ab6 aB ?_;refine au ?_;refine RO.gI (aj.dc H) λH1 w U=>?_;refine ah ?_;refine RO.aW ?_ (v:=e) (hc:=by rw[U.gr.bh a.lt];exact h);refine ah ?_;refine RO.vu U.gr a.sl (λx y q _=>?_) (j:=b);refine ah ?_;refine RO.aW ?_ (v:=e) (hc:=by rw[U.gr.bh a.lt];exact h);refine ah ?_;refine RO.vu U.gr a.sl (λz A s _=>?_) (j:=b);refine ah ?_;refine RO.arith (v:=aN (now.length - 1)) ?_ (hv:=px af af);refine RO.cZ U.gr (pJ.r hs) (λt u v hj k _ _ hrd=>?_) (j:=now.length - 1);subst k;refine ah ?_;refine RO.iT U 0 (λl U=>?_);refine ah ?_;refine Ru.lM (vs:=[.agg [aI (now[now.length - 1]).1,.bool ((now[now.length - 1]).2==0)]]) ⟨⟨_,_,rfl,U.agg 0⟩,trivial⟩ (j l _ ?_ U.gr);rw[List.getLast?_eq_getElem?,akP hj]
theorem afA(T:Tb ac)(D:G.Sm g)(hb:dV 7 kj A g.al d)(r:bm A H)(j:yX H f d e c g.al.length){b:Nat}(k:b<g.al.length)(hs:pJ H now (c.getD b .co))(v:CO g now)(h0:now≠ [])(l:now.length<=1000){K:KT}(h:∀H' o,now.getLast?=some o->bm H H'->K (aI (na g o)) H'):YN ac WX [.az f 0,aN b] H K:=by have⟨y,_,_,_⟩:=hb.all;have m:=j.aH;refine YF.code T.abN aB ?_;refine ah ?_;refine RO.EN (afz T j k hs h0 l λH1 o s a=>⟨by rw[a.bh j.lt];exact m,?_⟩) (hvs:=hb.bX);obtain⟨h1,h2,h3⟩:=v.ok o (List.mem_of_getLast? s);obtain⟨t,u⟩:∃t:Nat,o.1=(t:Int):=⟨o.1.toNat,af⟩;have h:=h H1 o s a;simp only[na,u,aj3]at h3 h;have n:t<g.al.length:=af;rw[bF n]at h3 h;rw[u];refine ah ?_;refine RO.cZ (r.trans a) hb (λw o2 c2 z p _ hat _=>?_) (j:=t);obtain⟨E,F,I,rfl,_,_,J,L,x,rfl,_,_,i⟩:=p;have⟨B,_,_,_⟩:=i.all;refine ah ?_;refine RO.aW (i:=w) (o:=o2+2+4) (v:=x) ?_ (hc:=hat 6 _ rfl);refine RO.cZ (r.trans a) i (λM o3 N C q _ hat _=>?_) (hj:=by omega);obtain⟨O,rfl,_⟩:=q;refine ah ?_;refine Ru.aV ?_;rw[bF af]at h;exact h
end
end
section
theorem Qb(T:Tb ac){B H:ai}{size n:Nat}{d:List AV}{v:AV}(hs:Sl B size d n v):YN ac WW [v] H λe H'=>e=wR v n/\H'=H:=by
 have⟨hd,_,_,g⟩:=hs.all;refine YF.code T.abM aB ?_;refine au ?_;rcases hs with⟨rfl,rfl,rfl⟩|⟨i,o,cap,ex,h,m,j,f,aM,fz,rfl,hg,k,hl,l,hi,b⟩;·refine RO.Cb (m:=0) (b:=0) (a:=0) rfl rfl rfl rfl ?_;refine au ?_;exact Ru.aV ⟨rfl,rfl⟩
 refine RO.HW (m:=n) (b:=n) (a:=0) (v:=.slice i o n n true) rfl (by show oJ (aN n) cap=_;exact tu b) (by show oJ (aN n) n=_;exact tu (afb n)) rfl aB aB ?_;refine au ?_;exact Ru.aV ⟨rfl,rfl⟩
def afB(W:List (Int×List bV))(b:List bV)(nv:AV)(k:Nat)(args:List AV)(d:List Th):Prop:=
 ∃(h:k<W.length)(v:AV),args=[aI W[k].1,v]/\v.bB=true/\v.ee=true/\v.cells=[v]/\((d=[]/\∀H,pJ H b nv->pJ H W[k].2 v)\/d=[tS NE 2 (jn W[k].2) W[k].2.length true v])
section
variable{g:G.bu}{c:AV}{a:ab}{A H:ai}{us:List Th}
theorem Qc(T:Tb ac){b:Nat}{K:KT}(f:∀H' d e,aj H H' [tB 3 e [aN b],tB iH d [.az a 0]]->K (.func Ex [] [.az d 0,.az e 0]) H'):YN ac WI [.az a 0,aN b] H K:=by refine YF.code T.abt aB ?_;refine au ?_;refine RO.dL (aj.dc H) λH1 d U=>?_;refine RO.dL U λg e U=>?_;refine au ?_;exact Ru.aV (f _ d e U)
theorem Qd(T:Tb ac)(hB:G.Sm g)(hb:dV 7 kj A g.al c){b:Nat}{now:List bV}{nv:AV}{q1 N:ab}(hE:Jj g b)(hO:CO g now)(a':now.length<=1000)(av:(g.al.getD b default).aA.op=68->now≠ []):yI ac A (.func Ex [] [.az q1 0,.az N 0]) (cS g b now).length (afB (cS g b now) now nv) [tB 3 N [aN b],tB iH q1 [.az a 0]] (λH=>∃ov R,yX H a c ov R g.al.length/\R.getD b .co=nv/\pJ H now nv) (λH=>pJ H now nv):=by
 intro y J D t us H K cy cE cK B i s U hR l;obtain⟨ov,R,O,aw,hs⟩:=hR;have hA:=U.gr;have⟨ba,_,_,c3⟩:=O.sl.all;have⟨ax,bb,bc,c5⟩:=hs.all;have⟨c9,c',_,dm⟩:=hb.all;have dr:=O.aH;have bd:=O.jY;have bv:bh H q1 0=some (.az a 0):=by obtain⟨_,m⟩:=U.get 1 rfl;exact tB.cell m rfl
 have bS:bh H N 0=some (aN b):=by obtain⟨_,m⟩:=U.get 0 rfl;exact tB.cell m rfl
 have b0:q1.an<H.next.an:=by obtain⟨_,m⟩:=U.get 1 rfl;obtain⟨_,_,_,_,_,h⟩:=m;exact h
 have b3:N.an<H.next.an:=by obtain⟨_,m⟩:=U.get 0 rfl;obtain⟨_,_,_,_,_,h⟩:=m;exact h
 obtain⟨q,I⟩:=hE;rw[bF q]at I av;refine YF.code T.abL aB ?_;refine ah ?_;refine RO.cZ hA hb (λq3 o3 d0 ds ay _ hat hrd=>?_) (j:=b);have cv:=ay.one;obtain⟨vp,vs,jc,rfl,_,_,hj⟩:=ay;have dv:=hj.one;obtain⟨va,vk,vg,rfl,dx,dy,n⟩:=hj;have⟨C,_,_,dz⟩:=n.all;refine ah ?_;refine RO.gw ?_ (hc:=I' (k:=2) (m:=5) hrd bA);refine ah ?_;refine RO.vu (bm.refl H) O.sl (λq4 o4 a0 b4=>?_) (j:=b);rw[aw]at a0;refine ah ?_;refine RO.gI (aj.dc H) λH1 q5 hl=>?_;refine RO.Ja hl 0 (λH2 hl=>⟨λaa d=>?_,?_⟩);·have hg:=hl.gr;refine il d rfl rfl ax hs.bX (by rw[hg.bh b4];exact a0) (il (v:=aN b) d rfl rfl rfl (by simp[iy,gz,fQ]) (by rw[hg.bh b3];exact bS) (il d rfl rfl ba O.sl.bX (by rw[hg.bh O.lt];exact bd) (il (v:=.az a 0) d rfl rfl rfl (by simp[iy,gz,ab.ip]) (by rw[hg.bh b0];exact bv) rfl)))
 have a1:=hl.gr;have U:=U.fC hl;refine ah ?_;have E:(g.al.getD b default).aA=(g.al[b]).aA:=by rw[bF q]
 refine Ru.cond (λ(r:(g.al[b]).aA.op=67)=>?_) (λ(r:¬(g.al[b]).aA.op=67)=>?_)
 .have h3:=I r;have a2:∀k(h:k<2),∃h':k<(cS g b now).length,(cS g b now)[k]=(((g.al[b]).aA.go[k]'af).block,now++[((b:Int),k)]):=λk h=>by
   have u:cS g b now=[(((g.al[b]).aA.go[0]'af).block,now++[((b:Int),0)]),(((g.al[b]).aA.go[1]'af).block,now++[((b:Int),1)])]:=by simp only[cS,E,aK r];rw[bF af,bF af]
   refine⟨by rw[u];simpa using h,?_⟩;simp only[u];match k,h with|0,_=>rfl|1,_=>rfl
  have b5:(cS g b now).length=2:=by simp only[cS,E,aK r];rfl
  obtain⟨a3,a4⟩:=a2 0 af;obtain⟨a5,a6⟩:=a2 1 af;have b6:=B 0 t _ H2 s (aj.gF (xs:=[_,_,_]) U);refine ah ?_;refine RO.Jd U.gr n (λq8 o8 c8 b' he _ f=>?_) (j:=0) (hj:=by omega);obtain⟨v8,rfl,_⟩:=he;refine ah ?_;refine RO.aW ?_ (hc:=f 0 _ rfl U.gr);refine ah ?_;refine RO.lf U 2 (ws:=[aN b,.bool true]) (λH4 q9 U=>?_);refine RO.Jb (v:=wR nv now.length) (λH0 _ _=>Qb T hs) (λP p V=>?_);have U:=U.bX V p;have W:=B 0 t _ P s (aj.gF (xs:=[_,_,_,_]) U);have w:bh P N 0=some (aN b):=by obtain⟨_,m⟩:=U.get 2 rfl;exact tB.cell m rfl
  have x:bh P q5 4=some vg:=by obtain⟨_,m⟩:=U.get 1 rfl;exact tB.cell m rfl
  refine⟨λaa d=>il (v:=aN b) d rfl rfl rfl (by simp[iy,gz,fQ]) w (il (v:=aI ((g.al[b]).aA.go[0]'af).block) d rfl rfl rfl (by simp[iy,gz,fQ]) (f 0 _ rfl U.gr) (il d rfl rfl C (n.bX) x rfl)),?_⟩;refine RO.Jc U (Jk W) (U.sl 0) (λH5 Q _ U=>?_);have z:bh H5 q5 4=some vg:=by obtain⟨_,m⟩:=U.get 2 rfl;exact tB.cell m rfl
  refine⟨λaa d=>il (v:=aI ((g.al[b]).aA.go[0]'af).block) d rfl rfl rfl (by simp[iy,gz,fQ]) (f 0 _ rfl U.gr) (il d rfl rfl C (n.bX) z rfl),?_⟩;have X:Sl H5 2 (jn now++[aN b,.bool true]) (now.length+1) Q:=U.sl 0;have⟨Y,Z,ag,_⟩:=X.all;have e5:jn (now++[((b:Int),0)])=jn now++[aN b,.bool true]:=JO _ _;have e6:(now++[((b:Int),0)]).length=now.length+1:=aB;rw[<-e5,<-e6]at U;refine ah ?_;refine RO.cl ((i 0 [aI ((g.al[b]).aA.go[0]'af).block,Q] [_] t _ _ a3 ⟨a3,Q,by rw[a4],Y,Z,ag,.inr (by rw[a4])⟩ s (U.cM (akO _ (vt (xs:=[_,_,_,_]))))).mono ?_);rintro v H3⟨j,U,hc⟩;rcases hc with⟨rfl,s⟩|⟨rfl,h⟩
  .have U:=aj.kO (xs:=[_,_,_,_]) U;have b6:=B 1 j _ _ s (aj.gF (xs:=[_,_,_,_]) U);refine ah ?_;refine RO.Jd U.gr n (λq8 o8 c8 b' he _ f=>?_) (j:=1) (hj:=by omega);obtain⟨v8,rfl,_⟩:=he;refine ah ?_;refine RO.aW ?_ (hc:=f 0 _ rfl U.gr);refine ah ?_;refine RO.lf U 2 (ws:=[aN b,.bool false]) (λH4 q9 U=>?_);refine RO.Jb (v:=wR nv now.length) (λH0 _ _=>Qb T hs) (λP p V=>?_);have U:=U.bX V p;have W:=B 1 j _ P s (aj.gF (xs:=[_,_,_,_,_]) U);have w:bh P N 0=some (aN b):=by obtain⟨_,m⟩:=U.get 3 rfl;exact tB.cell m rfl
   have x:bh P q5 4=some vg:=by obtain⟨_,m⟩:=U.get 2 rfl;exact tB.cell m rfl
   refine⟨λaa d=>il (v:=aN b) d rfl rfl rfl (by simp[iy,gz,fQ]) w (il (v:=aI ((g.al[b]).aA.go[1]'af).block) d rfl rfl rfl (by simp[iy,gz,fQ]) (f 0 _ rfl U.gr) (il d rfl rfl C (n.bX) x rfl)),?_⟩;refine RO.Jc U (Jk W) (U.sl 0) (λH5 Q _ U=>?_);have z:bh H5 q5 4=some vg:=by obtain⟨_,m⟩:=U.get 3 rfl;exact tB.cell m rfl
   refine⟨λaa d=>il (v:=aI ((g.al[b]).aA.go[1]'af).block) d rfl rfl rfl (by simp[iy,gz,fQ]) (f 0 _ rfl U.gr) (il d rfl rfl C (n.bX) z rfl),?_⟩;have X:Sl H5 2 (jn now++[aN b,.bool false]) (now.length+1) Q:=U.sl 0;have⟨Y,Z,ag,_⟩:=X.all;have e5:jn (now++[((b:Int),1)])=jn now++[aN b,.bool false]:=JO _ _;have e6:(now++[((b:Int),1)]).length=now.length+1:=aB;rw[<-e5,<-e6]at U;refine ah ?_;refine RO.cl ((i 1 [aI ((g.al[b]).aA.go[1]'af).block,Q] [_] j _ _ a5 ⟨a5,Q,by rw[a6],Y,Z,ag,.inr (by rw[a6])⟩ s (U.cM (akO _ (vt (xs:=[_,_,_,_,_]))))).mono ?_);rintro v H3⟨j,U,hc⟩;refine ah ?_;refine Ru.aA (vs:=[]) trivial (l _ j _ (by rw[<-aj2]at U;exact U.skip) ?_);rcases hc with⟨_,h⟩|⟨_,h⟩;·left;rw[b5];exact h
   exact .inr h
  refine ah ?_;exact Ru.aA (vs:=[]) trivial (l _ j _ (by rw[<-aj2]at U;exact U.skip) (.inr h))
 refine ah ?_;refine Ru.cond (λ(F:(g.al[b]).aA.op=68)=>?_) (λ(F:¬(g.al[b]).aA.op=68)=>?_)
 .have h0:=av F;have cx:0<now.length:=by cases now with|nil=>exact absurd rfl h0|cons _ _=>simp
  have u:cS g b now=match now.getLast? with|some o=>[(na g o,now.take (now.length - 1))]|none=>[]:=by simp only[cS,E,aq r,aK F]<;>rfl
  refine ah ?_;refine RO.arith (v:=aN (now.length - 1)) ?_ (hv:=px af af);refine ah ?_;refine RO.pc hs (b:=now.length - 1) ?_;have L:∀H',pJ H' now nv->pJ H' (now.take (now.length - 1)) (pc nv (now.length - 1)):=λH' h=>by
   have e:(now.take (now.length - 1)).length=now.length - 1:=by rw[akF];omega
   show Sl H' 2 (jn _) _ _;rw[e,<-P9];exact CF h af
  have⟨ca,cd,cf,_⟩:=(L _ hs).all;refine RO.cl (afA T hB hb U.gr (O.cI a1) q (by rw[aw];exact a1.sl hs) hO h0 a' λH3 o ar cn=>?_);have U:=U.cI cn;rw[ar]at u;simp only at u;rw[u]at i l;refine RO.cl ((i 0 [aI (na g o),pc nv (now.length - 1)] [] t _ _ aB ⟨aB,_,rfl,ca,cd,cf,.inl ⟨rfl,L⟩⟩ s (aj.gF (xs:=[_,_,_]) U)).mono ?_);rintro v H3⟨j,U,hc⟩;refine ah ?_;refine Ru.aA (vs:=[]) trivial (l _ j _ (by rw[<-aj2]at U;exact U.skip) ?_);rcases hc with⟨_,h⟩|⟨_,h⟩;·exact .inl h
  exact .inr h
 have u:cS g b now=(g.al[b]).aA.go.map λe=>(e.block,now):=by simp only[cS,E,aq r,aq F]
 have dD:=hB.bl _ (agB q);refine ah ?_;refine Ru.nm λS M hS hM=>?_;refine Ru.cC hM (up (P:=λk=>∀HX t,J k t->aj A HX (tB tx q5 _::([tB 3 N [aN b],tB iH q1 [.az a 0]]++t++us))->Ru ac _ S ([(b7,aN k)]++pk M [p0,p5,ct,cz]) HX) (g.al[b]).aA.go.length (λk hk ih HX t s U=>?_) 0 af _ t s U);subst hS;subst hM;refine Ru.loop ?_;refine au ?_;refine Ru.cond (λa8=>?_) (λa8=>?_)
 .refine au ?_;refine RO.cZ U.gr n λq6 o6 c6 dE he _ hat hrd=>?_;have cp:=he.one;obtain⟨v6,rfl,_⟩:=he;refine ah ?_;refine RO.fx U λH5 q7 U=>?_;refine ah ?_;have a9:k<(cS g b now).length:=by rw[u,akg];exact a8
  refine RO.cl ((i k [aI ((g.al[b]).aA.go[k]).block,nv] [] t _ _ a9 ⟨a9,nv,by simp only[u,akN],ax,bb,bc,.inl ⟨rfl,λH' h=>by simp only[u,akN];exact h⟩⟩ s (aj.gF (xs:=[_,_,_,_]) U)).mono ?_);rintro v H3⟨j,U,hc⟩;rcases hc with⟨rfl,h⟩|⟨rfl,h⟩;·refine ah ?_;exact Ru.wk (ih (k+1) af af _ _ h (aj.kO (xs:=[_,_,_,_]) U).tail)
  refine ah ?_;exact Ru.mD (vs:=[]) trivial (l _ j _ (by rw[<-aj2]at U;exact U.skip) (.inr h))
 refine Ru.exitTo ?_;refine ah ?_;refine Ru.aA (vs:=[]) trivial (l _ t _ U.tail.tail.tail (.inl ?_));rw[u,akg,show(g.al[b]).aA.go.length=k by omega];exact s
end
end
section
structure FX(g:G.bu)(H:ai)(fq:ab)(vb ov av lvv:AV)(svs:List AV)(come:List Bool)(os:List (List bV))(ak:List Nat)(lv:List (List Int)):Prop where
 ro:yX H fq vb av svs g.al.length
 bl:dV 7 kj H g.al vb
 c1:bh H fq 1=some (aI g.params)
 c2:bh H fq 2=some (aI g.bp)
 c4:bh H fq 4=some ov
 od:Sl H 1 (ak.map aN) ak.length ov
 c6:bh H fq 6=some lvv
 sl:CX H lv lvv
 op:∀b,come.getD b false=true->pJ H (os.getD b []) (svs.getD b .co)
theorem FX.cI{g:G.bu}{H H':ai}{d:ab}{a h e p:AV}{c:List AV}{come:List Bool}{os:List (List bV)}{ak:List Nat}{f:List (List Int)}(o:FX g H d a h e p c come os ak f)(hg:bm H H'):FX g H' d a h e p c come os ak f:=by have hl:=o.ro.lt;obtain⟨h1,h2,h3,i,j,k,l,m,n⟩:=o;exact⟨h1.cI hg,dQ.block.jU hg h2,by rw[hg.bh hl];exact h3,by rw[hg.bh hl];exact i,by rw[hg.bh hl];exact j,hg.sl k,by rw[hg.bh hl];exact l,dQ.P5.jU hg m,λb hb=>hg.sl (n b hb)⟩
section
variable{g:G.bu}{come z:List Bool}{os u:List (List bV)}
theorem cX.bX(c:jm g)(f:cX g come os)(e:cX g z u){b:Nat}(hb:come.getD b false=true):z.getD b false=true/\u.getD b []=os.getD b []:=e.sF c (f.dO b hb)
theorem Lv.bX(c:jm g)(n:cX g come os)(j:cX g z u){b:Nat}{v:Int}(hl:Lv g os b v):come.getD b false=true->Lv g u b v:=by
 induction hl with
 |qQ h1 h2=>intro _;exact .qQ h1 h2
 | @ls b w v k _ f i=>
  intro hb;have e:wW g u b=wW g os b:=by simp only[wW,(n.bX c j hb).2]
  exact .ls (by rw[e];exact k) (i (n.ls hb k)) f
 | @sC b t v l _ f i=>intro hb;obtain⟨_,_,_,_,m,_⟩:=vD c n hb l;exact .sC (by rw[(n.bX c j hb).2];exact l) (i m) f
theorem gP.bX{i:List (List Int)}(e:jm g)(k:cX g come os)(f:cX g z u)(hl:gP g come os i):gP g z u i:=by
 refine⟨hl.len,λb hb v=>?_,λb hb=>hl.JN b ?_,hl.jx⟩;·have c:=(f.bX e k hb).1;rw[hl.mem b c];exact⟨λx=>x.bX e k f c,λx=>x.bX e f k hb⟩
 cases j:come.getD b false with|false=>rfl|true=>rw[(k.bX e f j).1]at hb;cases hb
end
theorem kG{L:Kn}{e c cs r:List AV}{off size:Nat}{x:aJ}{v:AV}{b:List (Nat×Nat×aJ)}(f:bf L x=v)(hd:v.bB=true)(g:v.cells=cs)(hs:cs.length=size)(hl:uq e off cs=some c)(i:qO L c b=some r):qO L e ((off,size,x)::b)=some r:=by simp[f,hd,g,hs,hl,i,qO,decide_true,alK,bq]
theorem Qe{size:Nat}{l w:List AV}{n m:Nat}{nv v:AV}(g:∀H,Sl H size l n nv->Sl H size w m v){H:ai}{f:List ab}(F:(tR size l n nv).P H f):(tR size w m v).P H f:=by
 obtain⟨h1,h2,h3⟩:=F;refine⟨g H h1,λi o m c e D=>?_,h3⟩;apply akx;intro hi;have E:Sl (H.set i .none) size l n nv:=by
  rcases h1 with F|⟨r,x,cap,ex,y,A,B,j,aM,fz,b,k,C⟩;·exact .inl F
  have t:r≠i:=λe=>hi (e▸h2 _ _ _ _ _ b);exact .inr ⟨r,x,cap,ex,y,A,B,j,aM,fz,b,by rw[ai.aF,aq t];exact k,C⟩
 have b:=g _ E;subst D;rcases b with⟨F,_⟩|⟨r,x,cap,ex,y,A,B,j,aM,fz,b,k,C⟩;·cases F
 injection b with b;subst b;rw[ai.aF,aK rfl]at k;cases k
section
variable{g:G.bu}{a h p:AV}{d s q:ab}{A H:ai}{us:List Th}
def wV(g:G.bu)(a h p:AV)(d s q:ab)(ak:List Nat)(b:List AV)(F:List Th):List Th:=[tB Wc d [.str g.name,aI g.params,aI g.bp,a,h,.slice q 0 g.al.length g.al.length true,p],tS Ik 1 b g.al.length true (.slice q 0 g.al.length g.al.length true),tB iH s [.az d 0],tZ F,tS 3 1 (ak.map aN) ak.length true h]
theorem Qf(T:Tb ac)(V:Vd g){cs:List AV}(hg:iG H g cs){K:KT}(hK:∀H' d a h cn p i come os ak lv,cX g come os->e9 g come os ak->gP g come os lv->bm H H'->FX g H' d a h cn p i come os ak lv->K (.tuple [.az d 0,aI 0]) H'):YN ac NU [.agg cs] H K:=by
 have cd:=hg.one;have hB:=V.sm;have cp:=hB.nb;obtain⟨a,rfl,cA⟩:=hg;have⟨cv,cx,cy,a1⟩:=cA.all;refine YF.code T.aa9 aB ?_;refine au ?_;refine RO.dL (aj.dc H) λH1 q1 U=>?_;refine ah ?_;refine RO.eQ U 0 ?_;refine RO.cl (aff T V (cs:=[.str g.name,aI g.params,aI g.bp,a]) ⟨a,rfl,dQ.block.jU U.gr cA⟩ λH2 h come os ak n P hl=>?_);have U:=U.fC hl;have⟨a2,cE,a3,cK⟩:=(hl.sl (e:=3) (size:=1) (sv:=h) (vs:=ak.map aN) (n:=ak.length) (full:=true) 0).all;have c3:ak.length<=g.al.length:=vB _ _ P.nd λx L=>n.lt ((P.mem x).1 L);refine ah ?_;refine RO.eQ U 1 ?_;refine ah ?_;refine RO.oT U (n:=g.al.length) (λH3 q U=>?_) (hz:=by rw[iZ];simp);rw[iZ]at U;refine ah ?_;refine RO.build (vs:=[.str g.name,aI g.params,aI g.bp,a,h,.slice q 0 g.al.length g.al.length true,.aS]) ?_ (hl:=kG rfl rfl rfl rfl rfl (kG rfl a2 a3 rfl rfl (kG rfl rfl rfl rfl rfl rfl)));refine RO.dL U (λH4 d U=>?_) (v:=.agg [.str g.name,aI g.params,aI g.bp,a,h,.slice q 0 g.al.length g.al.length true,.aS]);refine RO.fx U λH5 s U=>?_;refine ah ?_;refine RO.eQ U 4 ?_;have c5:d.an<H5.next.an:=by obtain⟨_,A⟩:=U.get 1 rfl;obtain⟨_,_,_,_,_,dy⟩:=A;exact dy
 have a4:s.an<H5.next.an:=by obtain⟨_,A⟩:=U.get 0 rfl;obtain⟨_,_,_,_,_,dy⟩:=A;exact dy
 have a5:bh H5 s 0=some (.az d 0):=by obtain⟨_,A⟩:=U.get 0 rfl;exact tB.cell A rfl
 refine RO.EN (afy T V (cs:=[.str g.name,aI g.params,aI g.bp,a]) ⟨a,rfl,dQ.block.jU U.gr cA⟩ λH6 p ca c8 lv r F2 a6 Q a8 R=>⟨by rw[R.gr.bh a4];exact a5,?_⟩) (hvs:=by simp[iy,gz,ab.ip]);have Q:=Q.bX V.dO a6 n;have⟨a9,a',ba,_⟩:=(R.sl (e:=eH) (size:=1) (sv:=p) (vs:=r) (n:=r.length) (full:=true) 1).all;have U:aj H H6 ([_,_,_,_,_]++[tZ F2,tS eH 1 r r.length true p]):=(U.fC R).cM akH;refine ah ?_;refine RO.gG U 1 (λH7 U=>?_);refine ah ?_;have U:=(((((U.py 222 2).as 0 rfl λfp A=>tS.mg A).rl.cM (akS ..)).lq.gk 1 rfl).gk 3 rfl).gk 3 rfl;have U:aj H H7 (wV g a h p d s q ak (ahr g.al.length .aS) [tR 2 (jn []) 0 .aS]++(i9 []++[tB fI q1 [.str g.name,aI g.params,aI g.bp,a],tZ F2,tS eH 1 r r.length true p])):=U;refine Ru.nm λS0 M hS hM=>?_;refine Ru.cC hM (up (P:=λk=>∀HX W i F,i.length=g.al.length->(∀x,come.getD x false=true->(x=0\/∃y∈ak.take k,x∈wW g os y)->tR 2 (jn (os.getD x [])) (os.getD x []).length (i.getD x .co)∈F)->aj H HX (wV g a h p d s q ak i F++(i9 W++[tB fI q1 [.str g.name,aI g.params,aI g.bp,a],tZ F2,tS eH 1 r r.length true p]))->Ru ac ⟨pu [.tmp p2,.tmp p3] K,W,none⟩ S0 ([(dl,aN k)]++pk M [p6,cD,bZ]) HX) ak.length (λk hk ih HX W i F bb hF U=>?_) 0 af _ [] _ _ aB (λx L dy=>?_) U);rotate_left
 .rcases dy with rfl|⟨y,E,_⟩;·have bc:=n.lt n.c0;rw[(n.sF V.dO .zero).2,bF (by simpa using bc)];simp
  simp at E
 subst hS;subst hM;refine Ru.loop ?_;refine au ?_;refine Ru.cond (λC=>?_) (λC=>?_)
 .have bd:=agB C;have J:=(P.mem _).1 bd;have Z:ak.take (k+1)=ak.take k++[ak[k]]:=(akd C).symm;have N:=P.aM (ak.take k) ak[k] (ak.drop (k+1)) (by conv=>lhs;rw[<-ala k ak,aj9 C]);have ag:=hF _ J N;refine ah ?_;refine RO.lg (bm.refl _) (U.sl (e:=3) (size:=1) (sv:=h) (vs:=ak.map aN) (n:=ak.length) (full:=true) 4) (λq5 o5 c9 c'=>?_) (j:=k);have ih:=ih (k+1) af af;rw[Z]at ih;clear Z N;generalize ak[k]=b at*;have B:=n.dO b J;have a1:=n.lt J;have bv:(g.al.getD b default).aA.op=68->os.getD b []≠ []:=λbS e=>by obtain⟨o,ho,_⟩:=(V.sG come os n).en b J bS;rw[e]at ho;cases ho
  generalize ay:os.getD b []=now at*;generalize b0:i.getD b .co=nv at*;refine ah ?_;refine RO.cl (Qc T λH8 ar av hl=>?_);have U:aj H H8 ([tB 3 av [aN b],tB iH ar [.az d 0]]++wV g a h p d s q ak i F++(i9 W++[tB fI q1 [.str g.name,aI g.params,aI g.bp,a],tZ F2,tS eH 1 r r.length true p])):=U.fC hl;refine ah ?_;refine Ru.wk (L:=[(dj,.func Ex [] [.az ar 0,.az av 0]),(p6,.az s 0),(cD,h),(bZ,aN ak.length),(dl,aN k)]) ?_;refine Ru.pG (J:=λm ts=>∃c G,c.length=g.al.length/\tR 2 (jn now) now.length nv∈G/\(∀x,come.getD x false=true->(x=0\/(∃y∈ak.take k,x∈wW g os y)\/∃w∈(cS g b now).take m,x=w.1.toNat)->tR 2 (jn (os.getD x [])) (os.getD x []).length (c.getD x .co)∈G)/\ts=wV g a h p d s q ak c G) (Dn:=λ_ _=>False) U (Qd T hB cA (b:=b) (now:=now) (nv:=nv) (V.dO.aH B) (V.dO.jY B).1 (by have:=(V.dO.jY B).2;omega) bv) (λH2 hg=>?_) ⟨i,F,bb,ag,λx L dy=>hF x L (by rcases dy with dy|dy|⟨w,D,_⟩;exact .inl dy;exact .inr dy;simp at D),rfl⟩ (λk args ws dy=>by obtain⟨_,v,rfl,_⟩:=dy;rfl) (λm ts us H' X U=>?_) (λm args ws ts us l o1 o2 H' hm b3 X U=>?_) (λH' b4 dm X U=>?_) (λj H' b4 dm _ dy=>dy.elim)
  .have U:=U.cI hg;have I:∀(o:Nat)(v:AV),([.str g.name,aI g.params,aI g.bp,a,h,.slice q 0 g.al.length g.al.length true,p]:List AV)[o]?=some v->bh H2 d o=some v:=λo v dy=>by obtain⟨_,A⟩:=U.get 2 rfl;exact tB.cell A dy
   have S:d.an<H2.next.an:=by obtain⟨_,A⟩:=U.get 2 rfl;obtain⟨_,_,_,_,_,dy⟩:=A;exact dy
   obtain⟨f,Y,_⟩:=U.mf 5 rfl ag;exact⟨_,i,⟨S,I 3 _ rfl,I 5 _ rfl,U.sl 3⟩,b0,Y⟩
  .obtain⟨c,G,_,h2,_,rfl⟩:=X;obtain⟨f,Y,_⟩:=U.mf 3 rfl h2;exact Y
  .obtain⟨c,G,g1,g2,g3,rfl⟩:=X;obtain⟨aw,v,rfl,a9,a',ba,b5⟩:=b3;have U:aj H H' (wV g a h p d s q ak c (tR 2 (jn (cS g b now)[m].2) (cS g b now)[m].2.length v::G)++tX l o1::us):=by
    rcases b5 with⟨rfl,a0⟩|rfl;·exact((U.gk 3 rfl).OO g2 (t':=tR 2 (jn (cS g b now)[m].2) (cS g b now)[m].2.length v) λf dy=>Qe a0 dy).cM (akj (l₁:=[_,_,_])).symm
    have h5:=U.as 0 rfl λfp A=>tS.mg A;have h6:=h5.cM (akO _ (akj (l₁:=[_,_,_])));exact(aj.lq h6).cM (akj (l₁:=[_,_,_])).symm
   have ax:(cS g b now)[m]∈cS g b now:=agB aw;obtain⟨dr,ds⟩:=V.dO.CP B _ ax;have b6:=lN.step B ax;obtain⟨t,ht⟩:∃t:Nat,(cS g b now)[m].1=(t:Int):=⟨(cS g b now)[m].1.toNat,af⟩;have dv:t<g.al.length:=af;have b':(cS g b now).take (m+1)=(cS g b now).take m++[(cS g b now)[m]]:=(akd aw).symm;have O:=(n.sF V.dO b6).2;rw[ht,aj3]at O;rw[ht];refine au ?_;refine Ru.dN (xs:=wV g a h p d s q ak c (tR 2 (jn (cS g b now)[m].2) (cS g b now)[m].2.length v::G)) U λH9 U=>?_;refine ah ?_;refine RO.yK U 1 g1 (λdx U=>?_) (k:=t);refine ah ?_;refine Ru.bG (ts:=wV g a h p d s q ak (c.set t v) (tR 2 (jn (cS g b now)[m].2) (cS g b now)[m].2.length v::G)) U ⟨_,_,by simpa using g1,aey _ g2,λx L dy=>?_,rfl⟩;rw[fu af];by_cases e:x=t;·rw[aK e,e,O];exact aeU ..
   rw[aq e];refine aey _ (g3 x L ?_);rcases dy with dy|dy|⟨w,D,dy⟩;·exact .inl dy
   .exact .inr (.inl dy)
   rw[b']at D;rcases ahp.1 D with D|D;·exact .inr (.inr ⟨w,D,dy⟩)
   rw[aep]at D;subst D;rw[ht,aj3]at dy;exact absurd dy e
  obtain⟨c,G,g1,g2,g3,rfl⟩:=X;rw[ak7]at g3;refine ah ?_;exact Ru.wk (ih H' (dm::W) c G g1 (λx L dy=>g3 x L (by
   rcases dy with dy|⟨y,E,dy⟩;·exact .inl dy
   rcases ahp.1 E with E|E;·exact .inr (.inl ⟨y,E,dy⟩)
   rw[aep]at E;subst E;simp only[wW,mK,ay,akk]at dy;obtain⟨w,D,dy⟩:=dy;exact .inr (.inr ⟨w,D,dy.symm⟩))) U)
 refine Ru.exitTo ?_;rw[akl af]at hF;refine ah ?_;have U:=aj.gF (xs:=wV g a h p d s q ak i F) (by rw[aj2];exact U);refine Ru.mI (M:=W) U λH' U=>⟨[.az d 0,aI 0],⟨rfl,rfl,rfl,rfl,trivial⟩,?_⟩;have I:∀(o:Nat)(v:AV),([.str g.name,aI g.params,aI g.bp,a,h,.slice q 0 g.al.length g.al.length true,p]:List AV)[o]?=some v->bh H' d o=some v:=λo v dy=>by obtain⟨_,A⟩:=U.get 0 rfl;exact tB.cell A dy
 have S:d.an<H'.next.an:=by obtain⟨_,A⟩:=U.get 0 rfl;obtain⟨_,_,_,_,_,dy⟩:=A;exact dy
 refine hK H' d a h _ p i come os ak lv n P Q U.gr ⟨⟨S,I 3 _ rfl,I 5 _ rfl,U.sl 1⟩,dQ.block.jU U.gr cA,I 1 _ rfl,I 2 _ rfl,I 4 _ rfl,U.sl 4,I 6 _ rfl,a8.sl U 6 rfl (U.sl (e:=eH) (size:=1) (full:=true) 7),λb hb=>?_⟩;have:b=0\/∃y∈ak,b∈wW g os y:=by
  obtain⟨cO,cf,e⟩:=List.append_of_mem ((P.mem b).2 hb);rcases P.aM _ _ _ e with dy|⟨y,E,dy⟩;·exact .inl dy
  exact .inr ⟨y,by rw[e];exact akf _ E,dy⟩
 obtain⟨f,Y,_⟩:=U.mf 3 rfl (hF b hb this);exact Y
end
end
end
end Go.am.R
end
