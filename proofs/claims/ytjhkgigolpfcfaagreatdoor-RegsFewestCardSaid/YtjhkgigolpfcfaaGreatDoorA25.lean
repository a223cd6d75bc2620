/- A part of the proof. No conditions. -/
import Derived.Test.YtjhkgigolpfcfaaGreatDoorA23
import Derived.Test.YtjhkgigolpfcfaaGreatDoorA24
set_option linter.all false
set_option maxHeartbeats 16000000
open List renaming mem_singleton->aep,range->ake,nodup_append->akI
open Nat renaming le_of_ble_eq_true->akc
open Int renaming ofNat->ak1
noncomputable section
namespace Go.am.R
section
variable{ac:Nat->aG}
theorem aps{z:Int}{m:Nat}(h:z+1=m)(a:m<1000000):iK .add 3 z (.ofNat 1)=some (aN m):=by simp only[iK];rw[show z+ak1 1=ak1 m from h,pY (by simp<;>exact qoz) (by simp<;>exact qoz)]
abbrev fwK(a:ab)(c d e:AV)(N f M b k:Nat):Kn:=[(p1,.az a 0),(p3,c),(p5,aN N),(p7,d),(p9,aN f),(aX,aN M),(bi,aN b),(bk,e),(aZ,aN k)]
section
variable{g:G.bu}{H:ai}{cs:List AV}
theorem ap0(T:Tb ac)(ea:∀{H:ai}{K:KT},(∀H',bm H H'->K (.bool true) H')->YN ac NT [] H K)(hg:iG H g cs)(hY:CQ g){K:KT}(h:∀H',bm H H'->K (.bool true) H'):YN ac aop [.agg cs] H K:=by
 have hE:=hg.one;have ar:=hg;obtain⟨vb,rfl,cA⟩:=hg;have ag:=cA;have⟨hT,_,_,h5⟩:=cA.all;refine YF.code T.aoX aB ?_;refine ah ?_;refine RO.dL (aj.dc H) λH1 q1 U=>?_;refine ah ?_;refine RO.eQ U 0 ?_;refine RO.cl (agb T (dQ.nM U.gr ar) hY (λH2 hg w=>?_) (λH2 hg=>?_));rotate_left;·have U:=U.cI hg;refine ah ?_;refine RO.cl (ea λH3 hg=>?_);have U:=U.cI hg;refine ah ?_;exact Ru.aV (h _ U.gr)
 have U:=U.cI hg;have V:=agf w;obtain⟨hG,g'⟩:=Kc w.jx w.Kb;have hR:=w.C6;have h6:=hR.p0;have h7:=hR.p1;obtain⟨n,hn⟩:∃n:Nat,g.bp=n:=⟨g.bp.toNat,af⟩;refine ah ?_;refine RO.eQ U 0 ?_;refine RO.cl (Kh T (dQ.nM U.gr ar) af (λb hb=>⟨w.jx.sm.bl b hb,w.jx.sm.st b hb,w.jx.sm.ed b hb⟩) λH3 h8 hg r=>?_);have U:=U.cI hg;have ha:=r.one;refine RO.cl (agI T V r hn λH4 rv R bc os ak lv hK hO A eb hg d=>?_);have U:=U.cI hg;have⟨hrd,_,_,h9⟩:=d.all;have hF:=eb.agK V hK hO A hn;have f3:=hF.len;refine ah ?_;refine RO.eQ U 0 ?_;refine RO.cl (Kh T (dQ.nM U.gr ar) af (λb hb=>⟨w.jx.sm.bl b hb,w.jx.sm.st b hb,w.jx.sm.ed b hb⟩) λH5 h' hg r=>?_);have U:=U.cI hg;have d:=hg.sl d;have hc:=r.one;refine RO.cl (apg T V r λH6 N hf ig hH ij f4 f5 e6 hW hg=>?_);have hW:=hW.bX V hK f4 hO f5 A e6;have U:=U.cI hg;have d:=hg.sl d;refine ah ?_;refine RO.eQ U 0 ?_;refine RO.cl (Kh T (dQ.nM U.gr ar) af (λb hb=>⟨w.jx.sm.bl b hb,w.jx.sm.st b hb,w.jx.sm.ed b hb⟩) λH7 it hg r=>?_);have U:=U.cI hg;have d:=hg.sl d;have hh:=r.one;refine RO.cl (agF T V r hn af λH8 f1 cl hm iD hI i5 f6 f7 e7 a2 hg J=>?_);have U:=U.cI hg;have d:=hg.sl d;have⟨i6,_,_,i7⟩:=J.all;have e8:=a2.len;have Q:∀v,v<n->∀x,x∈cl.getD v []↔ng (gY g os lv ak) v x:=λv hv x=>(a2.mem v hv x).trans (Km V hK f6 hO f7 A e7).symm;have U:aj H H8 [tB fI q1 [.str g.name,aI g.params,aI g.bp,vb]]:=U;refine ah ?_;refine RO.de (λg1=>absurd (show ak1 R.length=g.bp by rw[f3,hn];rfl) g1) (λ_=>?_);refine ah ?_;refine RO.de (λg1=>absurd (show ak1 cl.length=g.bp by rw[e8,hn];rfl) g1) (λ_=>?_);refine ah ?_;refine RO.eQ U 0 ?_;refine ah ?_;refine RO.cl (Kh T (dQ.nM U.gr ar) af (λb hb=>⟨w.jx.sm.bl b hb,w.jx.sm.st b hb,w.jx.sm.ed b hb⟩) λH9 i' hg r=>?_);have U:=U.cI hg;have d:=hg.sl d;have J:=dQ.P5.jU hg J;have ho:=r.one;refine ah ?_;refine RO.qS (aj.dc H9) 1 λjb f8 hl=>?_;have⟨jj,js,jt,_⟩:=(hl.sl (e:=3) (size:=1) (sv:=f8) (vs:=[]) (n:=0) (full:=true) 0).all;refine ah ?_;refine RO.pZ hl 0 (hl.gr.sl d) (λjH ov hl=>?_) (h1:=qP R);have c3:=hl.sl (e:=3) (size:=1) (sv:=ov) (vs:=[]++R.map aI) (n:=0+R.length) (full:=true) 0;rw[ak0,akh]at c3;have⟨hJ,_,_,_⟩:=c3.all;refine ah ?_;refine RO.cl (agJ T V (dQ.nM hl.gr r) hn af c3 af λb5 e hq j0 hL j1 f9 f' e' hV hg=>?_);obtain rfl:=aph V hK hO A hn af hF f9 f' e' hV;have c5:=hl.gr.trans hg;have U:=U.cI c5;have d:=c5.sl d;have J:=dQ.P5.jU c5 J;refine ah ?_;refine Ru.nm λS0 M hS hM=>?_;refine Ru.cC hM (up (P:=λv=>∀k0,alU R v k0->Ru ac _ S0 ([(aO,aN v),(p9,aN k0)]++pk M [p1,p3,p5,p7]) b5) n (λv hv ih k0 hU=>?_) 0 af 0 ⟨λj hj=>by exact qoz,.inl rfl⟩);subst hS;subst hM;refine Ru.loop ?_;refine ah ?_;refine Ru.cond (λgb=>?_) (λgb=>?_)
 .have ec:v<n:=af;have ih:=ih (v+1) af af;obtain⟨m,hA,j2⟩:∃m:Nat,R.getD v 0+1=m/\m<=201:=by
   by_cases hg:(v:Int)∈eY g ak;·have:=hF.is _ hg;rw[aj3]at this;exact⟨(R.getD v 0+1).toNat,af,af⟩
   have:=hF.no v af af hg;rw[aj3]at this;exact⟨0,af,af⟩
  have hB:R.getD v 0=R[v]:=bF af 0;refine ah ?_;refine RO.kz (bm.refl _) d (λS W q F=>?_) (j:=v);refine ah ?_;refine RO.arith (v:=aN m) ?_ (hv:=aps (by rw[<-hB];exact hA) af);refine ah ?_;refine RO.al0 ?_;refine ah ?_;have bd:=a2.asc v ec;have f:=Q v ec;have gd:cl.getD v []=cl[v]'af:=bF af _;rw[gd]at bd f;have bv:∀x∈cl[v]'af,0<=x/\x<n:=λx z=>by obtain⟨C,w,_,h2,_⟩:=(f x).1 z;rw[<-hn];exact C7 V hK hO A w x h2
  have fa:(cl[v]'af).length<=300:=by have:=Kl (n:=n) (bd.imp λh=>Int.ne_of_lt h) bv;exact qoz
  generalize ei:cl[v]'af=ej at bd f bv fa;refine Ru.nm λS1 M1 c8 a3=>?_;refine Ru.cC a3 (up (P:=λk=>Ru ac _ S1 ([(aR,aN k)]++pk M1 [p1,p3,p5,p7,p9,aO]) b5) ej.length (λk hk X=>?_) 0 af);subst c8;subst a3;refine Ru.loop ?_;refine ah ?_;refine RO.cZ (bm.refl _) J (λS W c9 q Y F hat hrd=>?_) (j:=v);obtain⟨c',rfl,av⟩:=Y;rw[ei]at av;have⟨fb,_,_,fd⟩:=av.all;refine RO.aW (v:=c') ?_ (hc:=hat 0 _ rfl);refine ah ?_;refine Ru.cond (λaw=>?_) (λaw=>?_)
  .have X:=X (k+1) af af;have hu:=bv _ (agB aw);have b6:=(f _).1 (agB aw);refine ah ?_;refine RO.cZ (bm.refl _) J (λS W c9 q Y F hat hrd=>?_) (j:=v);obtain⟨c',rfl,av⟩:=Y;rw[ei]at av;have⟨fb,_,_,fd⟩:=av.all;refine RO.aW (v:=c') ?_ (hc:=hat 0 _ rfl);refine ah ?_;refine RO.kz (bm.refl _) av (λq8 o8 dm L=>?_) (j:=k);generalize ej[k]=u at*;obtain⟨u,rfl⟩:∃y:Nat,u=y:=⟨u.toNat,af⟩;have gg:u<R.length:=af;have gi:R.getD u 0=R[u]:=bF gg 0;have ax:u≠v:=by obtain⟨_,_,_,_,h⟩:=b6;exact qoz
   have fe:R[u]≠R[v]'af:=by obtain⟨m1,m2⟩:=b6.QT V hK hO A;have:=hF.mC _ m1 _ m2 b6;rw[aj3,aj3,gi,hB]at this;exact λe=>this e.symm
   have gn:(v:Int)∈cl[u]'af:=by have:=(Q u af v).2 b6.symm;rwa[bF af]at this
   have dr:(cl[u]'af).length<=10000:=by
    have h1:=a2.asc u af;have h2:=Q u af;rw[bF af]at h1 h2;have:=Kl (n:=n) (h1.imp λh=>Int.ne_of_lt h) λx z=>by obtain⟨C,w,_,h2,_⟩:=(h2 x).1 z;rw[<-hn];exact C7 V hK hO A w x h2
    exact qoz
   refine ah ?_;refine RO.de (λcE=>absurd cE (by show¬R.length<=u;exact qoz)) (λ_=>?_);refine ah ?_;refine RO.de (λcE=>absurd cE ax) (λ_=>?_);refine ah ?_;refine RO.kz (bm.refl _) d (λS W q F=>?_) (j:=u);refine ah ?_;refine RO.kz (bm.refl _) d (λS W q F=>?_) (j:=v);refine ah ?_;refine RO.de (λcE=>absurd cE fe) (λ_=>?_);refine ah ?_;refine RO.cZ (bm.refl _) J (λS W c9 q Y F hat hrd=>?_) (j:=u);obtain⟨ds,rfl,a4⟩:=Y;have⟨fk,_,_,_⟩:=a4.all;refine ah ?_;refine RO.aW (v:=ds) ?_ (hc:=hat 0 _ rfl);refine ah ?_;refine RO.cl (al1 T (x:=v) a4 dr ?_);rw[decide_eq_true gn];refine ah ?_;exact Ru.wk X
  refine Ru.exitTo ?_;refine ah ?_;exact Ru.wk (ih _ (hU.succ hA))
 refine Ru.exitTo ?_;obtain rfl:n=v:=af;have gq:=api V hK hO A hn hW eb hU;refine ah ?_;refine Ru.nm λS0 M0 hS ek=>?_;refine Ru.cC ek (up (P:=λb=>∀I M,bm b5 I->alV g bc os lv N b M->Ru ac _ S0 ([(bi,aN b),(aX,aN M)]++pk M0 [p1,p3,p5,p7,p9]) I) g.al.length (λb hb ih I M hX hM=>?_) 0 af b5 0 (bm.refl _) ⟨af,λb hb=>by exact qoz⟩);subst hS;subst ek;have U:=U.cI hX;refine Ru.loop ?_;refine ah ?_;refine Ru.cond (λa5=>?_) (λa5=>?_)
 .have ih:=ih (b+1) af af;refine ah ?_;refine RO.eQ U 0 ?_;refine RO.cl (Kh T (dQ.nM U.gr ar) af (λb hb=>⟨w.jx.sm.bl b hb,w.jx.sm.st b hb,w.jx.sm.ed b hb⟩) λgu j3 hg r=>?_);have U:=U.cI hg;have hX:=hX.trans hg;have hr:=r.one;refine ah ?_;refine RO.cl (apr T V r hn af a5 λdv pv pl kW o5 r5 l5 dx j4 fl gx hg el=>?_);have U:=U.cI hg;have hX:=hX.trans hg;have⟨j5,_,_,j'⟩:=el.all;rcases gx with⟨Z,fo,bS⟩|⟨Z,rfl⟩;rotate_left
  .refine ah ?_;refine Ru.loop ?_;refine ah ?_;refine Ru.exitTo ?_;refine ah ?_;refine Ru.wk (ih dv M hX ⟨hM.1,λcK dy ay=>?_⟩);by_cases e:cK=b;·subst e;rw[(hK.bX V.dO dx ay).1]at Z;cases Z
   exact hM.2 cK af ay
  have er:=(dx.bX V.dO hK Z).1;have gy:=apo V hK dx A fl er;have bS:∀k,k<=(aH g b).aD.length->(pl.getD k []).Pairwise (·<·)/\∀x,x∈pl.getD k []↔eK g os lv b ((aH g b).aD.length - k) x:=λk hk=>by rw[gy];exact bS k hk
  have et:=oC a5;have eh:=V.sm.st _ et;have kb:=V.sm.bl _ et;have b':g.al[b]=aH g b:=(bF a5 _).symm;have d':=(hO.mem b).2 er;refine ah ?_;refine RO.de (λ_=>?_) (λh=>absurd (show 0<pl.length by exact qoz) h);refine ah ?_;refine RO.cZ U.gr ag (λS W c9 q B F hat hrd=>?_) (j:=b);rw[b']at B;obtain⟨vp,dz,jc,rfl,a0,P,_⟩:=B;have⟨fp,_,_,fq⟩:=a0.all;have⟨ev,_,_,ew⟩:=P.all;refine ah ?_;refine Ru.cond (λg1=>absurd (show pl.length=(aH g b).aD.length+1 from fo) g1) (λ_=>?_);refine ah ?_;refine Ru.nm λS1 M1 c8 a3=>?_;refine Ru.cC a3 (up (P:=λk=>∀I M,bm dv I->alV g bc os lv N b M->(∀i,i<k->∀l:List Int,l.Nodup->(∀x∈l,Nm g os lv b i x)->l.length<=M)->Ru ac _ S1 ([(aZ,aN k),(aX,aN M)]++pk M1 [p1,p3,p5,p7,p9,bi,bk]) I) ((aH g b).aD.length+1) (λk hk X I M hY hM ey=>?_) 0 af dv M (bm.refl _) hM (λi hi=>by exact qoz));subst c8;subst a3;have U:=U.cI hY;refine Ru.loop ?_;refine ah ?_;refine Ru.cond (λaw=>?_) (λaw=>?_)
  .have dD:k<=(aH g b).aD.length:=af;have X:=X (k+1) af af;obtain⟨dE,cn⟩:=bS k dD;refine ah ?_;refine RO.qS (aj.dc I) 1 λHA o hl=>?_;have⟨a6,_,_,_⟩:=(hl.sl (e:=3) (size:=1) (sv:=o) (vs:=[]) (n:=0) (full:=true) 0).all;refine iS ?_;refine Ru.seq ?_;refine Ru.wP (P:=λK' H'=>∃o,K'=(br,o)::fwK q1 rv f1 pv N k0 M b k/\aj I H' [tS 3 1 ((if k=0 then(aH g b).params else[]).map aI) (if k=0 then(aH g b).params else[]).length true o]) (λK' HB⟨o,a8,hl⟩=>?_) (λs' c=>?_);rotate_left
   .refine ah ?_;refine Ru.cond (λh0=>?_) (λh0=>?_)
    .have h0:k=0:=h0;have U:=U.cI hl.gr;refine ah ?_;refine RO.cZ U.gr ag (λS W c9 q B F hat hrd=>?_) (j:=b);rw[b']at B;obtain⟨vp,dz,jc,rfl,a0,P,_⟩:=B;have⟨fp,_,_,fq⟩:=a0.all;refine ah ?_;refine RO.pZ hl 0 (U.gr.sl a0) (λHB D hl=>?_) (h1:=qP _);have hl:aj I HB [tS 3 1 ((aH g b).params.map aI) (aH g b).params.length true D]:=by rw[ak0,akh]at hl;exact hl
     have⟨d0,_,_,_⟩:=(hl.sl (e:=3) (size:=1) (sv:=D) (vs:=(aH g b).params.map aI) (n:=(aH g b).params.length) (full:=true) 0).all;refine ah ?_;refine c _ _ _ ⟨D,rfl,by rw[aK h0];exact hl⟩ ?_;exact fB
    refine Ru.skip ?_;refine c _ _ _ ⟨o,rfl,by rw[aq h0];exact hl⟩ ?_;exact fB
   subst a8;generalize cp:(if k=0 then(aH g b).params else[])=s at hl;have ht:s.length<=12:=by
    rw[<-cp];split;·exact qoz
    simp
   have⟨a6,_,_,_⟩:=(hl.sl (e:=3) (size:=1) (sv:=o) (vs:=s.map aI) (n:=s.length) (full:=true) 0).all;refine iS ?_;refine Ru.seq ?_;refine Ru.wP (P:=λK' H'=>∃o,K'=(br,o)::fwK q1 rv f1 pv N k0 M b k/\aj I H' [tS 3 1 ((s++if b=0/\k=0 then pL g else[]).map aI) (s++if b=0/\k=0 then pL g else[]).length true o]) (λK' HB⟨o,a8,hl⟩=>?_) (λs' c=>?_);rotate_left
   .refine ah ?_;obtain⟨np,gA⟩:∃np:Nat,g.params=np:=⟨g.params.toNat,af⟩;have cv:pL g=(ake np).map λ(v:Nat)=>(v:Int):=by rw[pL,gA,aj3]
    have d1:∀{p:Nat},p<=np->(p=0\/b=0/\k=0)->¬((p:Int)<g.params/\b=0/\k=0)->(pL g).take p=(if b=0/\k=0 then pL g else[])/\p=(if b=0/\k=0 then pL g else[]).length:=λ{p}h1 h2 h3=>by
     by_cases ca:b=0/\k=0
     .have:p=np:=by apply akx;intro ax;exact h3 ⟨af,ca⟩
      rw[aK ca];have hl:(pL g).length=np:=by rw[cv];simp
      exact⟨akl af,af⟩
     obtain rfl:=h2.resolve_right ca;rw[aq ca];simp
    refine Ru.nm λS2 M2 d2 a9=>?_;refine Ru.cC a9 (up (P:=λp=>∀HB o,(p=0\/b=0/\k=0)->aj I HB [tS 3 1 ((s++(pL g).take p).map aI) (s.length+p) true o]->Ru ac _ S2 ([(bJ,aN p),(br,o)]++pk M2 [p1,p3,p5,p7,p9,aX,bi,bk,aZ]) HB) np (λp hp O HB o hz hl=>?_) 0 af HB o (.inl rfl) (by simpa using hl));subst d2;subst a9;have U:=U.cI hl.gr;have⟨a6,_,_,_⟩:=(hl.sl (e:=3) (size:=1) (sv:=o) (vs:=(s++(pL g).take p).map aI) (n:=s.length+p) (full:=true) 0).all;refine Ru.loop ?_;refine ah ?_;refine RO.de (λc1=>?_) (λc1=>?_)
    .refine ah ?_;refine RO.de (λc2=>?_) (λc2=>?_)
     .refine ah ?_;refine Ru.cond (λf2=>?_) (λf2=>?_)
      .have c1:(p:Int)<g.params:=c1;have gH:(pL g).take (p+1)=(pL g).take p++[(p:Int)]:=by
        have hl:p<(pL g).length:=by rw[cv];simp;exact qoz
        rw[List.take_add_one,akP hl];simp[pL]
       have O:=O (p+1) af af;refine ah ?_;refine RO.push hl 0 (λw0 HC D hl=>?_) (ws:=[aN p]);have hl:aj I HC [tS 3 1 ((s++(pL g).take (p+1)).map aI) (s.length+(p+1)) true D]:=by rw[gH,<-aj2,akE];exact hl
       have⟨d0,_,_,_⟩:=(hl.sl (e:=3) (size:=1) (sv:=D) (vs:=(s++(pL g).take (p+1)).map aI) (n:=s.length+(p+1)) (full:=true) 0).all;refine ah ?_;exact Ru.wk (O HC D (.inr ⟨c2,f2⟩) hl)
      refine Ru.exitTo ?_;obtain⟨e1,e2⟩:=d1 hp hz λh=>f2 h.2.2;rw[e1]at hl;refine c _ _ _ ⟨o,rfl,by rw[aj8,<-e2];exact hl⟩ ?_;exact fB
     refine ah ?_;refine Ru.exitTo ?_;obtain⟨e1,e2⟩:=d1 hp hz λh=>c2 h.2.1;rw[e1]at hl;refine c _ _ _ ⟨o,rfl,by rw[aj8,<-e2];exact hl⟩ ?_;exact fB
    refine ah ?_;refine Ru.exitTo ?_;obtain⟨e1,e2⟩:=d1 hp hz λh=>c1 h.1;rw[e1]at hl;refine c _ _ _ ⟨o,rfl,by rw[aj8,<-e2];exact hl⟩ ?_;exact fB
   subst a8;generalize cx:s++(if b=0/\k=0 then pL g else[])=G at hl;have hw:G.length<=212:=by
    rw[<-cx,aj8];split;·simp[pL];exact qoz
    simp;exact qoz
   have⟨a6,_,_,_⟩:=(hl.sl (e:=3) (size:=1) (sv:=o) (vs:=G.map aI) (n:=G.length) (full:=true) 0).all;refine iS ?_;refine Ru.seq ?_;refine Ru.wP (P:=λK' H'=>∃o,K'=(br,o)::fwK q1 rv f1 pv N k0 M b k/\aj I H' [tS 3 1 ((G++if 0<k/\0<=((aH g b).aD.getD (k - 1) default).to then[((aH g b).aD.getD (k - 1) default).to]else[]).map aI) (G++if 0<k/\0<=((aH g b).aD.getD (k - 1) default).to then[((aH g b).aD.getD (k - 1) default).to]else[]).length true o]) (λK' HC⟨o,a8,hl⟩=>?_) (λs' c=>?_);rotate_left
   .have U:=U.cI hl.gr;refine ah ?_;refine RO.de (λc1=>?_) (λc1=>?_)
    .have c1:0<k:=c1;have gL:(aH g b).aD.getD (k - 1) default=(aH g b).aD[k - 1]'af:=bF af _;rw[gL]at c;refine ah ?_;refine RO.cZ U.gr ag (λS W c9 q B F hat hrd=>?_) (j:=b);rw[b']at B;obtain⟨vp,dz,jc,rfl,a0,P,_⟩:=B;have⟨ev,_,_,ew⟩:=P.all;refine ah ?_;refine RO.arith (v:=aN (k - 1)) ?_ (hv:=px (k:=k) af af);refine ah ?_;refine RO.cZ U.gr P (λq8 o8 hC dm b0 eP hat hrd=>?_) (j:=k - 1);obtain⟨g0,rfl,fs⟩:=b0;refine ah ?_;refine Ru.cond (λc2=>?_) (λc2=>?_)
     .refine ah ?_;refine RO.cZ U.gr ag (λS W c9 q B F hat hrd=>?_) (j:=b);rw[b']at B;obtain⟨vp,dz,jc,rfl,a0,P,_⟩:=B;have⟨ev,_,_,ew⟩:=P.all;refine ah ?_;refine RO.arith (v:=aN (k - 1)) ?_ (hv:=px (k:=k) af af);refine ah ?_;refine RO.cZ U.gr P (λq8 o8 hC dm b0 eP hat hrd=>?_) (j:=k - 1);obtain⟨g0,rfl,fs⟩:=b0;refine ah ?_;refine RO.push hl 0 (λw0 HC D hl=>?_) (ws:=[aI (aH g b).aD[k - 1].to]);have hl:aj I HC [tS 3 1 ((G++[(aH g b).aD[k - 1].to]).map aI) (G++[(aH g b).aD[k - 1].to]).length true D]:=by rw[akE,aj8];exact hl
      have⟨d0,_,_,_⟩:=(hl.sl (e:=3) (size:=1) (sv:=D) (vs:=(G++[(aH g b).aD[k - 1].to]).map aI) (n:=(G++[(aH g b).aD[k - 1].to]).length) (full:=true) 0).all;refine ah ?_;refine c _ _ _ ⟨D,rfl,by rw[aK ⟨c1,c2⟩];exact hl⟩ ?_;exact fB
     refine Ru.skip ?_;refine c _ _ _ ⟨o,rfl,by rw[aq λh=>c2 h.2,akT];exact hl⟩ ?_;exact fB
    refine ah ?_;refine c _ _ _ ⟨o,rfl,by rw[aq λh=>c1 h.1,akT];exact hl⟩ ?_;exact fB
   subst a8;have E:=app (os:=os) (lv:=lv) V a5 dD;rw[cp,cx]at E;generalize fN:G++(if 0<k/\0<=((aH g b).aD.getD (k - 1) default).to then[((aH g b).aD.getD (k - 1) default).to]else[])=a at hl E;have hx:a.length<=213:=by
    rw[<-fN,aj8];split;·simp;exact qoz
    simp;exact qoz
   have f0:pl.getD k []=pl[k]:=bF aw _;rw[f0]at dE cn;have E:∀x,Nm g os lv b k x↔x∈pl[k]\/x∈a:=λx=>by rw[E,cn]
   have b3:=apj (os:=os) (lv:=lv) d' dD;have cd:∀x,Nm g os lv b k x->0<=x/\x<n:=λx z=>by rw[<-hn];exact C7 V hK hO A b3 x z
   have⟨a6,_,_,_⟩:=(hl.sl (e:=3) (size:=1) (sv:=o) (vs:=a.map aI) (n:=a.length) (full:=true) 0).all;refine ah ?_;refine RO.qS hl 1 λHD g2 hl=>?_;have⟨e0,_,_,_⟩:=(hl.sl (e:=3) (size:=1) (sv:=g2) (vs:=[]) (n:=0) (full:=true) 0).all;refine ah ?_;refine RO.cZ (hY.trans hl.gr) el (λS W c9 q Y F hat hrd=>?_) (j:=k);obtain⟨rp,rfl,e3⟩:=Y;have⟨hN,_,_,hP⟩:=e3.all;refine RO.aW (v:=rp) ?_ (hc:=hat 0 _ rfl);refine ah ?_;have hQ:pl[k].length<=300:=by have:=Kl (n:=n) (dE.imp λh=>Int.ne_of_lt h) λx z=>cd x ((E x).2 (.inl z));exact qoz
   refine RO.pZ hl 0 ((hY.trans hl.gr).sl e3) (λHE b4 hl=>?_) (h1:=qP _);have hl:aj I HE [tS 3 1 (pl[k].map aI) pl[k].length true b4,tS 3 1 (a.map aI) a.length true o]:=by rw[ak0,akh]at hl;exact hl
   have⟨e0,_,_,_⟩:=(hl.sl (e:=3) (size:=1) (sv:=b4) (vs:=pl[k].map aI) (n:=pl[k].length) (full:=true) 0).all;refine ah ?_;refine Ru.nm λS2 M2 d2 a9=>?_;refine Ru.cC a9 (up (P:=λj=>∀HE t b4,t.Nodup->(∀x,x∈t↔x∈pl[k]\/x∈a.take j)->aj I HE [tS 3 1 (t.map aI) t.length true b4,tS 3 1 (a.map aI) a.length true o]->Ru ac _ S2 ([(bR,aN j),(bN,b4)]++pk M2 [p1,p3,p5,p7,p9,aX,bi,bk,aZ,br]) HE) a.length (λj hj O HE t b4 a' f hl=>?_) 0 af HE pl[k] b4 (dE.imp λh=>Int.ne_of_lt h) (λx=>by simp) hl);subst d2;subst a9;have a1:=hl.sl (e:=3) (size:=1) (sv:=b4) (vs:=t.map aI) (n:=t.length) (full:=true) 0;have d3:=hl.sl (e:=3) (size:=1) (sv:=o) (vs:=a.map aI) (n:=a.length) (full:=true) 1;have⟨e0,_,_,kk⟩:=a1.all;have⟨a6,_,_,ks⟩:=d3.all;have ba:∀x∈t,Nm g os lv b k x:=λx z=>(E x).2 (((f x).1 z).imp id List.mem_of_mem_take);have eZ:t.length<=300:=by have:=Kl (n:=n) a' λx z=>cd x (ba x z);exact qoz
   refine Ru.loop ?_;refine ah ?_;refine Ru.cond (λbb=>?_) (λbb=>?_)
   .have O:=O (j+1) af af;have g3:a.take (j+1)=a.take j++[a[j]]:=(akd bb).symm;rw[g3]at O;refine ah ?_;refine RO.kz (bm.refl _) d3 (λS W q L=>?_) (j:=j);refine ah ?_;refine RO.cl (al1 T a1 af ?_);by_cases z:a[j]∈t;·rw[decide_eq_true z];refine ah ?_;refine Ru.wk (O HE t b4 a' (λx=>?_) hl);rw[f,ahp,aep];exact⟨λh=>h.imp id .inl,λh=>h.elim .inl λh=>h.elim .inr λe=>(f x).1 (e▸z)⟩
    rw[decide_eq_false z];refine ah ?_;refine RO.kz (bm.refl _) d3 (λS W q L=>?_) (j:=j);refine ah ?_;refine RO.push hl 0 (λw0 HF d4 hl=>?_) (ws:=[aI a[j]]);have hl:aj I HF [tS 3 1 ((t++[a[j]]).map aI) (t++[a[j]]).length true d4,tS 3 1 (a.map aI) a.length true o]:=by rw[akE,aj8];exact hl
    have⟨d0,_,_,_⟩:=(hl.sl (e:=3) (size:=1) (sv:=d4) (vs:=(t++[a[j]]).map aI) (n:=(t++[a[j]]).length) (full:=true) 0).all;refine ah ?_;refine Ru.wk (O HF (t++[a[j]]) d4 (akI.2 ⟨a',aB,λx g4 y hy=>?_⟩) (λx=>?_) hl);·rw[aep]at hy;subst hy;exact λe=>z (e▸g4)
    rw[ahp,ahp,f,or_assoc]
   refine Ru.exitTo ?_;obtain rfl:j=a.length:=af;rw[ak7]at f;have hD:=hX.trans (hY.trans hl.gr);have cf:∀i j(hi:i<t.length)(hj:j<i),t[j]∈cl.getD t[i].toNat []:=λi j hi hj=>by
    have h1:=ba _ (agB hi);have h2:=ba _ (agB (show j<t.length by exact qoz));have h3:=cd _ h1;refine(Q _ af _).2 ⟨_,b3,?_,h2,?_⟩;·rw[Int.toNat_of_nonneg h3.1];exact h1
    rw[Int.toNat_of_nonneg h3.1];exact λe=>(List.pairwise_iff_getElem.1 a' j i af hi hj) e
   have cy:alV g bc os lv N b (max M t.length)/\∀i,i<k+1->∀l:List Int,l.Nodup->(∀x∈l,Nm g os lv b i x)->l.length<=max M t.length:=by
    have h1:=hW.1 _ b3 t a' ba;have h2:=hM.1;refine⟨⟨af,λcK dy ay i hi l h3 h4=>?_⟩,λi hi l h3 h4=>?_⟩;·have:=hM.2 cK dy ay i hi l h3 h4;exact qoz
    by_cases e:i=k;·subst e;have:=al8 h3 λx z=>(f x).2 ((E x).1 (h4 x z));exact qoz
    have:=ey i af l h3 h4;exact qoz
   refine ah ?_;refine RO.al0 ?_;refine ah ?_;refine Ru.nm λS3 M3 g5 e4=>?_;refine Ru.cC e4 (up (P:=λi=>Ru ac _ S3 ([(bO,aN i)]++pk M3 [p1,p3,p5,p7,p9,aX,bi,bk,aZ,bN]) HE) t.length (λi hi d5=>?_) 0 af);subst g5;subst e4;refine Ru.loop ?_;refine ah ?_;refine Ru.cond (λd6=>?_) (λd6=>?_)
   .have d5:=d5 (i+1) af af;have g6:=cd _ (ba _ (agB d6));refine ah ?_;refine Ru.nm λS4 M4 g7 e5=>?_;refine Ru.cC e5 (up (P:=λj=>Ru ac _ S4 ([(bL,aN j)]++pk M4 [p1,p3,p5,p7,p9,aX,bi,bk,aZ,bN,bO]) HE) i (λj hj d7=>?_) 0 af);subst g7;subst e5;refine Ru.loop ?_;refine ah ?_;refine Ru.cond (λbb=>?_) (λbb=>?_)
    .have d7:=d7 (j+1) af af;have Z:=cf i j d6 bb;obtain⟨x,z⟩:∃x:Nat,t[i]=x:=⟨t[i].toNat,af⟩;rw[z]at g6;rw[z,aj3,bF (show x<cl.length by exact qoz)]at Z;have dr:(cl[x]'af).length<=10000:=by
      have h1:=a2.asc x af;have h2:=Q x af;rw[bF af]at h1 h2;have:=Kl (n:=n) (h1.imp λh=>Int.ne_of_lt h) λy hy=>by obtain⟨C,w,_,h2,_⟩:=(h2 y).1 hy;rw[<-hn];exact C7 V hK hO A w y h2
      exact qoz
     refine ah ?_;refine RO.kz (bm.refl _) a1 (λS W q L=>?_) (j:=i);rw[z]at L;refine ah ?_;refine RO.kz (bm.refl _) a1 (λS W q L=>?_) (j:=i);rw[z]at L;refine ah ?_;refine RO.de (λcE=>absurd cE (by show¬cl.length<=x;exact qoz)) (λ_=>?_);refine ah ?_;refine RO.kz (bm.refl _) a1 (λS W q L=>?_) (j:=i);rw[z]at L;refine ah ?_;refine RO.cZ hD J (λq8 o8 hC dm g8 eP hat hrd=>?_) (j:=x);obtain⟨ds,rfl,a4⟩:=g8;have⟨fk,_,_,_⟩:=a4.all;refine ah ?_;refine RO.aW (v:=ds) ?_ (hc:=hat 0 _ rfl);refine ah ?_;refine RO.kz (bm.refl _) a1 (λq7 o7 kt L=>?_) (j:=j);refine ah ?_;refine RO.cl (al1 T (hD.sl a4) dr ?_);rw[decide_eq_true Z];refine ah ?_;exact Ru.wk d7
    refine Ru.exitTo ?_;refine ah ?_;exact Ru.wk d5
   refine Ru.exitTo ?_;refine ah ?_;exact Ru.wk (X HE (max M t.length) (hY.trans hl.gr) cy.1 cy.2)
  refine Ru.exitTo ?_;obtain rfl:k=(aH g b).aD.length+1:=af;refine ah ?_;refine Ru.wk (ih I M (hX.trans hY) ⟨hM.1,λcK dy ay=>?_⟩);by_cases e:cK=b;·subst e;exact λi hi=>ey i af
  exact hM.2 cK af ay
 refine Ru.exitTo ?_;obtain rfl:b=g.al.length:=af;have g9:=apl hK hO hW hM;subst gq;subst g9;refine ah ?_;refine RO.de (λ_=>?_) (λax=>absurd rfl ax);refine ah ?_;refine RO.de (λ_=>?_) (λax=>absurd rfl ax);refine ah ?_;refine RO.cl (ea λgu hg=>?_);have U:=U.cI hg;refine ah ?_;exact Ru.aV (h _ U.gr)
end
end
end Go.am.R
end
