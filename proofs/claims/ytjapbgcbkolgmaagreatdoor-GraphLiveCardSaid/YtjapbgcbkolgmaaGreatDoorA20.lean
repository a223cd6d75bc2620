/- A part. No conditions. -/
import Derived.Test.YtjapbgcbkolgmaaGreatDoorA19
import Derived.Test.YtjapbgcbkolgmaaGreatDoorA18
set_option linter.all false
set_option maxHeartbeats 16000000
open List renaming replicate->aeN
open List.Sublist renaming cons_cons->agL
noncomputable section
namespace Go.al
theorem aq.ne{A H:ah}{k:List Th}{t m:Th}{q r:af}(U:aq A H k)(i j:Nat)(hi:k[i]?=some t)(hj:k[j]?=some m)(l:i≠j)(n:∀f,t.P H f->q∈f)(o:∀f,m.P H f->r∈f):q≠r:=by
 obtain⟨_,s,p⟩:=U;rcases Nat.lt_or_gt_of_ne l with h|h;·obtain⟨f,g,h1,h2,h3⟩:=p.jZ hi hj h;exact λe=>h3 q (n f h1) (by rw[e];exact o g h2)
 obtain⟨f,g,h1,h2,h3⟩:=p.jZ hj hi h;exact λe=>h3 r (o f h1) (by rw[<-e];exact n g h2)
theorem tS.sA{H:ah}{f:List af}{e size n k cap:Nat}{j:List AV}{i ex:Bool}{q:af}(h:(tS e size j n i (.slice q 0 k cap ex)).P H f):q∈f:=by
 rcases h with⟨_,_,_,h⟩|⟨m,o,aM,cap,l,rfl,h2,_⟩;·cases h
 injection h2 with h2;subst h2;exact abL ..
theorem Sl.move{H j:ah}{size n o m cap:Nat}{t:List AV}{ex:Bool}{q:af}(h:Sl H size t n (.slice q o m cap ex))(hg:j.get q=H.get q)(u:H.next.am<=j.next.am):Sl j size t n (.slice q o m cap ex):=by
 rcases h with⟨h,_⟩|⟨i,v,f,k,D,w,e,l,aM,fz,x,y,z,A,B,C,p⟩;·cases h
 injection x with h1 h2 h3 r s;subst h1;exact .inr ⟨_,v,f,k,D,w,e,l,aM,fz,by rw[h2,h3,r,s],by rw[hg];exact y,z,A,B,afT C u,p⟩
theorem tB.sA{H:ah}{f:List af}{e:Nat}{i:List AV}{q:af}(h:(tB e q i).P H f):q∈f:=h.1
end Go.al
namespace Go.al.R
open Go.al
variable{ac:Nat->aX}
section
variable{g:G.be}{a c:AV}{b:af}{H:ah}{come:List Bool}{os:List (List bK)}{d:List AV}
theorem Nv{l:List Nat}(h:l.Nodup){i j:Nat}(hi:i<l.length)(hj:j<l.length)(e:l[i]=l[j]):i=j:=by
 have h2:=List.pairwise_iff_getElem.1 h;rcases Nat.lt_trichotomy i j with h3|h3|h3;·exact absurd e (h2 i j hi hj h3)
 .exact h3
 exact absurd e.symm (h2 j i hj hi h3)
theorem D4:∀(n:Nat)(l:List Nat),l.Nodup->(∀x∈l,x<n)->l.length<=n
 |0,l,_,h=>by cases l with|nil=>simp|cons j l=>exact absurd (h j (abL ..)) ab
 |n+1,l,hd,h=>by
  by_cases i:n∈l
  .have h1:=D4 n (l.erase n) (hd.erase n) λx f=>by rw[hd.mem_erase_iff]at f;have:=h x f.2;omega
   rw[List.length_erase_of_mem i]at h1;omega
  have:=D4 n l hd λx f=>by have:=h x f;have:x≠n:=λe=>i (e▸f);omega
  omega
theorem ab6{W:Nat->List Nat}{aA f:List Nat}{n:Nat}(h:0<n):ny W aA f n ((aeN n (-1:Int)).set 0 0):=by
 have e:∀x,((aeN n (-1:Int)).set 0 0).getD x (-1)=if x=0 then 0 else -1:=λx=>by
  rw[dG (by simpa using h)];split;·rfl
  simp[afz,agr];split<;>rfl
 exact⟨aF,by rw[e,aJ rfl],λi=>by rw[e];split<;>omega,λi hb h=>by rw[e,ap hb]at h;omega⟩
theorem ab7(T:Tb ac)(hB:G.Sm g)(hE:fK g)(hX:GX g H b a c come os d)(hK:dw g come os){K:KT}(h:∀H' v aA ranks up,nu g come os aA->Rk (wW g os) aA ranks->ny (wW g os) aA ranks g.aj.length up->(∀fb∈aA,0<=up.getD fb (-1))->(∀fb∈aA,∀x∈wW g os fb,nB up fb x)->aq H H' [tS 3 1 ((up.set 0 (-1)).map aI) g.aj.length true v]->K v H'):YN ac Wt [.aE b 0] H K:=by
 have d5:=hB.nb;have a1:=hK.lt hK.c0;have⟨hd,_,_,hn⟩:=hX.bl.all;have a2:=hX.iZ.bm;have n:=hX.iZ.lt;refine YF.code T.Ze aF ?_;refine au ?_;refine RO.cl (Nl T hB hE hX hK λH1 P aA Q U=>?_);have⟨d6,d7,d',ea⟩:=(U.sl (e:=3) (size:=1) (sv:=P) (vs:=aA.map aN) (n:=aA.length) (full:=true) 0).all;refine ai ?_;refine RO.bi ?_ (hc:=by rw[U.gr.bx n];exact a2);refine ai ?_;refine RO.ls U (n:=g.aj.length) (λH2 F U=>?_) (hz:=by rw[io];simp);have er:eo [AV.int 3 (.ofNat 0)] g.aj.length=(aeN g.aj.length 0).map aN:=by rw[io,ag7]
 rw[er]at U;refine RO.kr U 1 (λH3 R U=>?_) (n:=1) (ws:=[aI (-1)]);refine ai ?_;have eb:=(U.AG (e:=3) (size:=1) (n:=1) (vs:=[aI (-1)]) (full:=true) (q:=R) (o:=0) (m:=1) (cap:=1) (ex:=true) 0);have ec:=(U.AG (e:=3) (size:=1) (n:=g.aj.length) (vs:=(aeN g.aj.length 0).map aN) (full:=true) (q:=F) (o:=0) (m:=g.aj.length) (cap:=g.aj.length) (ex:=true) 1);refine RO.yS (is:=[R,F]) (v:=a) (by rw[U.gr.bx n];exact a2) (by simp only[acn,afy,or_false,not_or];exact⟨λe=>by rw[e]at n;omega,λe=>by rw[e]at n;omega⟩) (λHU hs a6=>?_);have U:=U.bN a6 hs;refine ai ?_;refine RO.eL U λH4 V U=>?_;refine RO.eL U λH5 W U=>?_;have n1:R≠W:=U.ne 2 0 rfl rfl bo (λ_ h=>tS.sA h) λ_ h=>tB.sA h;have n2:R≠V:=U.ne 2 1 rfl rfl bo (λ_ h=>tS.sA h) λ_ h=>tB.sA h;have n3:R≠F:=U.ne 2 3 rfl rfl bo (λ_ h=>tS.sA h) λ_ h=>tS.sA h;have ei:=(U.ut (e:=eM) (q:=W) (vs:=[.aH]) 0).2;have ej:=(U.ut (e:=eM) (q:=V) (vs:=[.aH]) 1).2;have ek:=(U.AG (e:=3) (size:=1) (n:=g.aj.length) (vs:=(aeN g.aj.length 0).map aN) (full:=true) (q:=F) (o:=0) (m:=g.aj.length) (cap:=g.aj.length) (ex:=true) 3).2;have cR:=U.sl (e:=3) (size:=1) (n:=1) (vs:=[aI (-1)]) (full:=true) (sv:=.slice R 0 1 1 true) 2;refine RO.AF (is:=[W,V,F]) (Q:=λv ns=>∃q,v=.slice q 0 g.aj.length g.aj.length true/\ns=[tS 3 1 (aeN (g.aj.length*1) (aI (-1))) g.aj.length true (.slice q 0 g.aj.length g.aj.length true)]) U (λj hj=>by simp only[acn,afy,or_false]at hj;rcases hj with rfl|rfl|rfl<;>assumption) (λH0 a6 hs=>ab2 T (u:=aI (-1)) rfl (cR.move (hs R (by simp only[acn,afy,or_false,not_or];exact⟨n1,n2,n3⟩)) (by rw[a6];exact adv _)) ab λH' q U=>⟨_,U,q,rfl,rfl⟩) (λv ns HU hQ el U=>?_);obtain⟨qu,rfl,rfl⟩:=hQ;refine⟨λaa c9=>iX c9 rfl rfl hd hX.bl.bN (by rw[U.gr.bx n];exact a2) rfl,?_⟩;refine RO.ez U 2 (λH6 U=>?_);refine RO.ez U 1 (λH7 U=>?_);have eu:aeN (g.aj.length*1) (aI (-1))=(aeN g.aj.length (-1)).map aI:=by rw[agU,ag7]
 rw[eu]at U;have U:aq H H7 (uw V W F qu g.aj.length (aeN g.aj.length 0) (aeN g.aj.length (-1))++(tS 3 1 (aA.map aN) aA.length true P::[tS 3 1 [aI (-1)] 1 true (.slice R 0 1 1 true)])):=(((((U.fI 3 rfl).fI 5 rfl).fI 2 rfl).fI 5 rfl).fI 4 rfl).fI 5 rfl;refine ai ?_;have t:∀fb∈aA,fb<g.aj.length:=λfb hb=>hK.lt ((Q.mem fb).1 hb);have et:aA.length<=g.aj.length:=D4 _ _ Q.nd t;refine Ru.nm λS M hS I=>?_;refine Ru.bT I (up (P:=λk=>∀u ranks,ranks.length=g.aj.length->(∀i(h:i<aA.length),i<k->ranks.getD aA[i] 0=i)->aq H u (uw V W F qu g.aj.length ranks (aeN g.aj.length (-1))++(tS 3 1 (aA.map aN) aA.length true P::[tS 3 1 [aI (-1)] 1 true (.slice R 0 1 1 true)]))->Ru ac _ S ([(Ak,aN k)]++pk M [p0,p3,p4,p5,wu,ww]) u) aA.length (λk hk ih u ranks L b6 U=>?_) 0 ab _ _ aF (λi _ h=>by omega) U);subst hS;subst I;refine Ru.loop ?_;refine au ?_;refine Ru.cond (λn=>?_) (λn=>?_)
 .have ew:=t _ (adq n);refine ai ?_;refine RO.fO (aZ.refl u) (U.sl (e:=3) (size:=1) (sv:=P) (vs:=aA.map aN) (n:=aA.length) (full:=true) 4) (λq o hj a8=>?_);refine RO.bi ?_ (hc:=a8);refine ai ?_;refine RO.kq (f:=aN) (zs:=ranks) (n:=g.aj.length) U 2 k L (λH9 U=>?_) (k:=aA[k]);refine ai ?_;have g1:∀i(h:i<aA.length),i<k+1->(ranks.set aA[k] k).getD aA[i] 0=i:=λi hi X=>by
   rw[dG ab];split;·rename_i e;exact(Nv Q.nd hi n e).symm
   rename_i e;exact b6 i hi (by have:i≠k:=λe2=>e (by subst e2;rfl);omega)
  exact Ru.wk (ih (k+1) ab ab H9 _ (by simpa using L) g1 U)
 have D:Rk (wW g os) aA ranks:=⟨Q.nd,Q.hd,Q.aM,λi hi=>b6 i hi ab⟩;refine Ru.exitTo ?_;refine ai ?_;refine RO.kq (f:=aI) (zs:=aeN g.aj.length (-1)) (n:=g.aj.length) U 3 0 aF (λH9 U=>?_) (k:=0) (ho:=by simpa using a1);refine ai ?_;have L:ranks.length=g.aj.length:=L;refine Ru.nm λS2 M2 hS I=>?_;refine Ru.bT I (dn (P:=λm=>∀u up r us,ny (wW g os) aA ranks g.aj.length up->(r=false->∀fb∈aA,0<=up.getD fb (-1)/\∀x∈wW g os fb,nB up fb x)->(nC ranks g.aj.length up+if r then 1 else 0)=m->aq H u (uw V W F qu g.aj.length ranks up++(tS 3 1 (aA.map aN) aA.length true P::us))->Ru ac _ S2 ([(p9,.bool r)]++pk M2 [p0,p3,p4,p5,p8]) u) (λm c' u up r us hC eJ hm U=>?_) _ H9 _ true _ (ab6 a1) (λh=>by cases h) rfl U);subst hS;subst I;refine Ru.loop ?_;cases r with
 |false=>refine ai ?_;refine Ru.exitTo ?_;refine ai ?_;refine RO.kq (f:=aI) (zs:=up) (n:=g.aj.length) U 3 (-1) hC.len (λdm U=>?_) (k:=0) (ho:=by rw[hC.len];exact a1);refine ai ?_;exact Ru.aP (h dm _ aA ranks up Q D hC (λfb hb=>(eJ rfl fb hb).1) (λfb hb=>(eJ rfl fb hb).2) ((U.fI 3 rfl).sub (agL _ (List.nil_sublist _))))
 |true=>
  refine ai ?_;refine Ru.nm λS3 M3 hS I=>?_;refine Ru.bT I (Go.al.up (P:=λk=>∀u J r us,ny (wW g os) aA ranks g.aj.length J->(∀i(h:i<aA.length),i<k->∀x∈wW g os aA[i],0<=J.getD x (-1))->(r=false->∀i(h:i<aA.length),i<k->∀x∈wW g os aA[i],nB J aA[i] x)->(nC ranks g.aj.length J+if r then 1 else 0)<=nC ranks g.aj.length up->aq H u (uw V W F qu g.aj.length ranks J++(tS 3 1 (aA.map aN) aA.length true P::us))->Ru ac _ S3 ([(p9,.bool r),(rZ,aN k)]++pk M3 [p0,p3,p4,p5,p8,oD,pB]) u) aA.length (λk hk dr u J r us a' b7 b' ds U=>?_) 0 ab _ up false _ hC (λi _ h=>by omega) (λ_ i _ h=>by omega) aF U);subst hS;subst I;refine Ru.loop ?_;refine au ?_;refine Ru.cond (λn=>?_) (λn=>?_)
  .have Y:aA[k]∈aA:=adq n;have e0:=D.rk k n;have ba:=(Q.mem _).1 Y;refine ai ?_;refine RO.fO (aZ.refl u) (U.sl (e:=3) (size:=1) (sv:=P) (vs:=aA.map aN) (n:=aA.length) (full:=true) 4) (λq o hj a8=>?_);refine RO.bi ?_ (hc:=a8);refine ai ?_;refine RO.cl (HM T hB hE (hX.cq U.gr) hK ba λHY vw hl=>?_);have⟨e1,_,_,e3⟩:=(hl.sl (e:=3) (size:=1) (sv:=vw) (vs:=(wW g os aA[k]).map aN) (n:=(wW g os aA[k]).length) (full:=true) 0).all;have U:aq H HY (uw V W F qu g.aj.length ranks J++(tS 3 1 (aA.map aN) aA.length true P::tS 3 1 ((wW g os aA[k]).map aN) (wW g os aA[k]).length true vw::us)):=(U.eO hl).cJ (af6 (l₁:=[_,_,_,_,_])).symm;have d3:(wW g os aA[k]).length<=12:=by have:=D2 (now:=os.getD aA[k] []) hB (hK.lt ba);simpa[wW,ky]using this
   generalize hb:aA[k]=fb at*;refine ai ?_;refine Ru.nm λS4 M4 hS I=>?_;refine Ru.bT I (Go.al.up (P:=λj=>∀u f r,ny (wW g os) aA ranks g.aj.length f->(∀i(h:i<aA.length),i<k->∀x∈wW g os aA[i],0<=f.getD x (-1))->(∀x∈(wW g os fb).take j,0<=f.getD x (-1))->(r=false->(∀i(h:i<aA.length),i<k->∀x∈wW g os aA[i],nB f aA[i] x)/\∀x∈(wW g os fb).take j,nB f fb x)->(nC ranks g.aj.length f+if r then 1 else 0)<=nC ranks g.aj.length up->aq H u (uw V W F qu g.aj.length ranks f++(tS 3 1 (aA.map aN) aA.length true P::tS 3 1 ((wW g os fb).map aN) (wW g os fb).length true vw::us))->Ru ac _ S4 ([(p9,.bool r),(ug,aN j)]++pk M4 [p0,p3,p4,p5,p8,eK,oD,pB,rZ,qI,uf]) u) (wW g os fb).length (λj hj Z u f r p ag ca av N U=>?_) 0 ab _ J r a' b7 (λx l=>by simp at l) (λh=>⟨b' h,λx l=>by simp at l⟩) ds U);subst hS;subst I;refine Ru.loop ?_;refine au ?_;refine Ru.cond (λcd=>?_) (λcd=>?_)
   .have aw:=p.len;have cf:(wW g os fb)[j]∈wW g os fb:=adq cd;have dv:=hK.lC ba cf;have O:=(Q.mem _).2 dv;have cn:=t _ O;have bb:0<=f.getD fb (-1):=by
     by_cases h0:fb=0;·rw[h0,p.u0];omega
     obtain⟨y,hy,hw,bd⟩:=D.b8 Y h0;obtain⟨i,hi,rfl⟩:=afr hy;rw[D.rk i hi]at bd;exact ag i hi ab fb hw
    refine ai ?_;refine RO.fO (aZ.refl u) (U.sl (e:=3) (size:=1) (sv:=vw) (vs:=(wW g os fb).map aN) (n:=(wW g os fb).length) (full:=true) 5) (λq2 o2 e5 cy=>?_);refine RO.bi ?_ (hc:=cy);have ax:∀fe,dX (wW g os) fe (wW g os fb)[j]->fe≠(wW g os fb)[j]->dX (wW g os) fe fb:=λfe hd hn=>hd.b8 cf hn;have cp:(wW g os fb).take (j+1)=(wW g os fb).take j++[(wW g os fb)[j]]:=by rw[afK]
    generalize(wW g os fb)[j]=to at*;have w:∀u3:List Int,(∀x,0<=f.getD x (-1)->0<=u3.getD x (-1))->0<=u3.getD to (-1)->(∀i(h:i<aA.length),i<k->∀x∈wW g os aA[i],0<=u3.getD x (-1))/\∀x∈(wW g os fb).take (j+1),0<=u3.getD x (-1):=λu3 h1 h2=>⟨λi hi X x l=>h1 x (ag i hi X x l),λx l=>by
     rw[cp]at l;rcases ae8.1 l with l|l;·exact h1 x (ca x l)
     rw[abx]at l;rw[l];exact h2⟩;have cv:nB f fb to->r=false->(∀i(h:i<aA.length),i<k->∀x∈wW g os aA[i],nB f aA[i] x)/\∀x∈(wW g os fb).take (j+1),nB f fb x:=λhe h=>⟨(av h).1,λx l=>by
     rw[cp]at l;rcases ae8.1 l with l|l;·exact(av h).2 x l
     rw[abx]at l;rw[l];exact he⟩;have ay:∀(now:Nat)(x:Nat),(f.set to (now:Int)).getD x (-1)=if x=to then(now:Int)else f.getD x (-1):=λnow x=>dG ab;have C:∀(now:Nat),(∀x,0<=f.getD x (-1)->0<=(f.set to (now:Int)).getD x (-1))/\0<=(f.set to (now:Int)).getD to (-1):=λnow=>⟨λx l=>by
     rw[ay];split;·omega
     exact l,by rw[ay,aJ rfl];omega⟩;refine ai ?_;by_cases hu:f.getD to (-1)= -1
    .have bv:to≠0:=λe=>by rw[e,p.u0]at hu;omega
     refine RO.dM U 3 (v:=aI (-1)) (hv:=by rw[pI (-1) ab,hu]) ?_;refine ai ?_;refine RO.bR (λ_=>?_) (λh=>absurd bv h);refine ai ?_;refine RO.dM U 3 (v:=aI (-1)) (hv:=by rw[pI (-1) ab,hu]) ?_;refine ai ?_;refine RO.kq (f:=aI) (zs:=f) (n:=g.aj.length) U 3 (fb:Int) aw (λb0 U=>?_) (k:=to);refine ai ?_;have dx:ranks.getD fb 0<ranks.getD to 0:=by
      apply afO;intro e6;obtain⟨e7,e2⟩:=D.at O;have fa:0<=f.getD to (-1):=by
       by_cases e4:ranks.getD to 0=k
       .have:to=fb:=by rw[<-e2,<-hb];simp only[e4]
        rw[this];exact bb
       obtain⟨y,hy,hw,bd⟩:=D.b8 O bv;obtain⟨i,hi,rfl⟩:=afr hy;rw[D.rk i hi]at bd;exact ag i hi ab to hw
      omega
     have b3:=p.set D O cn bv Y bb dx ax;have dy:=Nu (ranks:=ranks) (n:=g.aj.length) (up:=f) (k:=to) (now:=fb) ab (by rw[aJ ab];omega);obtain⟨A,B⟩:=w _ (C fb).1 (C fb).2;have b4:(nC ranks g.aj.length (f.set to (fb:Int))+if true then 1 else 0)<=nC ranks g.aj.length up:=by rw[aJ rfl];split at N<;>omega
     exact Ru.wk (Z (j+1) ab ab b0 _ true b3 A B (λh=>by cases h) b4 U)
    obtain⟨fd,E⟩:∃fd:Nat,f.getD to (-1)=fd:=⟨(f.getD to (-1)).toNat,by have:=p.rg to;omega⟩;have hA:fd∈aA/\0<=f.getD fd (-1)/\(to≠0->ranks.getD fd 0<ranks.getD to 0/\∀fe,dX (wW g os) fe to->fe≠to->dX (wW g os) fe fd):=by
     by_cases h0:to=0
     .have:fd=0:=by rw[h0,p.u0]at E;omega
      rw[this];exact⟨D.zero.1,by rw[p.u0];omega,λh=>absurd h0 h⟩
     obtain⟨_,d4,h1,h2,h3,h4,h5⟩:=p.ok to h0 ab;have:fd=d4:=ab;subst this;exact⟨h2,h4,λ_=>⟨h3,h5⟩⟩
    obtain⟨cx,dz,d0⟩:=hA;refine RO.dM U 3 (v:=aN fd) (hv:=by rw[pI (-1) ab,E];rfl) ?_;refine ai ?_;refine RO.dM U 3 (v:=aN fd) (hv:=by rw[pI (-1) ab,E];rfl) ?_;refine ai ?_;refine RO.cl (ab5 T D p L ab t U cx Y dz bb λm2 s=>?_);have e8:=t _ s.mem;refine ai ?_;refine RO.bR (λh0=>?_) (λh0=>?_)
    .have h0:to≠0:=h0;obtain⟨e',d1⟩:=d0 h0;refine ai ?_;refine RO.dM U 3 (v:=aN fd) (hv:=by rw[pI (-1) ab,E];rfl) ?_;refine ai ?_;refine Ru.cond (λz=>?_) (λz=>?_)
     .have z:fd≠m2:=z;refine ai ?_;refine RO.kq (f:=aI) (zs:=f) (n:=g.aj.length) U 3 (m2:Int) aw (λb0 U=>?_) (k:=to);refine ai ?_;have d2:ranks.getD m2 0<ranks.getD fd 0:=Nat.lt_of_le_of_ne s.ra λe=>z (D.inj cx s.mem e.symm);have b3:=p.set D O cn h0 s.mem s.df ab (λfe hd hn=>s.dO fe (d1 fe hd hn) (ax fe hd hn));have dy:=Nu (ranks:=ranks) (n:=g.aj.length) (up:=f) (k:=to) (now:=m2) ab (by rw[ap ab,E,afs];exact d2);obtain⟨A,B⟩:=w _ (C m2).1 (C m2).2;have b4:(nC ranks g.aj.length (f.set to (m2:Int))+if true then 1 else 0)<=nC ranks g.aj.length up:=by rw[aJ rfl];split at N<;>omega
      exact Ru.wk (Z (j+1) ab ab b0 _ true b3 A B (λh=>by cases h) b4 U)
     refine ai ?_;obtain⟨A,B⟩:=w f (λ_ h=>h) ab;have cE:fd=m2:=agJ.1 z;exact Ru.wk (Z (j+1) ab ab u f r p A B (cv λ_=>⟨fd,E,by rw[cE];exact s.HP⟩) N U)
    refine ai ?_;obtain⟨A,B⟩:=w f (λ_ h=>h) ab;exact Ru.wk (Z (j+1) ab ab u f r p A B (cv λh9=>absurd h9 h0) N U)
   refine Ru.exitTo ?_;refine ai ?_;have g1:∀i(h:i<aA.length),i<k+1->∀x∈wW g os aA[i],0<=f.getD x (-1):=λi hi X x l=>by
    by_cases e:i=k;·subst e;rw[hb]at l;exact ca x (by rw[afF ab];exact l)
    exact ag i hi ab x l
   have g2:r=false->∀i(h:i<aA.length),i<k+1->∀x∈wW g os aA[i],nB f aA[i] x:=λh9 i hi X x l=>by
    by_cases e:i=k;·subst e;rw[hb]at l⊢;exact(av h9).2 x (by rw[afF ab];exact l)
    exact(av h9).1 i hi ab x l
   exact Ru.wk (dr (k+1) ab ab u f r _ p g1 g2 N U)
  refine Ru.exitTo ?_;refine ai ?_;have g1:r=false->∀fb∈aA,0<=J.getD fb (-1)/\∀x∈wW g os fb,nB J fb x:=λh9 fb hb=>by
   refine⟨?_,λx l=>by obtain⟨i,hi,rfl⟩:=afr hb;exact b' h9 i hi ab x l⟩;by_cases h0:fb=0;·rw[h0,a'.u0];omega
   obtain⟨y,hy,hw,_⟩:=D.b8 hb h0;obtain⟨i,hi,rfl⟩:=afr hy;exact b7 i hi ab fb hw
  rw[aJ rfl]at hm;exact Ru.wk (c' _ ab u J r us a' g1 rfl U)
end
end Go.al.R
namespace Go.al.R
section
variable{ac:Nat->aX}
section
def eN(l:List G.d9):List Int:=(l.map (·.to)).filter λt=>decide (0<=t)
def eH(b:G.dW):List Int:=b.i4++eN b.aS
structure kz(g:G.be)(x:G.d9):Prop where
 op:x.op∉pF
 w:(lA x.op).w≠ []
 r:su x g.bc (lZ x.op x.m)
structure ux(n np:Nat)(gs:List Bool)(hist:List Int):Prop where
 len:gs.length=n
 nd:hist.Nodup
 rg:∀v∈hist,(np:Int)<=v/\v<n
 bz:∀v:Nat,v<n->(gs.getD v false=true↔v<np\/(v:Int)∈hist)
structure fu(g:G.be):Prop where
 i7:jB g.i7
 p0:0<=g.i4
 p1:g.i4<=g.bc
 ne:0<g.aj.length
 first:(g.aj.getD 0 default).i4=[]
 aS:∀b∈g.aj,∀x∈b.aS,kz g x
 yY:∀b∈g.aj,l6 g b.aB
 nd:(g.aj.flatMap eH).Nodup
 rg:∀v∈g.aj.flatMap eH,g.i4<=v/\v<g.bc
 all:∀v:Int,g.i4<=v->v<g.bc->v∈g.aj.flatMap eH
theorem HQ{l:List G.d9}{x:G.d9}:eN (l++[x])=eN l++if 0<=x.to then[x.to]else[]:=by simp only[eN,afS,List.filter_append];by_cases h:0<=x.to<;>simp[h]
theorem ux.add{n f:Nat}{i:List Bool}{c:List Int}(h:ux n f i c){v:Nat}(j:v<n)(hg:i.getD v false=false):ux n f (i.set v true) (c++[(v:Int)]):=by
 have hl:=h.len;have h1:¬(v<f\/(v:Int)∈c):=λe=>by rw[(h.bz v j).2 e]at hg;cases hg
 rw[not_or]at h1;refine⟨by simpa using hl,?_,λx d=>?_,λx d=>?_⟩;·rw[afY];refine⟨h.nd,aF,λa k b hb=>?_⟩;rw[abx]at hb;subst hb;exact λe=>h1.2 (e▸k)
 .rcases ae8.1 d with d|d;·exact h.rg x d
  rw[abx]at d;omega
 rw[dG ab,ae8,abx];by_cases e:x=v;·subst e;simp
 rw[ap e,h.bz x d];have:¬(x:Int)=v:=ab;simp[this]
section
variable{g:G.be}{H:ah}{cs:List AV}
theorem ab8(T:Tb ac)(hg:gu H g cs)(hB:G.Sm g)(hY:qN g)(eb:g.i7.length<=60)(cp:g.bc<=6000){K:KT}(h1:∀H',aZ H H'->fu g->K (.bool true) H')(h2:∀H',aZ H H'->¬fu g->K (.bool false) H'):YN ac Wo [.agg cs] H K:=by
 have d7:=hg.one;have ba:=hg;obtain⟨vb,rfl,bW⟩:=hg;have⟨ec,_,_,ei⟩:=bW.all;have ej:=hB.nb;refine YF.code T.Za aF ?_;refine Ru.seq ?_;refine Ru.region ?_;refine RO.dp (aq.ct H) λH1 q U=>?_;have U:aq H H1 [tB eg q [.str g.i7,aI g.i4,aI g.bc,vb]]:=U;refine RO.aR ?_;refine RO.nil ?_;refine Ru.seq ?_;refine Ru.sw (P:=λM H'=>M=[(p1,.aE q 0)]/\jB g.i7/\0<=g.i4/\g.i4<=g.bc/\0<g.aj.length/\(g.aj.getD 0 default).i4=[]/\aq H H' [tB eg q [.str g.i7,aI g.i4,aI g.bc,vb]]) (λM H2⟨hM,f1,f2,f3,f4,f5,U⟩=>?_) (λs' a'=>?_);rotate_left
 .refine ai ?_;refine RO.cl (DY T hY.nm ab (λg1=>?_) λS=>?_);rotate_left;·refine ai ?_;exact Ru.aP (h2 _ U.gr λc=>S c.i7)
  refine ai ?_;refine RO.cl (oH T (λg2 E=>?_) (λS=>?_));rotate_left;·refine ai ?_;exact Ru.aP (h2 _ U.gr λc=>S ⟨c.p0,c.p1⟩)
  have g2:0<=g.i4:=g2;refine ai ?_;refine RO.bR (λV=>?_) (λV=>?_);·refine ai ?_;exact Ru.aP (h2 _ U.gr λc=>by have l:=c.ne;omega)
  have ax:0<g.aj.length:=ab;refine ai ?_;refine RO.bY U.gr bW (λq1 o1 c1 cv X cx hat hrd=>?_) (j:=0);obtain⟨vp,Y,jc,rfl,Z,_⟩:=X;have⟨cy,_,_,cE⟩:=Z.all;refine ai ?_;refine Ru.cond (λg5=>?_) (λg5=>?_);·refine ai ?_;exact Ru.aP (h2 _ U.gr λc=>by have l:=c.first;rw[bB ax]at l;simp[l]at g5)
  refine ai ?_;exact a' _ _ _ ⟨rfl,g1,g2,E,ax,by rw[bB ax];exact afQ ab,U⟩ ey
 subst hM;obtain⟨n,W⟩:∃n:Nat,g.bc=n:=⟨g.bc.toNat,ab⟩;obtain⟨F,y⟩:∃n:Nat,g.i4=n:=⟨g.i4.toNat,ab⟩;rw[W,y]at U ba;rw[W]at cp f3;rw[y]at f3;refine ai ?_;refine RO.ls U (n:=n) (λH3 qg U=>?_) (hz:=by rw[io];simp);have aw:ux n 0 (aeN n false) []:=⟨aF,ag9,λv hv=>(by cases hv),λv hv=>by simp[afz,agr,hv]⟩;have U:aq H H3 [tS 4 1 ((aeN n false).map .bool) n true (.slice qg 0 n n true),tB eg q [.str g.i7,aI F,aI n,vb]]:=by rw[io]at U;rw[ag7];exact U
 refine ai ?_;refine Ru.nm λS0 M hS hM=>?_;refine Ru.bT hM (up (P:=λk=>∀u f,ux n k f []->aq H u [tS 4 1 (f.map .bool) n true (.slice qg 0 n n true),tB eg q [.str g.i7,aI F,aI n,vb]]->Ru ac _ S0 ([(p4,aN k)]++pk M [p1,p3]) u) F (λk hk ih u f a U=>?_) 0 ab _ _ aw U);subst hS;subst hM;refine Ru.loop ?_;refine ai ?_;refine Ru.cond (λcR=>?_) (λcR=>?_)
 .refine ai ?_;refine RO.kq U 0 true a.len (λH4 U=>?_) (k:=k) (ho:=by rw[a.len];omega);refine ai ?_;exact Ru.wk (ih (k+1) ab ab H4 _ ⟨by simpa using a.len,ag9,λv hv=>(by cases hv),λv hv=>by
   rw[dG (by rw[a.len];omega)];by_cases e:v=k;·subst e;simp
   rw[ap e,a.bz v hv];simp;omega⟩ U)
 refine Ru.exitTo ?_;obtain rfl:F=k:=ab;refine ai ?_;clear aw ih;refine Ru.nm λS0 M hS hM=>?_;refine Ru.bT hM (up (P:=λk=>∀u f,ux n F f ((g.aj.take k).flatMap eH)->(∀x(h:x<g.aj.length),x<k->(∀s∈g.aj[x].aS,kz g s)/\l6 g g.aj[x].aB)->aq H u [tS 4 1 (f.map .bool) n true (.slice qg 0 n n true),tB eg q [.str g.i7,aI F,aI n,vb]]->Ru ac _ S0 ([(p5,aN k)]++pk M [p1,p3]) u) g.aj.length (λk hk ih u f a I U=>?_) 0 ab _ f a (λx _ C=>by omega) U);subst hS;subst hM;refine Ru.loop ?_;refine ai ?_;refine Ru.cond (λN=>?_) (λN=>?_)
 .have o:=adq N;have ek:=hB.bl _ o;have c9:=hB.st _ o;have c':=hB.ed _ o;have dm:=hY.st _ o;have dr:=hY.fn _ o;have ds:=hY.kd _ o;have ay:g.aj.take (k+1)=g.aj.take k++[g.aj[k]]:=(afK N).symm;have ih:=ih (k+1) ab ab;rw[ay,afX,agc]at ih;have I:(∀s∈g.aj[k].aS,kz g s)/\l6 g g.aj[k].aB->∀x(h:x<g.aj.length),x<k+1->(∀s∈g.aj[x].aS,kz g s)/\l6 g g.aj[x].aB:=λhb x C h=>by
   by_cases e:x=k;·subst e;exact hb
   exact I x C ab
  have bb:fu g->(∀s∈g.aj[k].aS,kz g s)/\l6 g g.aj[k].aB:=λc=>⟨c.aS _ o,c.yY _ o⟩;have bd:fu g->∀v∈eH g.aj[k],g.i4<=v/\v<g.bc:=λc v hv=>c.rg v (agP.2 ⟨_,o,hv⟩);have dv:fu g->((g.aj.take k).flatMap eH++eH g.aj[k]).Nodup:=λc=>by have l:=c.nd;rw[<-agy (k+1) g.aj,ay,afX,afX,agc,afY]at l;exact l.1
  clear ay;generalize(g.aj.take k).flatMap eH=O at*;refine ai ?_;refine RO.bY U.gr bW (λq1 o1 c1 cv X cx hat hrd=>?_) (j:=k);have d':=X.one;generalize g.aj[k]=B at*;obtain⟨vp,Y,jc,rfl,Z,ag,bv⟩:=X;have ca:=bv;obtain⟨va,vk,vg,rfl,_⟩:=bv;have⟨cy,_,_,cE⟩:=Z.all;have⟨el,_,_,et⟩:=ag.all;refine ai ?_;refine RO.ff U λH5 q6 U=>?_;refine ai ?_;refine RO.lW U 1 λH6 v0 U=>?_;have⟨ew,_,_,_⟩:=(U.sl 0 rfl).all;refine ai ?_;refine RO.lu U 0 (U.gr.sl Z) (λH7 v1 U=>?_) (h1:=mC _);have U:aq H H7 [tS 3 1 ((B.i4++eN (B.aS.take 0)).map aI) (B.i4++eN (B.aS.take 0)).length true v1,tB de q6 [vp,Y,aU B.aB.op,va,.str B.aB.i7,vk,vg],tS 4 1 (f.map .bool) n true (.slice qg 0 n n true),tB eg q [.str g.i7,aI F,aI n,vb]]:=by rw[agI,show eN []=[]from rfl,agk];rw[afC]at U;exact U
  have⟨e0,_,_,_⟩:=(U.sl 0 rfl).all;refine ai ?_;refine Ru.nm λS1 M1 J p=>?_;refine Ru.bT p (up (P:=λj=>∀u lv,(∀x(h:x<B.aS.length),x<j->kz g B.aS[x])->aq H u [tS 3 1 ((B.i4++eN (B.aS.take j)).map aI) (B.i4++eN (B.aS.take j)).length true lv,tB de q6 [vp,Y,aU B.aB.op,va,.str B.aB.i7,vk,vg],tS 4 1 (f.map .bool) n true (.slice qg 0 n n true),tB eg q [.str g.i7,aI F,aI n,vb]]->Ru ac _ S1 ([(p8,aN j),(p7,lv)]++pk M1 [p1,p3,p5,p6]) u) B.aS.length (λj hj A u lv cD U=>?_) 0 ab _ _ (λx _ C=>by omega) U);subst J;subst p;have⟨e1,_,_,b0⟩:=(U.sl 0 rfl).all;refine Ru.loop ?_;refine ai ?_;refine Ru.cond (λP=>?_) (λP=>?_)
  .have a1:=adq P;have e2:=c9 _ a1;have dx:=dm _ a1;have A:=A (j+1) ab ab;rw[(afK P).symm,HQ,<-afu]at A;have cD:kz g B.aS[j]->∀x(h:x<B.aS.length),x<j+1->kz g B.aS[x]:=λhb x C h=>by
    by_cases e:x=j;·subst e;exact hb
    exact cD x C ab
   have dy:(B.i4++eN (B.aS.take j)).length<=100:=by
    have:(eN (B.aS.take j)).length<=(B.aS.take j).length:=by unfold eN;exact agE (List.length_filter_le _ _) aF
    rw[afq];rw[afH]at this;omega
   generalize B.i4++eN (B.aS.take j)=R at*;refine ai ?_;refine RO.bY U.gr ag (λq9 o9 e' a2 b3 e3 hat hrd=>?_) (j:=j);have cd:=b3;generalize C:B.aS[j]=x at*;obtain⟨e4,rfl,ea⟩:=b3;refine ai ?_;refine RO.cl (abJ T (v:=(n:Int)) (cY.step U.gr cd) dx ab ab ab ab (λH8 hg g1 g2 E=>?_) (λH8 hg S=>?_));rotate_left;·have U:=U.cq hg;refine ai ?_;exact Ru.aP (h2 _ U.gr λc=>S (by have l:=(bb c).1 x a1;exact⟨l.op,l.w,by have h9:=l.r;rwa[W]at h9⟩))
   have U:=U.cq hg;have b4:kz g x:=⟨g1,g2,by rw[W];exact E⟩;refine ai ?_;refine RO.bY U.gr ag (λq7 o7 c7 dz L d0 Q cf=>?_) (j:=j);rw[C]at L;obtain⟨d1,rfl,cn⟩:=L;refine ai ?_;refine RO.bi (v:=aI x.to) ?_ (hc:=Q 1 _ rfl);refine ai ?_;refine Ru.cond (λV=>?_) (λV=>?_);·have V:0<=x.to:=V;rw[aJ V]at A;refine ai ?_;refine RO.bY U.gr ag (λq7 o7 c7 dz L d0 Q cf=>?_) (j:=j);rw[C]at L;obtain⟨d1,rfl,cn⟩:=L;refine ai ?_;refine RO.bi (v:=aI x.to) ?_ (hc:=Q 1 _ rfl);refine RO.push U 0 (λw0 H9 v2 U=>?_) (ws:=[aI x.to]);have⟨e5,e6,e7,_⟩:=(U.sl 0 rfl).all;refine ai ?_;exact Ru.wk (A _ v2 (cD b4) (by rw[afS,afq];exact U))
   have V:¬0<=x.to:=V;rw[ap V,agk]at A;refine ai ?_;exact Ru.wk (A _ lv (cD b4) U)
  refine Ru.exitTo ?_;have cD:∀s∈B.aS,kz g s:=λs hs=>by obtain⟨x,C,rfl⟩:=afr hs;exact cD x C ab
  rw[afF ab]at U b0;have d2:B.i4++eN B.aS=eH B:=rfl;rw[d2]at U b0;have dy:(eH B).length<=100:=by have:=List.length_filter_le (λt=>decide (0<=t)) (B.aS.map (·.to));rw[afJ]at this;rw[eH,eN,afq];omega
  generalize e8:eH B=R at*;refine ai ?_;refine Ru.nm λS1 M1 J p=>?_;refine Ru.bT p (up (P:=λm=>∀u f,ux n F f (O++R.take m)->aq H u [tS 3 1 (R.map aI) R.length true lv,tB de q6 [vp,Y,aU B.aB.op,va,.str B.aB.i7,vk,vg],tS 4 1 (f.map .bool) n true (.slice qg 0 n n true),tB eg q [.str g.i7,aI F,aI n,vb]]->Ru ac _ S1 ([(p9,aN m)]++pk M1 [p1,p3,p5,p6,p7]) u) R.length (λm hm D u f a U=>?_) 0 ab _ f (by rw[agI,agk];exact a) U);subst J;subst p;have a6:=U.sl 0 rfl;refine Ru.loop ?_;refine ai ?_;refine Ru.cond (λd=>?_) (λd=>?_)
  .have D:=D (m+1) ab ab;rw[(afK d).symm,<-afu]at D;have d3:fu g->R[m]∉O++R.take m:=λc hm=>by have l:=dv c;rw[<-agy m R,afv d,<-afu,afY]at l;exact l.2.2 _ hm _ (abL ..) rfl
   have b6:=adq d;generalize O++R.take m=h0 at*;refine ai ?_;refine RO.fO (aZ.refl _) a6 (λq9 o9 a2 av=>?_) (j:=m);generalize hz:R[m]=z at*;refine ai ?_;refine RO.sub ?_ (a:=(n:Int)) (b:=1);refine RO.cl (oH T (λg1 g2=>?_) (λS=>?_));rotate_left;·refine ai ?_;exact Ru.aP (h2 _ U.gr λc=>S (by have l:=bd c z b6;rw[W,y]at l;exact⟨by show(0:Int)<=z;omega,by show z<=(n:Int) - 1;omega⟩))
   have g1:0<=z:=g1;obtain⟨v,rfl⟩:∃v:Nat,z=v:=⟨z.toNat,ab⟩;have b7:v<n:=ab;refine ai ?_;refine RO.fO (aZ.refl _) a6 (λq9 o9 a2 av=>?_) (j:=m);rw[hz]at av;have b':=a.len;have a8:(f.map AV.bool)[0+v*1]?=some (.bool (f.getD v false)):=by rw[show 0+v*1=v by omega,af0,getElem?_pos f v ab,bB ab];rfl
   refine ai ?_;refine RO.dM U 2 (hv:=a8) ?_;refine ai ?_;refine Ru.eE (λE=>?_) (λE=>?_);·refine ai ?_;exact Ru.aP (h2 _ U.gr λc=>by have l:=(a.bz v b7).1 E;have h9:=bd c v b6;rw[W,y]at h9;exact l.elim (λh=>by omega) (d3 c))
   refine ai ?_;refine RO.fO (aZ.refl _) a6 (λq9 o9 a2 av=>?_) (j:=m);rw[hz]at av;refine ai ?_;refine RO.kq U 2 true b' (λH9 U=>?_) (k:=v) (ho:=by omega);refine ai ?_;exact Ru.wk (D _ _ (a.add b7 E) U)
  refine Ru.exitTo ?_;rw[afF ab]at a;refine ai ?_;refine RO.dj U 3 ?_;refine ai ?_;refine RO.dj U 1 (m:=5) (o:=2) ?_;refine RO.cl (abK T (cY.jk U.gr ba) (j:=B.aB) (cY.Cs U.gr ca) hB ab ab dr ds ⟨ab,ab,ab,ab⟩ c' (λH8 hg g1=>?_) (λH8 hg S=>?_));rotate_left;·have U:=U.cq hg;refine ai ?_;exact Ru.aP (h2 _ U.gr λc=>S (bb c).2)
  have U:=U.cq hg;refine ai ?_;exact Ru.wk (ih _ _ a (I ⟨cD,g1⟩) U.tail.tail)
 refine Ru.exitTo ?_;rw[afF ab]at a;have b':=a.len;refine ai ?_;refine Ru.nm λS1 M1 J p=>?_;refine Ru.bT p (up (P:=λm=>(∀x,x<m->f.getD x false=true)->Ru ac _ S1 ([(eP,aN m)]++pk M1 [p1,p3]) u) n (λm hm D eJ=>?_) 0 ab (λx C=>by omega));subst J;subst p;refine Ru.loop ?_;refine ai ?_;refine Ru.cond (λd=>?_) (λd=>?_)
 .have a8:(f.map AV.bool)[0+m*1]?=some (.bool (f.getD m false)):=by rw[show 0+m*1=m by omega,af0,getElem?_pos f m ab,bB ab];rfl
  refine ai ?_;refine RO.dM U 0 (hv:=a8) ?_;refine ai ?_;refine Ru.eE (λE=>?_) (λE=>?_);·refine ai ?_;exact Ru.aP (h2 _ U.gr λc=>by have l:=(a.bz m d).2 (by by_cases e:m<F;exact .inl e;exact .inr (c.all m ab ab));rw[l]at E;simp at E)
  refine ai ?_;exact Ru.wk (D (m+1) ab ab λx C=>by
   by_cases e:x=m;·subst e;simpa using E
   exact eJ x ab)
 refine Ru.exitTo ?_;refine ai ?_;exact Ru.aP (h1 _ U.gr ⟨f1,f2,by rw[W,y];exact f3,f4,f5,λb hb x C=>by obtain⟨i,hi,rfl⟩:=afr hb;exact(I i hi ab).1 x C,λb hb=>by obtain⟨i,hi,rfl⟩:=afr hb;exact(I i hi ab).2,a.nd,λv hv=>by rw[W,y];exact a.rg v hv,λv d4 d5=>by rw[y]at d4;rw[W]at d5;have d6:v.toNat<n:=ab;have:=(a.bz _ d6).1 (eJ _ ab);rw[Int.toNat_of_nonneg ab]at this;exact this.resolve_left ab⟩)
end
end
section
section
variable{W:Nat->List Nat}{aA ranks:List Nat}{up:List Int}{n:Nat}{B H:ah}{a:AV}
theorem iF.via{d j b:Nat}(h:iF W d b):iF W j b\/iF W d j:=by
 induction h with
 |zero h=>
  by_cases e:0=j;·subst e;exact .inr (.zero h)
  exact .inl (.zero e)
 | @step y x g f i c=>
  rcases c with c|c
  .by_cases e:x=j;·subst e;exact .inr (.step g f i)
   exact .inl (.step c f e)
  exact .inr c
theorem Nz(h0:0∈aA)(j:∀y∈aA,∀x∈W y,x∈aA)(q:∀b∈aA,∀x∈W b,nB up b x){d b:Nat}(h:ev up d b):dX W d b:=λf=>by
 have key:∀b,iF W d b->b∈aA/\¬ev up d b:=by
  intro b f;induction f with
  |zero h=>refine⟨h0,λg=>?_⟩;generalize r:(0:Nat)=z at*;cases g with|refl=>exact h rfl|step _ i _=>exact i r.symm
  | @step y x t p i s=>obtain⟨e,k⟩:=s;refine⟨j y e x p,λg=>?_⟩;cases g with|refl=>exact i rfl| @step _ c u l o=>obtain⟨m,h1,h2⟩:=q y e x p l;have:m=c:=ab;subst this;exact k (o.trans h2)
 exact(key b f).2 h
structure AP(W:Nat->List Nat)(aA ranks:List Nat)(n:Nat)(up:List Int):Prop where
 NA:ny W aA ranks n up
 all:∀b∈aA,0<=up.getD b (-1)
 zero:0∈aA
 cl:∀y∈aA,∀x∈W y,x∈aA
 ed:∀b∈aA,∀x∈W b,nB up b x
theorem AP.GW(h:AP W aA ranks n up){d b:Nat}(hb:b∈aA)(h0:b≠0)(e:d≠b):∃i:Nat,up.getD b (-1)=i/\i∈aA/\ranks.getD i 0<ranks.getD b 0/\(dX W d i↔dX W d b):=by obtain⟨_,i,h1,h2,h3,_,f⟩:=h.NA.ok b h0 (h.all b hb);have c:dX W i b:=Nz h.zero h.cl h.ed (.step h1 h0 .refl);exact⟨i,h1,h2,h3,λhd g=>(iF.via g).elim c hd,λhd=>f d hd e⟩
theorem acf(T:Tb ac)(hT:AP W aA ranks n up)(k:∀b∈aA,b<n)(hg:aZ B H)(hs:Sl B 1 ((up.set 0 (-1)).map aI) n a){d b:Nat}(hb:b∈aA){K:KT}(i:∀r:Bool,(r=true↔dX W d b)->K (.bool r) H):YN ac WF [a,aN d,aN b] H K:=by
 have j:=hT.NA.len;have⟨z,_,_,_⟩:=hs.all;have l:Sl B 1 ((up.set 0 (-1)).map aI) (up.set 0 (-1)).length a:=by rw[agC,j];exact hs
 refine YF.code T.Zs aF ?_;refine ai ?_;refine Ru.nm λS M u s=>?_;refine Ru.bT s (dn (P:=λm=>∀b:Int,((b= -1/\K (.bool false) H)\/∃c:Nat,b=(c:Int)/\ranks.getD c 0+1=m/\c∈aA/\∀r:Bool,(r=true↔dX W d c)->K (.bool r) H)->Ru ac _ S ([(p2,aI b)]++pk M [p0,p1]) H) (λm t b hb=>?_) _ (b:Int) (.inr ⟨b,rfl,rfl,hb,i⟩));subst u;subst s;rcases hb with⟨rfl,v⟩|⟨c,rfl,A,hc,i⟩;·refine Ru.loop ?_;refine ai ?_;refine Ru.exitTo ?_;refine ai ?_;refine Ru.aP ?_;simpa using v
 have p:=k c hc;refine Ru.loop ?_;refine ai ?_;refine Ru.cond (λf=>?_) (λf=>?_)
 .have f:d≠c:=λe=>by subst e;simp at f
  refine ai ?_;refine RO.fO hg l (λq o hj g=>?_) (j:=c) (hj:=by rw[agC,j];exact p);by_cases h0:c=0
  .subst h0;have e:(up.set 0 (-1))[0]'hj= -1:=by rw[List.getElem_set_self]
   rw[e]at g;refine RO.bi ?_ (hc:=g);refine ai ?_;exact Ru.wk (t 0 ab (-1) (.inl ⟨rfl,i false ⟨λh=>(by cases h),λh=>absurd h.zero f⟩⟩))
  obtain⟨C,h1,h2,h3,w⟩:=hT.GW hc h0 f;have e:(up.set 0 (-1))[c]'hj=(C:Int):=by rw[List.getElem_set_ne (λe=>h0 e.symm),<-h1,bB]
  rw[e]at g;refine RO.bi ?_ (hc:=g);refine ai ?_;exact Ru.wk (t (ranks.getD C 0+1) ab (C:Int) (.inr ⟨C,rfl,rfl,h2,λr x=>i r (x.trans w)⟩))
 have f:d=c:=afO λe=>f (by simp;exact λy=>e y.symm);subst f;refine Ru.exitTo ?_;refine ai ?_;refine Ru.aP ?_;simpa using i true ⟨λ_=>Nz hT.zero hT.cl hT.ed .refl,λ_=>rfl⟩
theorem acg(T:Tb ac)(hT:AP W aA ranks n up)(e:∀b∈aA,b<n)(hg:aZ B H)(hs:Sl B 1 ((up.set 0 (-1)).map aI) n a){d b:Nat}(hb:b∈aA){K:KT}(f:∀r:Bool,(r=true↔d≠b/\dX W d b)->K (.bool r) H):YN ac WG [a,aN d,aN b] H K:=by
 have⟨i,_,_,_⟩:=hs.all;refine YF.code T.Zt aF ?_;refine ai ?_;refine RO.bR (λc=>?_) (λc=>?_);·refine ai ?_;refine RO.cl (acf T hT e hg hs hb λr g=>?_);refine ai ?_;exact Ru.aP (f r ⟨λh=>⟨c,g.1 h⟩,λh=>g.2 h.2⟩)
 refine ai ?_;exact Ru.aP (f false ⟨λh=>(by cases h),λh=>absurd h.1 c⟩)
end
end
end
end Go.al.R
end
