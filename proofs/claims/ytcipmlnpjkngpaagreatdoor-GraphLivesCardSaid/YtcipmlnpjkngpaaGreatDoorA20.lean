/- A part. No conditions. -/
import Derived.Test.YtcipmlnpjkngpaaGreatDoorA19
import Derived.Test.YtcipmlnpjkngpaaGreatDoorA18
set_option linter.all false
set_option maxHeartbeats 16000000
open List renaming replicate->aeo
open List.Sublist renaming cons_cons->afN
noncomputable section
namespace Go.ak
theorem al.ne{A H:ai}{k:List Th}{t m:Th}{q r:af}(U:al A H k)(i j:Nat)(hi:k[i]?=some t)(hj:k[j]?=some m)(l:i≠j)(n:∀f,t.P H f->q∈f)(o:∀f,m.P H f->r∈f):q≠r:=by
 obtain⟨_,s,p⟩:=U;rcases Nat.lt_or_gt_of_ne l with h|h;·obtain⟨f,g,h1,h2,h3⟩:=p.jT hi hj h;exact λe=>h3 q (n f h1) (by rw[e];exact o g h2)
 obtain⟨f,g,h1,h2,h3⟩:=p.jT hj hi h;exact λe=>h3 r (o f h1) (by rw[<-e];exact n g h2)
theorem tS.pC{H:ai}{f:List af}{e size n k cap:Nat}{j:List AV}{i ex:Bool}{q:af}(h:(tS e size j n i (.slice q 0 k cap ex)).P H f):q∈f:=by
 rcases h with⟨_,_,_,h⟩|⟨m,o,aM,cap,l,rfl,h2,_⟩;·cases h
 injection h2 with h2;subst h2;exact acm ..
theorem Sl.move{H j:ai}{size n o m cap:Nat}{t:List AV}{ex:Bool}{q:af}(h:Sl H size t n (.slice q o m cap ex))(hg:j.get q=H.get q)(u:H.next.az<=j.next.az):Sl j size t n (.slice q o m cap ex):=by
 rcases h with⟨h,_⟩|⟨i,v,f,k,D,w,e,l,aM,fz,x,y,z,A,B,C,p⟩;·cases h
 injection x with h1 h2 h3 r s;subst h1;exact .inr ⟨_,v,f,k,D,w,e,l,aM,fz,by rw[h2,h3,r,s],by rw[hg];exact y,z,A,B,ae2 C u,p⟩
theorem tB.pC{H:ai}{f:List af}{e:Nat}{i:List AV}{q:af}(h:(tB e q i).P H f):q∈f:=h.1
end Go.ak
namespace Go.ak.R
open Go.ak
variable{ac:Nat->aX}
section
variable{g:G.aY}{a c:AV}{b:af}{H:ai}{come:List Bool}{os:List (List bI)}{d:List AV}
theorem KI{l:List Nat}(h:l.Nodup){i j:Nat}(hi:i<l.length)(hj:j<l.length)(e:l[i]=l[j]):i=j:=by
 have h2:=List.pairwise_iff_getElem.1 h;rcases Nat.lt_trichotomy i j with h3|h3|h3;·exact absurd e (h2 i j hi hj h3)
 .exact h3
 exact absurd e.symm (h2 j i hj hi h3)
theorem Be:∀(n:Nat)(l:List Nat),l.Nodup->(∀x∈l,x<n)->l.length<=n
 |0,l,_,h=>by cases l with|nil=>simp|cons j l=>exact absurd (h j (acm ..)) ab
 |n+1,l,hd,h=>by
  by_cases i:n∈l
  .have h1:=Be n (l.erase n) (hd.erase n) λx f=>by rw[hd.mem_erase_iff]at f;have:=h x f.2;omega
   rw[List.length_erase_of_mem i]at h1;omega
  have:=Be n l hd λx f=>by have:=h x f;have:x≠n:=λe=>i (e▸f);omega
  omega
theorem Zi{W:Nat->List Nat}{aB f:List Nat}{n:Nat}(h:0<n):mT W aB f n ((aeo n (-1:Int)).set 0 0):=by
 have e:∀x,((aeo n (-1:Int)).set 0 0).getD x (-1)=if x=0 then 0 else -1:=λx=>by
  rw[dk (by simpa using h)];split;·rfl
  simp[aeD,afb];split<;>rfl
 exact⟨aC,by rw[e,aH rfl],λi=>by rw[e];split<;>omega,λi hb h=>by rw[e,ap hb]at h;omega⟩
theorem Zj(T:Tb ac)(hB:G.Sm g)(hE:ff g)(hX:GX g H b a c come os d)(hK:dq g come os){K:KT}(h:∀H' v aB ranks up,pz g come os aB->Rk (wW g os) aB ranks->mT (wW g os) aB ranks g.aj.length up->(∀fb∈aB,0<=up.getD fb (-1))->(∀fb∈aB,∀x∈wW g os fb,mU up fb x)->al H H' [tS 3 1 ((up.set 0 (-1)).map aI) g.aj.length true v]->K v H'):YN ac Uy [.aD b 0] H K:=by
 have d6:=hB.nb;have a1:=hK.lt hK.c0;have⟨hd,_,_,hn⟩:=hX.bl.all;have a2:=hX.iz.be;have n:=hX.iz.lt;refine YF.code T.Wg aC ?_;refine au ?_;refine RO.cl (Kz T hB hE hX hK λH1 P aB Q U=>?_);have⟨d7,d',ea,eb⟩:=(U.sl (e:=3) (size:=1) (sv:=P) (vs:=aB.map aN) (n:=aB.length) (full:=true) 0).all;refine ah ?_;refine RO.bk ?_ (hc:=by rw[U.gr.bx n];exact a2);refine ah ?_;refine RO.jn U (n:=g.aj.length) (λH2 F U=>?_) (hz:=by rw[eS];simp);have er:ep [AV.int 3 (.ofNat 0)] g.aj.length=(aeo g.aj.length 0).map aN:=by rw[eS,afS]
 rw[er]at U;refine RO.j9 U 1 (λH3 R U=>?_) (n:=1) (ws:=[aI (-1)]);refine ah ?_;have ec:=(U.ua (e:=3) (size:=1) (n:=1) (vs:=[aI (-1)]) (full:=true) (q:=R) (o:=0) (m:=1) (cap:=1) (ex:=true) 0);have ei:=(U.ua (e:=3) (size:=1) (n:=g.aj.length) (vs:=(aeo g.aj.length 0).map aN) (full:=true) (q:=F) (o:=0) (m:=g.aj.length) (cap:=g.aj.length) (ex:=true) 1);refine RO.rZ (is:=[R,F]) (v:=a) (by rw[U.gr.bx n];exact a2) (by simp only[aer,aeS,or_false,not_or];exact⟨λe=>by rw[e]at n;omega,λe=>by rw[e]at n;omega⟩) (λHU hs a6=>?_);have U:=U.bL a6 hs;refine ah ?_;refine RO.dM U λH4 V U=>?_;refine RO.dM U λH5 W U=>?_;have n1:R≠W:=U.ne 2 0 rfl rfl bK (λ_ h=>tS.pC h) λ_ h=>tB.pC h;have n2:R≠V:=U.ne 2 1 rfl rfl bK (λ_ h=>tS.pC h) λ_ h=>tB.pC h;have n3:R≠F:=U.ne 2 3 rfl rfl bK (λ_ h=>tS.pC h) λ_ h=>tS.pC h;have ej:=(U.r9 (e:=fZ) (q:=W) (vs:=[.aG]) 0).2;have ek:=(U.r9 (e:=fZ) (q:=V) (vs:=[.aG]) 1).2;have el:=(U.ua (e:=3) (size:=1) (n:=g.aj.length) (vs:=(aeo g.aj.length 0).map aN) (full:=true) (q:=F) (o:=0) (m:=g.aj.length) (cap:=g.aj.length) (ex:=true) 3).2;have c9:=U.sl (e:=3) (size:=1) (n:=1) (vs:=[aI (-1)]) (full:=true) (sv:=.slice R 0 1 1 true) 2;refine RO.yM (is:=[W,V,F]) (Q:=λv ns=>∃q,v=.slice q 0 g.aj.length g.aj.length true/\ns=[tS 3 1 (aeo (g.aj.length*1) (aI (-1))) g.aj.length true (.slice q 0 g.aj.length g.aj.length true)]) U (λj hj=>by simp only[aer,aeS,or_false]at hj;rcases hj with rfl|rfl|rfl<;>assumption) (λH0 a6 hs=>Zf T (u:=aI (-1)) rfl (c9.move (hs R (by simp only[aer,aeS,or_false,not_or];exact⟨n1,n2,n3⟩)) (by rw[a6];exact aeq _)) ab λH' q U=>⟨_,U,q,rfl,rfl⟩) (λv ns HU hQ et U=>?_);obtain⟨qu,rfl,rfl⟩:=hQ;refine⟨λaa c'=>gh c' rfl rfl hd hX.bl.bL (by rw[U.gr.bx n];exact a2) rfl,?_⟩;refine RO.eo U 2 (λH6 U=>?_);refine RO.eo U 1 (λH7 U=>?_);have eu:aeo (g.aj.length*1) (aI (-1))=(aeo g.aj.length (-1)).map aI:=by rw[af0,afS]
 rw[eu]at U;have U:al H H7 (uc V W F qu g.aj.length (aeo g.aj.length 0) (aeo g.aj.length (-1))++(tS 3 1 (aB.map aN) aB.length true P::[tS 3 1 [aI (-1)] 1 true (.slice R 0 1 1 true)])):=(((((U.eL 3 rfl).eL 5 rfl).eL 2 rfl).eL 5 rfl).eL 4 rfl).eL 5 rfl;refine ah ?_;have t:∀fb∈aB,fb<g.aj.length:=λfb hb=>hK.lt ((Q.mem fb).1 hb);have ew:aB.length<=g.aj.length:=Be _ _ Q.nd t;refine Ru.nm λS M hS I=>?_;refine Ru.bM I (up (P:=λk=>∀u ranks,ranks.length=g.aj.length->(∀i(h:i<aB.length),i<k->ranks.getD aB[i] 0=i)->al H u (uc V W F qu g.aj.length ranks (aeo g.aj.length (-1))++(tS 3 1 (aB.map aN) aB.length true P::[tS 3 1 [aI (-1)] 1 true (.slice R 0 1 1 true)]))->Ru ac _ S ([(yn,aN k)]++pk M [p0,p3,p4,p5,vW,vX]) u) aB.length (λk hk ih u ranks L b6 U=>?_) 0 ab _ _ aC (λi _ h=>by omega) U);subst hS;subst I;refine Ru.loop ?_;refine au ?_;refine Ru.cond (λn=>?_) (λn=>?_)
 .have e0:=t _ (acI n);refine ah ?_;refine RO.iE (aZ.refl u) (U.sl (e:=3) (size:=1) (sv:=P) (vs:=aB.map aN) (n:=aB.length) (full:=true) 4) (λq o hj a8=>?_);refine RO.bk ?_ (hc:=a8);refine ah ?_;refine RO.gF (f:=aN) (zs:=ranks) (n:=g.aj.length) U 2 k L (λH9 U=>?_) (k:=aB[k]);refine ah ?_;have g1:∀i(h:i<aB.length),i<k+1->(ranks.set aB[k] k).getD aB[i] 0=i:=λi hi X=>by
   rw[dk ab];split;·rename_i e;exact(KI Q.nd hi n e).symm
   rename_i e;exact b6 i hi (by have:i≠k:=λe2=>e (by subst e2;rfl);omega)
  exact Ru.wk (ih (k+1) ab ab H9 _ (by simpa using L) g1 U)
 have D:Rk (wW g os) aB ranks:=⟨Q.nd,Q.hd,Q.aM,λi hi=>b6 i hi ab⟩;refine Ru.exitTo ?_;refine ah ?_;refine RO.gF (f:=aI) (zs:=aeo g.aj.length (-1)) (n:=g.aj.length) U 3 0 aC (λH9 U=>?_) (k:=0) (ho:=by simpa using a1);refine ah ?_;have L:ranks.length=g.aj.length:=L;refine Ru.nm λS2 M2 hS I=>?_;refine Ru.bM I (dn (P:=λm=>∀u up r us,mT (wW g os) aB ranks g.aj.length up->(r=false->∀fb∈aB,0<=up.getD fb (-1)/\∀x∈wW g os fb,mU up fb x)->(mV ranks g.aj.length up+if r then 1 else 0)=m->al H u (uc V W F qu g.aj.length ranks up++(tS 3 1 (aB.map aN) aB.length true P::us))->Ru ac _ S2 ([(p9,.bool r)]++pk M2 [p0,p3,p4,p5,p8]) u) (λm dm u up r us hC eG hm U=>?_) _ H9 _ true _ (Zi a1) (λh=>by cases h) rfl U);subst hS;subst I;refine Ru.loop ?_;cases r with
 |false=>refine ah ?_;refine Ru.exitTo ?_;refine ah ?_;refine RO.gF (f:=aI) (zs:=up) (n:=g.aj.length) U 3 (-1) hC.len (λdr U=>?_) (k:=0) (ho:=by rw[hC.len];exact a1);refine ah ?_;exact Ru.aP (h dr _ aB ranks up Q D hC (λfb hb=>(eG rfl fb hb).1) (λfb hb=>(eG rfl fb hb).2) ((U.eL 3 rfl).sub (afN _ (agi _))))
 |true=>
  refine ah ?_;refine Ru.nm λS3 M3 hS I=>?_;refine Ru.bM I (Go.ak.up (P:=λk=>∀u J r us,mT (wW g os) aB ranks g.aj.length J->(∀i(h:i<aB.length),i<k->∀x∈wW g os aB[i],0<=J.getD x (-1))->(r=false->∀i(h:i<aB.length),i<k->∀x∈wW g os aB[i],mU J aB[i] x)->(mV ranks g.aj.length J+if r then 1 else 0)<=mV ranks g.aj.length up->al H u (uc V W F qu g.aj.length ranks J++(tS 3 1 (aB.map aN) aB.length true P::us))->Ru ac _ S3 ([(p9,.bool r),(rQ,aN k)]++pk M3 [p0,p3,p4,p5,p8,mO,pq]) u) aB.length (λk hk ds u J r us a' b7 b' dv U=>?_) 0 ab _ up false _ hC (λi _ h=>by omega) (λ_ i _ h=>by omega) aC U);subst hS;subst I;refine Ru.loop ?_;refine au ?_;refine Ru.cond (λn=>?_) (λn=>?_)
  .have Y:aB[k]∈aB:=acI n;have e1:=D.rk k n;have ba:=(Q.mem _).1 Y;refine ah ?_;refine RO.iE (aZ.refl u) (U.sl (e:=3) (size:=1) (sv:=P) (vs:=aB.map aN) (n:=aB.length) (full:=true) 4) (λq o hj a8=>?_);refine RO.bk ?_ (hc:=a8);refine ah ?_;refine RO.cl (EA T hB hE (hX.bZ U.gr) hK ba λHY vw hl=>?_);have⟨e3,_,_,e5⟩:=(hl.sl (e:=3) (size:=1) (sv:=vw) (vs:=(wW g os aB[k]).map aN) (n:=(wW g os aB[k]).length) (full:=true) 0).all;have U:al H HY (uc V W F qu g.aj.length ranks J++(tS 3 1 (aB.map aN) aB.length true P::tS 3 1 ((wW g os aB[k]).map aN) (wW g os aB[k]).length true vw::us)):=(U.eK hl).cH (afd (l₁:=[_,_,_,_,_])).symm;have d4:(wW g os aB[k]).length<=12:=by have:=Bc (now:=os.getD aB[k] []) hB (hK.lt ba);simpa[wW,kf]using this
   generalize hb:aB[k]=fb at*;refine ah ?_;refine Ru.nm λS4 M4 hS I=>?_;refine Ru.bM I (Go.ak.up (P:=λj=>∀u f r,mT (wW g os) aB ranks g.aj.length f->(∀i(h:i<aB.length),i<k->∀x∈wW g os aB[i],0<=f.getD x (-1))->(∀x∈(wW g os fb).take j,0<=f.getD x (-1))->(r=false->(∀i(h:i<aB.length),i<k->∀x∈wW g os aB[i],mU f aB[i] x)/\∀x∈(wW g os fb).take j,mU f fb x)->(mV ranks g.aj.length f+if r then 1 else 0)<=mV ranks g.aj.length up->al H u (uc V W F qu g.aj.length ranks f++(tS 3 1 (aB.map aN) aB.length true P::tS 3 1 ((wW g os fb).map aN) (wW g os fb).length true vw::us))->Ru ac _ S4 ([(p9,.bool r),(tN,aN j)]++pk M4 [p0,p3,p4,p5,p8,fJ,mO,pq,rQ,qA,tL]) u) (wW g os fb).length (λj hj Z u f r p ag ca av N U=>?_) 0 ab _ J r a' b7 (λx l=>by simp at l) (λh=>⟨b' h,λx l=>by simp at l⟩) dv U);subst hS;subst I;refine Ru.loop ?_;refine au ?_;refine Ru.cond (λcd=>?_) (λcd=>?_)
   .have aw:=p.len;have cf:(wW g os fb)[j]∈wW g os fb:=acI cd;have dx:=hK.kG ba cf;have O:=(Q.mem _).2 dx;have cn:=t _ O;have bb:0<=f.getD fb (-1):=by
     by_cases h0:fb=0;·rw[h0,p.u0];omega
     obtain⟨y,hy,hw,bd⟩:=D.ch Y h0;obtain⟨i,hi,rfl⟩:=aeB hy;rw[D.rk i hi]at bd;exact ag i hi ab fb hw
    refine ah ?_;refine RO.iE (aZ.refl u) (U.sl (e:=3) (size:=1) (sv:=vw) (vs:=(wW g os fb).map aN) (n:=(wW g os fb).length) (full:=true) 5) (λq2 o2 e6 cy=>?_);refine RO.bk ?_ (hc:=cy);have ax:∀fe,dZ (wW g os) fe (wW g os fb)[j]->fe≠(wW g os fb)[j]->dZ (wW g os) fe fb:=λfe hd hn=>hd.ch cf hn;have cp:(wW g os fb).take (j+1)=(wW g os fb).take j++[(wW g os fb)[j]]:=by rw[aeO]
    generalize(wW g os fb)[j]=to at*;have w:∀u3:List Int,(∀x,0<=f.getD x (-1)->0<=u3.getD x (-1))->0<=u3.getD to (-1)->(∀i(h:i<aB.length),i<k->∀x∈wW g os aB[i],0<=u3.getD x (-1))/\∀x∈(wW g os fb).take (j+1),0<=u3.getD x (-1):=λu3 h1 h2=>⟨λi hi X x l=>h1 x (ag i hi X x l),λx l=>by
     rw[cp]at l;rcases aeu.1 l with l|l;·exact h1 x (ca x l)
     rw[aaN]at l;rw[l];exact h2⟩;have cv:mU f fb to->r=false->(∀i(h:i<aB.length),i<k->∀x∈wW g os aB[i],mU f aB[i] x)/\∀x∈(wW g os fb).take (j+1),mU f fb x:=λhe h=>⟨(av h).1,λx l=>by
     rw[cp]at l;rcases aeu.1 l with l|l;·exact(av h).2 x l
     rw[aaN]at l;rw[l];exact he⟩;have ay:∀(now:Nat)(x:Nat),(f.set to (now:Int)).getD x (-1)=if x=to then(now:Int)else f.getD x (-1):=λnow x=>dk ab;have C:∀(now:Nat),(∀x,0<=f.getD x (-1)->0<=(f.set to (now:Int)).getD x (-1))/\0<=(f.set to (now:Int)).getD to (-1):=λnow=>⟨λx l=>by
     rw[ay];split;·omega
     exact l,by rw[ay,aH rfl];omega⟩;refine ah ?_;by_cases hu:f.getD to (-1)= -1
    .have bv:to≠0:=λe=>by rw[e,p.u0]at hu;omega
     refine RO.dh U 3 (v:=aI (-1)) (hv:=by rw[pB (-1) ab,hu]) ?_;refine ah ?_;refine RO.bT (λ_=>?_) (λh=>absurd bv h);refine ah ?_;refine RO.dh U 3 (v:=aI (-1)) (hv:=by rw[pB (-1) ab,hu]) ?_;refine ah ?_;refine RO.gF (f:=aI) (zs:=f) (n:=g.aj.length) U 3 (fb:Int) aw (λb0 U=>?_) (k:=to);refine ah ?_;have dy:ranks.getD fb 0<ranks.getD to 0:=by
      apply aeW;intro e7;obtain⟨e8,e2⟩:=D.at O;have fa:0<=f.getD to (-1):=by
       by_cases e4:ranks.getD to 0=k
       .have:to=fb:=by rw[<-e2,<-hb];simp only[e4]
        rw[this];exact bb
       obtain⟨y,hy,hw,bd⟩:=D.ch O bv;obtain⟨i,hi,rfl⟩:=aeB hy;rw[D.rk i hi]at bd;exact ag i hi ab to hw
      omega
     have b3:=p.set D O cn bv Y bb dy ax;have dz:=KH (ranks:=ranks) (n:=g.aj.length) (up:=f) (k:=to) (now:=fb) ab (by rw[aH ab];omega);obtain⟨A,B⟩:=w _ (C fb).1 (C fb).2;have b4:(mV ranks g.aj.length (f.set to (fb:Int))+if true then 1 else 0)<=mV ranks g.aj.length up:=by rw[aH rfl];split at N<;>omega
     exact Ru.wk (Z (j+1) ab ab b0 _ true b3 A B (λh=>by cases h) b4 U)
    obtain⟨fd,E⟩:∃fd:Nat,f.getD to (-1)=fd:=⟨(f.getD to (-1)).toNat,by have:=p.rg to;omega⟩;have hA:fd∈aB/\0<=f.getD fd (-1)/\(to≠0->ranks.getD fd 0<ranks.getD to 0/\∀fe,dZ (wW g os) fe to->fe≠to->dZ (wW g os) fe fd):=by
     by_cases h0:to=0
     .have:fd=0:=by rw[h0,p.u0]at E;omega
      rw[this];exact⟨D.zero.1,by rw[p.u0];omega,λh=>absurd h0 h⟩
     obtain⟨_,d5,h1,h2,h3,h4,h5⟩:=p.ok to h0 ab;have:fd=d5:=ab;subst this;exact⟨h2,h4,λ_=>⟨h3,h5⟩⟩
    obtain⟨cx,d0,d1⟩:=hA;refine RO.dh U 3 (v:=aN fd) (hv:=by rw[pB (-1) ab,E];rfl) ?_;refine ah ?_;refine RO.dh U 3 (v:=aN fd) (hv:=by rw[pB (-1) ab,E];rfl) ?_;refine ah ?_;refine RO.cl (Zh T D p L ab t U cx Y d0 bb λm2 s=>?_);have e9:=t _ s.mem;refine ah ?_;refine RO.bT (λh0=>?_) (λh0=>?_)
    .have h0:to≠0:=h0;obtain⟨e',d2⟩:=d1 h0;refine ah ?_;refine RO.dh U 3 (v:=aN fd) (hv:=by rw[pB (-1) ab,E];rfl) ?_;refine ah ?_;refine Ru.cond (λz=>?_) (λz=>?_)
     .have z:fd≠m2:=z;refine ah ?_;refine RO.gF (f:=aI) (zs:=f) (n:=g.aj.length) U 3 (m2:Int) aw (λb0 U=>?_) (k:=to);refine ah ?_;have d3:ranks.getD m2 0<ranks.getD fd 0:=Nat.lt_of_le_of_ne s.ra λe=>z (D.inj cx s.mem e.symm);have b3:=p.set D O cn h0 s.mem s.df ab (λfe hd hn=>s.dU fe (d2 fe hd hn) (ax fe hd hn));have dz:=KH (ranks:=ranks) (n:=g.aj.length) (up:=f) (k:=to) (now:=m2) ab (by rw[ap ab,E,aeA];exact d3);obtain⟨A,B⟩:=w _ (C m2).1 (C m2).2;have b4:(mV ranks g.aj.length (f.set to (m2:Int))+if true then 1 else 0)<=mV ranks g.aj.length up:=by rw[aH rfl];split at N<;>omega
      exact Ru.wk (Z (j+1) ab ab b0 _ true b3 A B (λh=>by cases h) b4 U)
     refine ah ?_;obtain⟨A,B⟩:=w f (λ_ h=>h) ab;have cR:fd=m2:=afP.1 z;exact Ru.wk (Z (j+1) ab ab u f r p A B (cv λ_=>⟨fd,E,by rw[cR];exact s.ED⟩) N U)
    refine ah ?_;obtain⟨A,B⟩:=w f (λ_ h=>h) ab;exact Ru.wk (Z (j+1) ab ab u f r p A B (cv λh9=>absurd h9 h0) N U)
   refine Ru.exitTo ?_;refine ah ?_;have g1:∀i(h:i<aB.length),i<k+1->∀x∈wW g os aB[i],0<=f.getD x (-1):=λi hi X x l=>by
    by_cases e:i=k;·subst e;rw[hb]at l;exact ca x (by rw[aeI ab];exact l)
    exact ag i hi ab x l
   have g2:r=false->∀i(h:i<aB.length),i<k+1->∀x∈wW g os aB[i],mU f aB[i] x:=λh9 i hi X x l=>by
    by_cases e:i=k;·subst e;rw[hb]at l⊢;exact(av h9).2 x (by rw[aeI ab];exact l)
    exact(av h9).1 i hi ab x l
   exact Ru.wk (ds (k+1) ab ab u f r _ p g1 g2 N U)
  refine Ru.exitTo ?_;refine ah ?_;have g1:r=false->∀fb∈aB,0<=J.getD fb (-1)/\∀x∈wW g os fb,mU J fb x:=λh9 fb hb=>by
   refine⟨?_,λx l=>by obtain⟨i,hi,rfl⟩:=aeB hb;exact b' h9 i hi ab x l⟩;by_cases h0:fb=0;·rw[h0,a'.u0];omega
   obtain⟨y,hy,hw,_⟩:=D.ch hb h0;obtain⟨i,hi,rfl⟩:=aeB hy;exact b7 i hi ab fb hw
  rw[aH rfl]at hm;exact Ru.wk (dm _ ab u J r us a' g1 rfl U)
end
end Go.ak.R
namespace Go.ak.R
section
variable{ac:Nat->aX}
section
def ez(l:List G.dI):List Int:=(l.map (·.to)).filter λt=>decide (0<=t)
def eD(b:G.dE):List Int:=b.i4++ez b.aL
structure kg(g:G.aY)(x:G.dI):Prop where
 op:x.op∉pE
 w:(li x.op).w≠ []
 r:sd x g.aW (lL x.op x.m)
structure uf(n np:Nat)(gs:List Bool)(hist:List Int):Prop where
 len:gs.length=n
 nd:hist.Nodup
 rg:∀v∈hist,(np:Int)<=v/\v<n
 bt:∀v:Nat,v<n->(gs.getD v false=true↔v<np\/(v:Int)∈hist)
structure eE(g:G.aY):Prop where
 i7:jo g.i7
 p0:0<=g.i4
 p1:g.i4<=g.aW
 ne:0<g.aj.length
 first:(g.aj.getD 0 default).i4=[]
 aL:∀b∈g.aj,∀x∈b.aL,kg g x
 wG:∀b∈g.aj,lM g b.aA
 nd:(g.aj.flatMap eD).Nodup
 rg:∀v∈g.aj.flatMap eD,g.i4<=v/\v<g.aW
 all:∀v:Int,g.i4<=v->v<g.aW->v∈g.aj.flatMap eD
theorem EW{l:List G.dI}{x:G.dI}:ez (l++[x])=ez l++if 0<=x.to then[x.to]else[]:=by simp only[ez,aeZ,List.filter_append];by_cases h:0<=x.to<;>simp[h]
theorem uf.add{n f:Nat}{i:List Bool}{c:List Int}(h:uf n f i c){v:Nat}(j:v<n)(hg:i.getD v false=false):uf n f (i.set v true) (c++[(v:Int)]):=by
 have hl:=h.len;have h1:¬(v<f\/(v:Int)∈c):=λe=>by rw[(h.bt v j).2 e]at hg;cases hg
 rw[not_or]at h1;refine⟨by simpa using hl,?_,λx d=>?_,λx d=>?_⟩;·rw[afa];refine⟨h.nd,aC,λa k b hb=>?_⟩;rw[aaN]at hb;subst hb;exact λe=>h1.2 (e▸k)
 .rcases aeu.1 d with d|d;·exact h.rg x d
  rw[aaN]at d;omega
 rw[dk ab,aeu,aaN];by_cases e:x=v;·subst e;simp
 rw[ap e,h.bt x d];have:¬(x:Int)=v:=ab;simp[this]
section
variable{g:G.aY}{H:ai}{cs:List AV}
theorem ZV(T:Tb ac)(hg:dS H g cs)(hB:G.Sm g)(hY:mh g)(ec:g.i7.length<=60)(cp:g.aW<=6000){K:KT}(h1:∀H',aZ H H'->eE g->K (.bool true) H')(h2:∀H',aZ H H'->¬eE g->K (.bool false) H'):YN ac Uo [.agg cs] H K:=by
 have d':=hg.one;have ba:=hg;obtain⟨vb,rfl,bH⟩:=hg;have⟨ei,_,_,ej⟩:=bH.all;have ek:=hB.nb;refine YF.code T.V7 aC ?_;refine Ru.seq ?_;refine Ru.region ?_;refine RO.cG (al.bY H) λH1 q U=>?_;have U:al H H1 [tB cX q [.str g.i7,aI g.i4,aI g.aW,vb]]:=U;refine RO.bw ?_;refine RO.nil ?_;refine Ru.seq ?_;refine Ru.se (P:=λM H'=>M=[(p1,.aD q 0)]/\jo g.i7/\0<=g.i4/\g.i4<=g.aW/\0<g.aj.length/\(g.aj.getD 0 default).i4=[]/\al H H' [tB cX q [.str g.i7,aI g.i4,aI g.aW,vb]]) (λM H2⟨hM,f1,f2,f3,f4,f5,U⟩=>?_) (λs' a'=>?_);rotate_left
 .refine ah ?_;refine RO.cl (Bk T hY.nm ab (λg1=>?_) λS=>?_);rotate_left;·refine ah ?_;exact Ru.aP (h2 _ U.gr λc=>S c.i7)
  refine ah ?_;refine RO.cl (oC T (λg2 E=>?_) (λS=>?_));rotate_left;·refine ah ?_;exact Ru.aP (h2 _ U.gr λc=>S ⟨c.p0,c.p1⟩)
  have g2:0<=g.i4:=g2;refine ah ?_;refine RO.bT (λV=>?_) (λV=>?_);·refine ah ?_;exact Ru.aP (h2 _ U.gr λc=>by have l:=c.ne;omega)
  have ax:0<g.aj.length:=ab;refine ah ?_;refine RO.bW U.gr bH (λq1 o1 c1 cv X cx hat hrd=>?_) (j:=0);obtain⟨vp,Y,jc,rfl,Z,_⟩:=X;have⟨cy,_,_,cR⟩:=Z.all;refine ah ?_;refine Ru.cond (λg5=>?_) (λg5=>?_);·refine ah ?_;exact Ru.aP (h2 _ U.gr λc=>by have l:=c.first;rw[bm ax]at l;simp[l]at g5)
  refine ah ?_;exact a' _ _ _ ⟨rfl,g1,g2,E,ax,by rw[bm ax];exact aeQ ab,U⟩ eg
 subst hM;obtain⟨n,W⟩:∃n:Nat,g.aW=n:=⟨g.aW.toNat,ab⟩;obtain⟨F,y⟩:∃n:Nat,g.i4=n:=⟨g.i4.toNat,ab⟩;rw[W,y]at U ba;rw[W]at cp f3;rw[y]at f3;refine ah ?_;refine RO.jn U (n:=n) (λH3 qg U=>?_) (hz:=by rw[eS];simp);have aw:uf n 0 (aeo n false) []:=⟨aC,List.nodup_nil,λv hv=>(by cases hv),λv hv=>by simp[aeD,afb,hv]⟩;have U:al H H3 [tS 4 1 ((aeo n false).map .bool) n true (.slice qg 0 n n true),tB cX q [.str g.i7,aI F,aI n,vb]]:=by rw[eS]at U;rw[afS];exact U
 refine ah ?_;refine Ru.nm λS0 M hS hM=>?_;refine Ru.bM hM (up (P:=λk=>∀u f,uf n k f []->al H u [tS 4 1 (f.map .bool) n true (.slice qg 0 n n true),tB cX q [.str g.i7,aI F,aI n,vb]]->Ru ac _ S0 ([(p4,aN k)]++pk M [p1,p3]) u) F (λk hk ih u f a U=>?_) 0 ab _ _ aw U);subst hS;subst hM;refine Ru.loop ?_;refine ah ?_;refine Ru.cond (λc9=>?_) (λc9=>?_)
 .refine ah ?_;refine RO.gF U 0 true a.len (λH4 U=>?_) (k:=k) (ho:=by rw[a.len];omega);refine ah ?_;exact Ru.wk (ih (k+1) ab ab H4 _ ⟨by simpa using a.len,List.nodup_nil,λv hv=>(by cases hv),λv hv=>by
   rw[dk (by rw[a.len];omega)];by_cases e:v=k;·subst e;simp
   rw[ap e,a.bt v hv];simp;omega⟩ U)
 refine Ru.exitTo ?_;obtain rfl:F=k:=ab;refine ah ?_;clear aw ih;refine Ru.nm λS0 M hS hM=>?_;refine Ru.bM hM (up (P:=λk=>∀u f,uf n F f ((g.aj.take k).flatMap eD)->(∀x(h:x<g.aj.length),x<k->(∀s∈g.aj[x].aL,kg g s)/\lM g g.aj[x].aA)->al H u [tS 4 1 (f.map .bool) n true (.slice qg 0 n n true),tB cX q [.str g.i7,aI F,aI n,vb]]->Ru ac _ S0 ([(p5,aN k)]++pk M [p1,p3]) u) g.aj.length (λk hk ih u f a I U=>?_) 0 ab _ f a (λx _ C=>by omega) U);subst hS;subst hM;refine Ru.loop ?_;refine ah ?_;refine Ru.cond (λN=>?_) (λN=>?_)
 .have o:=acI N;have el:=hB.bl _ o;have c':=hB.st _ o;have dm:=hB.ed _ o;have dr:=hY.st _ o;have ds:=hY.fn _ o;have dv:=hY.kd _ o;have ay:g.aj.take (k+1)=g.aj.take k++[g.aj[k]]:=(aeO N).symm;have ih:=ih (k+1) ab ab;rw[ay,ae9,afl]at ih;have I:(∀s∈g.aj[k].aL,kg g s)/\lM g g.aj[k].aA->∀x(h:x<g.aj.length),x<k+1->(∀s∈g.aj[x].aL,kg g s)/\lM g g.aj[x].aA:=λhb x C h=>by
   by_cases e:x=k;·subst e;exact hb
   exact I x C ab
  have bb:eE g->(∀s∈g.aj[k].aL,kg g s)/\lM g g.aj[k].aA:=λc=>⟨c.aL _ o,c.wG _ o⟩;have bd:eE g->∀v∈eD g.aj[k],g.i4<=v/\v<g.aW:=λc v hv=>c.rg v (afO.2 ⟨_,o,hv⟩);have dx:eE g->((g.aj.take k).flatMap eD++eD g.aj[k]).Nodup:=λc=>by have l:=c.nd;rw[<-afI (k+1) g.aj,ay,ae9,ae9,afl,afa]at l;exact l.1
  clear ay;generalize(g.aj.take k).flatMap eD=O at*;refine ah ?_;refine RO.bW U.gr bH (λq1 o1 c1 cv X cx hat hrd=>?_) (j:=k);have ea:=X.one;generalize g.aj[k]=B at*;obtain⟨vp,Y,jc,rfl,Z,ag,bv⟩:=X;have ca:=bv;obtain⟨va,vk,vg,rfl,_⟩:=bv;have⟨cy,_,_,cR⟩:=Z.all;have⟨et,_,_,ew⟩:=ag.all;refine ah ?_;refine RO.eR U λH5 q6 U=>?_;refine ah ?_;refine RO.lF U 1 λH6 v0 U=>?_;have⟨e0,_,_,_⟩:=(U.sl 0 rfl).all;refine ah ?_;refine RO.me U 0 (U.gr.sl Z) (λH7 v1 U=>?_) (h1:=mJ _);have U:al H H7 [tS 3 1 ((B.i4++ez (B.aL.take 0)).map aI) (B.i4++ez (B.aL.take 0)).length true v1,tB cL q6 [vp,Y,aU B.aA.op,va,.str B.aA.i7,vk,vg],tS 4 1 (f.map .bool) n true (.slice qg 0 n n true),tB cX q [.str g.i7,aI F,aI n,vb]]:=by rw[afE,show ez []=[]from rfl,afu];rw[aeL]at U;exact U
  have⟨e1,_,_,_⟩:=(U.sl 0 rfl).all;refine ah ?_;refine Ru.nm λS1 M1 J p=>?_;refine Ru.bM p (up (P:=λj=>∀u lv,(∀x(h:x<B.aL.length),x<j->kg g B.aL[x])->al H u [tS 3 1 ((B.i4++ez (B.aL.take j)).map aI) (B.i4++ez (B.aL.take j)).length true lv,tB cL q6 [vp,Y,aU B.aA.op,va,.str B.aA.i7,vk,vg],tS 4 1 (f.map .bool) n true (.slice qg 0 n n true),tB cX q [.str g.i7,aI F,aI n,vb]]->Ru ac _ S1 ([(p8,aN j),(p7,lv)]++pk M1 [p1,p3,p5,p6]) u) B.aL.length (λj hj A u lv cz U=>?_) 0 ab _ _ (λx _ C=>by omega) U);subst J;subst p;have⟨e2,_,_,b0⟩:=(U.sl 0 rfl).all;refine Ru.loop ?_;refine ah ?_;refine Ru.cond (λP=>?_) (λP=>?_)
  .have a1:=acI P;have e3:=c' _ a1;have dy:=dr _ a1;have A:=A (j+1) ab ab;rw[(aeO P).symm,EW,<-aeC]at A;have cz:kg g B.aL[j]->∀x(h:x<B.aL.length),x<j+1->kg g B.aL[x]:=λhb x C h=>by
    by_cases e:x=j;·subst e;exact hb
    exact cz x C ab
   have dz:(B.i4++ez (B.aL.take j)).length<=100:=by
    have:(ez (B.aL.take j)).length<=(B.aL.take j).length:=by unfold ez;exact af2 (List.length_filter_le _ _) aC
    rw[aex];rw[aeP]at this;omega
   generalize B.i4++ez (B.aL.take j)=R at*;refine ah ?_;refine RO.bW U.gr ag (λq9 o9 e' a2 b3 e4 hat hrd=>?_) (j:=j);have cd:=b3;generalize C:B.aL[j]=x at*;obtain⟨e5,rfl,eb⟩:=b3;refine ah ?_;refine RO.cl (ZT T (v:=(n:Int)) (b8.step U.gr cd) dy ab ab ab ab (λH8 hg g1 g2 E=>?_) (λH8 hg S=>?_));rotate_left;·have U:=U.bZ hg;refine ah ?_;exact Ru.aP (h2 _ U.gr λc=>S (by have l:=(bb c).1 x a1;exact⟨l.op,l.w,by have h9:=l.r;rwa[W]at h9⟩))
   have U:=U.bZ hg;have b4:kg g x:=⟨g1,g2,by rw[W];exact E⟩;refine ah ?_;refine RO.bW U.gr ag (λq7 o7 c7 d0 L d1 Q cf=>?_) (j:=j);rw[C]at L;obtain⟨d2,rfl,cn⟩:=L;refine ah ?_;refine RO.bk (v:=aI x.to) ?_ (hc:=Q 1 _ rfl);refine ah ?_;refine Ru.cond (λV=>?_) (λV=>?_);·have V:0<=x.to:=V;rw[aH V]at A;refine ah ?_;refine RO.bW U.gr ag (λq7 o7 c7 d0 L d1 Q cf=>?_) (j:=j);rw[C]at L;obtain⟨d2,rfl,cn⟩:=L;refine ah ?_;refine RO.bk (v:=aI x.to) ?_ (hc:=Q 1 _ rfl);refine RO.push U 0 (λw0 H9 v2 U=>?_) (ws:=[aI x.to]);have⟨e6,e7,e8,_⟩:=(U.sl 0 rfl).all;refine ah ?_;exact Ru.wk (A _ v2 (cz b4) (by rw[aeZ,aex];exact U))
   have V:¬0<=x.to:=V;rw[ap V,afu]at A;refine ah ?_;exact Ru.wk (A _ lv (cz b4) U)
  refine Ru.exitTo ?_;have cz:∀s∈B.aL,kg g s:=λs hs=>by obtain⟨x,C,rfl⟩:=aeB hs;exact cz x C ab
  rw[aeI ab]at U b0;have d3:B.i4++ez B.aL=eD B:=rfl;rw[d3]at U b0;have dz:(eD B).length<=100:=by have:=List.length_filter_le (λt=>decide (0<=t)) (B.aL.map (·.to));rw[aeR]at this;rw[eD,ez,aex];omega
  generalize e9:eD B=R at*;refine ah ?_;refine Ru.nm λS1 M1 J p=>?_;refine Ru.bM p (up (P:=λm=>∀u f,uf n F f (O++R.take m)->al H u [tS 3 1 (R.map aI) R.length true lv,tB cL q6 [vp,Y,aU B.aA.op,va,.str B.aA.i7,vk,vg],tS 4 1 (f.map .bool) n true (.slice qg 0 n n true),tB cX q [.str g.i7,aI F,aI n,vb]]->Ru ac _ S1 ([(p9,aN m)]++pk M1 [p1,p3,p5,p6,p7]) u) R.length (λm hm D u f a U=>?_) 0 ab _ f (by rw[afE,afu];exact a) U);subst J;subst p;have a6:=U.sl 0 rfl;refine Ru.loop ?_;refine ah ?_;refine Ru.cond (λd=>?_) (λd=>?_)
  .have D:=D (m+1) ab ab;rw[(aeO d).symm,<-aeC]at D;have d4:eE g->R[m]∉O++R.take m:=λc hm=>by have l:=dx c;rw[<-afI m R,aeE d,<-aeC,afa]at l;exact l.2.2 _ hm _ (acm ..) rfl
   have b6:=acI d;generalize O++R.take m=h0 at*;refine ah ?_;refine RO.iE (aZ.refl _) a6 (λq9 o9 a2 av=>?_) (j:=m);generalize hz:R[m]=z at*;refine ah ?_;refine RO.sub ?_ (a:=(n:Int)) (b:=1);refine RO.cl (oC T (λg1 g2=>?_) (λS=>?_));rotate_left;·refine ah ?_;exact Ru.aP (h2 _ U.gr λc=>S (by have l:=bd c z b6;rw[W,y]at l;exact⟨by show(0:Int)<=z;omega,by show z<=(n:Int) - 1;omega⟩))
   have g1:0<=z:=g1;obtain⟨v,rfl⟩:∃v:Nat,z=v:=⟨z.toNat,ab⟩;have b7:v<n:=ab;refine ah ?_;refine RO.iE (aZ.refl _) a6 (λq9 o9 a2 av=>?_) (j:=m);rw[hz]at av;have b':=a.len;have a8:(f.map AV.bool)[0+v*1]?=some (.bool (f.getD v false)):=by rw[show 0+v*1=v by omega,ae5,getElem?_pos f v ab,bm ab];rfl
   refine ah ?_;refine RO.dh U 2 (hv:=a8) ?_;refine ah ?_;refine Ru.eh (λE=>?_) (λE=>?_);·refine ah ?_;exact Ru.aP (h2 _ U.gr λc=>by have l:=(a.bt v b7).1 E;have h9:=bd c v b6;rw[W,y]at h9;exact l.elim (λh=>by omega) (d4 c))
   refine ah ?_;refine RO.iE (aZ.refl _) a6 (λq9 o9 a2 av=>?_) (j:=m);rw[hz]at av;refine ah ?_;refine RO.gF U 2 true b' (λH9 U=>?_) (k:=v) (ho:=by omega);refine ah ?_;exact Ru.wk (D _ _ (a.add b7 E) U)
  refine Ru.exitTo ?_;rw[aeI ab]at a;refine ah ?_;refine RO.cr U 3 ?_;refine ah ?_;refine RO.cr U 1 (m:=5) (o:=2) ?_;refine RO.cl (ZU T (b8.fY U.gr ba) (j:=B.aA) (b8.tn U.gr ca) hB ab ab ds dv ⟨ab,ab,ab,ab⟩ dm (λH8 hg g1=>?_) (λH8 hg S=>?_));rotate_left;·have U:=U.bZ hg;refine ah ?_;exact Ru.aP (h2 _ U.gr λc=>S (bb c).2)
  have U:=U.bZ hg;refine ah ?_;exact Ru.wk (ih _ _ a (I ⟨cz,g1⟩) U.tail.tail)
 refine Ru.exitTo ?_;rw[aeI ab]at a;have b':=a.len;refine ah ?_;refine Ru.nm λS1 M1 J p=>?_;refine Ru.bM p (up (P:=λm=>(∀x,x<m->f.getD x false=true)->Ru ac _ S1 ([(gf,aN m)]++pk M1 [p1,p3]) u) n (λm hm D eG=>?_) 0 ab (λx C=>by omega));subst J;subst p;refine Ru.loop ?_;refine ah ?_;refine Ru.cond (λd=>?_) (λd=>?_)
 .have a8:(f.map AV.bool)[0+m*1]?=some (.bool (f.getD m false)):=by rw[show 0+m*1=m by omega,ae5,getElem?_pos f m ab,bm ab];rfl
  refine ah ?_;refine RO.dh U 0 (hv:=a8) ?_;refine ah ?_;refine Ru.eh (λE=>?_) (λE=>?_);·refine ah ?_;exact Ru.aP (h2 _ U.gr λc=>by have l:=(a.bt m d).2 (by by_cases e:m<F;exact .inl e;exact .inr (c.all m ab ab));rw[l]at E;simp at E)
  refine ah ?_;exact Ru.wk (D (m+1) ab ab λx C=>by
   by_cases e:x=m;·subst e;simpa using E
   exact eG x ab)
 refine Ru.exitTo ?_;refine ah ?_;exact Ru.aP (h1 _ U.gr ⟨f1,f2,by rw[W,y];exact f3,f4,f5,λb hb x C=>by obtain⟨i,hi,rfl⟩:=aeB hb;exact(I i hi ab).1 x C,λb hb=>by obtain⟨i,hi,rfl⟩:=aeB hb;exact(I i hi ab).2,a.nd,λv hv=>by rw[W,y];exact a.rg v hv,λv d5 d6=>by rw[y]at d5;rw[W]at d6;have d7:v.toNat<n:=ab;have:=(a.bt _ d7).1 (eG _ ab);rw[Int.toNat_of_nonneg ab]at this;exact this.resolve_left ab⟩)
end
end
section
section
variable{W:Nat->List Nat}{aB ranks:List Nat}{up:List Int}{n:Nat}{B H:ai}{a:AV}
theorem iA.via{d j b:Nat}(h:iA W d b):iA W j b\/iA W d j:=by
 induction h with
 |zero h=>
  by_cases e:0=j;·subst e;exact .inr (.zero h)
  exact .inl (.zero e)
 | @step y x g f i c=>
  rcases c with c|c
  .by_cases e:x=j;·subst e;exact .inr (.step g f i)
   exact .inl (.step c f e)
  exact .inr c
theorem KJ(h0:0∈aB)(j:∀y∈aB,∀x∈W y,x∈aB)(q:∀b∈aB,∀x∈W b,mU up b x){d b:Nat}(h:ey up d b):dZ W d b:=λf=>by
 have key:∀b,iA W d b->b∈aB/\¬ey up d b:=by
  intro b f;induction f with
  |zero h=>refine⟨h0,λg=>?_⟩;generalize r:(0:Nat)=z at*;cases g with|refl=>exact h rfl|step _ i _=>exact i r.symm
  | @step y x t p i s=>obtain⟨e,k⟩:=s;refine⟨j y e x p,λg=>?_⟩;cases g with|refl=>exact i rfl| @step _ c u l o=>obtain⟨m,h1,h2⟩:=q y e x p l;have:m=c:=ab;subst this;exact k (o.trans h2)
 exact(key b f).2 h
structure yN(W:Nat->List Nat)(aB ranks:List Nat)(n:Nat)(up:List Int):Prop where
 KK:mT W aB ranks n up
 all:∀b∈aB,0<=up.getD b (-1)
 zero:0∈aB
 cl:∀y∈aB,∀x∈W y,x∈aB
 ed:∀b∈aB,∀x∈W b,mU up b x
theorem yN.D2(h:yN W aB ranks n up){d b:Nat}(hb:b∈aB)(h0:b≠0)(e:d≠b):∃i:Nat,up.getD b (-1)=i/\i∈aB/\ranks.getD i 0<ranks.getD b 0/\(dZ W d i↔dZ W d b):=by obtain⟨_,i,h1,h2,h3,_,f⟩:=h.KK.ok b h0 (h.all b hb);have c:dZ W i b:=KJ h.zero h.cl h.ed (.step h1 h0 .refl);exact⟨i,h1,h2,h3,λhd g=>(iA.via g).elim c hd,λhd=>f d hd e⟩
theorem Zk(T:Tb ac)(hT:yN W aB ranks n up)(k:∀b∈aB,b<n)(hg:aZ B H)(hs:Sl B 1 ((up.set 0 (-1)).map aI) n a){d b:Nat}(hb:b∈aB){K:KT}(i:∀r:Bool,(r=true↔dZ W d b)->K (.bool r) H):YN ac UQ [a,aN d,aN b] H K:=by
 have j:=hT.KK.len;have⟨z,_,_,_⟩:=hs.all;have l:Sl B 1 ((up.set 0 (-1)).map aI) (up.set 0 (-1)).length a:=by rw[afQ,j];exact hs
 refine YF.code T.WB aC ?_;refine ah ?_;refine Ru.nm λS M u s=>?_;refine Ru.bM s (dn (P:=λm=>∀b:Int,((b= -1/\K (.bool false) H)\/∃c:Nat,b=(c:Int)/\ranks.getD c 0+1=m/\c∈aB/\∀r:Bool,(r=true↔dZ W d c)->K (.bool r) H)->Ru ac _ S ([(p2,aI b)]++pk M [p0,p1]) H) (λm t b hb=>?_) _ (b:Int) (.inr ⟨b,rfl,rfl,hb,i⟩));subst u;subst s;rcases hb with⟨rfl,v⟩|⟨c,rfl,A,hc,i⟩;·refine Ru.loop ?_;refine ah ?_;refine Ru.exitTo ?_;refine ah ?_;refine Ru.aP ?_;simpa using v
 have p:=k c hc;refine Ru.loop ?_;refine ah ?_;refine Ru.cond (λf=>?_) (λf=>?_)
 .have f:d≠c:=λe=>by subst e;simp at f
  refine ah ?_;refine RO.iE hg l (λq o hj g=>?_) (j:=c) (hj:=by rw[afQ,j];exact p);by_cases h0:c=0
  .subst h0;have e:(up.set 0 (-1))[0]'hj= -1:=by rw[List.getElem_set_self]
   rw[e]at g;refine RO.bk ?_ (hc:=g);refine ah ?_;exact Ru.wk (t 0 ab (-1) (.inl ⟨rfl,i false ⟨λh=>(by cases h),λh=>absurd h.zero f⟩⟩))
  obtain⟨C,h1,h2,h3,w⟩:=hT.D2 hc h0 f;have e:(up.set 0 (-1))[c]'hj=(C:Int):=by rw[List.getElem_set_ne (λe=>h0 e.symm),<-h1,bm]
  rw[e]at g;refine RO.bk ?_ (hc:=g);refine ah ?_;exact Ru.wk (t (ranks.getD C 0+1) ab (C:Int) (.inr ⟨C,rfl,rfl,h2,λr x=>i r (x.trans w)⟩))
 have f:d=c:=aeW λe=>f (by simp;exact λy=>e y.symm);subst f;refine Ru.exitTo ?_;refine ah ?_;refine Ru.aP ?_;simpa using i true ⟨λ_=>KJ hT.zero hT.cl hT.ed .refl,λ_=>rfl⟩
theorem Zl(T:Tb ac)(hT:yN W aB ranks n up)(e:∀b∈aB,b<n)(hg:aZ B H)(hs:Sl B 1 ((up.set 0 (-1)).map aI) n a){d b:Nat}(hb:b∈aB){K:KT}(f:∀r:Bool,(r=true↔d≠b/\dZ W d b)->K (.bool r) H):YN ac UR [a,aN d,aN b] H K:=by
 have⟨i,_,_,_⟩:=hs.all;refine YF.code T.WC aC ?_;refine ah ?_;refine RO.bT (λc=>?_) (λc=>?_);·refine ah ?_;refine RO.cl (Zk T hT e hg hs hb λr g=>?_);refine ah ?_;exact Ru.aP (f r ⟨λh=>⟨c,g.1 h⟩,λh=>g.2 h.2⟩)
 refine ah ?_;exact Ru.aP (f false ⟨λh=>(by cases h),λh=>absurd h.1 c⟩)
end
end
end
end Go.ak.R
end
