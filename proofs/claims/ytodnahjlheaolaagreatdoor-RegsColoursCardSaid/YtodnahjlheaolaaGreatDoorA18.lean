/- A part. No conditions. -/
import Derived.Test.YtodnahjlheaolaaGreatDoorA17
import Derived.Test.YtodnahjlheaolaaGreatDoorA16
set_option linter.all false
set_option maxHeartbeats 16000000
open List renaming replicate->ab7
open List.Sublist renaming cons_cons->aiy
noncomputable section
namespace Go.al
theorem ak.ne{A H:ai}{k:List Th}{t m:Th}{q r:ah}(U:ak A H k)(i j:Nat)(hi:k[i]?=some t)(hj:k[j]?=some m)(l:i≠j)(n:∀f,t.P H f->q∈f)(o:∀f,m.P H f->r∈f):q≠r:=by
 have⟨_,s,p⟩:=U;rcases Nat.lt_or_gt_of_ne l with h|h;·have⟨f,g,h1,h2,h3⟩:=p.kh hi hj h;exact λe=>h3 q (n f h1) (by rw[e];exact o g h2)
 have⟨f,g,h1,h2,h3⟩:=p.kh hj hi h;exact λe=>h3 r (o f h1) (by rw[<-e];exact n g h2)
theorem tS.tP{H:ai}{f:List ah}{e size n k cap:Nat}{j:List AV}{i ex:Bool}{q:ah}(h:(tS e size j n i (.slice q 0 k cap ex)).P H f):q∈f:=by
 rcases h with⟨_,_,_,h⟩|⟨m,o,aK,cap,l,rfl,h2,_⟩;·cases h
 injection h2 with h2;subst h2;exact acj ..
theorem Sl.move{H j:ai}{size n o m cap:Nat}{t:List AV}{ex:Bool}{q:ah}(h:Sl H size t n (.slice q o m cap ex))(hg:j.get q=H.get q)(u:H.next.ap<=j.next.ap):Sl j size t n (.slice q o m cap ex):=by
 rcases h with⟨h,_⟩|⟨i,v,f,k,D,w,e,l,aK,fz,x,y,z,A,B,C,p⟩;·cases h
 injection x with h1 h2 h3 r s;subst h1;exact .inr ⟨_,v,f,k,D,w,e,l,aK,fz,by rw[h2,h3,r,s],by rw[hg];exact y,z,A,B,ahC C u,p⟩
theorem tB.tP{H:ai}{f:List ah}{e:Nat}{i:List AV}{q:ah}(h:(tB e q i).P H f):q∈f:=h.1
end Go.al
namespace Go.al.R
open Go.al
variable{ac:Nat->aX}
section
variable{g:G.aM}{a c:AV}{b:ah}{H:ai}{come:List Bool}{os:List (List bp)}{d:List AV}
theorem LU{l:List Nat}(h:l.Nodup){i j:Nat}(hi:i<l.length)(hj:j<l.length)(e:l[i]=l[j]):i=j:=by
 have h2:=List.pairwise_iff_getElem.1 h;rcases Nat.lt_trichotomy i j with h3|h3|h3;·exact absurd e (h2 i j hi hj h3)
 .exact h3
 exact absurd e.symm (h2 j i hj hi h3)
theorem qR:∀(n:Nat)(l:List Nat),l.Nodup->(∀x∈l,x<n)->l.length<=n
 |0,l,_,h=>by cases l with|nil=>simp|cons j l=>exact absurd (h j (acj ..)) aa
 |n+1,l,hd,h=>by
  by_cases i:n∈l
  .have h1:=qR n (l.erase n) (hd.erase n) λx f=>by rw[hd.mem_erase_iff]at f;have:=h x f.2;omega
   rw[List.length_erase_of_mem i]at h1;omega
  have:=qR n l hd λx f=>by have:=h x f;have:x≠n:=λe=>i (e▸f);omega
  omega
theorem ab1{W:Nat->List Nat}{am f:List Nat}{n:Nat}(h:0<n):oz W am f n ((ab7 n (-1:Int)).set 0 0):=by
 have e:∀x,((ab7 n (-1:Int)).set 0 0).getD x (-1)=if x=0 then 0 else -1:=λx=>by
  rw[dA (by simpa using h)];split;·rfl
  simp[ahi,ahX];split<;>rfl
 exact⟨aC,by rw[e,aF rfl],λi=>by rw[e];split<;>omega,λi hb h=>by rw[e,an hb]at h;omega⟩
theorem ab2(T:Tb ac)(hB:G.Sm g)(hE:fE g)(hX:GX g H b a c come os d)(hK:b8 g come os){K:KT}(h:∀H' v am ranks up,eF g come os am->Rk (wW g os) am ranks->oz (wW g os) am ranks g.aj.length up->(∀e8∈am,0<=up.getD e8 (-1))->(∀e8∈am,∀x∈wW g os e8,oB up e8 x)->ak H H' [tS 3 1 ((up.set 0 (-1)).map aI) g.aj.length true v]->K v H'):YN ac Xs [.aD b 0] H K:=by
 have d2:=hB.nb;have ax:=hK.lt hK.c0;have⟨hd,_,_,hn⟩:=hX.bl.all;have ay:=hX.ju.aE;have n:=hX.ju.lt;refine YF.code T.Z2 aC (au ?_);refine RO.cl (FN T hB hE hX hK λH1 vo am O U=>?_);have⟨d3,d4,d5,d6⟩:=(U.sl 0 rfl).all;refine ab ?_;refine RO.aW ?_ (hc:=by rw[U.gr.aY n];exact ay);refine ab ?_;refine RO.jq U (n:=g.aj.length) (λH2 P U=>?_) (hz:=by rw[eE];simp);have er:dZ [AV.int 3 (.ofNat 0)] g.aj.length=(ab7 g.aj.length 0).map aN:=by rw[eE,aio]
 rw[er]at U;refine RO.iE U 1 (λH3 qx U=>ab ?_) (n:=1) (ws:=[aI (-1)]);have d7:=(U.vA 0 rfl);have d':=(U.vA 1 rfl);refine RO.qP (is:=[qx,P]) (v:=a) (by rw[U.gr.aY n];exact ay) (by simp only[ac2,ahv,or_false,not_or];exact⟨λe=>by rw[e]at n;omega,λe=>by rw[e]at n;omega⟩) (λHU hs a1=>?_);have U:=U.bI a1 hs;refine ab ?_;refine RO.dL U λH4 Y U=>RO.dL U λH5 Z U=>?_;have n1:qx≠Z:=U.ne 2 0 rfl rfl bt (λ_ h=>tS.tP h) λ_ h=>tB.tP h;have n2:qx≠Y:=U.ne 2 1 rfl rfl bt (λ_ h=>tS.tP h) λ_ h=>tB.tP h;have n3:qx≠P:=U.ne 2 3 rfl rfl bt (λ_ h=>tS.tP h) λ_ h=>tS.tP h;have ea:=(U.pQ 0 rfl).2;have eb:=(U.pQ 1 rfl).2;have ec:=(U.vA 3 rfl).2;have cy:=U.sl 2 rfl;refine RO.sn (is:=[Z,Y,P]) (Q:=λv ns=>∃q,v=.slice q 0 g.aj.length g.aj.length true/\ns=[tS 3 1 (ab7 (g.aj.length*1) (aI (-1))) g.aj.length true (.slice q 0 g.aj.length g.aj.length true)]) U (λj hj=>by simp only[ac2,ahv,or_false]at hj;rcases hj with rfl|rfl|rfl<;>assumption) (λH0 a1 hs=>LO T (u:=aI (-1)) rfl (cy.move (hs qx (by simp only[ac2,ahv,or_false,not_or];exact⟨n1,n2,n3⟩)) (by rw[a1];exact aeE _)) aa λH' q U=>⟨_,U,q,rfl,rfl⟩) (λv ns HU hQ ei U=>?_);obtain⟨qu,rfl,rfl⟩:=hQ;refine⟨λaf cE=>ev cE rfl rfl hd hX.bl.bI (by rw[U.gr.aY n];exact ay) rfl,?_⟩;refine RO.dO U 2 (λH6 U=>RO.dO U 1 (λH7 U=>?_));have eu:ab7 (g.aj.length*1) (aI (-1))=(ab7 g.aj.length (-1)).map aI:=by rw[aiE,aio]
 rw[eu]at U;have U:ak H H7 (vC Y Z P qu g.aj.length (ab7 g.aj.length 0) (ab7 g.aj.length (-1))++(tS 3 1 (am.map aN) am.length true vo::[tS 3 1 [aI (-1)] 1 true (.slice qx 0 1 1 true)])):=(((((U.ep 3 rfl).ep 5 rfl).ep 2 rfl).ep 5 rfl).ep 4 rfl).ep 5 rfl;refine ab ?_;have t:∀e8∈am,e8<g.aj.length:=λe8 hb=>hK.lt ((O.mem e8).1 hb);have ej:am.length<=g.aj.length:=qR _ _ O.nd t;refine Ru.nm λS M hS F=>Ru.bH F (up (P:=λk=>∀u ranks,ranks.length=g.aj.length->(∀i(h:i<am.length),i<k->ranks.getD am[i] 0=i)->ak H u (vC Y Z P qu g.aj.length ranks (ab7 g.aj.length (-1))++(tS 3 1 (am.map aN) am.length true vo::[tS 3 1 [aI (-1)] 1 true (.slice qx 0 1 1 true)]))->Ru ac _ S ([(xK,aN k)]++pk M [p0,p3,p4,p5,xG,xJ]) u) am.length (λk hk ih u ranks J b3 U=>?_) 0 aa _ _ aC (λi _ h=>by omega) U);subst hS;subst F;refine Ru.loop (au ?_);refine Ru.cond (λn=>?_) (λn=>?_)
 .have ek:=t _ (abO n);refine ab ?_;refine RO.ic (aR.refl u) (U.sl 4 rfl) (λq o hj a2=>RO.aW (ab ?_) (hc:=a2));refine RO.fD (f:=aN) (zs:=ranks) (n:=g.aj.length) U 2 k J (λH9 U=>ab ?_) (k:=am[k]);have g1:∀i(h:i<am.length),i<k+1->(ranks.set am[k] k).getD am[i] 0=i:=λi hi Q=>by
   rw[dA aa];split;·rename_i e;exact(LU O.nd hi n e).symm
   rename_i e;exact b3 i hi (by have:i≠k:=λe2=>e (by subst e2;rfl);omega)
  exact Ru.wk (ih (k+1) aa aa H9 _ (by simpa using J) g1 U)
 have D:Rk (wW g os) am ranks:=⟨O.nd,O.hd,O.aK,λi hi=>b3 i hi aa⟩;refine Ru.exitTo ?_;refine ab ?_;refine RO.fD (f:=aI) (zs:=ab7 g.aj.length (-1)) (n:=g.aj.length) U 3 0 aC (λH9 U=>?_) (k:=0) (ho:=by simpa using ax);refine ab ?_;have J:ranks.length=g.aj.length:=J;refine Ru.nm λS2 M2 hS F=>Ru.bH F (dn (P:=λm=>∀u up r us,oz (wW g os) am ranks g.aj.length up->(r=false->∀e8∈am,0<=up.getD e8 (-1)/\∀x∈wW g os e8,oB up e8 x)->(oC ranks g.aj.length up+if r then 1 else 0)=m->ak H u (vC Y Z P qu g.aj.length ranks up++(tS 3 1 (am.map aN) am.length true vo::us))->Ru ac _ S2 ([(p9,.bool r)]++pk M2 [p0,p3,p4,p5,p8]) u) (λm cR u up r us hC eC hm U=>?_) _ H9 _ true _ (ab1 ax) (λh=>by cases h) rfl U);subst hS;subst F;refine Ru.loop ?_;cases r with
 |false=>refine ab ?_;refine Ru.exitTo ?_;refine ab ?_;refine RO.fD (f:=aI) (zs:=up) (n:=g.aj.length) U 3 (-1) hC.len (λc8 U=>?_) (k:=0) (ho:=by rw[hC.len];exact ax);refine ab ?_;exact Ru.aL (h c8 _ am ranks up O D hC (λe8 hb=>(eC rfl e8 hb).1) (λe8 hb=>(eC rfl e8 hb).2) ((U.ep 3 rfl).sub (aiy _ (aiC _))))
 |true=>
  refine ab ?_;refine Ru.nm λS3 M3 hS F=>Ru.bH F (Go.al.up (P:=λk=>∀u I r us,oz (wW g os) am ranks g.aj.length I->(∀i(h:i<am.length),i<k->∀x∈wW g os am[i],0<=I.getD x (-1))->(r=false->∀i(h:i<am.length),i<k->∀x∈wW g os am[i],oB I am[i] x)->(oC ranks g.aj.length I+if r then 1 else 0)<=oC ranks g.aj.length up->ak H u (vC Y Z P qu g.aj.length ranks I++(tS 3 1 (am.map aN) am.length true vo::us))->Ru ac _ S3 ([(p9,.bool r),(tA,aN k)]++pk M3 [p0,p3,p4,p5,p8,m8,na]) u) am.length (λk hk c9 u I r us a6 b4 b6 c' U=>?_) 0 aa _ up false _ hC (λi _ h=>by omega) (λ_ i _ h=>by omega) aC U);subst hS;subst F;refine Ru.loop (au ?_);refine Ru.cond (λn=>?_) (λn=>?_)
  .have R:am[k]∈am:=abO n;have el:=D.rk k n;have a8:=(O.mem _).1 R;refine ab ?_;refine RO.ic (aR.refl u) (U.sl 4 rfl) (λq o hj a2=>RO.aW (ab ?_) (hc:=a2));refine RO.cl (FM T hB hE (hX.bN U.gr) hK a8 λHY vw hl=>?_);have⟨et,_,_,ew⟩:=(show Sl _ 1 ((wW g os am[k]).map aN) (wW g os am[k]).length vw from hl.sl 0 rfl).all;have U:ak H HY (vC Y Z P qu g.aj.length ranks I++(tS 3 1 (am.map aN) am.length true vo::tS 3 1 ((wW g os am[k]).map aN) (wW g os am[k]).length true vw::us)):=(U.cH hl).bO (ahy (l₁:=[_,_,_,_,_])).symm;have d0:(wW g os am[k]).length<=12:=by have:=Cb (now:=os.getD am[k] []) hB (hK.lt a8);simpa[wW,jU]using this
   generalize hb:am[k]=e8 at*;refine ab ?_;refine Ru.nm λS4 M4 hS F=>Ru.bH F (Go.al.up (P:=λj=>∀u f r,oz (wW g os) am ranks g.aj.length f->(∀i(h:i<am.length),i<k->∀x∈wW g os am[i],0<=f.getD x (-1))->(∀x∈(wW g os e8).take j,0<=f.getD x (-1))->(r=false->(∀i(h:i<am.length),i<k->∀x∈wW g os am[i],oB f am[i] x)/\∀x∈(wW g os e8).take j,oB f e8 x)->(oC ranks g.aj.length f+if r then 1 else 0)<=oC ranks g.aj.length up->ak H u (vC Y Z P qu g.aj.length ranks f++(tS 3 1 (am.map aN) am.length true vo::tS 3 1 ((wW g os e8).map aN) (wW g os e8).length true vw::us))->Ru ac _ S4 ([(p9,.bool r),(uV,aN j)]++pk M4 [p0,p3,p4,p5,p8,eD,m8,na,tA,sc,uU]) u) (wW g os e8).length (λj hj V u f r p W b7 X L U=>?_) 0 aa _ I r a6 b4 (λx l=>by simp at l) (λh=>⟨b6 h,λx l=>by simp at l⟩) c' U);subst hS;subst F;refine Ru.loop (au ?_);refine Ru.cond (λb'=>?_) (λb'=>?_)
   .have ag:=p.len;have ca:(wW g os e8)[j]∈wW g os e8:=abO b';have dm:=hK.il a8 ca;have N:=(O.mem _).2 dm;have cd:=t _ N;have a':0<=f.getD e8 (-1):=by
     by_cases h0:e8=0;·rw[h0,p.u0];omega
     obtain⟨y,hy,hw,ba⟩:=D.bY R h0;obtain⟨i,hi,rfl⟩:=ahd hy;rw[D.rk i hi]at ba;exact W i hi aa e8 hw
    refine ab ?_;refine RO.ic (aR.refl u) (U.sl 5 rfl) (λq2 o2 e0 cv=>RO.aW ?_ (hc:=cv));have av:∀e',ey (wW g os) e' (wW g os e8)[j]->e'≠(wW g os e8)[j]->ey (wW g os) e' e8:=λe' hd hn=>hd.bY ca hn;have cf:(wW g os e8).take (j+1)=(wW g os e8).take j++[(wW g os e8)[j]]:=by rw[ahb]
    generalize(wW g os e8)[j]=to at*;have w:∀u3:List Int,(∀x,0<=f.getD x (-1)->0<=u3.getD x (-1))->0<=u3.getD to (-1)->(∀i(h:i<am.length),i<k->∀x∈wW g os am[i],0<=u3.getD x (-1))/\∀x∈(wW g os e8).take (j+1),0<=u3.getD x (-1):=λu3 h1 h2=>⟨λi hi Q x l=>h1 x (W i hi Q x l),λx l=>by
     rw[cf]at l;rcases ac6.1 l with l|l;·exact h1 x (b7 x l)
     rw[abt]at l;rw[l];exact h2⟩;have cn:oB f e8 to->r=false->(∀i(h:i<am.length),i<k->∀x∈wW g os am[i],oB f am[i] x)/\∀x∈(wW g os e8).take (j+1),oB f e8 x:=λhe h=>⟨(X h).1,λx l=>by
     rw[cf]at l;rcases ac6.1 l with l|l;·exact(X h).2 x l
     rw[abt]at l;rw[l];exact he⟩;have aw:∀(now:Nat)(x:Nat),(f.set to (now:Int)).getD x (-1)=if x=to then(now:Int)else f.getD x (-1):=λnow x=>dA aa;have C:∀(now:Nat),(∀x,0<=f.getD x (-1)->0<=(f.set to (now:Int)).getD x (-1))/\0<=(f.set to (now:Int)).getD to (-1):=λnow=>⟨λx l=>by
     rw[aw];split;·omega
     exact l,by rw[aw,aF rfl];omega⟩;refine ab ?_;by_cases hu:f.getD to (-1)= -1
    .have bb:to≠0:=λe=>by rw[e,p.u0]at hu;omega
     refine RO.cJ U 3 (v:=aI (-1)) (hv:=by rw[qQ (-1) aa,hu]) (ab ?_);refine RO.bP (λ_=>ab ?_) (λh=>absurd bb h);refine RO.cJ U 3 (v:=aI (-1)) (hv:=by rw[qQ (-1) aa,hu]) (ab ?_);refine RO.fD (f:=aI) (zs:=f) (n:=g.aj.length) U 3 (e8:Int) ag (λbc U=>ab ?_) (k:=to);have dr:ranks.getD e8 0<ranks.getD to 0:=by
      apply ahF;intro e1;obtain⟨e3,e2⟩:=D.at N;have e7:0<=f.getD to (-1):=by
       by_cases e4:ranks.getD to 0=k
       .have:to=e8:=by rw[<-e2,<-hb];simp only[e4]
        rw[this];exact a'
       obtain⟨y,hy,hw,ba⟩:=D.bY N bb;obtain⟨i,hi,rfl⟩:=ahd hy;rw[D.rk i hi]at ba;exact W i hi aa to hw
      omega
     have bv:=p.set D N cd bb R a' dr av;have ds:=LS (ranks:=ranks) (n:=g.aj.length) (up:=f) (k:=to) (now:=e8) aa (by rw[aF aa];omega);obtain⟨A,B⟩:=w _ (C e8).1 (C e8).2;have b0:(oC ranks g.aj.length (f.set to (e8:Int))+if true then 1 else 0)<=oC ranks g.aj.length up:=by rw[aF rfl];split at L<;>omega
     exact Ru.wk (V (j+1) aa aa bc _ true bv A B (λh=>by cases h) b0 U)
    obtain⟨e9,E⟩:∃e9:Nat,f.getD to (-1)=e9:=⟨(f.getD to (-1)).toNat,by have:=p.rg to;omega⟩;have hA:e9∈am/\0<=f.getD e9 (-1)/\(to≠0->ranks.getD e9 0<ranks.getD to 0/\∀e',ey (wW g os) e' to->e'≠to->ey (wW g os) e' e9):=by
     by_cases h0:to=0
     .have:e9=0:=by rw[h0,p.u0]at E;omega
      rw[this];exact⟨D.zero.1,by rw[p.u0];omega,λh=>absurd h0 h⟩
     obtain⟨_,d1,h1,h2,h3,h4,h5⟩:=p.ok to h0 aa;have:e9=d1:=aa;subst this;exact⟨h2,h4,λ_=>⟨h3,h5⟩⟩
    obtain⟨cp,dv,dx⟩:=hA;refine RO.cJ U 3 (v:=aN e9) (hv:=by rw[qQ (-1) aa,E];rfl) ?_;refine ab ?_;refine RO.cJ U 3 (v:=aN e9) (hv:=by rw[qQ (-1) aa,E];rfl) ?_;refine ab ?_;refine RO.cl (ab0 T D p J aa t U cp R dv a' λm2 s=>?_);have e5:=t _ s.mem;refine ab ?_;refine RO.bP (λh0=>?_) (λh0=>?_)
    .have h0:to≠0:=h0;obtain⟨e6,dy⟩:=dx h0;refine ab ?_;refine RO.cJ U 3 (v:=aN e9) (hv:=by rw[qQ (-1) aa,E];rfl) ?_;refine ab ?_;refine Ru.cond (λz=>?_) (λz=>?_)
     .have z:e9≠m2:=z;refine ab ?_;refine RO.fD (f:=aI) (zs:=f) (n:=g.aj.length) U 3 (m2:Int) ag (λbc U=>ab ?_) (k:=to);have dz:ranks.getD m2 0<ranks.getD e9 0:=Nat.lt_of_le_of_ne s.ra λe=>z (D.inj cp s.mem e.symm);have bv:=p.set D N cd h0 s.mem s.df aa (λe' hd hn=>s.ef e' (dy e' hd hn) (av e' hd hn));have ds:=LS (ranks:=ranks) (n:=g.aj.length) (up:=f) (k:=to) (now:=m2) aa (by rw[an aa,E,aeY];exact dz);obtain⟨A,B⟩:=w _ (C m2).1 (C m2).2;have b0:(oC ranks g.aj.length (f.set to (m2:Int))+if true then 1 else 0)<=oC ranks g.aj.length up:=by rw[aF rfl];split at L<;>omega
      exact Ru.wk (V (j+1) aa aa bc _ true bv A B (λh=>by cases h) b0 U)
     refine ab ?_;obtain⟨A,B⟩:=w f (λ_ h=>h) aa;have cx:e9=m2:=aix.1 z;exact Ru.wk (V (j+1) aa aa u f r p A B (cn λ_=>⟨e9,E,by rw[cx];exact s.FQ⟩) L U)
    refine ab ?_;obtain⟨A,B⟩:=w f (λ_ h=>h) aa;exact Ru.wk (V (j+1) aa aa u f r p A B (cn λh9=>absurd h9 h0) L U)
   refine Ru.exitTo ?_;refine ab ?_;have g1:∀i(h:i<am.length),i<k+1->∀x∈wW g os am[i],0<=f.getD x (-1):=λi hi Q x l=>by
    by_cases e:i=k;·subst e;rw[hb]at l;exact b7 x (by rw[aho aa];exact l)
    exact W i hi aa x l
   have g2:r=false->∀i(h:i<am.length),i<k+1->∀x∈wW g os am[i],oB f am[i] x:=λh9 i hi Q x l=>by
    by_cases e:i=k;·subst e;rw[hb]at l⊢;exact(X h9).2 x (by rw[aho aa];exact l)
    exact(X h9).1 i hi aa x l
   exact Ru.wk (c9 (k+1) aa aa u f r _ p g1 g2 L U)
  refine Ru.exitTo (ab ?_);have g1:r=false->∀e8∈am,0<=I.getD e8 (-1)/\∀x∈wW g os e8,oB I e8 x:=λh9 e8 hb=>by
   refine⟨?_,λx l=>by obtain⟨i,hi,rfl⟩:=ahd hb;exact b6 h9 i hi aa x l⟩;by_cases h0:e8=0;·rw[h0,a6.u0];omega
   have⟨y,hy,hw,_⟩:=D.bY hb h0;obtain⟨i,hi,rfl⟩:=ahd hy;exact b4 i hi aa e8 hw
  rw[aF rfl]at hm;exact Ru.wk (cR _ aa u I r us a6 g1 rfl U)
end
end Go.al.R
namespace Go.al.R
section
variable{ac:Nat->aX}
end
variable{A B b d:Nat}{C:KT}{D E:ai}{F:AV}
section
variable{ac:Nat->aX}
def eM(l:List G.dY):List Int:=(l.map (·.to)).filter λt=>decide (0<=t)
def dN(b:G.dI):List Int:=b.i4++eM b.aB
structure kX(g:G.aM)(x:G.dY):Prop where
 op:x.op∉qU
 w:(lS x.op).w≠ []
 r:vG x g.aO (nB x.op x.m)
structure vH(n np:Nat)(gs:List Bool)(hist:List Int):Prop where
 len:gs.length=n
 nd:hist.Nodup
 rg:∀v∈hist,(np:Int)<=v/\v<n
 bq:∀v:Nat,v<n->(gs.getD v false=true↔v<np\/(v:Int)∈hist)
structure dT(g:G.aM):Prop where
 i7:jS g.i7
 p0:0<=g.i4
 p1:g.i4<=g.aO
 ne:0<g.aj.length
 first:(g.aj.getD 0 default).i4=[]
 aB:∀b∈g.aj,∀x∈b.aB,kX g x
 yo:∀b∈g.aj,mw g b.aq
 nd:(g.aj.flatMap dN).Nodup
 rg:∀v∈g.aj.flatMap dN,g.i4<=v/\v<g.aO
 all:∀v:Int,g.i4<=v->v<g.aO->v∈g.aj.flatMap dN
theorem Gh{l:List G.dY}{x:G.dY}:eM (l++[x])=eM l++if 0<=x.to then[x.to]else[]:=by simp only[eM,ahx,List.filter_append];by_cases h:0<=x.to<;>simp[h]
theorem vH.add{i:List Bool}{c:List Int}(h:vH A B i c)(j:d<A)(hg:i.getD d false=false):vH A B (i.set d true) (c++[(d:Int)]):=by
 have hl:=h.len;have h1:¬(d<B\/(d:Int)∈c):=λe=>by rw[(h.bq d j).2 e]at hg;cases hg
 rw[not_or]at h1;refine⟨by simpa using hl,?_,λx f=>?_,λx f=>?_⟩;·rw[ahZ];refine⟨h.nd,aC,λa k b hb=>?_⟩;rw[abt]at hb;subst hb;exact λe=>h1.2 (e▸k)
 .rcases ac6.1 f with f|f;·exact h.rg x f
  rw[abt]at f;omega
 rw[dA aa,ac6,abt];by_cases e:x=d;·subst e;simp
 rw[an e,h.bq x f];have:¬(x:Int)=d:=aa;simp[this]
section
variable{g:G.aM}{cs:List AV}
theorem acz(T:Tb ac)(hg:dc D g cs)(hB:G.Sm g)(hY:ml g)(ec:g.i7.length<=60)(cx:g.aO<=6000)(h1:∀H',aR D H'->dT g->C (.bool true) H')(h2:∀H',aR D H'->¬dT g->C (.bool false) H'):YN ac Wf [.agg cs] D C:=by
 have d':=hg.one;have bc:=hg;obtain⟨vb,rfl,bz⟩:=hg;have⟨ei,_,_,ej⟩:=bz.all;have ek:=hB.nb;refine YF.code T.YC aC (Ru.seq (Ru.region (RO.bZ (ak.bM D) λH1 q U=>?_)));have U:ak D H1 [tB cA q [.str g.i7,aI g.i4,aI g.aO,vb]]:=U;refine RO.bf (RO.nil (Ru.seq (Ru.oJ (P:=λM H'=>M=[(p1,.aD q 0)]/\jS g.i7/\0<=g.i4/\g.i4<=g.aO/\0<g.aj.length/\(g.aj.getD 0 default).i4=[]/\ak D H' [tB cA q [.str g.i7,aI g.i4,aI g.aO,vb]]) (λM H2⟨hM,f1,f2,f3,f4,f5,U⟩=>?_) (λs' bb=>?_))));rotate_left
 .refine ab ?_;refine RO.cl (Cm T hY.nm aa (λg1=>?_) λW=>?_);rotate_left;·refine ab ?_;exact Ru.aL (h2 _ U.gr λc=>W c.i7)
  refine ab ?_;refine RO.cl (oF T (λg2 I=>?_) (λW=>?_));rotate_left;·refine ab ?_;exact Ru.aL (h2 _ U.gr λc=>W ⟨c.p0,c.p1⟩)
  have g2:0<=g.i4:=g2;refine ab ?_;refine RO.bP (λX=>?_) (λX=>?_);·refine ab ?_;exact Ru.aL (h2 _ U.gr λc=>by have l:=c.ne;omega)
  have a1:0<g.aj.length:=aa;refine ab ?_;refine RO.bL U.gr bz (λq1 o1 c1 cy Z cE hat hrd=>?_) (j:=0);obtain⟨vp,ag,jc,rfl,av,_⟩:=Z;have⟨cR,_,_,c8⟩:=av.all;refine ab ?_;refine Ru.cond (λg5=>?_) (λg5=>?_);·refine ab ?_;exact Ru.aL (h2 _ U.gr λc=>by have l:=c.first;rw[aZ a1]at l;simp[l]at g5)
  refine ab ?_;exact bb _ _ _ ⟨rfl,g1,g2,I,a1,by rw[aZ a1];exact ahz aa,U⟩ dw
 subst hM;obtain⟨n,Y⟩:∃n:Nat,g.aO=n:=⟨g.aO.toNat,aa⟩;obtain⟨J,y⟩:∃n:Nat,g.i4=n:=⟨g.i4.toNat,aa⟩;rw[Y,y]at U bc;rw[Y]at cx f3;rw[y]at f3;refine ab ?_;refine RO.jq U (n:=n) (λH3 qg U=>?_) (hz:=by rw[eE];simp);have ay:vH n 0 (ab7 n false) []:=⟨aC,aiP,λv hv=>(by cases hv),λv hv=>by simp[ahi,ahX,hv]⟩;have U:ak D H3 [tS 4 1 ((ab7 n false).map .bool) n true (.slice qg 0 n n true),tB cA q [.str g.i7,aI J,aI n,vb]]:=by rw[eE]at U;rw[aio];exact U
 refine ab ?_;refine Ru.nm λS0 M hS hM=>Ru.bH hM (up (P:=λk=>∀u f,vH n k f []->ak D u [tS 4 1 (f.map .bool) n true (.slice qg 0 n n true),tB cA q [.str g.i7,aI J,aI n,vb]]->Ru ac _ S0 ([(p4,aN k)]++pk M [p1,p3]) u) J (λk hk ih u f a U=>?_) 0 aa _ _ ay U);subst hS;subst hM;refine Ru.loop (ab ?_);refine Ru.cond (λc9=>?_) (λc9=>?_)
 .refine ab ?_;refine RO.fD U 0 true a.len (λH4 U=>?_) (k:=k) (ho:=by rw[a.len];omega);refine ab ?_;exact Ru.wk (ih (k+1) aa aa H4 _ ⟨by simpa using a.len,aiP,λv hv=>(by cases hv),λv hv=>by
   rw[dA (by rw[a.len];omega)];by_cases e:v=k;·subst e;simp
   rw[an e,a.bq v hv];simp;omega⟩ U)
 refine Ru.exitTo ?_;obtain rfl:J=k:=aa;refine ab ?_;clear ay ih;refine Ru.nm λS0 M hS hM=>Ru.bH hM (up (P:=λk=>∀u f,vH n J f ((g.aj.take k).flatMap dN)->(∀x(h:x<g.aj.length),x<k->(∀s∈g.aj[x].aB,kX g s)/\mw g g.aj[x].aq)->ak D u [tS 4 1 (f.map .bool) n true (.slice qg 0 n n true),tB cA q [.str g.i7,aI J,aI n,vb]]->Ru ac _ S0 ([(p5,aN k)]++pk M [p1,p3]) u) g.aj.length (λk hk ih u f a L U=>?_) 0 aa _ f a (λx _ E=>by omega) U);subst hS;subst hM;refine Ru.loop (ab ?_);refine Ru.cond (λP=>?_) (λP=>?_)
 .have o:=abO P;have el:=hB.bl _ o;have c':=hB.st _ o;have dm:=hB.ed _ o;have dr:=hY.st _ o;have ds:=hY.fn _ o;have dv:=hY.kd _ o;have a2:g.aj.take (k+1)=g.aj.take k++[g.aj[k]]:=(ahb P).symm;have ih:=ih (k+1) aa aa;rw[a2,ahH,ahW]at ih;have L:(∀s∈g.aj[k].aB,kX g s)/\mw g g.aj[k].aq->∀x(h:x<g.aj.length),x<k+1->(∀s∈g.aj[x].aB,kX g s)/\mw g g.aj[x].aq:=λhb x E h=>by
   by_cases e:x=k;·subst e;exact hb
   exact L x E aa
  have bv:dT g->(∀s∈g.aj[k].aB,kX g s)/\mw g g.aj[k].aq:=λc=>⟨c.aB _ o,c.yo _ o⟩;have b0:dT g->∀v∈dN g.aj[k],g.i4<=v/\v<g.aO:=λc v hv=>c.rg v (ahI.2 ⟨_,o,hv⟩);have dx:dT g->((g.aj.take k).flatMap dN++dN g.aj[k]).Nodup:=λc=>by have l:=c.nd;rw[<-aig (k+1) g.aj,a2,ahH,ahH,ahW,ahZ]at l;exact l.1
  clear a2;generalize(g.aj.take k).flatMap dN=Q at*;refine ab ?_;refine RO.bL U.gr bz (λq1 o1 c1 cy Z cE hat hrd=>?_) (j:=k);have ea:=Z.one;generalize g.aj[k]=B at*;obtain⟨vp,ag,jc,rfl,av,aw,b3⟩:=Z;have cf:=b3;obtain⟨va,vk,vg,rfl,_⟩:=b3;have⟨cR,_,_,c8⟩:=av.all;have⟨et,_,_,ew⟩:=aw.all;refine ab ?_;refine RO.dD U λH5 q6 U=>ab ?_;refine RO.ir U 1 λH6 v0 U=>?_;have⟨e0,_,_,_⟩:=(U.sl 0 rfl).all;refine ab ?_;refine RO.kI U 0 (U.gr.sl av) (λH7 v1 U=>?_) (h1:=md _);have U:ak D H7 [tS 3 1 ((B.i4++eM (B.aB.take 0)).map aI) (B.i4++eM (B.aB.take 0)).length true v1,tB cS q6 [vp,ag,aU B.aq.op,va,.str B.aq.i7,vk,vg],tS 4 1 (f.map .bool) n true (.slice qg 0 n n true),tB cA q [.str g.i7,aI J,aI n,vb]]:=by rw[aiB,show eM []=[]from rfl,ah8];rw[ahw]at U;exact U
  have⟨e1,_,_,_⟩:=(U.sl 0 rfl).all;refine ab ?_;refine Ru.nm λS1 M1 N p=>Ru.bH p (up (P:=λj=>∀u lv,(∀x(h:x<B.aB.length),x<j->kX g B.aB[x])->ak D u [tS 3 1 ((B.i4++eM (B.aB.take j)).map aI) (B.i4++eM (B.aB.take j)).length true lv,tB cS q6 [vp,ag,aU B.aq.op,va,.str B.aq.i7,vk,vg],tS 4 1 (f.map .bool) n true (.slice qg 0 n n true),tB cA q [.str g.i7,aI J,aI n,vb]]->Ru ac _ S1 ([(p8,aN j),(p7,lv)]++pk M1 [p1,p3,p5,p6]) u) B.aB.length (λj hj A u lv dg U=>?_) 0 aa _ _ (λx _ E=>by omega) U);subst N;subst p;have⟨e2,_,_,b4⟩:=(U.sl 0 rfl).all;refine Ru.loop (ab ?_);refine Ru.cond (λR=>?_) (λR=>?_)
  .have a6:=abO R;have e3:=c' _ a6;have dy:=dr _ a6;have A:=A (j+1) aa aa;rw[(ahb R).symm,Gh,<-ae0]at A;have dg:kX g B.aB[j]->∀x(h:x<B.aB.length),x<j+1->kX g B.aB[x]:=λhb x E h=>by
    by_cases e:x=j;·subst e;exact hb
    exact dg x E aa
   have dz:(B.i4++eM (B.aB.take j)).length<=100:=by
    have:(eM (B.aB.take j)).length<=(B.aB.take j).length:=by unfold eM;exact aiw (List.length_filter_le _ _) aC
    rw[ae8];rw[ahU]at this;omega
   generalize B.i4++eM (B.aB.take j)=V at*;refine ab ?_;refine RO.bL U.gr aw (λq9 o9 e' a8 b6 e4 hat hrd=>?_) (j:=j);have cn:=b6;generalize E:B.aB[j]=x at*;obtain⟨e5,rfl,eb⟩:=b6;refine ab ?_;refine RO.cl (acx T (v:=(n:Int)) (bV.step U.gr cn) dy aa aa aa aa (λH8 hg g1 g2 I=>?_) (λH8 hg W=>?_));rotate_left;·have U:=U.bN hg;refine ab ?_;exact Ru.aL (h2 _ U.gr λc=>W (by have l:=(bv c).1 x a6;exact⟨l.op,l.w,by have h9:=l.r;rwa[Y]at h9⟩))
   have U:=U.bN hg;have b7:kX g x:=⟨g1,g2,by rw[Y];exact I⟩;refine ab ?_;refine RO.bL U.gr aw (λq7 o7 c7 d0 O d1 S cp=>?_) (j:=j);rw[E]at O;obtain⟨d2,rfl,cv⟩:=O;refine ab ?_;refine RO.aW (v:=aI x.to) (ab ?_) (hc:=S 1 _ rfl);refine Ru.cond (λX=>?_) (λX=>?_);·have X:0<=x.to:=X;rw[aF X]at A;refine ab ?_;refine RO.bL U.gr aw (λq7 o7 c7 d0 O d1 S cp=>?_) (j:=j);rw[E]at O;obtain⟨d2,rfl,cv⟩:=O;refine ab ?_;refine RO.aW (v:=aI x.to) (RO.push U 0 (λw0 H9 v2 U=>?_) (ws:=[aI x.to])) (hc:=S 1 _ rfl);have⟨e6,e7,e8,_⟩:=(U.sl 0 rfl).all;refine ab ?_;exact Ru.wk (A _ v2 (dg b7) (by rw[ahx,ae8];exact U))
   have X:¬0<=x.to:=X;rw[an X,ah8]at A;refine ab ?_;exact Ru.wk (A _ lv (dg b7) U)
  refine Ru.exitTo ?_;have dg:∀s∈B.aB,kX g s:=λs hs=>by obtain⟨x,E,rfl⟩:=ahd hs;exact dg x E aa
  rw[aho aa]at U b4;have d3:B.i4++eM B.aB=dN B:=rfl;rw[d3]at U b4;have dz:(dN B).length<=100:=by have:=List.length_filter_le (λt=>decide (0<=t)) (B.aB.map (·.to));rw[ahs]at this;rw[dN,eM,ae8];omega
  generalize e9:dN B=V at*;refine ab ?_;refine Ru.nm λS1 M1 N p=>?_;refine Ru.bH p (up (P:=λm=>∀u f,vH n J f (Q++V.take m)->ak D u [tS 3 1 (V.map aI) V.length true lv,tB cS q6 [vp,ag,aU B.aq.op,va,.str B.aq.i7,vk,vg],tS 4 1 (f.map .bool) n true (.slice qg 0 n n true),tB cA q [.str g.i7,aI J,aI n,vb]]->Ru ac _ S1 ([(p9,aN m)]++pk M1 [p1,p3,p5,p6,p7]) u) V.length (λm hm F u f a U=>?_) 0 aa _ f (by rw[aiB,ah8];exact a) U);subst N;subst p;have a':=U.sl 0 rfl;refine Ru.loop (ab ?_);refine Ru.cond (λd=>?_) (λd=>?_)
  .have F:=F (m+1) aa aa;rw[(ahb d).symm,<-ae0]at F;have d4:dT g->V[m]∉Q++V.take m:=λc hm=>by have l:=dx c;rw[<-aig m V,ahp d,<-ae0,ahZ]at l;exact l.2.2 _ hm _ (acj ..) rfl
   have b':=abO d;generalize Q++V.take m=h0 at*;refine ab ?_;refine RO.ic (aR.refl _) a' (λq9 o9 a8 ax=>?_) (j:=m);generalize hz:V[m]=z at*;refine ab ?_;refine RO.sub (RO.cl (oF T (λg1 g2=>?_) (λW=>?_))) (a:=(n:Int)) (b:=1);rotate_left;·refine ab ?_;exact Ru.aL (h2 _ U.gr λc=>W (by have l:=b0 c z b';rw[Y,y]at l;exact⟨by show(0:Int)<=z;omega,by show z<=(n:Int) - 1;omega⟩))
   have g1:0<=z:=g1;obtain⟨v,rfl⟩:∃v:Nat,z=v:=⟨z.toNat,aa⟩;have ca:v<n:=aa;refine ab ?_;refine RO.ic (aR.refl _) a' (λq9 o9 a8 ax=>?_) (j:=m);rw[hz]at ax;have cd:=a.len;have ba:(f.map AV.bool)[0+v*1]?=some (.bool (f.getD v false)):=by rw[show 0+v*1=v by omega,ahB,getElem?_pos f v aa,aZ aa];rfl
   refine ab ?_;refine RO.cJ U 2 (hv:=ba) (ab ?_);refine Ru.d9 (λI=>?_) (λI=>?_);·refine ab ?_;exact Ru.aL (h2 _ U.gr λc=>by have l:=(a.bq v ca).1 I;have h9:=b0 c v b';rw[Y,y]at h9;exact l.elim (λh=>by omega) (d4 c))
   refine ab ?_;refine RO.ic (aR.refl _) a' (λq9 o9 a8 ax=>?_) (j:=m);rw[hz]at ax;refine ab ?_;refine RO.fD U 2 true cd (λH9 U=>ab ?_) (k:=v) (ho:=by omega);exact Ru.wk (F _ _ (a.add ca I) U)
  refine Ru.exitTo ?_;rw[aho aa]at a;refine ab ?_;refine RO.bT U 3 (ab ?_);refine RO.bT U 1 (m:=5) (o:=2) ?_;refine RO.cl (acy T (bV.eY U.gr bc) (j:=B.aq) (bV.uJ U.gr cf) hB aa aa ds dv ⟨aa,aa,aa,aa⟩ dm (λH8 hg g1=>?_) (λH8 hg W=>?_));rotate_left;·have U:=U.bN hg;refine ab ?_;exact Ru.aL (h2 _ U.gr λc=>W (bv c).2)
  have U:=U.bN hg;refine ab ?_;exact Ru.wk (ih _ _ a (L ⟨dg,g1⟩) U.tail.tail)
 refine Ru.exitTo ?_;rw[aho aa]at a;have cd:=a.len;refine ab ?_;refine Ru.nm λS1 M1 N p=>Ru.bH p (up (P:=λm=>(∀x,x<m->f.getD x false=true)->Ru ac _ S1 ([(dS,aN m)]++pk M1 [p1,p3]) u) n (λm hm F eC=>?_) 0 aa (λx E=>by omega));subst N;subst p;refine Ru.loop (ab ?_);refine Ru.cond (λd=>?_) (λd=>?_)
 .have ba:(f.map AV.bool)[0+m*1]?=some (.bool (f.getD m false)):=by rw[show 0+m*1=m by omega,ahB,getElem?_pos f m aa,aZ aa];rfl
  refine ab ?_;refine RO.cJ U 0 (hv:=ba) (ab ?_);refine Ru.d9 (λI=>?_) (λI=>?_);·refine ab ?_;exact Ru.aL (h2 _ U.gr λc=>by have l:=(a.bq m d).2 (by by_cases e:m<J;exact .inl e;exact .inr (c.all m aa aa));rw[l]at I;simp at I)
  refine ab ?_;exact Ru.wk (F (m+1) aa aa λx E=>by
   by_cases e:x=m;·subst e;simpa using I
   exact eC x aa)
 refine Ru.exitTo ?_;refine ab ?_;exact Ru.aL (h1 _ U.gr ⟨f1,f2,by rw[Y,y];exact f3,f4,f5,λb hb x E=>by obtain⟨i,hi,rfl⟩:=ahd hb;exact(L i hi aa).1 x E,λb hb=>by obtain⟨i,hi,rfl⟩:=ahd hb;exact(L i hi aa).2,a.nd,λv hv=>by rw[Y,y];exact a.rg v hv,λv d5 d6=>by rw[y]at d5;rw[Y]at d6;have d7:v.toNat<n:=aa;have:=(a.bq _ d7).1 (eC _ aa);rw[Int.toNat_of_nonneg aa]at this;exact this.resolve_left aa⟩)
end
end
section
variable{ac:Nat->aX}
section
variable{W:Nat->List Nat}{am ranks:List Nat}{up:List Int}{n:Nat}
theorem iV.via(h:iV W b A):iV W d A\/iV W b d:=by
 induction h with
 |zero h=>
  by_cases e:0=d;·subst e;exact .inr (.zero h)
  exact .inl (.zero e)
 | @step y x g f i c=>
  rcases c with c|c
  .by_cases e:x=d;·subst e;exact .inr (.step g f i)
   exact .inl (.step c f e)
  grind
theorem LV(h0:0∈am)(i:∀y∈am,∀x∈W y,x∈am)(q:∀d∈am,∀x∈W d,oB up d x)(h:fu up b d):ey W b d:=λo=>by
 have key:∀d,iV W b d->d∈am/\¬fu up b d:=by
  intro d o;induction o with
  |zero h=>refine⟨h0,λf=>?_⟩;generalize r:(0:Nat)=z at*;cases f with|refl=>exact h rfl|step _ g _=>exact g r.symm
  | @step y x t p g s=>have⟨e,j⟩:=s;refine⟨i y e x p,λf=>?_⟩;cases f with|refl=>exact g rfl| @step _ c u k l=>have⟨m,h1,h2⟩:=q y e x p k;have:m=c:=aa;subst this;exact j (l.trans h2)
 grind
structure Ah(W:Nat->List Nat)(am ranks:List Nat)(n:Nat)(up:List Int):Prop where
 LW:oz W am ranks n up
 all:∀b∈am,0<=up.getD b (-1)
 zero:0∈am
 cl:∀y∈am,∀x∈W y,x∈am
 ed:∀b∈am,∀x∈W b,oB up b x
theorem Ah.EZ(h:Ah W am ranks n up)(hb:d∈am)(h0:d≠0)(e:b≠d):∃i:Nat,up.getD d (-1)=i/\i∈am/\ranks.getD i 0<ranks.getD d 0/\(ey W b i↔ey W b d):=by have⟨_,i,h1,h2,h3,_,f⟩:=h.LW.ok d h0 (h.all d hb);have c:ey W i d:=LV h.zero h.cl h.ed (.step h1 h0 .refl);exact⟨i,h1,h2,h3,λhd g=>(iV.via g).elim c hd,λhd=>f b hd e⟩
theorem ab3(T:Tb ac)(i:Ah W am ranks n up)(l:∀d∈am,d<n)(hg:aR E D)(hs:Sl E 1 ((up.set 0 (-1)).map aI) n F)(hb:d∈am)(j:∀r:Bool,(r=true↔ey W b d)->C (.bool r) D):YN ac XG [F,aN b,aN d] D C:=by
 have k:=i.LW.len;have⟨A,_,_,_⟩:=hs.all;have p:Sl E 1 ((up.set 0 (-1)).map aI) (up.set 0 (-1)).length F:=by rw[air,k];exact hs
 refine YF.code T.aaq aC (ab ?_);refine Ru.nm λS M v t=>Ru.bH t (dn (P:=λm=>∀d:Int,((d= -1/\C (.bool false) D)\/∃c:Nat,d=(c:Int)/\ranks.getD c 0+1=m/\c∈am/\∀r:Bool,(r=true↔ey W b c)->C (.bool r) D)->Ru ac _ S ([(p2,aI d)]++pk M [p0,p1]) D) (λm u d hb=>?_) _ (d:Int) (.inr ⟨d,rfl,rfl,hb,j⟩));subst v;subst t;rcases hb with⟨rfl,w⟩|⟨c,rfl,G,hc,j⟩;·refine Ru.loop (ab ?_);refine Ru.exitTo ?_;refine ab ?_;refine Ru.aL ?_;simpa using w
 have s:=l c hc;refine Ru.loop (ab ?_);refine Ru.cond (λf=>?_) (λf=>?_)
 .have f:b≠c:=λe=>by subst e;simp at f
  refine ab ?_;refine RO.ic hg p (λq o hj g=>?_) (j:=c) (hj:=by rw[air,k];exact s);by_cases h0:c=0
  .subst h0;have e:(up.set 0 (-1))[0]'hj= -1:=by rw[List.getElem_set_self]
   rw[e]at g;refine RO.aW (ab ?_) (hc:=g);exact Ru.wk (u 0 aa (-1) (.inl ⟨rfl,j false ⟨λh=>(by cases h),λh=>absurd h.zero f⟩⟩))
  obtain⟨I,h1,h2,h3,x⟩:=i.EZ hc h0 f;have e:(up.set 0 (-1))[c]'hj=(I:Int):=by rw[List.getElem_set_ne (λe=>h0 e.symm),<-h1,aZ]
  rw[e]at g;refine RO.aW (ab ?_) (hc:=g);exact Ru.wk (u (ranks.getD I 0+1) aa (I:Int) (.inr ⟨I,rfl,rfl,h2,λr y=>j r (y.trans x)⟩))
 have f:b=c:=ahF λe=>f (by simp;exact λz=>e z.symm);subst f;refine Ru.exitTo ?_;refine ab ?_;refine Ru.aL ?_;simpa using j true ⟨λ_=>LV i.zero i.cl i.ed .refl,λ_=>rfl⟩
theorem ab4(T:Tb ac)(i:Ah W am ranks n up)(e:∀b∈am,b<n)(hg:aR E D)(hs:Sl E 1 ((up.set 0 (-1)).map aI) n F)(hb:b∈am)(f:∀r:Bool,(r=true↔d≠b/\ey W d b)->C (.bool r) D):YN ac Xv [F,aN d,aN b] D C:=by
 have⟨j,_,_,_⟩:=hs.all;refine YF.code T.Z5 aC (ab ?_);refine RO.bP (λc=>?_) (λc=>?_);·refine ab ?_;refine RO.cl (ab3 T i e hg hs hb λr g=>ab ?_);exact Ru.aL (f r ⟨λh=>⟨c,g.1 h⟩,λh=>g.2 h.2⟩)
 refine ab ?_;exact Ru.aL (f false ⟨λh=>(by cases h),λh=>absurd h.1 c⟩)
end
end
end Go.al.R
end
