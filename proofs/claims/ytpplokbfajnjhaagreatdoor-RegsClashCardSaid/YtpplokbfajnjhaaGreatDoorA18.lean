/- A part. No conditions. -/
import Derived.Test.YtpplokbfajnjhaaGreatDoorA17
import Derived.Test.YtpplokbfajnjhaaGreatDoorA16
set_option linter.all false
set_option maxHeartbeats 16000000
open List renaming replicate->acJ
open List.Sublist renaming cons_cons->ajk
noncomputable section
namespace Go.al
theorem ak.ne{A H:ai}{a:List Th}{t t':Th}{q r:ah}(U:ak A H a)(i j:Nat)(hi:a[i]?=some t)(hj:a[j]?=some t')(b:i≠j)(c:∀f,t.P H f->q∈f)(d:∀f,t'.P H f->r∈f):q≠r:=by
 have⟨_,fs,k⟩:=U;rcases Nat.lt_or_gt_of_ne b with l|l;·have⟨f,g,h1,h2,h3⟩:=k.kf hi hj l;exact λe=>h3 q (c f h1) (by rw[e];exact d g h2)
 have⟨f,g,h1,h2,h3⟩:=k.kf hj hi l;exact λe=>h3 r (d f h1) (by rw[<-e];exact c g h2)
theorem tS.tD{H:ai}{f:List ah}{e size n k cap:Nat}{b:List AV}{a ex:Bool}{q:ah}(i:(tS e size b n a (.slice q 0 k cap ex)).P H f):q∈f:=by
 rcases i with⟨_,_,_,i⟩|⟨d,g,aK,cap,c,rfl,h2,_⟩;·cases i
 injection h2 with h2;subst h2;exact acI ..
theorem Sl.move{H H':ai}{size n o m cap:Nat}{k:List AV}{ex:Bool}{q:ah}(B:Sl H size k n (.slice q o m cap ex))(hg:H'.get q=H.get q)(l:H.next.am<=H'.next.am):Sl H' size k n (.slice q o m cap ex):=by
 rcases B with⟨B,_⟩|⟨i,r,a,b,c,t,e,d,aK,fz,v,w,x,y,z,A,f⟩;·cases B
 injection v with h1 h2 h3 g j;subst h1;exact .inr ⟨_,r,a,b,c,t,e,d,aK,fz,by rw[h2,h3,g,j],by rw[hg];exact w,x,y,z,aim A l,f⟩
theorem tB.tD{H:ai}{f:List ah}{e:Nat}{a:List AV}{q:ah}(b:(tB e q a).P H f):q∈f:=b.1
end Go.al
namespace Go.al.R
open Go.al
variable{ab:Nat->aV}
section
variable{g:G.aP}{h s:AV}{p:ah}{H:ai}{come:List Bool}{os:List (List bt)}{u:List AV}
theorem Mp{l:List Nat}(a:l.Nodup){i j:Nat}(hi:i<l.length)(hj:j<l.length)(e:l[i]=l[j]):i=j:=by
 have h2:=List.pairwise_iff_getElem.1 a;rcases Nat.lt_trichotomy i j with h3|h3|h3;·exact absurd e (h2 i j hi hj h3)
 .exact h3
 exact absurd e.symm (h2 j i hj hi h3)
theorem rX:∀(n:Nat)(l:List Nat),l.Nodup->(∀x∈l,x<n)->l.length<=n
 |0,l,_,d=>by cases l with|nil=>simp|cons a l=>exact absurd (d a (acI ..)) aa
 |n+1,l,hd,d=>by
  by_cases c:n∈l
  .have h1:=rX n (l.erase n) (hd.erase n) λx b=>by rw[hd.mem_erase_iff]at b;have:=d x b.2;omega
   rw[List.length_erase_of_mem c]at h1;omega
  have:=rX n l hd λx b=>by have:=d x b;have:x≠n:=λe=>c (e▸b);omega
  omega
theorem acz{W:Nat->List Nat}{ap a:List Nat}{n:Nat}(c:0<n):oB W ap a n ((acJ n (-1:Int)).set 0 0):=by
 have e:∀x,((acJ n (-1:Int)).set 0 0).getD x (-1)=if x=0 then 0 else -1:=λx=>by
  rw[dD (by simpa using c)];split;·rfl
  simp[ah3,aiI];split<;>rfl
 exact⟨aC,by rw[e,aG rfl],λb=>by rw[e];split<;>omega,λb hb c=>by rw[e,an hb]at c;omega⟩
theorem acA(T:Tb ab)(hB:G.Sm g)(hE:fy g)(hX:GX g H p h s come os u)(hK:b9 g come os){K:KT}(fb:∀H' v ap ranks up,eT g come os ap->Rk (wW g os) ap ranks->oB (wW g os) ap ranks g.aj.length up->(∀b∈ap,0<=up.getD b (-1))->(∀b∈ap,∀x∈wW g os b,oC up b x)->ak H H' [tS 3 1 ((up.set 0 (-1)).map aI) g.aj.length true v]->K v H'):YN ab Ya [.aD p 0] H K:=by
 have d6:=hB.nb;have a6:=hK.lt hK.c0;have⟨hd,_,_,hn⟩:=hX.bl.all;have a8:=hX.jn.aE;have l:=hX.jn.lt;refine YF.code T.aap aC (au ?_);refine RO.cl (FP T hB hE hX hK λH1 R ap V U=>?_);have⟨d7,d',ea,eb⟩:=(U.sl (e:=3) (size:=1) (sv:=R) (vs:=ap.map aN) (n:=ap.length) (full:=true) 0).all;refine af ?_;refine RO.be ?_ (hc:=by rw[U.gr.aY l];exact a8);refine af ?_;refine RO.jy U (n:=g.aj.length) (λH2 J U=>?_) (hz:=by rw[eK];simp);have er:dY [AV.int 3 (.ofNat 0)] g.aj.length=(acJ g.aj.length 0).map aN:=by rw[eK,ajd]
 rw[er]at U;refine RO.i6 U 1 (λH3 W U=>af ?_) (n:=1) (ws:=[aI (-1)]);have ec:=(U.xL (e:=3) (size:=1) (n:=1) (vs:=[aI (-1)]) (full:=true) (q:=W) (o:=0) (m:=1) (cap:=1) (ex:=true) 0);have ei:=(U.xL (e:=3) (size:=1) (n:=g.aj.length) (vs:=(acJ g.aj.length 0).map aN) (full:=true) (q:=J) (o:=0) (m:=g.aj.length) (cap:=g.aj.length) (ex:=true) 1);refine RO.qB (is:=[W,J]) (v:=h) (by rw[U.gr.aY l];exact a8) (by simp only[acT,aie,or_false,not_or];exact⟨λe=>by rw[e]at l;omega,λe=>by rw[e]at l;omega⟩) (λHU hs a'=>?_);have U:=U.bK a' hs;refine af ?_;refine RO.dN U λH4 X U=>RO.dN U λH5 Y U=>?_;have n1:W≠Y:=U.ne 2 0 rfl rfl bx (λ_ fb=>tS.tD fb) λ_ fb=>tB.tD fb;have n2:W≠X:=U.ne 2 1 rfl rfl bx (λ_ fb=>tS.tD fb) λ_ fb=>tB.tD fb;have n3:W≠J:=U.ne 2 3 rfl rfl bx (λ_ fb=>tS.tD fb) λ_ fb=>tS.tD fb;have ej:=(U.px (e:=cB) (q:=Y) (vs:=[.bh]) 0).2;have ek:=(U.px (e:=cB) (q:=X) (vs:=[.bh]) 1).2;have el:=(U.xL (e:=3) (size:=1) (n:=g.aj.length) (vs:=(acJ g.aj.length 0).map aN) (full:=true) (q:=J) (o:=0) (m:=g.aj.length) (cap:=g.aj.length) (ex:=true) 3).2;have c9:=U.sl (e:=3) (size:=1) (n:=1) (vs:=[aI (-1)]) (full:=true) (sv:=.slice W 0 1 1 true) 2;refine RO.uZ (is:=[Y,X,J]) (Q:=λv ns=>∃q,v=.slice q 0 g.aj.length g.aj.length true/\ns=[tS 3 1 (acJ (g.aj.length*1) (aI (-1))) g.aj.length true (.slice q 0 g.aj.length g.aj.length true)]) U (λj hj=>by simp only[acT,aie,or_false]at hj;rcases hj with rfl|rfl|rfl<;>assumption) (λH0 a' hs=>acw T (u:=aI (-1)) rfl (c9.move (hs W (by simp only[acT,aie,or_false,not_or];exact⟨n1,n2,n3⟩)) (by rw[a'];exact afM _)) aa λH' q U=>⟨_,U,q,rfl,rfl⟩) (λv ns HU hQ et U=>?_);obtain⟨qu,rfl,rfl⟩:=hQ;refine⟨λac c'=>eo c' rfl rfl hd hX.bl.bK (by rw[U.gr.aY l];exact a8) rfl,?_⟩;refine RO.dJ U 2 (λH6 U=>RO.dJ U 1 (λH7 U=>?_));have eu:acJ (g.aj.length*1) (aI (-1))=(acJ g.aj.length (-1)).map aI:=by rw[ajo,ajd]
 rw[eu]at U;have U:ak H H7 (vi X Y J qu g.aj.length (acJ g.aj.length 0) (acJ g.aj.length (-1))++(tS 3 1 (ap.map aN) ap.length true R::[tS 3 1 [aI (-1)] 1 true (.slice W 0 1 1 true)])):=(((((U.eh 3 rfl).eh 5 rfl).eh 2 rfl).eh 5 rfl).eh 4 rfl).eh 5 rfl;refine af ?_;have w:∀b∈ap,b<g.aj.length:=λb hb=>hK.lt ((V.mem b).1 hb);have ew:ap.length<=g.aj.length:=rX _ _ V.nd w;refine Ru.nm λS M hS L=>Ru.bI L (up (P:=λk=>∀z ranks,ranks.length=g.aj.length->(∀i(fb:i<ap.length),i<k->ranks.getD ap[i] 0=i)->ak H z (vi X Y J qu g.aj.length ranks (acJ g.aj.length (-1))++(tS 3 1 (ap.map aN) ap.length true R::[tS 3 1 [aI (-1)] 1 true (.slice W 0 1 1 true)]))->Ru ab _ S ([(xl,aN k)]++pk M [p0,p3,p4,p5,xj,xk]) z) ap.length (λk hk ih z ranks O b' U=>?_) 0 aa _ _ aC (λi _ fb=>by omega) U);subst hS;subst L;refine Ru.loop (au ?_);refine Ru.cond (λl=>?_) (λl=>?_)
 .have e0:=w _ (acm l);refine af ?_;refine RO.iQ (aS.refl z) (U.sl (e:=3) (size:=1) (sv:=R) (vs:=ap.map aN) (n:=ap.length) (full:=true) 4) (λq o hj ba=>RO.be (af ?_) (hc:=ba));refine RO.gk (f:=aN) (zs:=ranks) (n:=g.aj.length) U 2 k O (λH9 U=>af ?_) (k:=ap[k]);have g1:∀i(fb:i<ap.length),i<k+1->(ranks.set ap[k] k).getD ap[i] 0=i:=λi hi Z=>by
   rw[dD aa];split;·rename_i e;exact(Mp V.nd hi l e).symm
   rename_i e;exact b' i hi (by have:i≠k:=λe2=>e (by subst e2;rfl);omega)
  exact Ru.wk (ih (k+1) aa aa H9 _ (by simpa using O) g1 U)
 have F:Rk (wW g os) ap ranks:=⟨V.nd,V.hd,V.aK,λi hi=>b' i hi aa⟩;refine Ru.exitTo ?_;refine af ?_;refine RO.gk (f:=aI) (zs:=acJ g.aj.length (-1)) (n:=g.aj.length) U 3 0 aC (λH9 U=>?_) (k:=0) (ho:=by simpa using a6);refine af ?_;have O:ranks.length=g.aj.length:=O;refine Ru.nm λS2 M2 hS L=>Ru.bI L (dn (P:=λm=>∀z up r us,oB (wW g os) ap ranks g.aj.length up->(r=false->∀b∈ap,0<=up.getD b (-1)/\∀x∈wW g os b,oC up b x)->(oD ranks g.aj.length up+if r then 1 else 0)=m->ak H z (vi X Y J qu g.aj.length ranks up++(tS 3 1 (ap.map aN) ap.length true R::us))->Ru ab _ S2 ([(p9,.bool r)]++pk M2 [p0,p3,p4,p5,p8]) z) (λm dm z up r us hC eB hm U=>?_) _ H9 _ true _ (acz a6) (λfb=>by cases fb) rfl U);subst hS;subst L;refine Ru.loop ?_;cases r with
 |false=>refine af ?_;refine Ru.exitTo ?_;refine af ?_;refine RO.gk (f:=aI) (zs:=up) (n:=g.aj.length) U 3 (-1) hC.len (λdr U=>?_) (k:=0) (ho:=by rw[hC.len];exact a6);refine af ?_;exact Ru.aL (fb dr _ ap ranks up V F hC (λb hb=>(eB rfl b hb).1) (λb hb=>(eB rfl b hb).2) ((U.eh 3 rfl).sub (ajk _ (ajr _))))
 |true=>
  refine af ?_;refine Ru.nm λS3 M3 hS L=>Ru.bI L (Go.al.up (P:=λk=>∀z N r us,oB (wW g os) ap ranks g.aj.length N->(∀i(fb:i<ap.length),i<k->∀x∈wW g os ap[i],0<=N.getD x (-1))->(r=false->∀i(fb:i<ap.length),i<k->∀x∈wW g os ap[i],oC N ap[i] x)->(oD ranks g.aj.length N+if r then 1 else 0)<=oD ranks g.aj.length up->ak H z (vi X Y J qu g.aj.length ranks N++(tS 3 1 (ap.map aN) ap.length true R::us))->Ru ab _ S3 ([(p9,.bool r),(tg,aN k)]++pk M3 [p0,p3,p4,p5,p8,na,pp]) z) ap.length (λk hk ds z N r us bb ca cd dv U=>?_) 0 aa _ up false _ hC (λi _ fb=>by omega) (λ_ i _ fb=>by omega) aC U);subst hS;subst L;refine Ru.loop (au ?_);refine Ru.cond (λl=>?_) (λl=>?_)
  .have ag:ap[k]∈ap:=acm l;have e1:=F.rk k l;have bc:=(V.mem _).1 ag;refine af ?_;refine RO.iQ (aS.refl z) (U.sl (e:=3) (size:=1) (sv:=R) (vs:=ap.map aN) (n:=ap.length) (full:=true) 4) (λq o hj ba=>RO.be (af ?_) (hc:=ba));refine RO.cl (FO T hB hE (hX.bR U.gr) hK bc λHY vw hl=>?_);have⟨e3,_,_,e5⟩:=(hl.sl (e:=3) (size:=1) (sv:=vw) (vs:=(wW g os ap[k]).map aN) (n:=(wW g os ap[k]).length) (full:=true) 0).all;have U:ak H HY (vi X Y J qu g.aj.length ranks N++(tS 3 1 (ap.map aN) ap.length true R::tS 3 1 ((wW g os ap[k]).map aN) (wW g os ap[k]).length true vw::us)):=(U.dq hl).bV (aii (l₁:=[_,_,_,_,_])).symm;have d4:(wW g os ap[k]).length<=12:=by have:=Ce (now:=os.getD ap[k] []) hB (hK.lt bc);simpa[wW,kn]using this
   generalize hb:ap[k]=b at*;refine af ?_;refine Ru.nm λS4 M4 hS L=>Ru.bI L (Go.al.up (P:=λj=>∀z c r,oB (wW g os) ap ranks g.aj.length c->(∀i(fb:i<ap.length),i<k->∀x∈wW g os ap[i],0<=c.getD x (-1))->(∀x∈(wW g os b).take j,0<=c.getD x (-1))->(r=false->(∀i(fb:i<ap.length),i<k->∀x∈wW g os ap[i],oC c ap[i] x)/\∀x∈(wW g os b).take j,oC c b x)->(oD ranks g.aj.length c+if r then 1 else 0)<=oD ranks g.aj.length up->ak H z (vi X Y J qu g.aj.length ranks c++(tS 3 1 (ap.map aN) ap.length true R::tS 3 1 ((wW g os b).map aN) (wW g os b).length true vw::us))->Ru ab _ S4 ([(p9,.bool r),(uQ,aN j)]++pk M4 [p0,p3,p4,p5,p8,eS,na,pp,tg,nf,uP]) z) (wW g os b).length (λj hj av z c r n aw cf ax P U=>?_) 0 aa _ N r bb ca (λx f=>by simp at f) (λfb=>⟨cd fb,λx f=>by simp at f⟩) dv U);subst hS;subst L;refine Ru.loop (au ?_);refine Ru.cond (λcn=>?_) (λcn=>?_)
   .have ay:=n.len;have cp:(wW g os b)[j]∈wW g os b:=acm cn;have dx:=hK.iq bc cp;have Q:=(V.mem _).2 dx;have cv:=w _ Q;have bv:0<=c.getD b (-1):=by
     by_cases h0:b=0;·rw[h0,n.u0];omega
     obtain⟨y,hy,hw,b0⟩:=F.cz ag h0;obtain⟨i,hi,rfl⟩:=ah0 hy;rw[F.rk i hi]at b0;exact aw i hi aa b hw
    refine af ?_;refine RO.iQ (aS.refl z) (U.sl (e:=3) (size:=1) (sv:=vw) (vs:=(wW g os b).map aN) (n:=(wW g os b).length) (full:=true) 5) (λq2 o2 e6 cR=>RO.be ?_ (hc:=cR));have a1:∀d,ep (wW g os) d (wW g os b)[j]->d≠(wW g os b)[j]->ep (wW g os) d b:=λd hd hn=>hd.cz cp hn;have cx:(wW g os b).take (j+1)=(wW g os b).take j++[(wW g os b)[j]]:=by rw[ah9]
    generalize(wW g os b)[j]=to at*;have A:∀u3:List Int,(∀x,0<=c.getD x (-1)->0<=u3.getD x (-1))->0<=u3.getD to (-1)->(∀i(fb:i<ap.length),i<k->∀x∈wW g os ap[i],0<=u3.getD x (-1))/\∀x∈(wW g os b).take (j+1),0<=u3.getD x (-1):=λu3 h1 h2=>⟨λi hi Z x f=>h1 x (aw i hi Z x f),λx f=>by
     rw[cx]at f;rcases adX.1 f with f|f;·exact h1 x (cf x f)
     rw[abP]at f;rw[f];exact h2⟩;have cy:oC c b to->r=false->(∀i(fb:i<ap.length),i<k->∀x∈wW g os ap[i],oC c ap[i] x)/\∀x∈(wW g os b).take (j+1),oC c b x:=λhe fb=>⟨(ax fb).1,λx f=>by
     rw[cx]at f;rcases adX.1 f with f|f;·exact(ax fb).2 x f
     rw[abP]at f;rw[f];exact he⟩;have a2:∀(now:Nat)(x:Nat),(c.set to (now:Int)).getD x (-1)=if x=to then(now:Int)else c.getD x (-1):=λnow x=>dD aa;have E:∀(now:Nat),(∀x,0<=c.getD x (-1)->0<=(c.set to (now:Int)).getD x (-1))/\0<=(c.set to (now:Int)).getD to (-1):=λnow=>⟨λx f=>by
     rw[a2];split;·omega
     exact f,by rw[a2,aG rfl];omega⟩;refine af ?_;by_cases hu:c.getD to (-1)= -1
    .have b3:to≠0:=λe=>by rw[e,n.u0]at hu;omega
     refine RO.cZ U 3 (v:=aI (-1)) (hv:=by rw[qF (-1) aa,hu]) (af ?_);refine RO.bW (λ_=>af ?_) (λfb=>absurd b3 fb);refine RO.cZ U 3 (v:=aI (-1)) (hv:=by rw[qF (-1) aa,hu]) (af ?_);refine RO.gk (f:=aI) (zs:=c) (n:=g.aj.length) U 3 (b:Int) ay (λb4 U=>af ?_) (k:=to);have dy:ranks.getD b 0<ranks.getD to 0:=by
      apply ain;intro e7;obtain⟨e8,e2⟩:=F.at Q;have fa:0<=c.getD to (-1):=by
       by_cases e4:ranks.getD to 0=k
       .have:to=b:=by rw[<-e2,<-hb];simp only[e4]
        rw[this];exact bv
       obtain⟨y,hy,hw,b0⟩:=F.cz Q b3;obtain⟨i,hi,rfl⟩:=ah0 hy;rw[F.rk i hi]at b0;exact aw i hi aa to hw
      omega
     have b6:=n.set F Q cv b3 ag bv dy a1;have dz:=Mo (ranks:=ranks) (n:=g.aj.length) (up:=c) (k:=to) (now:=b) aa (by rw[aG aa];omega);obtain⟨C,D⟩:=A _ (E b).1 (E b).2;have b7:(oD ranks g.aj.length (c.set to (b:Int))+if true then 1 else 0)<=oD ranks g.aj.length up:=by rw[aG rfl];split at P<;>omega
     exact Ru.wk (av (j+1) aa aa b4 _ true b6 C D (λfb=>by cases fb) b7 U)
    obtain⟨a,I⟩:∃a:Nat,c.getD to (-1)=a:=⟨(c.getD to (-1)).toNat,by have:=n.rg to;omega⟩;have hA:a∈ap/\0<=c.getD a (-1)/\(to≠0->ranks.getD a 0<ranks.getD to 0/\∀d,ep (wW g os) d to->d≠to->ep (wW g os) d a):=by
     by_cases h0:to=0
     .have:a=0:=by rw[h0,n.u0]at I;omega
      rw[this];exact⟨F.zero.1,by rw[n.u0];omega,λfb=>absurd h0 fb⟩
     obtain⟨_,d5,h1,h2,h3,h4,h5⟩:=n.ok to h0 aa;have:a=d5:=aa;subst this;exact⟨h2,h4,λ_=>⟨h3,h5⟩⟩
    obtain⟨cE,d0,d1⟩:=hA;refine RO.cZ U 3 (v:=aN a) (hv:=by rw[qF (-1) aa,I];rfl) ?_;refine af ?_;refine RO.cZ U 3 (v:=aN a) (hv:=by rw[qF (-1) aa,I];rfl) ?_;refine af ?_;refine RO.cl (acy T F n O aa w U cE ag d0 bv λm2 t=>?_);have e9:=w _ t.mem;refine af ?_;refine RO.bW (λh0=>?_) (λh0=>?_)
    .have h0:to≠0:=h0;obtain⟨e',d2⟩:=d1 h0;refine af ?_;refine RO.cZ U 3 (v:=aN a) (hv:=by rw[qF (-1) aa,I];rfl) ?_;refine af ?_;refine Ru.cond (λB=>?_) (λB=>?_)
     .have B:a≠m2:=B;refine af ?_;refine RO.gk (f:=aI) (zs:=c) (n:=g.aj.length) U 3 (m2:Int) ay (λb4 U=>af ?_) (k:=to);have d3:ranks.getD m2 0<ranks.getD a 0:=Nat.lt_of_le_of_ne t.ra λe=>B (F.inj cE t.mem e.symm);have b6:=n.set F Q cv h0 t.mem t.df aa (λd hd hn=>t.d8 d (d2 d hd hn) (a1 d hd hn));have dz:=Mo (ranks:=ranks) (n:=g.aj.length) (up:=c) (k:=to) (now:=m2) aa (by rw[an aa,I,ahX];exact d3);obtain⟨C,D⟩:=A _ (E m2).1 (E m2).2;have b7:(oD ranks g.aj.length (c.set to (m2:Int))+if true then 1 else 0)<=oD ranks g.aj.length up:=by rw[aG rfl];split at P<;>omega
      exact Ru.wk (av (j+1) aa aa b4 _ true b6 C D (λfb=>by cases fb) b7 U)
     refine af ?_;obtain⟨C,D⟩:=A c (λ_ fb=>fb) aa;have c8:a=m2:=ajj.1 B;exact Ru.wk (av (j+1) aa aa z c r n C D (cy λ_=>⟨a,I,by rw[c8];exact t.FU⟩) P U)
    refine af ?_;obtain⟨C,D⟩:=A c (λ_ fb=>fb) aa;exact Ru.wk (av (j+1) aa aa z c r n C D (cy λh9=>absurd h9 h0) P U)
   refine Ru.exitTo ?_;refine af ?_;have g1:∀i(fb:i<ap.length),i<k+1->∀x∈wW g os ap[i],0<=c.getD x (-1):=λi hi Z x f=>by
    by_cases e:i=k;·subst e;rw[hb]at f;exact cf x (by rw[aic aa];exact f)
    exact aw i hi aa x f
   have g2:r=false->∀i(fb:i<ap.length),i<k+1->∀x∈wW g os ap[i],oC c ap[i] x:=λh9 i hi Z x f=>by
    by_cases e:i=k;·subst e;rw[hb]at f⊢;exact(ax h9).2 x (by rw[aic aa];exact f)
    exact(ax h9).1 i hi aa x f
   exact Ru.wk (ds (k+1) aa aa z c r _ n g1 g2 P U)
  refine Ru.exitTo (af ?_);have g1:r=false->∀b∈ap,0<=N.getD b (-1)/\∀x∈wW g os b,oC N b x:=λh9 b hb=>by
   refine⟨?_,λx f=>by obtain⟨i,hi,rfl⟩:=ah0 hb;exact cd h9 i hi aa x f⟩;by_cases h0:b=0;·rw[h0,bb.u0];omega
   have⟨y,hy,hw,_⟩:=F.cz hb h0;obtain⟨i,hi,rfl⟩:=ah0 hy;exact ca i hi aa b hw
  rw[aG rfl]at hm;exact Ru.wk (dm _ aa z N r us bb g1 rfl U)
end
end Go.al.R
namespace Go.al.R
section
variable{ab:Nat->aV}
section
def dw(l:List G.ee):List Int:=(l.map (·.to)).filter λt=>decide (0<=t)
def eJ(b:G.dK):List Int:=b.params++dw b.aA
structure kX(g:G.aP)(x:G.ee):Prop where
 op:x.op∉qC
 w:(lW x.op).w≠ []
 r:u6 x g.aQ (nq x.op x.m)
structure vm(n np:Nat)(gs:List Bool)(hist:List Int):Prop where
 len:gs.length=n
 nd:hist.Nodup
 rg:∀v∈hist,(np:Int)<=v/\v<n
 bu:∀v:Nat,v<n->(gs.getD v false=true↔v<np\/(v:Int)∈hist)
structure ev(g:G.aP):Prop where
 name:jR g.name
 p0:0<=g.params
 p1:g.params<=g.aQ
 ne:0<g.aj.length
 first:(g.aj.getD 0 default).params=[]
 aA:∀b∈g.aj,∀x∈b.aA,kX g x
 xQ:∀b∈g.aj,mw g b.aq
 nd:(g.aj.flatMap eJ).Nodup
 rg:∀v∈g.aj.flatMap eJ,g.params<=v/\v<g.aQ
 all:∀v:Int,g.params<=v->v<g.aQ->v∈g.aj.flatMap eJ
theorem FW{l:List G.ee}{x:G.ee}:dw (l++[x])=dw l++if 0<=x.to then[x.to]else[]:=by simp only[dw,ail,List.filter_append];by_cases h:0<=x.to<;>simp[h]
theorem vm.add{n f:Nat}{g:List Bool}{c:List Int}(h:vm n f g c){v:Nat}(i:v<n)(hg:g.getD v false=false):vm n f (g.set v true) (c++[(v:Int)]):=by
 have hl:=h.len;have h1:¬(v<f\/(v:Int)∈c):=λe=>by rw[(h.bu v i).2 e]at hg;cases hg
 rw[not_or]at h1;refine⟨by simpa using hl,?_,λx d=>?_,λx d=>?_⟩;·rw[aiH];refine⟨h.nd,aC,λa j b hb=>?_⟩;rw[abP]at hb;subst hb;exact λe=>h1.2 (e▸j)
 .rcases adX.1 d with d|d;·exact h.rg x d
  rw[abP]at d;omega
 rw[dD aa,adX,abP];by_cases e:x=v;·subst e;simp
 rw[an e,h.bu x d];have:¬(x:Int)=v:=aa;simp[this]
section
variable{g:G.aP}{H:ai}{cs:List AV}
theorem acB(T:Tb ab)(hg:dt H g cs)(hB:G.Sm g)(hY:lT g)(ea:g.name.length<=60)(cp:g.aQ<=6000){K:KT}(h1:∀H',aS H H'->ev g->K (.bool true) H')(h2:∀H',aS H H'->¬ev g->K (.bool false) H'):YN ab WX [.agg cs] H K:=by
 have d6:=hg.one;have ba:=hg;obtain⟨vb,rfl,bG⟩:=hg;have⟨eb,_,_,ec⟩:=bG.all;have ei:=hB.nb;refine YF.code T.Za aC (Ru.seq (Ru.region (RO.ct (ak.bN H) λH1 q U=>?_)));have U:ak H H1 [tB cJ q [.str g.name,aI g.params,aI g.aQ,vb]]:=U;refine RO.bg (RO.nil (Ru.seq (Ru.pA (P:=λM H'=>M=[(p1,.aD q 0)]/\jR g.name/\0<=g.params/\g.params<=g.aQ/\0<g.aj.length/\(g.aj.getD 0 default).params=[]/\ak H H' [tB cJ q [.str g.name,aI g.params,aI g.aQ,vb]]) (λM H2⟨hM,f1,f2,f3,f4,f5,U⟩=>?_) (λs' a'=>?_))));rotate_left
 .refine af ?_;refine RO.cl (B' T hY.nm aa (λg1=>?_) λS=>?_);rotate_left;·refine af ?_;exact Ru.aL (h2 _ U.gr λc=>S c.name)
  refine af ?_;refine RO.cl (py T (λg2 F=>?_) (λS=>?_));rotate_left;·refine af ?_;exact Ru.aL (h2 _ U.gr λc=>S ⟨c.p0,c.p1⟩)
  have g2:0<=g.params:=g2;refine af ?_;refine RO.bW (λV=>?_) (λV=>?_);·refine af ?_;exact Ru.aL (h2 _ U.gr λc=>by have l:=c.ne;omega)
  have ax:0<g.aj.length:=aa;refine af ?_;refine RO.bO U.gr bG (λq1 o1 c1 cv X cx hat hrd=>?_) (j:=0);obtain⟨vp,Y,jc,rfl,Z,_⟩:=X;have⟨cy,_,_,cE⟩:=Z.all;refine af ?_;refine Ru.cond (λg5=>?_) (λg5=>?_);·refine af ?_;exact Ru.aL (h2 _ U.gr λc=>by have l:=c.first;rw[bf ax]at l;simp[l]at g5)
  refine af ?_;exact a' _ _ _ ⟨rfl,g1,g2,F,ax,by rw[bf ax];exact aih aa,U⟩ dC
 subst hM;obtain⟨n,W⟩:∃n:Nat,g.aQ=n:=⟨g.aQ.toNat,aa⟩;obtain⟨I,y⟩:∃n:Nat,g.params=n:=⟨g.params.toNat,aa⟩;rw[W,y]at U ba;rw[W]at cp f3;rw[y]at f3;refine af ?_;refine RO.jy U (n:=n) (λH3 qg U=>?_) (hz:=by rw[eK];simp);have aw:vm n 0 (acJ n false) []:=⟨aC,ajD,λv hv=>(by cases hv),λv hv=>by simp[ah3,aiI,hv]⟩;have U:ak H H3 [tS 4 1 ((acJ n false).map .bool) n true (.slice qg 0 n n true),tB cJ q [.str g.name,aI I,aI n,vb]]:=by rw[eK]at U;rw[ajd];exact U
 refine af ?_;refine Ru.nm λS0 M hS hM=>Ru.bI hM (up (P:=λk=>∀u f,vm n k f []->ak H u [tS 4 1 (f.map .bool) n true (.slice qg 0 n n true),tB cJ q [.str g.name,aI I,aI n,vb]]->Ru ab _ S0 ([(p4,aN k)]++pk M [p1,p3]) u) I (λk hk ih u f a U=>?_) 0 aa _ _ aw U);subst hS;subst hM;refine Ru.loop (af ?_);refine Ru.cond (λcR=>?_) (λcR=>?_)
 .refine af ?_;refine RO.gk U 0 true a.len (λH4 U=>?_) (k:=k) (ho:=by rw[a.len];omega);refine af ?_;exact Ru.wk (ih (k+1) aa aa H4 _ ⟨by simpa using a.len,ajD,λv hv=>(by cases hv),λv hv=>by
   rw[dD (by rw[a.len];omega)];by_cases e:v=k;·subst e;simp
   rw[an e,a.bu v hv];simp;omega⟩ U)
 refine Ru.exitTo ?_;obtain rfl:I=k:=aa;refine af ?_;clear aw ih;refine Ru.nm λS0 M hS hM=>Ru.bI hM (up (P:=λk=>∀u f,vm n I f ((g.aj.take k).flatMap eJ)->(∀x(h:x<g.aj.length),x<k->(∀s∈g.aj[x].aA,kX g s)/\mw g g.aj[x].aq)->ak H u [tS 4 1 (f.map .bool) n true (.slice qg 0 n n true),tB cJ q [.str g.name,aI I,aI n,vb]]->Ru ab _ S0 ([(p5,aN k)]++pk M [p1,p3]) u) g.aj.length (λk hk ih u f a J U=>?_) 0 aa _ f a (λx _ C=>by omega) U);subst hS;subst hM;refine Ru.loop (af ?_);refine Ru.cond (λO=>?_) (λO=>?_)
 .have o:=acm O;have ej:=hB.bl _ o;have c8:=hB.st _ o;have c9:=hB.ed _ o;have c':=hY.st _ o;have dm:=hY.fn _ o;have dr:=hY.kd _ o;have ay:g.aj.take (k+1)=g.aj.take k++[g.aj[k]]:=(ah9 O).symm;have ih:=ih (k+1) aa aa;rw[ay,aiy,aiN]at ih;have J:(∀s∈g.aj[k].aA,kX g s)/\mw g g.aj[k].aq->∀x(h:x<g.aj.length),x<k+1->(∀s∈g.aj[x].aA,kX g s)/\mw g g.aj[x].aq:=λhb x C h=>by
   by_cases e:x=k;·subst e;exact hb
   exact J x C aa
  have bb:ev g->(∀s∈g.aj[k].aA,kX g s)/\mw g g.aj[k].aq:=λc=>⟨c.aA _ o,c.xQ _ o⟩;have bc:ev g->∀v∈eJ g.aj[k],g.params<=v/\v<g.aQ:=λc v hv=>c.rg v (aiG.2 ⟨_,o,hv⟩);have ds:ev g->((g.aj.take k).flatMap eJ++eJ g.aj[k]).Nodup:=λc=>by have l:=c.nd;rw[<-ai1 (k+1) g.aj,ay,aiy,aiy,aiN,aiH]at l;exact l.1
  clear ay;generalize(g.aj.take k).flatMap eJ=P at*;refine af ?_;refine RO.bO U.gr bG (λq1 o1 c1 cv X cx hat hrd=>?_) (j:=k);have d7:=X.one;generalize g.aj[k]=B at*;obtain⟨vp,Y,jc,rfl,Z,ag,bv⟩:=X;have ca:=bv;obtain⟨va,vk,vg,rfl,_⟩:=bv;have⟨cy,_,_,cE⟩:=Z.all;have⟨ek,_,_,el⟩:=ag.all;refine af ?_;refine RO.dS U λH5 q6 U=>af ?_;refine RO.ji U 1 λH6 v0 U=>?_;have⟨et,_,_,_⟩:=(U.sl (e:=3) (size:=1) (sv:=v0) (vs:=[]) (n:=0) (full:=true) 0).all;refine af ?_;refine RO.ls U 0 (U.gr.sl Z) (λH7 v1 U=>?_) (h1:=m9 _);have U:ak H H7 [tS 3 1 ((B.params++dw (B.aA.take 0)).map aI) (B.params++dw (B.aA.take 0)).length true v1,tB cH q6 [vp,Y,aU B.aq.op,va,.str B.aq.name,vk,vg],tS 4 1 (f.map .bool) n true (.slice qg 0 n n true),tB cJ q [.str g.name,aI I,aI n,vb]]:=by rw[ajm,show dw []=[]from rfl,aiS];rw[aif]at U;exact U
  have⟨ew,_,_,_⟩:=(U.sl (e:=3) (size:=1) (sv:=v1) (vs:=(B.params++dw (B.aA.take 0)).map aI) (n:=(B.params++dw (B.aA.take 0)).length) (full:=true) 0).all;refine af ?_;refine Ru.nm λS1 M1 L p=>Ru.bI p (up (P:=λj=>∀u lv,(∀x(h:x<B.aA.length),x<j->kX g B.aA[x])->ak H u [tS 3 1 ((B.params++dw (B.aA.take j)).map aI) (B.params++dw (B.aA.take j)).length true lv,tB cH q6 [vp,Y,aU B.aq.op,va,.str B.aq.name,vk,vg],tS 4 1 (f.map .bool) n true (.slice qg 0 n n true),tB cJ q [.str g.name,aI I,aI n,vb]]->Ru ab _ S1 ([(p8,aN j),(p7,lv)]++pk M1 [p1,p3,p5,p6]) u) B.aA.length (λj hj A u lv de U=>?_) 0 aa _ _ (λx _ C=>by omega) U);subst L;subst p;have⟨e0,_,_,b0⟩:=(U.sl (e:=3) (size:=1) (sv:=lv) (vs:=(B.params++dw (B.aA.take j)).map aI) (n:=(B.params++dw (B.aA.take j)).length) (full:=true) 0).all;refine Ru.loop (af ?_);refine Ru.cond (λQ=>?_) (λQ=>?_)
  .have a1:=acm Q;have e1:=c8 _ a1;have dv:=c' _ a1;have A:=A (j+1) aa aa;rw[(ah9 Q).symm,FW,<-ahD]at A;have de:kX g B.aA[j]->∀x(h:x<B.aA.length),x<j+1->kX g B.aA[x]:=λhb x C h=>by
    by_cases e:x=j;·subst e;exact hb
    exact de x C aa
   have dx:(B.params++dw (B.aA.take j)).length<=100:=by
    have:(dw (B.aA.take j)).length<=(B.aA.take j).length:=by unfold dw;exact aji (List.length_filter_le _ _) aC
    rw[ahY];rw[aiA]at this;omega
   generalize B.params++dw (B.aA.take j)=D at*;refine af ?_;refine RO.bO U.gr ag (λq9 o9 e8 a2 b3 e2 hat hrd=>?_) (j:=j);have cd:=b3;generalize C:B.aA[j]=x at*;obtain⟨e3,rfl,d'⟩:=b3;refine af ?_;refine RO.cl (ace T (v:=(n:Int)) (bX.step U.gr cd) dv aa aa aa aa (λH8 hg g1 g2 F=>?_) (λH8 hg S=>?_));rotate_left;·have U:=U.bR hg;refine af ?_;exact Ru.aL (h2 _ U.gr λc=>S (by have l:=(bb c).1 x a1;exact⟨l.op,l.w,by have h9:=l.r;rwa[W]at h9⟩))
   have U:=U.bR hg;have b4:kX g x:=⟨g1,g2,by rw[W];exact F⟩;refine af ?_;refine RO.bO U.gr ag (λq7 o7 c7 dy N dz R cf=>?_) (j:=j);rw[C]at N;obtain⟨d0,rfl,cn⟩:=N;refine af ?_;refine RO.be (v:=aI x.to) (af ?_) (hc:=R 1 _ rfl);refine Ru.cond (λV=>?_) (λV=>?_);·have V:0<=x.to:=V;rw[aG V]at A;refine af ?_;refine RO.bO U.gr ag (λq7 o7 c7 dy N dz R cf=>?_) (j:=j);rw[C]at N;obtain⟨d0,rfl,cn⟩:=N;refine af ?_;refine RO.be (v:=aI x.to) (RO.push U 0 (λw0 H9 v2 U=>?_) (ws:=[aI x.to])) (hc:=R 1 _ rfl);have⟨e4,e5,e6,_⟩:=(U.sl (e:=3) (size:=1) (n:=D.length+1) (full:=true) (sv:=v2) 0).all;refine af ?_;exact Ru.wk (A _ v2 (de b4) (by rw[ail,ahY];exact U))
   have V:¬0<=x.to:=V;rw[an V,aiS]at A;refine af ?_;exact Ru.wk (A _ lv (de b4) U)
  refine Ru.exitTo ?_;have de:∀s∈B.aA,kX g s:=λs hs=>by obtain⟨x,C,rfl⟩:=ah0 hs;exact de x C aa
  rw[aic aa]at U b0;have d1:B.params++dw B.aA=eJ B:=rfl;rw[d1]at U b0;have dx:(eJ B).length<=100:=by have:=List.length_filter_le (λt=>decide (0<=t)) (B.aA.map (·.to));rw[aig]at this;rw[eJ,dw,ahY];omega
  generalize e7:eJ B=D at*;refine af ?_;refine Ru.nm λS1 M1 L p=>?_;refine Ru.bI p (up (P:=λm=>∀u f,vm n I f (P++D.take m)->ak H u [tS 3 1 (D.map aI) D.length true lv,tB cH q6 [vp,Y,aU B.aq.op,va,.str B.aq.name,vk,vg],tS 4 1 (f.map .bool) n true (.slice qg 0 n n true),tB cJ q [.str g.name,aI I,aI n,vb]]->Ru ab _ S1 ([(p9,aN m)]++pk M1 [p1,p3,p5,p6,p7]) u) D.length (λm hm E u f a U=>?_) 0 aa _ f (by rw[ajm,aiS];exact a) U);subst L;subst p;have a6:=U.sl (e:=3) (size:=1) (sv:=lv) (vs:=D.map aI) (n:=D.length) (full:=true) 0;refine Ru.loop (af ?_);refine Ru.cond (λd=>?_) (λd=>?_)
  .have E:=E (m+1) aa aa;rw[(ah9 d).symm,<-ahD]at E;have d2:ev g->D[m]∉P++D.take m:=λc hm=>by have l:=ds c;rw[<-ai1 m D,ah6 d,<-ahD,aiH]at l;exact l.2.2 _ hm _ (acI ..) rfl
   have b6:=acm d;generalize P++D.take m=h0 at*;refine af ?_;refine RO.iQ (aS.refl _) a6 (λq9 o9 a2 av=>?_) (j:=m);generalize hz:D[m]=z at*;refine af ?_;refine RO.sub (RO.cl (py T (λg1 g2=>?_) (λS=>?_))) (a:=(n:Int)) (b:=1);rotate_left;·refine af ?_;exact Ru.aL (h2 _ U.gr λc=>S (by have l:=bc c z b6;rw[W,y]at l;exact⟨by show(0:Int)<=z;omega,by show z<=(n:Int) - 1;omega⟩))
   have g1:0<=z:=g1;obtain⟨v,rfl⟩:∃v:Nat,z=v:=⟨z.toNat,aa⟩;have b7:v<n:=aa;refine af ?_;refine RO.iQ (aS.refl _) a6 (λq9 o9 a2 av=>?_) (j:=m);rw[hz]at av;have b':=a.len;have a8:(f.map AV.bool)[0+v*1]?=some (.bool (f.getD v false)):=by rw[show 0+v*1=v by omega,aiw,getElem?_pos f v aa,bf aa];rfl
   refine af ?_;refine RO.cZ U 2 (hv:=a8) (af ?_);refine Ru.eC (λF=>?_) (λF=>?_);·refine af ?_;exact Ru.aL (h2 _ U.gr λc=>by have l:=(a.bu v b7).1 F;have h9:=bc c v b6;rw[W,y]at h9;exact l.elim (λh=>by omega) (d2 c))
   refine af ?_;refine RO.iQ (aS.refl _) a6 (λq9 o9 a2 av=>?_) (j:=m);rw[hz]at av;refine af ?_;refine RO.gk U 2 true b' (λH9 U=>af ?_) (k:=v) (ho:=by omega);exact Ru.wk (E _ _ (a.add b7 F) U)
  refine Ru.exitTo ?_;rw[aic aa]at a;refine af ?_;refine RO.co U 3 (af ?_);refine RO.co U 1 (m:=5) (o:=2) ?_;refine RO.cl (acf T (bX.fS U.gr ba) (j:=B.aq) (bX.uH U.gr ca) hB aa aa dm dr ⟨aa,aa,aa,aa⟩ c9 (λH8 hg g1=>?_) (λH8 hg S=>?_));rotate_left;·have U:=U.bR hg;refine af ?_;exact Ru.aL (h2 _ U.gr λc=>S (bb c).2)
  have U:=U.bR hg;refine af ?_;exact Ru.wk (ih _ _ a (J ⟨de,g1⟩) U.tail.tail)
 refine Ru.exitTo ?_;rw[aic aa]at a;have b':=a.len;refine af ?_;refine Ru.nm λS1 M1 L p=>Ru.bI p (up (P:=λm=>(∀x,x<m->f.getD x false=true)->Ru ab _ S1 ([(eM,aN m)]++pk M1 [p1,p3]) u) n (λm hm E eB=>?_) 0 aa (λx C=>by omega));subst L;subst p;refine Ru.loop (af ?_);refine Ru.cond (λd=>?_) (λd=>?_)
 .have a8:(f.map AV.bool)[0+m*1]?=some (.bool (f.getD m false)):=by rw[show 0+m*1=m by omega,aiw,getElem?_pos f m aa,bf aa];rfl
  refine af ?_;refine RO.cZ U 0 (hv:=a8) (af ?_);refine Ru.eC (λF=>?_) (λF=>?_);·refine af ?_;exact Ru.aL (h2 _ U.gr λc=>by have l:=(a.bu m d).2 (by by_cases e:m<I;exact .inl e;exact .inr (c.all m aa aa));rw[l]at F;simp at F)
  refine af ?_;exact Ru.wk (E (m+1) aa aa λx C=>by
   by_cases e:x=m;·subst e;simpa using F
   exact eB x aa)
 refine Ru.exitTo ?_;refine af ?_;exact Ru.aL (h1 _ U.gr ⟨f1,f2,by rw[W,y];exact f3,f4,f5,λb hb x C=>by obtain⟨i,hi,rfl⟩:=ah0 hb;exact(J i hi aa).1 x C,λb hb=>by obtain⟨i,hi,rfl⟩:=ah0 hb;exact(J i hi aa).2,a.nd,λv hv=>by rw[W,y];exact a.rg v hv,λv d3 d4=>by rw[y]at d3;rw[W]at d4;have d5:v.toNat<n:=aa;have:=(a.bu _ d5).1 (eB _ aa);rw[Int.toNat_of_nonneg aa]at this;exact this.resolve_left aa⟩)
end
end
section
section
variable{W:Nat->List Nat}{ap ranks:List Nat}{up:List Int}{n:Nat}{B H:ai}{f:AV}
theorem iT.via{d a b:Nat}(h:iT W d b):iT W a b\/iT W d a:=by
 induction h with
 |zero h=>
  by_cases e:0=a;·subst e;exact .inr (.zero h)
  exact .inl (.zero e)
 | @step y x i g j c=>
  rcases c with c|c
  .by_cases e:x=a;·subst e;exact .inr (.step i g j)
   exact .inl (.step c g e)
  grind
theorem Mq(h0:0∈ap)(i:∀y∈ap,∀x∈W y,x∈ap)(p:∀b∈ap,∀x∈W b,oC up b x){d b:Nat}(h:fh up d b):ep W d b:=λn=>by
 have key:∀b,iT W d b->b∈ap/\¬fh up d b:=by
  intro b n;induction n with
  |zero h=>refine⟨h0,λe=>?_⟩;generalize q:(0:Nat)=z at*;cases e with|refl=>exact h rfl|step _ g _=>exact g q.symm
  | @step y x s o g r=>have⟨a,j⟩:=r;refine⟨i y a x o,λe=>?_⟩;cases e with|refl=>exact g rfl| @step _ c t k l=>have⟨m,h1,h2⟩:=p y a x o k;have:m=c:=aa;subst this;exact j (l.trans h2)
 grind
structure zW(W:Nat->List Nat)(ap ranks:List Nat)(n:Nat)(up:List Int):Prop where
 Mr:oB W ap ranks n up
 all:∀b∈ap,0<=up.getD b (-1)
 zero:0∈ap
 cl:∀y∈ap,∀x∈W y,x∈ap
 ed:∀b∈ap,∀x∈W b,oC up b x
theorem zW.EX(h:zW W ap ranks n up){d b:Nat}(hb:b∈ap)(h0:b≠0)(e:d≠b):∃a:Nat,up.getD b (-1)=a/\a∈ap/\ranks.getD a 0<ranks.getD b 0/\(ep W d a↔ep W d b):=by have⟨_,a,h1,h2,h3,_,g⟩:=h.Mr.ok b h0 (h.all b hb);have c:ep W a b:=Mq h.zero h.cl h.ed (.step h1 h0 .refl);exact⟨a,h1,h2,h3,λhd i=>(iT.via i).elim c hd,λhd=>g d hd e⟩
theorem acC(T:Tb ab)(j:zW W ap ranks n up)(p:∀b∈ap,b<n)(hg:aS B H)(hs:Sl B 1 ((up.set 0 (-1)).map aI) n f){d b:Nat}(hb:b∈ap){K:KT}(k:∀r:Bool,(r=true↔ep W d b)->K (.bool r) H):YN ab Yn [f,aN d,aN b] H K:=by
 have l:=j.Mr.len;have⟨A,_,_,_⟩:=hs.all;have s:Sl B 1 ((up.set 0 (-1)).map aI) (up.set 0 (-1)).length f:=by rw[aja,l];exact hs
 refine YF.code T.aaN aC (af ?_);refine Ru.nm λS M w u=>Ru.bI u (dn (P:=λm=>∀b:Int,((b= -1/\K (.bool false) H)\/∃c:Nat,b=(c:Int)/\ranks.getD c 0+1=m/\c∈ap/\∀r:Bool,(r=true↔ep W d c)->K (.bool r) H)->Ru ab _ S ([(p2,aI b)]++pk M [p0,p1]) H) (λm v b hb=>?_) _ (b:Int) (.inr ⟨b,rfl,rfl,hb,k⟩));subst w;subst u;rcases hb with⟨rfl,x⟩|⟨c,rfl,C,hc,k⟩;·refine Ru.loop (af ?_);refine Ru.exitTo ?_;refine af ?_;refine Ru.aL ?_;simpa using x
 have t:=p c hc;refine Ru.loop (af ?_);refine Ru.cond (λg=>?_) (λg=>?_)
 .have g:d≠c:=λe=>by subst e;simp at g
  refine af ?_;refine RO.iQ hg s (λq o hj i=>?_) (j:=c) (hj:=by rw[aja,l];exact t);by_cases h0:c=0
  .subst h0;have e:(up.set 0 (-1))[0]'hj= -1:=by rw[List.getElem_set_self]
   rw[e]at i;refine RO.be (af ?_) (hc:=i);exact Ru.wk (v 0 aa (-1) (.inl ⟨rfl,k false ⟨λh=>(by cases h),λh=>absurd h.zero g⟩⟩))
  obtain⟨a,h1,h2,h3,y⟩:=j.EX hc h0 g;have e:(up.set 0 (-1))[c]'hj=(a:Int):=by rw[List.getElem_set_ne (λe=>h0 e.symm),<-h1,bf]
  rw[e]at i;refine RO.be (af ?_) (hc:=i);exact Ru.wk (v (ranks.getD a 0+1) aa (a:Int) (.inr ⟨a,rfl,rfl,h2,λr z=>k r (z.trans y)⟩))
 have g:d=c:=ain λe=>g (by simp;exact λe2=>e e2.symm);subst g;refine Ru.exitTo ?_;refine af ?_;refine Ru.aL ?_;simpa using k true ⟨λ_=>Mq j.zero j.cl j.ed .refl,λ_=>rfl⟩
theorem acD(T:Tb ab)(i:zW W ap ranks n up)(c:∀b∈ap,b<n)(hg:aS B H)(hs:Sl B 1 ((up.set 0 (-1)).map aI) n f){d b:Nat}(hb:b∈ap){K:KT}(e:∀r:Bool,(r=true↔d≠b/\ep W d b)->K (.bool r) H):YN ab Yd [f,aN d,aN b] H K:=by
 have⟨j,_,_,_⟩:=hs.all;refine YF.code T.aas aC (af ?_);refine RO.bW (λa=>?_) (λa=>?_);·refine af ?_;refine RO.cl (acC T i c hg hs hb λr g=>af ?_);exact Ru.aL (e r ⟨λh=>⟨a,g.1 h⟩,λh=>g.2 h.2⟩)
 refine af ?_;exact Ru.aL (e false ⟨λh=>(by cases h),λh=>absurd h.1 a⟩)
end
end
end
end Go.al.R
end
