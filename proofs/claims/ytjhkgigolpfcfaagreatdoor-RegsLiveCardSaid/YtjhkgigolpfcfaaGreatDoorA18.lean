/- A part of the proof. No conditions. -/
import Derived.Test.YtjhkgigolpfcfaaGreatDoorA17
import Derived.Test.YtjhkgigolpfcfaaGreatDoorA16
set_option linter.all false
set_option maxHeartbeats 16000000
open List renaming mem_singleton->aep,mem_cons_self->aeU,replicate->ahr,length_map->akg,length_take->akF,nodup_append->akI,nodup_nil->alD
open Nat renaming le_of_ble_eq_true->akc,le_trans->alj
open List.Sublist renaming cons_cons->alh
noncomputable section
namespace Go.am
theorem aj.ne{A H:ai}{a:List Th}{t t':Th}{q r:ab}(U:aj A H a)(i j:Nat)(hi:a[i]?=some t)(hj:a[j]?=some t')(b:i≠j)(c:∀f,t.P H f->q∈f)(d:∀f,t'.P H f->r∈f):q≠r:=by
 obtain⟨_,fs,k⟩:=U;rcases Nat.lt_or_gt_of_ne b with l|l;·obtain⟨f,g,h1,h2,h3⟩:=k.mC hi hj l;exact λe=>h3 q (c f h1) (by rw[e];exact d g h2)
 obtain⟨f,g,h1,h2,h3⟩:=k.mC hj hi l;exact λe=>h3 r (d f h1) (by rw[<-e];exact c g h2)
theorem tS.wT{H:ai}{f:List ab}{e size n k cap:Nat}{b:List AV}{a ex:Bool}{q:ab}(i:(tS e size b n a (.slice q 0 k cap ex)).P H f):q∈f:=by
 rcases i with⟨_,_,_,i⟩|⟨d,g,aM,cap,c,rfl,h2,_⟩;·cases i
 injection h2 with h2;subst h2;exact aeU ..
theorem Sl.move{H b:ai}{size n o m cap:Nat}{l:List AV}{ex:Bool}{q:ab}(C:Sl H size l n (.slice q o m cap ex))(hg:b.get q=H.get q)(r:H.next.an<=b.next.an):Sl b size l n (.slice q o m cap ex):=by
 rcases C with⟨C,_⟩|⟨i,t,a,d,c,v,e,f,aM,fz,w,x,y,z,A,B,g⟩;·cases C
 injection w with h1 h2 h3 j k;subst h1;exact .inr ⟨_,t,a,d,c,v,e,f,aM,fz,by rw[h2,h3,j,k],by rw[hg];exact x,y,z,A,ako B r,g⟩
theorem tB.wT{H:ai}{f:List ab}{e:Nat}{a:List AV}{q:ab}(b:(tB e q a).P H f):q∈f:=b.1
end Go.am
namespace Go.am.R
open Go.am
variable{ac:Nat->aG}
section
variable{g:G.bu}{h s:AV}{p:ab}{H:ai}{come:List Bool}{os:List (List bV)}{u:List AV}
theorem Pq{l:List Nat}(a:l.Nodup){i j:Nat}(hi:i<l.length)(hj:j<l.length)(e:l[i]=l[j]):i=j:=by
 have h2:=List.pairwise_iff_getElem.1 a;rcases Nat.lt_trichotomy i j with h3|h3|h3;·exact absurd e (h2 i j hi hj h3)
 .exact h3
 exact absurd e.symm (h2 j i hj hi h3)
theorem vB:∀(n:Nat)(l:List Nat),l.Nodup->(∀x∈l,x<n)->l.length<=n
 |0,l,_,d=>by cases l with|nil=>simp|cons a l=>exact absurd (d a (aeU ..)) af
 |n+1,l,hd,d=>by
  by_cases c:n∈l
  .have h1:=vB n (l.erase n) (hd.erase n) λx b=>by rw[hd.mem_erase_iff]at b;have:=d x b.2;omega
   rw[List.length_erase_of_mem c]at h1;omega
  have:=vB n l hd λx b=>by have:=d x b;have:x≠n:=λe=>c (e▸b);omega
  omega
theorem aeK{W:Nat->List Nat}{ak a:List Nat}{n:Nat}(c:0<n):oz W ak a n ((ahr n (-1:Int)).set 0 0):=by
 have e:∀x,((ahr n (-1:Int)).set 0 0).getD x (-1)=if x=0 then 0 else -1:=λx=>by
  rw[fu (by simpa using c)];split;·rfl
  simp[akm,ak8];split<;>rfl
 exact⟨aB,by rw[e,aK rfl],λb=>by rw[e];split<;>omega,λb hb c=>by rw[e,aq hb]at c;omega⟩
theorem aeL(T:Tb ac)(hB:G.Sm g)(hE:jm g)(hX:GX g H p h s come os u)(hK:cX g come os){K:KT}(e0:∀H' v ak ranks up,e9 g come os ak->Rk (wW g os) ak ranks->oz (wW g os) ak ranks g.al.length up->(∀b∈ak,0<=up.getD b (-1))->(∀b∈ak,∀x∈wW g os b,jH up b x)->aj H H' [tS 3 1 ((up.set 0 (-1)).map aI) g.al.length true v]->K v H'):YN ac Xw [.az p 0] H K:=by
 have dz:=hB.nb;have a2:=hK.lt hK.c0;have⟨hd,_,_,hn⟩:=hX.bl.all;have a3:=hX.kS.aH;have l:=hX.kS.lt;refine YF.code T.acw aB ?_;refine au ?_;refine RO.cl (Jq T hB hE hX hK λH1 R ak V U=>?_);have⟨d0,d1,d2,d3⟩:=(U.sl (e:=3) (size:=1) (sv:=R) (vs:=ak.map aN) (n:=ak.length) (full:=true) 0).all;refine ah ?_;refine RO.aW ?_ (hc:=by rw[U.gr.bh l];exact a3);refine ah ?_;refine RO.oT U (n:=g.al.length) (λH2 J U=>?_) (hz:=by rw[iZ];simp);have er:fO [AV.int 3 (.ofNat 0)] g.al.length=(ahr g.al.length 0).map aN:=by rw[iZ,alz]
 rw[er]at U;refine RO.lf U 1 (λH3 W U=>?_) (n:=1) (ws:=[aI (-1)]);refine ah ?_;have d4:=(U.CI (e:=3) (size:=1) (n:=1) (vs:=[aI (-1)]) (full:=true) (q:=W) (o:=0) (m:=1) (cap:=1) (ex:=true) 0);have d5:=(U.CI (e:=3) (size:=1) (n:=g.al.length) (vs:=(ahr g.al.length 0).map aN) (full:=true) (q:=J) (o:=0) (m:=g.al.length) (cap:=g.al.length) (ex:=true) 1);refine RO.wO (is:=[W,J]) (v:=h) (by rw[U.gr.bh l];exact a3) (by simp only[aeV,aki,or_false,not_or];exact⟨λe=>by rw[e]at l;omega,λe=>by rw[e]at l;omega⟩) (λHU hs a4=>?_);have U:=U.bX a4 hs;refine ah ?_;refine RO.gI U λH4 X U=>?_;refine RO.gI U λH5 Y U=>?_;have n1:W≠Y:=U.ne 2 0 rfl rfl bA (λ_ e0=>tS.wT e0) λ_ e0=>tB.wT e0;have n2:W≠X:=U.ne 2 1 rfl rfl bA (λ_ e0=>tS.wT e0) λ_ e0=>tB.wT e0;have n3:W≠J:=U.ne 2 3 rfl rfl bA (λ_ e0=>tS.wT e0) λ_ e0=>tS.wT e0;have d6:=(U.AU (e:=eH) (q:=Y) (vs:=[.aS]) 0).2;have d7:=(U.AU (e:=eH) (q:=X) (vs:=[.aS]) 1).2;have d8:=(U.CI (e:=3) (size:=1) (n:=g.al.length) (vs:=(ahr g.al.length 0).map aN) (full:=true) (q:=J) (o:=0) (m:=g.al.length) (cap:=g.al.length) (ex:=true) 3).2;have cv:=U.sl (e:=3) (size:=1) (n:=1) (vs:=[aI (-1)]) (full:=true) (sv:=.slice W 0 1 1 true) 2;refine RO.CH (is:=[Y,X,J]) (Q:=λv ns=>∃q,v=.slice q 0 g.al.length g.al.length true/\ns=[tS 3 1 (ahr (g.al.length*1) (aI (-1))) g.al.length true (.slice q 0 g.al.length g.al.length true)]) U (λj hj=>by simp only[aeV,aki,or_false]at hj;rcases hj with rfl|rfl|rfl<;>assumption) (λH0 a4 hs=>Pn T (u:=aI (-1)) rfl (cv.move (hs W (by simp only[aeV,aki,or_false,not_or];exact⟨n1,n2,n3⟩)) (by rw[a4];exact afb _)) af λH' q U=>⟨_,U,q,rfl,rfl⟩) (λv ns HU hQ d' U=>?_);obtain⟨qu,rfl,rfl⟩:=hQ;refine⟨λaa cx=>il cx rfl rfl hd hX.bl.bX (by rw[U.gr.bh l];exact a3) rfl,?_⟩;refine RO.gG U 2 (λH6 U=>?_);refine RO.gG U 1 (λH7 U=>?_);have eu:ahr (g.al.length*1) (aI (-1))=(ahr g.al.length (-1)).map aI:=by rw[alt,alz]
 rw[eu]at U;have U:aj H H7 (yR X Y J qu g.al.length (ahr g.al.length 0) (ahr g.al.length (-1))++(tS 3 1 (ak.map aN) ak.length true R::[tS 3 1 [aI (-1)] 1 true (.slice W 0 1 1 true)])):=(((((U.gk 3 rfl).gk 5 rfl).gk 2 rfl).gk 5 rfl).gk 4 rfl).gk 5 rfl;refine ah ?_;have w:∀b∈ak,b<g.al.length:=λb hb=>hK.lt ((V.mem b).1 hb);have ea:ak.length<=g.al.length:=vB _ _ V.nd w;refine Ru.nm λS M hS L=>?_;refine Ru.cC L (up (P:=λk=>∀z ranks,ranks.length=g.al.length->(∀i(e0:i<ak.length),i<k->ranks.getD ak[i] 0=i)->aj H z (yR X Y J qu g.al.length ranks (ahr g.al.length (-1))++(tS 3 1 (ak.map aN) ak.length true R::[tS 3 1 [aI (-1)] 1 true (.slice W 0 1 1 true)]))->Ru ac _ S ([(di,aN k)]++pk M [p0,p3,p4,p5,cV,cH]) z) ak.length (λk hk ih z ranks O bv U=>?_) 0 af _ _ aB (λi _ e0=>by omega) U);subst hS;subst L;refine Ru.loop ?_;refine au ?_;refine Ru.cond (λl=>?_) (λl=>?_)
 .have eb:=w _ (agB l);refine ah ?_;refine RO.lg (bm.refl z) (U.sl (e:=3) (size:=1) (sv:=R) (vs:=ak.map aN) (n:=ak.length) (full:=true) 4) (λq o hj a5=>?_);refine RO.aW ?_ (hc:=a5);refine ah ?_;refine RO.lC (f:=aN) (zs:=ranks) (n:=g.al.length) U 2 k O (λH9 U=>?_) (k:=ak[k]);refine ah ?_;have g1:∀i(e0:i<ak.length),i<k+1->(ranks.set ak[k] k).getD ak[i] 0=i:=λi hi Z=>by
   rw[fu af];split;·rename_i e;exact(Pq V.nd hi l e).symm
   rename_i e;exact bv i hi (by have:i≠k:=λe2=>e (by subst e2;rfl);omega)
  exact Ru.wk (ih (k+1) af af H9 _ (by simpa using O) g1 U)
 have F:Rk (wW g os) ak ranks:=⟨V.nd,V.hd,V.aM,λi hi=>bv i hi af⟩;refine Ru.exitTo ?_;refine ah ?_;refine RO.lC (f:=aI) (zs:=ahr g.al.length (-1)) (n:=g.al.length) U 3 0 aB (λH9 U=>?_) (k:=0) (ho:=by simpa using a2);refine ah ?_;have O:ranks.length=g.al.length:=O;refine Ru.nm λS2 M2 hS L=>?_;refine Ru.cC L (dn (P:=λm=>∀z up r us,oz (wW g os) ak ranks g.al.length up->(r=false->∀b∈ak,0<=up.getD b (-1)/\∀x∈wW g os b,jH up b x)->(rp ranks g.al.length up+if r then 1 else 0)=m->aj H z (yR X Y J qu g.al.length ranks up++(tS 3 1 (ak.map aN) ak.length true R::us))->Ru ac _ S2 ([(p9,.bool r)]++pk M2 [p0,p3,p4,p5,p8]) z) (λm cy z up r us hC eZ hm U=>?_) _ H9 _ true _ (aeK a2) (λe0=>by cases e0) rfl U);subst hS;subst L;refine Ru.loop ?_;cases r with
 |false=>refine ah ?_;refine Ru.exitTo ?_;refine ah ?_;refine RO.lC (f:=aI) (zs:=up) (n:=g.al.length) U 3 (-1) hC.len (λcE U=>?_) (k:=0) (ho:=by rw[hC.len];exact a2);refine ah ?_;exact Ru.aV (e0 cE _ ak ranks up V F hC (λb hb=>(eZ rfl b hb).1) (λb hb=>(eZ rfl b hb).2) ((U.gk 3 rfl).sub (alh _ (List.nil_sublist _))))
 |true=>
  refine ah ?_;refine Ru.nm λS3 M3 hS L=>?_;refine Ru.cC L (Go.am.up (P:=λk=>∀z N r us,oz (wW g os) ak ranks g.al.length N->(∀i(e0:i<ak.length),i<k->∀x∈wW g os ak[i],0<=N.getD x (-1))->(r=false->∀i(e0:i<ak.length),i<k->∀x∈wW g os ak[i],jH N ak[i] x)->(rp ranks g.al.length N+if r then 1 else 0)<=rp ranks g.al.length up->aj H z (yR X Y J qu g.al.length ranks N++(tS 3 1 (ak.map aN) ak.length true R::us))->Ru ac _ S3 ([(p9,.bool r),(dX,aN k)]++pk M3 [p0,p3,p4,p5,p8,dB,dH]) z) ak.length (λk hk c3 z N r us a6 b0 b3 c5 U=>?_) 0 af _ up false _ hC (λi _ e0=>by omega) (λ_ i _ e0=>by omega) aB U);subst hS;subst L;refine Ru.loop ?_;refine au ?_;refine Ru.cond (λl=>?_) (λl=>?_)
  .have ag:ak[k]∈ak:=agB l;have ec:=F.rk k l;have a8:=(V.mem _).1 ag;refine ah ?_;refine RO.lg (bm.refl z) (U.sl (e:=3) (size:=1) (sv:=R) (vs:=ak.map aN) (n:=ak.length) (full:=true) 4) (λq o hj a5=>?_);refine RO.aW ?_ (hc:=a5);refine ah ?_;refine RO.cl (Jp T hB hE (hX.cI U.gr) hK a8 λHY vw hl=>?_);have⟨ei,_,_,ej⟩:=(hl.sl (e:=3) (size:=1) (sv:=vw) (vs:=(wW g os ak[k]).map aN) (n:=(wW g os ak[k]).length) (full:=true) 0).all;have U:aj H HY (yR X Y J qu g.al.length ranks N++(tS 3 1 (ak.map aN) ak.length true R::tS 3 1 ((wW g os ak[k]).map aN) (wW g os ak[k]).length true vw::us)):=(U.fC hl).cM (akj (l₁:=[_,_,_,_,_])).symm;have dx:(wW g os ak[k]).length<=12:=by have:=E4 (now:=os.getD ak[k] []) hB (hK.lt a8);simpa[wW,mK]using this
   generalize hb:ak[k]=b at*;refine ah ?_;refine Ru.nm λS4 M4 hS L=>?_;refine Ru.cC L (Go.am.up (P:=λj=>∀z c r,oz (wW g os) ak ranks g.al.length c->(∀i(e0:i<ak.length),i<k->∀x∈wW g os ak[i],0<=c.getD x (-1))->(∀x∈(wW g os b).take j,0<=c.getD x (-1))->(r=false->(∀i(e0:i<ak.length),i<k->∀x∈wW g os ak[i],jH c ak[i] x)/\∀x∈(wW g os b).take j,jH c b x)->(rp ranks g.al.length c+if r then 1 else 0)<=rp ranks g.al.length up->aj H z (yR X Y J qu g.al.length ranks c++(tS 3 1 (ak.map aN) ak.length true R::tS 3 1 ((wW g os b).map aN) (wW g os b).length true vw::us))->Ru ac _ S4 ([(p9,.bool r),(d9,aN j)]++pk M4 [p0,p3,p4,p5,p8,aR,dB,dH,dX,dR,eM]) z) (wW g os b).length (λj hj av z c r n aw b4 ax P U=>?_) 0 af _ N r a6 b0 (λx f=>by simp at f) (λe0=>⟨b3 e0,λx f=>by simp at f⟩) c5 U);subst hS;subst L;refine Ru.loop ?_;refine au ?_;refine Ru.cond (λb5=>?_) (λb5=>?_)
   .have ay:=n.len;have b6:(wW g os b)[j]∈wW g os b:=agB b5;have c8:=hK.ls a8 b6;have Q:=(V.mem _).2 c8;have b':=w _ Q;have a9:0<=c.getD b (-1):=by
     by_cases h0:b=0;·rw[h0,n.u0];omega
     obtain⟨y,hy,hw,a'⟩:=F.cO ag h0;obtain⟨i,hi,rfl⟩:=aka hy;rw[F.rk i hi]at a';exact aw i hi af b hw
    refine ah ?_;refine RO.lg (bm.refl z) (U.sl (e:=3) (size:=1) (sv:=vw) (vs:=(wW g os b).map aN) (n:=(wW g os b).length) (full:=true) 5) (λq2 o2 ek cn=>?_);refine RO.aW ?_ (hc:=cn);have a0:∀d,gO (wW g os) d (wW g os b)[j]->d≠(wW g os b)[j]->gO (wW g os) d b:=λd hd hn=>hd.cO b6 hn;have ca:(wW g os b).take (j+1)=(wW g os b).take j++[(wW g os b)[j]]:=by rw[akd]
    generalize(wW g os b)[j]=to at*;have A:∀u3:List Int,(∀x,0<=c.getD x (-1)->0<=u3.getD x (-1))->0<=u3.getD to (-1)->(∀i(e0:i<ak.length),i<k->∀x∈wW g os ak[i],0<=u3.getD x (-1))/\∀x∈(wW g os b).take (j+1),0<=u3.getD x (-1):=λu3 h1 h2=>⟨λi hi Z x f=>h1 x (aw i hi Z x f),λx f=>by
     rw[ca]at f;rcases ahp.1 f with f|f;·exact h1 x (b4 x f)
     rw[aep]at f;rw[f];exact h2⟩;have cd:jH c b to->r=false->(∀i(e0:i<ak.length),i<k->∀x∈wW g os ak[i],jH c ak[i] x)/\∀x∈(wW g os b).take (j+1),jH c b x:=λhe e0=>⟨(ax e0).1,λx f=>by
     rw[ca]at f;rcases ahp.1 f with f|f;·exact(ax e0).2 x f
     rw[aep]at f;rw[f];exact he⟩;have a1:∀(now:Nat)(x:Nat),(c.set to (now:Int)).getD x (-1)=if x=to then(now:Int)else c.getD x (-1):=λnow x=>fu af;have E:∀(now:Nat),(∀x,0<=c.getD x (-1)->0<=(c.set to (now:Int)).getD x (-1))/\0<=(c.set to (now:Int)).getD to (-1):=λnow=>⟨λx f=>by
     rw[a1];split;·omega
     exact f,by rw[a1,aK rfl];omega⟩;refine ah ?_;by_cases hu:c.getD to (-1)= -1
    .have ba:to≠0:=λe=>by rw[e,n.u0]at hu;omega
     refine RO.fD U 3 (v:=aI (-1)) (hv:=by rw[uf (-1) af,hu]) ?_;refine ah ?_;refine RO.de (λ_=>?_) (λe0=>absurd ba e0);refine ah ?_;refine RO.fD U 3 (v:=aI (-1)) (hv:=by rw[uf (-1) af,hu]) ?_;refine ah ?_;refine RO.lC (f:=aI) (zs:=c) (n:=g.al.length) U 3 (b:Int) ay (λbb U=>?_) (k:=to);refine ah ?_;have c9:ranks.getD b 0<ranks.getD to 0:=by
      apply akx;intro el;obtain⟨et,e2⟩:=F.at Q;have e3:0<=c.getD to (-1):=by
       by_cases e4:ranks.getD to 0=k
       .have:to=b:=by rw[<-e2,<-hb];simp only[e4]
        rw[this];exact a9
       obtain⟨y,hy,hw,a'⟩:=F.cO Q ba;obtain⟨i,hi,rfl⟩:=aka hy;rw[F.rk i hi]at a';exact aw i hi af to hw
      omega
     have bc:=n.set F Q b' ba ag a9 c9 a0;have c':=Pp (ranks:=ranks) (n:=g.al.length) (up:=c) (k:=to) (now:=b) af (by rw[aK af];omega);obtain⟨C,D⟩:=A _ (E b).1 (E b).2;have bd:(rp ranks g.al.length (c.set to (b:Int))+if true then 1 else 0)<=rp ranks g.al.length up:=by rw[aK rfl];split at P<;>omega
     exact Ru.wk (av (j+1) af af bb _ true bc C D (λe0=>by cases e0) bd U)
    obtain⟨a,I⟩:∃a:Nat,c.getD to (-1)=a:=⟨(c.getD to (-1)).toNat,by have:=n.rg to;omega⟩;have hA:a∈ak/\0<=c.getD a (-1)/\(to≠0->ranks.getD a 0<ranks.getD to 0/\∀d,gO (wW g os) d to->d≠to->gO (wW g os) d a):=by
     by_cases h0:to=0
     .have:a=0:=by rw[h0,n.u0]at I;omega
      rw[this];exact⟨F.zero.1,by rw[n.u0];omega,λe0=>absurd h0 e0⟩
     obtain⟨_,dy,h1,h2,h3,h4,h5⟩:=n.ok to h0 af;have:a=dy:=af;subst this;exact⟨h2,h4,λ_=>⟨h3,h5⟩⟩
    obtain⟨cf,dm,dr⟩:=hA;refine RO.fD U 3 (v:=aN a) (hv:=by rw[uf (-1) af,I];rfl) ?_;refine ah ?_;refine RO.fD U 3 (v:=aN a) (hv:=by rw[uf (-1) af,I];rfl) ?_;refine ah ?_;refine RO.cl (aeJ T F n O af w U cf ag dm a9 λm2 t=>?_);have ew:=w _ t.mem;refine ah ?_;refine RO.de (λh0=>?_) (λh0=>?_)
    .have h0:to≠0:=h0;obtain⟨eY,ds⟩:=dr h0;refine ah ?_;refine RO.fD U 3 (v:=aN a) (hv:=by rw[uf (-1) af,I];rfl) ?_;refine ah ?_;refine Ru.cond (λB=>?_) (λB=>?_)
     .have B:a≠m2:=B;refine ah ?_;refine RO.lC (f:=aI) (zs:=c) (n:=g.al.length) U 3 (m2:Int) ay (λbb U=>?_) (k:=to);refine ah ?_;have dv:ranks.getD m2 0<ranks.getD a 0:=Nat.lt_of_le_of_ne t.ra λe=>B (F.inj cf t.mem e.symm);have bc:=n.set F Q b' h0 t.mem t.df af (λd hd hn=>t.fH d (ds d hd hn) (a0 d hd hn));have c':=Pp (ranks:=ranks) (n:=g.al.length) (up:=c) (k:=to) (now:=m2) af (by rw[aq af,I,aj3];exact dv);obtain⟨C,D⟩:=A _ (E m2).1 (E m2).2;have bd:(rp ranks g.al.length (c.set to (m2:Int))+if true then 1 else 0)<=rp ranks g.al.length up:=by rw[aK rfl];split at P<;>omega
      exact Ru.wk (av (j+1) af af bb _ true bc C D (λe0=>by cases e0) bd U)
     refine ah ?_;obtain⟨C,D⟩:=A c (λ_ e0=>e0) af;have cp:a=m2:=Classical.not_not.1 B;exact Ru.wk (av (j+1) af af z c r n C D (cd λ_=>⟨a,I,by rw[cp];exact t.EM⟩) P U)
    refine ah ?_;obtain⟨C,D⟩:=A c (λ_ e0=>e0) af;exact Ru.wk (av (j+1) af af z c r n C D (cd λh9=>absurd h9 h0) P U)
   refine Ru.exitTo ?_;refine ah ?_;have g1:∀i(e0:i<ak.length),i<k+1->∀x∈wW g os ak[i],0<=c.getD x (-1):=λi hi Z x f=>by
    by_cases e:i=k;·subst e;rw[hb]at f;exact b4 x (by rw[akl af];exact f)
    exact aw i hi af x f
   have g2:r=false->∀i(e0:i<ak.length),i<k+1->∀x∈wW g os ak[i],jH c ak[i] x:=λh9 i hi Z x f=>by
    by_cases e:i=k;·subst e;rw[hb]at f⊢;exact(ax h9).2 x (by rw[akl af];exact f)
    exact(ax h9).1 i hi af x f
   exact Ru.wk (c3 (k+1) af af z c r _ n g1 g2 P U)
  refine Ru.exitTo ?_;refine ah ?_;have g1:r=false->∀b∈ak,0<=N.getD b (-1)/\∀x∈wW g os b,jH N b x:=λh9 b hb=>by
   refine⟨?_,λx f=>by obtain⟨i,hi,rfl⟩:=aka hb;exact b3 h9 i hi af x f⟩;by_cases h0:b=0;·rw[h0,a6.u0];omega
   obtain⟨y,hy,hw,_⟩:=F.cO hb h0;obtain⟨i,hi,rfl⟩:=aka hy;exact b0 i hi af b hw
  rw[aK rfl]at hm;exact Ru.wk (cy _ af z N r us a6 g1 rfl U)
end
end Go.am.R
namespace Go.am.R
section
variable{ac:Nat->aG}
section
def eU(l:List G.ic):List Int:=(l.map (·.to)).filter λt=>decide (0<=t)
def gX(b:G.gV):List Int:=b.params++eU b.aD
structure ug(g:G.bu)(x:G.ic):Prop where
 op:x.op∉CM
 w:(sA x.op).w≠ []
 r:EZ x g.bp (ue x.op x.m)
structure yS(n np:Nat)(gs:List Bool)(hist:List Int):Prop where
 len:gs.length=n
 nd:hist.Nodup
 rg:∀v∈hist,(np:Int)<=v/\v<n
 bH:∀v:Nat,v<n->(gs.getD v false=true↔v<np\/(v:Int)∈hist)
structure sD(g:G.bu):Prop where
 name:su g.name
 p0:0<=g.params
 p1:g.params<=g.bp
 ne:0<g.al.length
 first:(g.al.getD 0 default).params=[]
 aD:∀b∈g.al,∀x∈b.aD,ug g x
 CD:∀b∈g.al,yO g b.aA
 nd:(g.al.flatMap gX).Nodup
 rg:∀v∈g.al.flatMap gX,g.params<=v/\v<g.bp
 all:∀v:Int,g.params<=v->v<g.bp->v∈g.al.flatMap gX
theorem Jt{l:List G.ic}{x:G.ic}:eU (l++[x])=eU l++if 0<=x.to then[x.to]else[]:=by simp only[eU,akE,List.filter_append];by_cases h:0<=x.to<;>simp[h]
theorem yS.add{n f:Nat}{g:List Bool}{c:List Int}(h:yS n f g c){v:Nat}(i:v<n)(hg:g.getD v false=false):yS n f (g.set v true) (c++[(v:Int)]):=by
 have hl:=h.len;have h1:¬(v<f\/(v:Int)∈c):=λe=>by rw[(h.bH v i).2 e]at hg;cases hg
 rw[not_or]at h1;refine⟨by simpa using hl,?_,λx d=>?_,λx d=>?_⟩;·rw[akI];refine⟨h.nd,aB,λa j b hb=>?_⟩;rw[aep]at hb;subst hb;exact λe=>h1.2 (e▸j)
 .rcases ahp.1 d with d|d;·exact h.rg x d
  rw[aep]at d;omega
 rw[fu af,ahp,aep];by_cases e:x=v;·subst e;simp
 rw[aq e,h.bH x d];have:¬(x:Int)=v:=af;simp[this]
section
variable{g:G.bu}{H:ai}{cs:List AV}
theorem aeM(T:Tb ac)(hg:iG H g cs)(hB:G.Sm g)(hY:CQ g)(d2:g.name.length<=60)(b6:g.bp<=6000){K:KT}(h1:∀H',bm H H'->sD g->K (.bool true) H')(h2:∀H',bm H H'->¬sD g->K (.bool false) H'):YN ac Wt [.agg cs] H K:=by
 have dz:=hg.one;have a5:=hg;obtain⟨vb,rfl,cA⟩:=hg;have⟨d3,_,_,d4⟩:=cA.all;have d5:=hB.nb;refine YF.code T.abd aB ?_;refine Ru.seq ?_;refine Ru.region ?_;refine RO.dL (aj.dc H) λH1 q U=>?_;have U:aj H H1 [tB fI q [.str g.name,aI g.params,aI g.bp,vb]]:=U;refine RO.bg ?_;refine RO.nil ?_;refine Ru.seq ?_;refine Ru.wP (P:=λM H'=>M=[(p1,.az q 0)]/\su g.name/\0<=g.params/\g.params<=g.bp/\0<g.al.length/\(g.al.getD 0 default).params=[]/\aj H H' [tB fI q [.str g.name,aI g.params,aI g.bp,vb]]) (λM H2⟨hM,f1,f2,f3,f4,f5,U⟩=>?_) (λs' a4=>?_);rotate_left
 .refine ah ?_;refine RO.cl (EX T hY.nm af (λg1=>?_) λS=>?_);rotate_left;·refine ah ?_;exact Ru.aV (h2 _ U.gr λc=>S c.name)
  refine ah ?_;refine RO.cl (sx T (λg2 F=>?_) (λS=>?_));rotate_left;·refine ah ?_;exact Ru.aV (h2 _ U.gr λc=>S ⟨c.p0,c.p1⟩)
  have g2:0<=g.params:=g2;refine ah ?_;refine RO.de (λV=>?_) (λV=>?_);·refine ah ?_;exact Ru.aV (h2 _ U.gr λc=>by have l:=c.ne;omega)
  have ax:0<g.al.length:=af;refine ah ?_;refine RO.cZ U.gr cA (λq1 o1 c1 b' X ca hat hrd=>?_) (j:=0);obtain⟨vp,Y,jc,rfl,Z,_⟩:=X;have⟨cd,_,_,cf⟩:=Z.all;refine ah ?_;refine Ru.cond (λg5=>?_) (λg5=>?_);·refine ah ?_;exact Ru.aV (h2 _ U.gr λc=>by have l:=c.first;rw[bF ax]at l;simp[l]at g5)
  refine ah ?_;exact a4 _ _ _ ⟨rfl,g1,g2,F,ax,by rw[bF ax];exact akM af,U⟩ fB
 subst hM;obtain⟨n,W⟩:∃n:Nat,g.bp=n:=⟨g.bp.toNat,af⟩;obtain⟨I,y⟩:∃n:Nat,g.params=n:=⟨g.params.toNat,af⟩;rw[W,y]at U a5;rw[W]at b6 f3;rw[y]at f3;refine ah ?_;refine RO.oT U (n:=n) (λH3 qg U=>?_) (hz:=by rw[iZ];simp);have aw:yS n 0 (ahr n false) []:=⟨aB,alD,λv hv=>(by cases hv),λv hv=>by simp[akm,ak8,hv]⟩;have U:aj H H3 [tS 4 1 ((ahr n false).map .bool) n true (.slice qg 0 n n true),tB fI q [.str g.name,aI I,aI n,vb]]:=by rw[iZ]at U;rw[alz];exact U
 refine ah ?_;refine Ru.nm λS0 M hS hM=>?_;refine Ru.cC hM (up (P:=λk=>∀u f,yS n k f []->aj H u [tS 4 1 (f.map .bool) n true (.slice qg 0 n n true),tB fI q [.str g.name,aI I,aI n,vb]]->Ru ac _ S0 ([(p4,aN k)]++pk M [p1,p3]) u) I (λk hk ih u f a U=>?_) 0 af _ _ aw U);subst hS;subst hM;refine Ru.loop ?_;refine ah ?_;refine Ru.cond (λcn=>?_) (λcn=>?_)
 .refine ah ?_;refine RO.lC U 0 true a.len (λH4 U=>?_) (k:=k) (ho:=by rw[a.len];omega);refine ah ?_;exact Ru.wk (ih (k+1) af af H4 _ ⟨by simpa using a.len,alD,λv hv=>(by cases hv),λv hv=>by
   rw[fu (by rw[a.len];omega)];by_cases e:v=k;·subst e;simp
   rw[aq e,a.bH v hv];simp;omega⟩ U)
 refine Ru.exitTo ?_;obtain rfl:I=k:=af;refine ah ?_;clear aw ih;refine Ru.nm λS0 M hS hM=>?_;refine Ru.cC hM (up (P:=λk=>∀u f,yS n I f ((g.al.take k).flatMap gX)->(∀x(h:x<g.al.length),x<k->(∀s∈g.al[x].aD,ug g s)/\yO g g.al[x].aA)->aj H u [tS 4 1 (f.map .bool) n true (.slice qg 0 n n true),tB fI q [.str g.name,aI I,aI n,vb]]->Ru ac _ S0 ([(p5,aN k)]++pk M [p1,p3]) u) g.al.length (λk hk ih u f a J U=>?_) 0 af _ f a (λx _ C=>by omega) U);subst hS;subst hM;refine Ru.loop ?_;refine ah ?_;refine Ru.cond (λO=>?_) (λO=>?_)
 .have o:=agB O;have d6:=hB.bl _ o;have cp:=hB.st _ o;have cv:=hB.ed _ o;have cx:=hY.st _ o;have cy:=hY.fn _ o;have cE:=hY.kd _ o;have ay:g.al.take (k+1)=g.al.take k++[g.al[k]]:=(akd O).symm;have ih:=ih (k+1) af af;rw[ay,akD,akK]at ih;have J:(∀s∈g.al[k].aD,ug g s)/\yO g g.al[k].aA->∀x(h:x<g.al.length),x<k+1->(∀s∈g.al[x].aD,ug g s)/\yO g g.al[x].aA:=λhb x C h=>by
   by_cases e:x=k;·subst e;exact hb
   exact J x C af
  have a6:sD g->(∀s∈g.al[k].aD,ug g s)/\yO g g.al[k].aA:=λc=>⟨c.aD _ o,c.CD _ o⟩;have a8:sD g->∀v∈gX g.al[k],g.params<=v/\v<g.bp:=λc v hv=>c.rg v (akZ.2 ⟨_,o,hv⟩);have c3:sD g->((g.al.take k).flatMap gX++gX g.al[k]).Nodup:=λc=>by have l:=c.nd;rw[<-ala (k+1) g.al,ay,akD,akD,akK,akI]at l;exact l.1
  clear ay;generalize(g.al.take k).flatMap gX=P at*;refine ah ?_;refine RO.cZ U.gr cA (λq1 o1 c1 b' X ca hat hrd=>?_) (j:=k);have d0:=X.one;generalize g.al[k]=B at*;obtain⟨vp,Y,jc,rfl,Z,ag,a9⟩:=X;have b0:=a9;obtain⟨va,vk,vg,rfl,_⟩:=a9;have⟨cd,_,_,cf⟩:=Z.all;have⟨d7,_,_,d8⟩:=ag.all;refine ah ?_;refine RO.fx U λH5 q6 U=>?_;refine ah ?_;refine RO.qS U 1 λH6 v0 U=>?_;have⟨d',_,_,_⟩:=(U.sl (e:=3) (size:=1) (sv:=v0) (vs:=[]) (n:=0) (full:=true) 0).all;refine ah ?_;refine RO.pZ U 0 (U.gr.sl Z) (λH7 v1 U=>?_) (h1:=qP _);have U:aj H H7 [tS 3 1 ((B.params++eU (B.aD.take 0)).map aI) (B.params++eU (B.aD.take 0)).length true v1,tB dW q6 [vp,Y,aU B.aA.op,va,.str B.aA.name,vk,vg],tS 4 1 (f.map .bool) n true (.slice qg 0 n n true),tB fI q [.str g.name,aI I,aI n,vb]]:=by rw[alm,show eU []=[]from rfl,akT];rw[akh]at U;exact U
  have⟨ea,_,_,_⟩:=(U.sl (e:=3) (size:=1) (sv:=v1) (vs:=(B.params++eU (B.aD.take 0)).map aI) (n:=(B.params++eU (B.aD.take 0)).length) (full:=true) 0).all;refine ah ?_;refine Ru.nm λS1 M1 L p=>?_;refine Ru.cC p (up (P:=λj=>∀u lv,(∀x(h:x<B.aD.length),x<j->ug g B.aD[x])->aj H u [tS 3 1 ((B.params++eU (B.aD.take j)).map aI) (B.params++eU (B.aD.take j)).length true lv,tB dW q6 [vp,Y,aU B.aA.op,va,.str B.aA.name,vk,vg],tS 4 1 (f.map .bool) n true (.slice qg 0 n n true),tB fI q [.str g.name,aI I,aI n,vb]]->Ru ac _ S1 ([(p8,aN j),(p7,lv)]++pk M1 [p1,p3,p5,p6]) u) B.aD.length (λj hj A u lv eh U=>?_) 0 af _ _ (λx _ C=>by omega) U);subst L;subst p;have⟨eb,_,_,a'⟩:=(U.sl (e:=3) (size:=1) (sv:=lv) (vs:=(B.params++eU (B.aD.take j)).map aI) (n:=(B.params++eU (B.aD.take j)).length) (full:=true) 0).all;refine Ru.loop ?_;refine ah ?_;refine Ru.cond (λQ=>?_) (λQ=>?_)
  .have a0:=agB Q;have ec:=cp _ a0;have c5:=cx _ a0;have A:=A (j+1) af af;rw[(akd Q).symm,Jt,<-aj2]at A;have eh:ug g B.aD[j]->∀x(h:x<B.aD.length),x<j+1->ug g B.aD[x]:=λhb x C h=>by
    by_cases e:x=j;·subst e;exact hb
    exact eh x C af
   have c8:(B.params++eU (B.aD.take j)).length<=100:=by
    have:(eU (B.aD.take j)).length<=(B.aD.take j).length:=by unfold eU;exact alj (List.length_filter_le _ _) aB
    rw[aj8];rw[akF]at this;omega
   generalize B.params++eU (B.aD.take j)=D at*;refine ah ?_;refine RO.cZ U.gr ag (λq9 o9 eY a1 ba ei hat hrd=>?_) (j:=j);have b3:=ba;generalize C:B.aD[j]=x at*;obtain⟨ej,rfl,d1⟩:=ba;refine ah ?_;refine RO.cl (aeq T (v:=(n:Int)) (dQ.step U.gr b3) c5 af af af af (λH8 hg g1 g2 F=>?_) (λH8 hg S=>?_));rotate_left;·have U:=U.cI hg;refine ah ?_;exact Ru.aV (h2 _ U.gr λc=>S (by have l:=(a6 c).1 x a0;exact⟨l.op,l.w,by have h9:=l.r;rwa[W]at h9⟩))
   have U:=U.cI hg;have bb:ug g x:=⟨g1,g2,by rw[W];exact F⟩;refine ah ?_;refine RO.cZ U.gr ag (λq7 o7 c7 c9 N c' R b4=>?_) (j:=j);rw[C]at N;obtain⟨dm,rfl,b5⟩:=N;refine ah ?_;refine RO.aW (v:=aI x.to) ?_ (hc:=R 1 _ rfl);refine ah ?_;refine Ru.cond (λV=>?_) (λV=>?_);·have V:0<=x.to:=V;rw[aK V]at A;refine ah ?_;refine RO.cZ U.gr ag (λq7 o7 c7 c9 N c' R b4=>?_) (j:=j);rw[C]at N;obtain⟨dm,rfl,b5⟩:=N;refine ah ?_;refine RO.aW (v:=aI x.to) ?_ (hc:=R 1 _ rfl);refine RO.push U 0 (λw0 H9 v2 U=>?_) (ws:=[aI x.to]);have⟨ek,el,et,_⟩:=(U.sl (e:=3) (size:=1) (n:=D.length+1) (full:=true) (sv:=v2) 0).all;refine ah ?_;exact Ru.wk (A _ v2 (eh bb) (by rw[akE,aj8];exact U))
   have V:¬0<=x.to:=V;rw[aq V,akT]at A;refine ah ?_;exact Ru.wk (A _ lv (eh bb) U)
  refine Ru.exitTo ?_;have eh:∀s∈B.aD,ug g s:=λs hs=>by obtain⟨x,C,rfl⟩:=aka hs;exact eh x C af
  rw[akl af]at U a';have dr:B.params++eU B.aD=gX B:=rfl;rw[dr]at U a';have c8:(gX B).length<=100:=by have:=List.length_filter_le (λt=>decide (0<=t)) (B.aD.map (·.to));rw[akg]at this;rw[gX,eU,aj8];omega
  generalize ew:gX B=D at*;refine ah ?_;refine Ru.nm λS1 M1 L p=>?_;refine Ru.cC p (up (P:=λm=>∀u f,yS n I f (P++D.take m)->aj H u [tS 3 1 (D.map aI) D.length true lv,tB dW q6 [vp,Y,aU B.aA.op,va,.str B.aA.name,vk,vg],tS 4 1 (f.map .bool) n true (.slice qg 0 n n true),tB fI q [.str g.name,aI I,aI n,vb]]->Ru ac _ S1 ([(p9,aN m)]++pk M1 [p1,p3,p5,p6,p7]) u) D.length (λm hm E u f a U=>?_) 0 af _ f (by rw[alm,akT];exact a) U);subst L;subst p;have a2:=U.sl (e:=3) (size:=1) (sv:=lv) (vs:=D.map aI) (n:=D.length) (full:=true) 0;refine Ru.loop ?_;refine ah ?_;refine Ru.cond (λd=>?_) (λd=>?_)
  .have E:=E (m+1) af af;rw[(akd d).symm,<-aj2]at E;have ds:sD g->D[m]∉P++D.take m:=λc hm=>by have l:=c3 c;rw[<-ala m D,aj9 d,<-aj2,akI]at l;exact l.2.2 _ hm _ (aeU ..) rfl
   have bc:=agB d;generalize P++D.take m=h0 at*;refine ah ?_;refine RO.lg (bm.refl _) a2 (λq9 o9 a1 av=>?_) (j:=m);generalize hz:D[m]=z at*;refine ah ?_;refine RO.sub ?_ (a:=(n:Int)) (b:=1);refine RO.cl (sx T (λg1 g2=>?_) (λS=>?_));rotate_left;·refine ah ?_;exact Ru.aV (h2 _ U.gr λc=>S (by have l:=a8 c z bc;rw[W,y]at l;exact⟨by show(0:Int)<=z;omega,by show z<=(n:Int) - 1;omega⟩))
   have g1:0<=z:=g1;obtain⟨v,rfl⟩:∃v:Nat,z=v:=⟨z.toNat,af⟩;have bd:v<n:=af;refine ah ?_;refine RO.lg (bm.refl _) a2 (λq9 o9 a1 av=>?_) (j:=m);rw[hz]at av;have bv:=a.len;have a3:(f.map AV.bool)[0+v*1]?=some (.bool (f.getD v false)):=by rw[show 0+v*1=v by omega,aks,getElem?_pos f v af,bF af];rfl
   refine ah ?_;refine RO.fD U 2 (hv:=a3) ?_;refine ah ?_;refine Ru.kN (λF=>?_) (λF=>?_);·refine ah ?_;exact Ru.aV (h2 _ U.gr λc=>by have l:=(a.bH v bd).1 F;have h9:=a8 c v bc;rw[W,y]at h9;exact l.elim (λh=>by omega) (ds c))
   refine ah ?_;refine RO.lg (bm.refl _) a2 (λq9 o9 a1 av=>?_) (j:=m);rw[hz]at av;refine ah ?_;refine RO.lC U 2 true bv (λH9 U=>?_) (k:=v) (ho:=by omega);refine ah ?_;exact Ru.wk (E _ _ (a.add bd F) U)
  refine Ru.exitTo ?_;rw[akl af]at a;refine ah ?_;refine RO.eQ U 3 ?_;refine ah ?_;refine RO.eQ U 1 (m:=5) (o:=2) ?_;refine RO.cl (aer T (dQ.nM U.gr a5) (j:=B.aA) (dQ.Ig U.gr b0) hB af af cy cE ⟨af,af,af,af⟩ cv (λH8 hg g1=>?_) (λH8 hg S=>?_));rotate_left;·have U:=U.cI hg;refine ah ?_;exact Ru.aV (h2 _ U.gr λc=>S (a6 c).2)
  have U:=U.cI hg;refine ah ?_;exact Ru.wk (ih _ _ a (J ⟨eh,g1⟩) U.tail.tail)
 refine Ru.exitTo ?_;rw[akl af]at a;have bv:=a.len;refine ah ?_;refine Ru.nm λS1 M1 L p=>?_;refine Ru.cC p (up (P:=λm=>(∀x,x<m->f.getD x false=true)->Ru ac _ S1 ([(aO,aN m)]++pk M1 [p1,p3]) u) n (λm hm E eZ=>?_) 0 af (λx C=>by omega));subst L;subst p;refine Ru.loop ?_;refine ah ?_;refine Ru.cond (λd=>?_) (λd=>?_)
 .have a3:(f.map AV.bool)[0+m*1]?=some (.bool (f.getD m false)):=by rw[show 0+m*1=m by omega,aks,getElem?_pos f m af,bF af];rfl
  refine ah ?_;refine RO.fD U 0 (hv:=a3) ?_;refine ah ?_;refine Ru.kN (λF=>?_) (λF=>?_);·refine ah ?_;exact Ru.aV (h2 _ U.gr λc=>by have l:=(a.bH m d).2 (by by_cases e:m<I;exact .inl e;exact .inr (c.all m af af));rw[l]at F;simp at F)
  refine ah ?_;exact Ru.wk (E (m+1) af af λx C=>by
   by_cases e:x=m;·subst e;simpa using F
   exact eZ x af)
 refine Ru.exitTo ?_;refine ah ?_;exact Ru.aV (h1 _ U.gr ⟨f1,f2,by rw[W,y];exact f3,f4,f5,λb hb x C=>by obtain⟨i,hi,rfl⟩:=aka hb;exact(J i hi af).1 x C,λb hb=>by obtain⟨i,hi,rfl⟩:=aka hb;exact(J i hi af).2,a.nd,λv hv=>by rw[W,y];exact a.rg v hv,λv dv dx=>by rw[y]at dv;rw[W]at dx;have dy:v.toNat<n:=af;have:=(a.bH _ dy).1 (eZ _ af);rw[Int.toNat_of_nonneg af]at this;exact this.resolve_left af⟩)
end
end
section
section
variable{W:Nat->List Nat}{ak ranks:List Nat}{up:List Int}{n:Nat}{B H:ai}{f:AV}
theorem pI.via{d a b:Nat}(h:pI W d b):pI W a b\/pI W d a:=by
 induction h with
 |zero h=>
  by_cases e:0=a;·subst e;exact .inr (.zero h)
  exact .inl (.zero e)
 | @step y x i g j c=>
  rcases c with c|c
  .by_cases e:x=a;·subst e;exact .inr (.step i g j)
   exact .inl (.step c g e)
  exact .inr c
theorem L7(h0:0∈ak)(j:∀y∈ak,∀x∈W y,x∈ak)(p:∀b∈ak,∀x∈W b,jH up b x){d b:Nat}(h:kw up d b):gO W d b:=λe=>by
 have key:∀b,pI W d b->b∈ak/\¬kw up d b:=by
  intro b e;induction e with
  |zero h=>refine⟨h0,λg=>?_⟩;generalize q:(0:Nat)=z at*;cases g with|refl=>exact h rfl|step _ i _=>exact i q.symm
  | @step y x s o i r=>obtain⟨a,k⟩:=r;refine⟨j y a x o,λg=>?_⟩;cases g with|refl=>exact i rfl| @step _ c t l n=>obtain⟨m,h1,h2⟩:=p y a x o l;have:m=c:=af;subst this;exact k (n.trans h2)
 exact(key b e).2 h
structure wK(W:Nat->List Nat)(ak ranks:List Nat)(n:Nat)(up:List Int):Prop where
 Md:oz W ak ranks n up
 all:∀b∈ak,0<=up.getD b (-1)
 zero:0∈ak
 cl:∀y∈ak,∀x∈W y,x∈ak
 ed:∀b∈ak,∀x∈W b,jH up b x
theorem wK.HV(h:wK W ak ranks n up){d b:Nat}(hb:b∈ak)(h0:b≠0)(e:d≠b):∃a:Nat,up.getD b (-1)=a/\a∈ak/\ranks.getD a 0<ranks.getD b 0/\(gO W d a↔gO W d b):=by obtain⟨_,a,h1,h2,h3,_,g⟩:=h.Md.ok b h0 (h.all b hb);have c:gO W a b:=L7 h.zero h.cl h.ed (.step h1 h0 .refl);exact⟨a,h1,h2,h3,λhd i=>(pI.via i).elim c hd,λhd=>g d hd e⟩
theorem aeQ(T:Tb ac)(j:wK W ak ranks n up)(p:∀b∈ak,b<n)(hg:bm B H)(hs:Sl B 1 ((up.set 0 (-1)).map aI) n f){d b:Nat}(hb:b∈ak){K:KT}(k:∀r:Bool,(r=true↔gO W d b)->K (.bool r) H):YN ac XJ [f,aN d,aN b] H K:=by
 have l:=j.Md.len;have⟨A,_,_,_⟩:=hs.all;have s:Sl B 1 ((up.set 0 (-1)).map aI) (up.set 0 (-1)).length f:=by rw[ak4,l];exact hs
 refine YF.code T.acU aB ?_;refine ah ?_;refine Ru.nm λS M w u=>?_;refine Ru.cC u (dn (P:=λm=>∀b:Int,((b= -1/\K (.bool false) H)\/∃c:Nat,b=(c:Int)/\ranks.getD c 0+1=m/\c∈ak/\∀r:Bool,(r=true↔gO W d c)->K (.bool r) H)->Ru ac _ S ([(p2,aI b)]++pk M [p0,p1]) H) (λm v b hb=>?_) _ (b:Int) (.inr ⟨b,rfl,rfl,hb,k⟩));subst w;subst u;rcases hb with⟨rfl,x⟩|⟨c,rfl,C,hc,k⟩;·refine Ru.loop ?_;refine ah ?_;refine Ru.exitTo ?_;refine ah ?_;refine Ru.aV ?_;simpa using x
 have t:=p c hc;refine Ru.loop ?_;refine ah ?_;refine Ru.cond (λg=>?_) (λg=>?_)
 .have g:d≠c:=λe=>by subst e;simp at g
  refine ah ?_;refine RO.lg hg s (λq o hj i=>?_) (j:=c) (hj:=by rw[ak4,l];exact t);by_cases h0:c=0
  .subst h0;have e:(up.set 0 (-1))[0]'hj= -1:=by rw[List.getElem_set_self]
   rw[e]at i;refine RO.aW ?_ (hc:=i);refine ah ?_;exact Ru.wk (v 0 af (-1) (.inl ⟨rfl,k false ⟨λh=>(by cases h),λh=>absurd h.zero g⟩⟩))
  obtain⟨a,h1,h2,h3,y⟩:=j.HV hc h0 g;have e:(up.set 0 (-1))[c]'hj=(a:Int):=by rw[List.getElem_set_ne (λe=>h0 e.symm),<-h1,bF]
  rw[e]at i;refine RO.aW ?_ (hc:=i);refine ah ?_;exact Ru.wk (v (ranks.getD a 0+1) af (a:Int) (.inr ⟨a,rfl,rfl,h2,λr z=>k r (z.trans y)⟩))
 have g:d=c:=akx λe=>g (by simp;exact λe2=>e e2.symm);subst g;refine Ru.exitTo ?_;refine ah ?_;refine Ru.aV ?_;simpa using k true ⟨λ_=>L7 j.zero j.cl j.ed .refl,λ_=>rfl⟩
theorem aeR(T:Tb ac)(i:wK W ak ranks n up)(c:∀b∈ak,b<n)(hg:bm B H)(hs:Sl B 1 ((up.set 0 (-1)).map aI) n f){d b:Nat}(hb:b∈ak){K:KT}(e:∀r:Bool,(r=true↔d≠b/\gO W d b)->K (.bool r) H):YN ac Xz [f,aN d,aN b] H K:=by
 have⟨j,_,_,_⟩:=hs.all;refine YF.code T.acz aB ?_;refine ah ?_;refine RO.de (λa=>?_) (λa=>?_);·refine ah ?_;refine RO.cl (aeQ T i c hg hs hb λr g=>?_);refine ah ?_;exact Ru.aV (e r ⟨λh=>⟨a,g.1 h⟩,λh=>g.2 h.2⟩)
 refine ah ?_;exact Ru.aV (e false ⟨λh=>(by cases h),λh=>absurd h.1 a⟩)
end
end
end
end Go.am.R
end
