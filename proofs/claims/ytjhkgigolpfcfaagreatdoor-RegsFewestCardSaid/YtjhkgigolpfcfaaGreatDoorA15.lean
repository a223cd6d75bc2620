/- A part of the proof. No conditions. -/
import Derived.Test.YtjhkgigolpfcfaaGreatDoorA14
set_option linter.all false
set_option maxHeartbeats 16000000
open List renaming mem_singleton->aep,mem_cons_self->aeU,replicate->ahr,getElem?_append_left->akw,length_cons->akA,length_take->akF,getElem?_cons_succ->ak6
open Nat renaming le_of_ble_eq_true->akc,add_assoc->alo,min_eq_left->aly
open List.Sublist renaming cons_cons->alh
open List.Perm renaming cons->akO,swap->akS
noncomputable section
namespace Go.am.R
section
inductive pI(W:Nat->List Nat)(d:Nat):Nat->Prop
 |zero(h:0≠d):pI W d 0
 |step{a x:Nat}(h:pI W d a)(hx:x∈W a)(hn:x≠d):pI W d x
def gO(W:Nat->List Nat)(d b:Nat):Prop:=¬pI W d b
theorem gO.cO{W:Nat->List Nat}{d a b:Nat}(h:gO W d b)(c:b∈W a)(f:d≠b):gO W d a:=λg=>h (.step g c λe=>f e.symm)
theorem gO.zero{W:Nat->List Nat}{d:Nat}(h:gO W d 0):d=0:=akx λa=>h (.zero λe=>a e.symm)
structure Rk(W:Nat->List Nat)(ak ranks:List Nat):Prop where
 nd:ak.Nodup
 hd:∃rest,ak=0::rest
 aM:∀cO x post,ak=cO++x::post->x=0\/∃y∈cO,x∈W y
 rk:∀i(h:i<ak.length),ranks.getD ak[i] 0=i
variable{W:Nat->List Nat}{ak ranks:List Nat}{up:List Int}
theorem Rk.inj(h:Rk W ak ranks){a b:Nat}(c:a∈ak)(hb:b∈ak)(e:ranks.getD a 0=ranks.getD b 0):a=b:=by obtain⟨i,hi,rfl⟩:=aka c;obtain⟨j,hj,rfl⟩:=aka hb;rw[h.rk i hi,h.rk j hj]at e;subst e;rfl
theorem Rk.at(h:Rk W ak ranks){a:Nat}(b:a∈ak):∃hl:ranks.getD a 0<ak.length,ak[ranks.getD a 0]=a:=by obtain⟨i,hi,rfl⟩:=aka b;have e:=h.rk i hi;generalize ranks.getD ak[i] 0=j at*;subst e;exact⟨hi,rfl⟩
theorem Rk.cO(h:Rk W ak ranks){b:Nat}(hb:b∈ak)(h0:b≠0):∃y∈ak,b∈W y/\ranks.getD y 0<ranks.getD b 0:=by
 obtain⟨hl,e⟩:=h.at hb;have e2:ak=ak.take (ranks.getD b 0)++b::ak.drop (ranks.getD b 0+1):=by conv=>lhs;rw[<-ala (ranks.getD b 0) ak,aj9 hl,e]
 rcases h.aM _ _ _ e2 with h1|⟨y,a,c⟩;·exact absurd h1 h0
 refine⟨y,List.mem_of_mem_take a,c,?_⟩;obtain⟨i,hi,rfl⟩:=aka a;rw[akF]at hi;rw[List.getElem_take,h.rk i af];omega
theorem Rk.zero(h:Rk W ak ranks):0∈ak/\ranks.getD 0 0=0:=by obtain⟨r,a⟩:=h.hd;have:=h.rk 0 (by rw[a];simp);grind
theorem Rk.fH(h:Rk W ak ranks){d:Nat}:∀(n b:Nat),ranks.getD b 0=n->b∈ak->gO W d b->ranks.getD d 0<=n:=λn=>by
 induction n using Nat.strongRecOn with
 |ind n c=>
  intro b i hb hd;by_cases a:d=b;·grind
  by_cases h0:b=0;·subst h0;exact absurd hd.zero a
  obtain⟨y,e,f,g⟩:=h.cO hb h0;have:=c _ af y rfl e (hd.cO f a);omega
structure oz(W:Nat->List Nat)(ak ranks:List Nat)(n:Nat)(up:List Int):Prop where
 len:up.length=n
 u0:up.getD 0 (-1)=0
 rg:∀b, -1<=up.getD b (-1)
 ok:∀b,b≠0->0<=up.getD b (-1)->b∈ak/\∃a:Nat,up.getD b (-1)=a/\a∈ak/\ranks.getD a 0<ranks.getD b 0/\0<=up.getD a (-1)/\∀d,gO W d b->d≠b->gO W d a
structure yQ(W:Nat->List Nat)(ak ranks:List Nat)(up:List Int)(a b m:Nat):Prop where
 mem:m∈ak
 df:0<=up.getD m (-1)
 ra:ranks.getD m 0<=ranks.getD a 0
 rb:ranks.getD m 0<=ranks.getD b 0
 fH:∀d,gO W d a->gO W d b->gO W d m
theorem yQ.swap{a b m:Nat}(h:yQ W ak ranks up a b m):yQ W ak ranks up b a m:=⟨h.mem,h.df,h.rb,h.ra,λd h1 h2=>h.fH d h2 h1⟩
theorem oz.Po{n:Nat}(h:oz W ak ranks n up)(i:Rk W ak ranks){a b:Nat}(o:a∈ak)(hb:b∈ak)(j:0<=up.getD a (-1))(k:a≠b)(p:ranks.getD b 0<=ranks.getD a 0):∃c:Nat,up.getD a (-1)=c/\c∈ak/\0<=up.getD c (-1)/\ranks.getD c 0<ranks.getD a 0/\∀m,yQ W ak ranks up c b m->yQ W ak ranks up a b m:=by
 have l:ranks.getD b 0<ranks.getD a 0:=Nat.lt_of_le_of_ne p λe=>k (i.inj o hb e.symm);have h0:a≠0:=λe=>by subst e;rw[i.zero.2]at l;omega
 obtain⟨_,c,h1,h2,h3,q,r⟩:=h.ok a h0 j;refine⟨c,h1,h2,q,h3,λm f=>⟨f.mem,f.df,by have:=f.ra;omega,f.rb,λd hd g=>f.fH d (r d hd λe=>?_) g⟩⟩;subst e;have:=i.fH _ b rfl hb g;omega
theorem oz.set{n:Nat}(h:oz W ak ranks n up)(m:Rk W ak ranks){to b:Nat}(j:to∈ak)(k:to<n)(h0:to≠0)(i:b∈ak)(l:0<=up.getD b (-1))(o:ranks.getD b 0<ranks.getD to 0)(hd:∀d,gO W d to->d≠to->gO W d b):oz W ak ranks n (up.set to (b:Int)):=by
 have hl:=h.len;have e:∀x,(up.set to (b:Int)).getD x (-1)=if x=to then(b:Int)else up.getD x (-1):=λx=>fu af;have p:∀x,0<=up.getD x (-1)->0<=(up.set to (b:Int)).getD x (-1):=λx f=>by
  rw[e];split;·omega
  exact f
 refine⟨by grind,by rw[e,aq λe=>h0 e.symm];exact h.u0,λx=>?_,λx f c=>?_⟩
 .rw[e];split;·simp
  exact h.rg x
 rw[e]at c⊢;split;·grind
 rename_i g;rw[aq g]at c;obtain⟨h1,a,h2,h3,q,r,s⟩:=h.ok x f c;grind
def rp(ranks:List Nat)(n:Nat)(up:List Int):Nat:=(up.map λx=>if x<0 then n else ranks.getD x.toNat 0).sum
theorem aeI{l:List Nat}{k x:Nat}(b:k<l.length):(l.set k x).sum+l[k]=l.sum+x:=by induction l generalizing k with|nil=>grind|cons a l c=>cases k with|zero=>grind|succ k=>grind
theorem Pp{n k now:Nat}(a:k<up.length)(hl:ranks.getD now 0<if up.getD k (-1)<0 then n else ranks.getD (up.getD k (-1)).toNat 0):rp ranks n (up.set k (now:Int))<rp ranks n up:=by unfold rp;rw[List.map_set];have h1:=aeI (l:=up.map λx=>if x<0 then n else ranks.getD x.toNat 0) (k:=k) (x:=ranks.getD now 0) (by simpa using a);rw[bF a]at hl;simp only[akN]at h1;rw[aq (show¬((now:Int)<0)by omega),aj3];omega
theorem oz.HV{n:Nat}(h:oz W ak ranks n up)(eZ:∀b∈ak,0<=up.getD b (-1)){d b:Nat}(hb:b∈ak)(hd:gO W d b)(c:d≠b):∃a:Nat,up.getD b (-1)=a/\b≠0/\a∈ak/\ranks.getD a 0<ranks.getD b 0/\gO W d a:=by
 have h0:b≠0:=λe=>by subst e;exact c hd.zero
 obtain⟨_,a,h1,h2,h3,_,f⟩:=h.ok b h0 (eZ b hb);grind
end
section
variable{ac:Nat->aG}
section
variable{W:Nat->List Nat}{ak ranks:List Nat}{up:List Int}{n:Nat}{A H:ai}{us:List Th}{d f g h:ab}{L:Kn}
theorem uf{a:List Int}{k:Nat}(z:Int)(b:k<a.length):(a.map aI)[0+k*1]?=some (aI (a.getD k z)):=qR z b
def yR(g h d f:ab)(n:Nat)(ranks:List Nat)(up:List Int):List Th:=[tB eH g [.slice d 0 n n true],tB eH h [.slice f 0 n n true],tS 3 1 (ranks.map aN) n true (.slice d 0 n n true),tS 3 1 (up.map aI) n true (.slice f 0 n n true)]
theorem aeJ(T:Tb ac)(t:Rk W ak ranks)(r:oz W ak ranks n up)(z:ranks.length=n)(E:n<=1000000)(p:∀b∈ak,b<n)(U:aj A H (yR g h d f n ranks up++us)){a b:Nat}(l:a∈ak)(hb:b∈ak)(j:0<=up.getD a (-1))(k:0<=up.getD b (-1)){K:KT}(o:∀m,yQ W ak ranks up a b m->K (aN m) H):YF ac (.func XH [] [.az g 0,.az h 0]) [aN a,aN b] H K:=by
 have B:=r.len;refine YF.code T.acS aB ?_;refine ah ?_;refine Ru.nm λS M w u=>?_;refine Ru.cC u (dn (P:=λm=>∀a b,ranks.getD a 0+ranks.getD b 0=m->a∈ak->b∈ak->0<=up.getD a (-1)->0<=up.getD b (-1)->(∀m,yQ W ak ranks up a b m->K (aN m) H)->Ru ac _ S ([(p0,aN a),(p1,aN b)]++pk M [p2,p3]) H) (λm v a b q l hb j k o=>?_) _ a b rfl l hb j k o);have C:=p a l;have D:=p b hb;subst w;subst u;refine Ru.loop ?_;refine ah ?_;refine Ru.cond (λi=>?_) (λi=>?_)
 .have i:a≠b:=by simpa using i
  refine ah ?_;refine RO.fD U 2 (hv:=qR 0 af) ?_;refine ah ?_;refine RO.fD U 2 (hv:=qR 0 af) ?_;refine ah ?_;refine Ru.cond (λx=>?_) (λx=>?_);·obtain⟨c,h1,h2,h3,y,s⟩:=r.Po t hb l k (λe=>i e.symm) af;refine ah ?_;refine RO.fD U 3 (v:=aN c) (hv:=by rw[uf (-1) af,h1];rfl) ?_;refine ah ?_;exact Ru.wk (v _ af c a rfl h2 l h3 j λm q=>o m (s m q).swap)
  obtain⟨c,h1,h2,h3,y,s⟩:=r.Po t l hb j i af;refine ah ?_;refine RO.fD U 3 (v:=aN c) (hv:=by rw[uf (-1) af,h1];rfl) ?_;refine ah ?_;exact Ru.wk (v _ af c b rfl h2 hb h3 k λm q=>o m (s m q))
 have i:a=b:=by simpa using i
 subst i;refine Ru.exitTo ?_;refine ah ?_;exact Ru.aV (o a ⟨l,j,afb _,afb _,λ_ F _=>F⟩)
end
end
end Go.am.R
namespace Go.am
theorem aj.ne{A H:ai}{a:List Th}{t t':Th}{q r:ab}(U:aj A H a)(i j:Nat)(hi:a[i]?=some t)(hj:a[j]?=some t')(b:i≠j)(d:∀f,t.P H f->q∈f)(e:∀f,t'.P H f->r∈f):q≠r:=by
 obtain⟨_,fs,c⟩:=U;rcases Nat.lt_or_gt_of_ne b with k|k;·obtain⟨f,g,h1,h2,h3⟩:=c.mC hi hj k;grind
 obtain⟨f,g,h1,h2,h3⟩:=c.mC hj hi k;grind
theorem tS.wT{H:ai}{f:List ab}{e size n k cap:Nat}{b:List AV}{a ex:Bool}{q:ab}(i:(tS e size b n a (.slice q 0 k cap ex)).P H f):q∈f:=by rcases i with⟨_,_,_,i⟩|⟨d,g,aM,cap,c,rfl,h2,_⟩;all_goals grind
theorem Sl.move{H H':ai}{size n o m cap:Nat}{g:List AV}{ex:Bool}{q:ab}(B:Sl H size g n (.slice q o m cap ex))(hg:H'.get q=H.get q)(j:H.next.an<=H'.next.an):Sl H' size g n (.slice q o m cap ex):=by
 rcases B with⟨B,_⟩|⟨i,k,a,b,c,l,e,d,aM,fz,r,A,t,v,w,x,f⟩;·grind
 injection r with h1 h2 h3 y z;subst h1;exact .inr ⟨_,k,a,b,c,l,e,d,aM,fz,by grind,by grind,t,v,w,ako x j,f⟩
theorem tB.wT{H:ai}{f:List ab}{e:Nat}{a:List AV}{q:ab}(b:(tB e q a).P H f):q∈f:=b.1
end Go.am
namespace Go.am.R
open Go.am
variable{ac:Nat->aG}
section
variable{g:G.bu}{h s:AV}{p:ab}{H:ai}{come:List Bool}{os:List (List bV)}{u:List AV}
theorem Pq{l:List Nat}(a:l.Nodup){i j:Nat}(hi:i<l.length)(hj:j<l.length)(e:l[i]=l[j]):i=j:=by grind[List.pairwise_iff_getElem,Nat.lt_trichotomy,absurd]
theorem vB:∀(n:Nat)(l:List Nat),l.Nodup->(∀x∈l,x<n)->l.length<=n
 |0,l,_,d=>by cases l with|nil=>simp|cons a l=>grind[absurd,aeU]
 |n+1,l,hd,d=>by
  by_cases c:n∈l
  .have h1:=vB n (l.erase n) (hd.erase n) λx b=>by rw[hd.mem_erase_iff]at b;have:=d x b.2;omega
   grind
  have:=vB n l hd λx b=>by have:=d x b;have:x≠n:=λe=>c (e▸b);omega
  omega
theorem aeK{W:Nat->List Nat}{ak a:List Nat}{n:Nat}(c:0<n):oz W ak a n ((ahr n (-1:Int)).set 0 0):=by
 have e:∀x,((ahr n (-1:Int)).set 0 0).getD x (-1)=if x=0 then 0 else -1:=λx=>by
  rw[fu (by simpa using c)];split;·rfl
  simp[akm,ak8];split<;>rfl
 exact⟨aB,by rw[e,aK rfl],λb=>by rw[e];split<;>omega,λb hb c=>by rw[e,aq hb]at c;omega⟩
theorem aeL(T:Tb ac)(hB:G.Sm g)(hE:jm g)(hX:GX g H p h s come os u)(hK:cX g come os){K:KT}(ec:∀H' v ak ranks up,e9 g come os ak->Rk (wW g os) ak ranks->oz (wW g os) ak ranks g.al.length up->(∀b∈ak,0<=up.getD b (-1))->aj H H' [tS 3 1 ((up.set 0 (-1)).map aI) g.al.length true v]->K v H'):YN ac Xw [.az p 0] H K:=by
 have c':=hB.nb;have ay:=hK.lt hK.c0;have⟨hd,_,_,hn⟩:=hX.bl.all;have a0:=hX.kS.aH;have f:=hX.kS.lt;refine YF.code T.acw aB ?_;refine au ?_;refine RO.cl (Jq T hB hE hX hK λH1 Q ak R U=>?_);have⟨dm,dr,ds,dv⟩:=(U.sl (e:=3) (size:=1) (sv:=Q) (vs:=ak.map aN) (n:=ak.length) (full:=true) 0).all;refine ah ?_;refine RO.aW ?_ (hc:=by rw[U.gr.bh f];exact a0);refine ah ?_;refine RO.oT U (n:=g.al.length) (λH2 I U=>?_) (hz:=by rw[iZ];simp);have er:fO [AV.int 3 (.ofNat 0)] g.al.length=(ahr g.al.length 0).map aN:=by rw[iZ,alz]
 rw[er]at U;refine RO.lf U 1 (λH3 V U=>?_) (n:=1) (ws:=[aI (-1)]);refine ah ?_;have dx:=(U.CI (e:=3) (size:=1) (n:=1) (vs:=[aI (-1)]) (full:=true) (q:=V) (o:=0) (m:=1) (cap:=1) (ex:=true) 0);have dy:=(U.CI (e:=3) (size:=1) (n:=g.al.length) (vs:=(ahr g.al.length 0).map aN) (full:=true) (q:=I) (o:=0) (m:=g.al.length) (cap:=g.al.length) (ex:=true) 1);refine RO.wO (is:=[V,I]) (v:=h) (by rw[U.gr.bh f];exact a0) (by simp only[aeV,aki,or_false,not_or];exact⟨λe=>by rw[e]at f;omega,λe=>by rw[e]at f;omega⟩) (λHU hs a1=>?_);have U:=U.bX a1 hs;refine ah ?_;refine RO.gI U λH4 W U=>?_;refine RO.gI U λH5 X U=>?_;have n1:V≠X:=U.ne 2 0 rfl rfl bA (λ_ ec=>tS.wT ec) λ_ ec=>tB.wT ec;have n2:V≠W:=U.ne 2 1 rfl rfl bA (λ_ ec=>tS.wT ec) λ_ ec=>tB.wT ec;have n3:V≠I:=U.ne 2 3 rfl rfl bA (λ_ ec=>tS.wT ec) λ_ ec=>tS.wT ec;have dz:=(U.AU (e:=eH) (q:=X) (vs:=[.aS]) 0).2;have dD:=(U.AU (e:=eH) (q:=W) (vs:=[.aS]) 1).2;have dE:=(U.CI (e:=3) (size:=1) (n:=g.al.length) (vs:=(ahr g.al.length 0).map aN) (full:=true) (q:=I) (o:=0) (m:=g.al.length) (cap:=g.al.length) (ex:=true) 3).2;have b6:=U.sl (e:=3) (size:=1) (n:=1) (vs:=[aI (-1)]) (full:=true) (sv:=.slice V 0 1 1 true) 2;refine RO.CH (is:=[X,W,I]) (Q:=λv ns=>∃q,v=.slice q 0 g.al.length g.al.length true/\ns=[tS 3 1 (ahr (g.al.length*1) (aI (-1))) g.al.length true (.slice q 0 g.al.length g.al.length true)]) U (λj hj=>by simp only[aeV,aki,or_false]at hj;rcases hj with rfl|rfl|rfl<;>assumption) (λH0 a1 hs=>Pn T (u:=aI (-1)) rfl (b6.move (hs V (by simp only[aeV,aki,or_false,not_or];exact⟨n1,n2,n3⟩)) (by rw[a1];exact afb _)) af λH' q U=>⟨_,U,q,rfl,rfl⟩) (λv ns HU hQ d0 U=>?_);obtain⟨qu,rfl,rfl⟩:=hQ;refine⟨λaa b'=>il b' rfl rfl hd hX.bl.bX (by rw[U.gr.bh f];exact a0) rfl,?_⟩;refine RO.gG U 2 (λH6 U=>?_);refine RO.gG U 1 (λH7 U=>?_);have eu:ahr (g.al.length*1) (aI (-1))=(ahr g.al.length (-1)).map aI:=by rw[alt,alz]
 rw[eu]at U;have U:aj H H7 (yR W X I qu g.al.length (ahr g.al.length 0) (ahr g.al.length (-1))++(tS 3 1 (ak.map aN) ak.length true Q::[tS 3 1 [aI (-1)] 1 true (.slice V 0 1 1 true)])):=(((((U.gk 3 rfl).gk 5 rfl).gk 2 rfl).gk 5 rfl).gk 4 rfl).gk 5 rfl;refine ah ?_;have n:∀b∈ak,b<g.al.length:=λb hb=>hK.lt ((R.mem b).1 hb);have d1:ak.length<=g.al.length:=vB _ _ R.nd n;refine Ru.nm λS M hS J=>?_;refine Ru.cC J (up (P:=λk=>∀r ranks,ranks.length=g.al.length->(∀i(ec:i<ak.length),i<k->ranks.getD ak[i] 0=i)->aj H r (yR W X I qu g.al.length ranks (ahr g.al.length (-1))++(tS 3 1 (ak.map aN) ak.length true Q::[tS 3 1 [aI (-1)] 1 true (.slice V 0 1 1 true)]))->Ru ac _ S ([(di,aN k)]++pk M [p0,p3,p4,p5,cV,cH]) r) ak.length (λk hk ih r ranks L bc U=>?_) 0 af _ _ aB (λi _ ec=>by omega) U);subst hS;subst J;refine Ru.loop ?_;refine au ?_;refine Ru.cond (λf=>?_) (λf=>?_)
 .have d2:=n _ (agB f);refine ah ?_;refine RO.lg (bm.refl r) (U.sl (e:=3) (size:=1) (sv:=Q) (vs:=ak.map aN) (n:=ak.length) (full:=true) 4) (λq o hj a2=>?_);refine RO.aW ?_ (hc:=a2);refine ah ?_;refine RO.lC (f:=aN) (zs:=ranks) (n:=g.al.length) U 2 k L (λH9 U=>?_) (k:=ak[k]);refine ah ?_;have g1:∀i(ec:i<ak.length),i<k+1->(ranks.set ak[k] k).getD ak[i] 0=i:=λi hi a3=>by
   rw[fu af];split;·rename_i e;exact(Pq R.nd hi f e).symm
   rename_i e;exact bc i hi (by have:i≠k:=λe2=>e (by subst e2;rfl);omega)
  exact Ru.wk (ih (k+1) af af H9 _ (by simpa using L) g1 U)
 have F:Rk (wW g os) ak ranks:=⟨R.nd,R.hd,R.aM,λi hi=>bc i hi af⟩;refine Ru.exitTo ?_;refine ah ?_;refine RO.lC (f:=aI) (zs:=ahr g.al.length (-1)) (n:=g.al.length) U 3 0 aB (λH9 U=>?_) (k:=0) (ho:=by simpa using ay);refine ah ?_;have L:ranks.length=g.al.length:=L;refine Ru.nm λS2 M2 hS J=>?_;refine Ru.cC J (dn (P:=λm=>∀r up w us,oz (wW g os) ak ranks g.al.length up->(w=false->∀b∈ak,0<=up.getD b (-1))->(rp ranks g.al.length up+if w then 1 else 0)=m->aj H r (yR W X I qu g.al.length ranks up++(tS 3 1 (ak.map aN) ak.length true Q::us))->Ru ac _ S2 ([(p9,.bool w)]++pk M2 [p0,p3,p4,p5,p8]) r) (λm ca r up w us hC eZ hm U=>?_) _ H9 _ true _ (aeK ay) (λec=>by cases ec) rfl U);subst hS;subst J;refine Ru.loop ?_;cases w with
 |false=>refine ah ?_;refine Ru.exitTo ?_;refine ah ?_;refine RO.lC (f:=aI) (zs:=up) (n:=g.al.length) U 3 (-1) hC.len (λcd U=>?_) (k:=0) (ho:=by rw[hC.len];exact ay);refine ah ?_;exact Ru.aV (ec cd _ ak ranks up R F hC (eZ rfl) ((U.gk 3 rfl).sub (alh _ (List.nil_sublist _))))
 |true=>
  refine ah ?_;refine Ru.nm λS3 M3 hS J=>?_;refine Ru.cC J (Go.am.up (P:=λk=>∀r Y w us,oz (wW g os) ak ranks g.al.length Y->(∀i(ec:i<ak.length),i<k->∀x∈wW g os ak[i],0<=Y.getD x (-1))->(rp ranks g.al.length Y+if w then 1 else 0)<=rp ranks g.al.length up->aj H r (yR W X I qu g.al.length ranks Y++(tS 3 1 (ak.map aN) ak.length true Q::us))->Ru ac _ S3 ([(p9,.bool w),(dX,aN k)]++pk M3 [p0,p3,p4,p5,p8,dB,dH]) r) ak.length (λk hk cf r Y w us a4 bd cn U=>?_) 0 af _ up false _ hC (λi _ ec=>by omega) aB U);subst hS;subst J;refine Ru.loop ?_;refine au ?_;refine Ru.cond (λf=>?_) (λf=>?_)
  .have Z:ak[k]∈ak:=agB f;have d3:=F.rk k f;have a5:=(R.mem _).1 Z;refine ah ?_;refine RO.lg (bm.refl r) (U.sl (e:=3) (size:=1) (sv:=Q) (vs:=ak.map aN) (n:=ak.length) (full:=true) 4) (λq o hj a2=>?_);refine RO.aW ?_ (hc:=a2);refine ah ?_;refine RO.cl (Jp T hB hE (hX.cI U.gr) hK a5 λHY vw hl=>?_);have⟨d4,_,_,d5⟩:=(hl.sl (e:=3) (size:=1) (sv:=vw) (vs:=(wW g os ak[k]).map aN) (n:=(wW g os ak[k]).length) (full:=true) 0).all;have U:aj H HY (yR W X I qu g.al.length ranks Y++(tS 3 1 (ak.map aN) ak.length true Q::tS 3 1 ((wW g os ak[k]).map aN) (wW g os ak[k]).length true vw::us)):=(U.fC hl).cM (akj (l₁:=[_,_,_,_,_])).symm;have c8:(wW g os ak[k]).length<=12:=by have:=E4 (now:=os.getD ak[k] []) hB (hK.lt a5);simpa[wW,mK]using this
   generalize hb:ak[k]=b at*;refine ah ?_;refine Ru.nm λS4 M4 hS J=>?_;refine Ru.cC J (Go.am.up (P:=λj=>∀r c w,oz (wW g os) ak ranks g.al.length c->(∀i(ec:i<ak.length),i<k->∀x∈wW g os ak[i],0<=c.getD x (-1))->(∀x∈(wW g os b).take j,0<=c.getD x (-1))->(rp ranks g.al.length c+if w then 1 else 0)<=rp ranks g.al.length up->aj H r (yR W X I qu g.al.length ranks c++(tS 3 1 (ak.map aN) ak.length true Q::tS 3 1 ((wW g os b).map aN) (wW g os b).length true vw::us))->Ru ac _ S4 ([(p9,.bool w),(d9,aN j)]++pk M4 [p0,p3,p4,p5,p8,aR,dB,dH,dX,dR,eM]) r) (wW g os b).length (λj hj ag r c w l ar bv N U=>?_) 0 af _ Y w a4 bd (λx A=>by simp at A) cn U);subst hS;subst J;refine Ru.loop ?_;refine au ?_;refine Ru.cond (λbS=>?_) (λbS=>?_)
   .have av:=l.len;have b0:(wW g os b)[j]∈wW g os b:=agB bS;have cp:=hK.ls a5 b0;have O:=(R.mem _).2 cp;have b3:=n _ O;have a6:0<=c.getD b (-1):=by
     by_cases h0:b=0;·rw[h0,l.u0];omega
     obtain⟨y,hy,hw,a8⟩:=F.cO Z h0;obtain⟨i,hi,rfl⟩:=aka hy;rw[F.rk i hi]at a8;exact ar i hi af b hw
    refine ah ?_;refine RO.lg (bm.refl r) (U.sl (e:=3) (size:=1) (sv:=vw) (vs:=(wW g os b).map aN) (n:=(wW g os b).length) (full:=true) 5) (λq2 o2 d6 b5=>?_);refine RO.aW ?_ (hc:=b5);have aw:∀d,gO (wW g os) d (wW g os b)[j]->d≠(wW g os b)[j]->gO (wW g os) d b:=λd hd hn=>hd.cO b0 hn;have cv:(wW g os b).take (j+1)=(wW g os b).take j++[(wW g os b)[j]]:=by rw[akd]
    generalize(wW g os b)[j]=to at*;have z:∀u3:List Int,(∀x,0<=c.getD x (-1)->0<=u3.getD x (-1))->0<=u3.getD to (-1)->(∀i(ec:i<ak.length),i<k->∀x∈wW g os ak[i],0<=u3.getD x (-1))/\∀x∈(wW g os b).take (j+1),0<=u3.getD x (-1):=λu3 h1 h2=>⟨λi hi a3 x A=>h1 x (ar i hi a3 x A),λx A=>by
     rw[cv]at A;rcases ahp.1 A with A|A;·exact h1 x (bv x A)
     rw[aep]at A;rw[A];exact h2⟩;have ax:∀(now:Nat)(x:Nat),(c.set to (now:Int)).getD x (-1)=if x=to then(now:Int)else c.getD x (-1):=λnow x=>fu af;have D:∀(now:Nat),(∀x,0<=c.getD x (-1)->0<=(c.set to (now:Int)).getD x (-1))/\0<=(c.set to (now:Int)).getD to (-1):=λnow=>⟨λx A=>by
     rw[ax];split;·omega
     exact A,by rw[ax,aK rfl];omega⟩;refine ah ?_;by_cases hu:c.getD to (-1)= -1
    .have a9:to≠0:=λe=>by rw[e,l.u0]at hu;omega
     refine RO.fD U 3 (v:=aI (-1)) (hv:=by rw[uf (-1) af,hu]) ?_;refine ah ?_;refine RO.de (λ_=>?_) (λec=>absurd a9 ec);refine ah ?_;refine RO.fD U 3 (v:=aI (-1)) (hv:=by rw[uf (-1) af,hu]) ?_;refine ah ?_;refine RO.lC (f:=aI) (zs:=c) (n:=g.al.length) U 3 (b:Int) av (λa' U=>?_) (k:=to);refine ah ?_;have cx:ranks.getD b 0<ranks.getD to 0:=by
      apply akx;intro d7;obtain⟨d',e2⟩:=F.at O;have e3:0<=c.getD to (-1):=by
       by_cases e4:ranks.getD to 0=k
       .have:to=b:=by rw[<-e2,<-hb];simp only[e4]
        rw[this];exact a6
       obtain⟨y,hy,hw,a8⟩:=F.cO O a9;obtain⟨i,hi,rfl⟩:=aka hy;rw[F.rk i hi]at a8;exact ar i hi af to hw
      omega
     have ba:=l.set F O b3 a9 Z a6 cx aw;have cy:=Pp (ranks:=ranks) (n:=g.al.length) (up:=c) (k:=to) (now:=b) af (by rw[aK af];omega);obtain⟨B,C⟩:=z _ (D b).1 (D b).2;have bb:(rp ranks g.al.length (c.set to (b:Int))+if true then 1 else 0)<=rp ranks g.al.length up:=by rw[aK rfl];split at N<;>omega
     exact Ru.wk (ag (j+1) af af a' _ true ba B C bb U)
    obtain⟨a,P⟩:∃a:Nat,c.getD to (-1)=a:=⟨(c.getD to (-1)).toNat,by have:=l.rg to;omega⟩;have hA:a∈ak/\0<=c.getD a (-1)/\(to≠0->ranks.getD a 0<ranks.getD to 0/\∀d,gO (wW g os) d to->d≠to->gO (wW g os) d a):=by
     by_cases h0:to=0
     .have:a=0:=by rw[h0,l.u0]at P;omega
      rw[this];exact⟨F.zero.1,by rw[l.u0];omega,λec=>absurd h0 ec⟩
     obtain⟨_,c9,h1,h2,h3,h4,h5⟩:=l.ok to h0 af;have:a=c9:=af;subst this;exact⟨h2,h4,λ_=>⟨h3,h5⟩⟩
    obtain⟨b4,cE,cK⟩:=hA;refine RO.fD U 3 (v:=aN a) (hv:=by rw[uf (-1) af,P];rfl) ?_;refine ah ?_;refine RO.fD U 3 (v:=aN a) (hv:=by rw[uf (-1) af,P];rfl) ?_;refine ah ?_;refine RO.cl (aeJ T F l L af n U b4 Z cE a6 λm2 t=>?_);have ea:=n _ t.mem;refine ah ?_;refine RO.de (λh0=>?_) (λh0=>?_)
    .have h0:to≠0:=h0;obtain⟨eb,c3⟩:=cK h0;refine ah ?_;refine RO.fD U 3 (v:=aN a) (hv:=by rw[uf (-1) af,P];rfl) ?_;refine ah ?_;refine Ru.cond (λE=>?_) (λE=>?_)
     .have E:a≠m2:=E;refine ah ?_;refine RO.lC (f:=aI) (zs:=c) (n:=g.al.length) U 3 (m2:Int) av (λa' U=>?_) (k:=to);refine ah ?_;have c5:ranks.getD m2 0<ranks.getD a 0:=Nat.lt_of_le_of_ne t.ra λe=>E (F.inj b4 t.mem e.symm);have ba:=l.set F O b3 h0 t.mem t.df af (λd hd hn=>t.fH d (c3 d hd hn) (aw d hd hn));have cy:=Pp (ranks:=ranks) (n:=g.al.length) (up:=c) (k:=to) (now:=m2) af (by rw[aq af,P,aj3];exact c5);obtain⟨B,C⟩:=z _ (D m2).1 (D m2).2;have bb:(rp ranks g.al.length (c.set to (m2:Int))+if true then 1 else 0)<=rp ranks g.al.length up:=by rw[aK rfl];split at N<;>omega
      exact Ru.wk (ag (j+1) af af a' _ true ba B C bb U)
     refine ah ?_;obtain⟨B,C⟩:=z c (λ_ ec=>ec) af;exact Ru.wk (ag (j+1) af af r c w l B C N U)
    refine ah ?_;obtain⟨B,C⟩:=z c (λ_ ec=>ec) af;exact Ru.wk (ag (j+1) af af r c w l B C N U)
   refine Ru.exitTo ?_;refine ah ?_;have g1:∀i(ec:i<ak.length),i<k+1->∀x∈wW g os ak[i],0<=c.getD x (-1):=λi hi a3 x A=>by
    by_cases e:i=k;·subst e;rw[hb]at A;exact bv x (by rw[akl af];exact A)
    exact ar i hi af x A
   exact Ru.wk (cf (k+1) af af r c w _ l g1 N U)
  refine Ru.exitTo ?_;refine ah ?_;have g1:w=false->∀b∈ak,0<=Y.getD b (-1):=λ_ b hb=>by
   by_cases h0:b=0;·rw[h0,a4.u0];omega
   obtain⟨y,hy,hw,_⟩:=F.cO hb h0;obtain⟨i,hi,rfl⟩:=aka hy;exact bd i hi af b hw
  rw[aK rfl]at hm;exact Ru.wk (ca _ af r Y w us a4 g1 rfl U)
end
end Go.am.R
namespace Go.am.R
section
variable{ac:Nat->aG}
section
section
variable{W:Nat->List Nat}{ak ranks:List Nat}{up:List Int}{n:Nat}{B H:ai}{c:AV}
theorem aeQ(T:Tb ac)(w:Rk W ak ranks)(l:oz W ak ranks n up)(eZ:∀b∈ak,0<=up.getD b (-1))(i:∀b∈ak,b<n)(hg:bm B H)(hs:Sl B 1 ((up.set 0 (-1)).map aI) n c){d b:Nat}(hb:b∈ak)(hd:gO W d b){K:KT}(r:K (.bool true) H):YN ac XJ [c,aN d,aN b] H K:=by
 have g:=l.len;have⟨v,_,_,_⟩:=hs.all;refine YF.code T.acU aB ?_;refine ah ?_;refine Ru.nm λS M s p=>?_;refine Ru.cC p (dn (P:=λm=>∀b,ranks.getD b 0=m->b∈ak->gO W d b->Ru ac _ S ([(p2,aN b)]++pk M [p0,p1]) H) (λm t b x hb hd=>?_) _ b rfl hb hd);have j:=i b hb;subst s;subst p;refine Ru.loop ?_;refine ah ?_;refine Ru.cond (λf=>?_) (λf=>?_)
 .have f:d≠b:=λe=>by subst e;simp at f
  obtain⟨a,h1,h2,h3,y,u⟩:=l.HV eZ hb hd f;refine ah ?_;have k:Sl B 1 ((up.set 0 (-1)).map aI) (up.set 0 (-1)).length c:=by rw[ak4,g];exact hs
  refine RO.lg hg k (λq o hj h=>?_) (j:=b) (hj:=by rw[ak4,g];exact j);have e:(up.set 0 (-1))[b]=(a:Int):=by rw[List.getElem_set_ne (λe=>h2 e.symm),<-h1,bF]
  rw[e]at h;refine RO.aW ?_ (hc:=h);refine ah ?_;exact Ru.wk (t _ af a rfl h3 u)
 have f:d=b:=akx λe=>f (by simp;exact λe2=>e e2.symm);subst f;refine Ru.exitTo ?_;refine ah ?_;refine Ru.aV ?_;simpa using r
theorem aeR(T:Tb ac)(f:Rk W ak ranks)(g:oz W ak ranks n up)(eZ:∀b∈ak,0<=up.getD b (-1))(a:∀b∈ak,b<n)(hg:bm B H)(hs:Sl B 1 ((up.set 0 (-1)).map aI) n c){d b:Nat}(hb:b∈ak)(hd:gO W d b)(e:d≠b){K:KT}(i:K (.bool true) H):YN ac Xz [c,aN d,aN b] H K:=by have⟨j,_,_,_⟩:=hs.all;refine YF.code T.acz aB ?_;refine ah ?_;refine RO.de (λ_=>?_) (λh=>absurd e h);refine ah ?_;refine RO.cl (aeQ T f g eZ a hg hs hb hd ?_);refine ah ?_;exact Ru.aV i
end
end
section
def ja:List G.ic->Nat->List (Int×Int)
 |[],_=>[]
 |s::l,i=>(if s.to= -1 then[]else[(s.to,(i:Int))])++ja l (i+1)
theorem E6:∀(a b:List G.ic)(i:Nat),ja (a++b) i=ja a i++ja b (i+a.length)|[],b,i=>by rfl|s::a,b,i=>by simp only[akV,ja,E6 a b (i+1),aj2,akA];grind
def dC(b:G.gV):List (Int×Int):=b.params.map (λv=>(v, -1))++ja b.aD 0
theorem Jv(b:G.gV){i:Nat}(h:i<b.aD.length)(a:b.aD[i].to≠ -1):∃c:b.params.length+(ja (b.aD.take i) 0).length<(dC b).length,(dC b)[b.params.length+(ja (b.aD.take i) 0).length]=(b.aD[i].to,(i:Int))/\(ja (b.aD.take (i+1)) 0).length=(ja (b.aD.take i) 0).length+1:=by
 have e1:b.aD=b.aD.take i++b.aD[i]::b.aD.drop (i+1):=by conv=>lhs;rw[<-ala i b.aD,aj9 h]
 have e2:dC b=b.params.map (λv=>(v, -1))++(ja (b.aD.take i) 0++((b.aD[i].to,(i:Int))::ja (b.aD.drop (i+1)) (i+1))):=by
  unfold dC;congr 1;conv=>lhs;rw[e1]
  rw[E6,ja,aq a,akF,aly af,akh];rfl
 have e:(dC b)[b.params.length+(ja (b.aD.take i) 0).length]?=some (b.aD[i].to,(i:Int)):=by rw[e2,List.getElem?_append_right aB,List.getElem?_append_right aB];simp
 obtain⟨c,f⟩:=akR.1 e;refine⟨c,f,?_⟩;rw[List.take_succ,akP h,Option.toList_some,E6,aj8];simp[ja,a]
theorem Pt(b:G.gV){i:Nat}(h:i<b.aD.length)(a:b.aD[i].to= -1):(ja (b.aD.take (i+1)) 0).length=(ja (b.aD.take i) 0).length:=by rw[List.take_succ,akP h,Option.toList_some,E6,aj8];simp[ja,a]
def Jw(l:List (Int×Int))(k:Nat)(args:List AV)(a:List Th):Prop:=a=[]/\∃h:k<l.length,args=[aI l[k].1,aI l[k].2]
section
variable{A H:ai}{us:List Th}{d:ab}{b:G.gV}{cs:List AV}
theorem Pu(T:Tb ac)(h1:dS cs=true)(a:cs.length=7){K:KT}(b:∀H' d,aj H H' [tB dW d cs]->K (.func EA [] [.az d 0]) H'):YN ac Xp [.agg cs] H K:=by refine YF.code T.ach aB ?_;refine au ?_;refine RO.dL (aj.dc H) (λH1 d U=>?_);refine au ?_;exact Ru.aV (b _ d U)
theorem Pv(T:Tb ac)(hb:kj A b cs)(hp:b.params.length<=1000)(N:b.aD.length<=1000):yI ac A (.func EA [] [.az d 0]) (dC b).length (Jw (dC b)) [tB dW d cs] (λ_=>True) (λ_=>True):=by
 intro y J D a us H K O P Q R l m U hR j;obtain⟨E,vs,F,rfl,t,u,V⟩:=hb;have⟨W,_,_,X⟩:=t.all;have⟨Y,_,_,Z⟩:=u.all;have z:∀k(h:k<b.params.length),∃h':k<(dC b).length,(dC b)[k]=(b.params[k], -1):=λk h=>by
  have e:(dC b)[k]?=some (b.params[k], -1):=by unfold dC;rw[akw (by simpa using h)];simp[h]
  exact akR.1 e
 refine YF.code T.acC aB ?_;refine ah ?_;refine Ru.nm λS M x s=>?_;refine Ru.cC s (up (P:=λk=>∀p a,J k a->aj A p (tB dW d (E::vs::F)::(a++us))->Ru ac _ S ([(aO,aN k)]++pk M [p0,p1,p8,p9]) p) b.params.length (λk hk w p a m U=>?_) 0 aB _ a m U);subst x;subst s;refine Ru.loop ?_;refine au ?_;refine Ru.cond (λf=>?_) (λf=>?_)
 .obtain⟨g,he⟩:=z k f;refine ah ?_;refine RO.kz U.gr t (λq o hj B=>?_);refine RO.aW ?_ (hc:=B);refine ah ?_;refine RO.cl ((l k [aI b.params[k],aI (-1)] [] a _ _ g ⟨rfl,g,by rw[he]⟩ m (aj.gF (xs:=[_]) U)).mono ?_);rintro v L⟨r,U,hc⟩;rcases hc with⟨rfl,h⟩|⟨rfl,h⟩;·refine ah ?_;exact Ru.wk (w (k+1) af af _ _ h (aj.kO (xs:=[_]) U))
  refine ah ?_;exact Ru.mD (vs:=[]) trivial (j _ r _ (aj.kO (xs:=[_]) U).tail (.inr h))
 refine Ru.exitTo ?_;refine ah ?_;refine Ru.nm λS M x s=>?_;refine Ru.cC s (up (P:=λi=>∀p a,J (b.params.length+(ja (b.aD.take i) 0).length) a->aj A p (tB dW d (E::vs::F)::(a++us))->Ru ac _ S ([(bO,aN i)]++pk M [p0,p1,bN,bR]) p) b.aD.length (λi hi w p a m U=>?_) 0 af _ a (by rw[show b.params.length=k by omega];exact m) U);subst x;subst s;refine Ru.loop ?_;refine au ?_;refine Ru.cond (λf=>?_) (λf=>?_)
 .refine au ?_;refine RO.cZ U.gr u (λq o c hj G _ hat hrd=>?_);have I:=G.one;obtain⟨va,rfl,ag⟩:=G;refine ah ?_;refine RO.gI U λH4 q6 U=>?_;refine ah ?_;refine RO.iT U 0 (λH5 U=>?_);refine ah ?_;by_cases n:b.aD[i].to= -1;·refine RO.de (λh=>absurd n h) (λ_=>?_);refine ah ?_;rw[<-Pt b f n]at m;exact Ru.wk (w (i+1) af af _ a m U.tail)
  obtain⟨g,he,C⟩:=Jv b f n;refine RO.de (λ_=>?_) (λh=>absurd n h);refine ah ?_;refine RO.cl ((l _ [aI b.aD[i].to,aI (i:Int)] [] a _ _ g ⟨rfl,g,by rw[he]⟩ m (aj.gF (xs:=[_,_]) U)).mono ?_);rintro v L⟨r,U,hc⟩;rcases hc with⟨rfl,h⟩|⟨rfl,h⟩;·refine ah ?_;rw[alo,<-C]at h;exact Ru.wk (w (i+1) af af _ _ h (aj.kO (xs:=[_,_]) U).tail)
  refine ah ?_;exact Ru.mD (vs:=[]) trivial (j _ r _ (aj.kO (xs:=[_,_]) U).tail.tail (.inr h))
 refine Ru.exitTo ?_;refine ah ?_;refine Ru.aA (vs:=[]) trivial (j _ a _ U.tail (.inl ?_));have e:(dC b).length=b.params.length+(ja (b.aD.take i) 0).length:=by rw[akl af];simp[dC]
 rw[e];exact m
end
end
section
section
variable{A H:ai}{us ts:List Th}{la:List Int}{sv fv:AV}{J:Nat->List Th->Prop}{D:List Th->Prop}
def Pw(ac:Nat->aG)(A:ai)(fv:AV)(la:List Int)(J:Nat->List Th->Prop)(D:List Th->Prop):Prop:=
 ∀k ts us H(h:k<la.length),J k ts->aj A H (ts++us)->YF ac fv [aI la[k]] H λv H'=>∃b,aj A H' (b++us)/\(v=.bool false/\J (k+1) b\/v=.bool true/\D b)
theorem aeS(T:Tb ac)(i:∀{k H ts},J k ts->aj A H (ts++us)->fZ H la sv)(hl:la.length<=1000000)(r:fv.bB=true)(m:Pw ac A fv la J D)(d:J 0 ts)(U:aj A H (ts++us)){K:KT}(j:∀H' b z,aj A H' (b++us)->(z<0/\J la.length b\/0<=z/\D b)->K (aI z) H'):YN ac WR [sv,fv] H K:=by
 have⟨hd,_,_,s⟩:=(i d U).all;refine YF.code T.IU aB ?_;refine au ?_;refine Ru.nm λS M n l=>?_;refine Ru.cC l (up (P:=λk=>∀f ts,J k ts->aj A f (ts++us)->Ru ac _ S ([(p8,aN k)]++pk M [p0,p1,p7]) f) la.length (λk t p f ts d U=>?_) 0 aB _ ts d U);subst n;subst l;refine Ru.loop ?_;refine au ?_;refine Ru.cond (λe=>?_) (λe=>?_)
 .refine au ?_;refine RO.kz (bm.refl _) (i d U) (λq o hj g=>?_);refine RO.aW ?_ (hc:=g);refine RO.cl ((m k ts us f e d U).mono ?_);rintro v u⟨b,U,hc⟩;rcases hc with⟨rfl,h⟩|⟨rfl,h⟩;·refine au ?_;exact Ru.wk (p (k+1) af af _ _ h U)
  refine au ?_;exact Ru.aV (j _ b (.ofNat k) U (.inr ⟨aB,h⟩))
 refine Ru.exitTo ?_;refine au ?_;exact Ru.aV (j _ ts (-1) U (.inl ⟨af,by rw[show la.length=k by omega];exact d⟩))
theorem Jx(T:Tb ac)(e:∀{k H ts},J k ts->aj A H (ts++us)->fZ H la sv)(hl:la.length<=1000000)(d:fv.bB=true)(g:Pw ac A fv la J D)(f:J 0 ts)(U:aj A H (ts++us)){K:KT}(h:∀H' b t,aj A H' (b++us)->(t=false/\J la.length b\/t=true/\D b)->K (.bool t) H'):YN ac WF [sv,fv] H K:=by
 have⟨hd,_,_,j⟩:=(e f U).all;refine YF.code T.IT aB ?_;refine au ?_;refine RO.cl (aeS T e hl d g f U λH' b z U i=>?_);refine au ?_;refine Ru.aV (h _ b _ U ?_);rcases i with⟨h1,h2⟩|⟨h1,h2⟩;·exact .inl ⟨by simp;omega,h2⟩
 exact .inr ⟨by simp;omega,h2⟩
end
section
variable{A H:ai}{us ts:List Th}{c a:ab}{b:G.gV}{cs:List AV}{l:List (Int×Int)}
theorem Jy(T:Tb ac){y:AV}{J:Nat->List Th->Prop}{D:List Th->Prop}(o:y.bB=true)(e:Body ac A y l.length (Jw l) J D){p bH:Nat}{la:List Int}{sv:AV}(j:fZ A la sv)(hl:la.length<=1000000)(n:∀k(h:k<la.length),∃f:p+k<l.length,l[p+k]=(la[k],(bH:Int)))(g:J p ts)(U:aj A H (tB yi a [y]::(ts++us))){K:KT}(m:∀H' b t,aj A H' (tB yi a [y]::(b++us))->(t=true/\J (p+la.length) b\/t=false/\D b)->K (.bool t) H'):YF ac (.func XB [] [.az a 0]) [aN bH,sv] H K:=by
 have⟨hd,_,_,q⟩:=j.all;refine YF.code T.acE aB ?_;refine au ?_;refine RO.dL U (λH1 i U=>?_);refine au ?_;refine RO.cl (Jx T (us:=us) (ts:=tB 3 i [aN bH]::tB yi a [y]::ts) (λ_ h=>h.gr.sl j) hl rfl (J:=λk b=>∃t0,b=tB 3 i [aN bH]::tB yi a [y]::t0/\J (p+k) t0) (D:=λb=>∃t0,b=tB 3 i [aN bH]::tB yi a [y]::t0/\D t0) ?_ ⟨ts,rfl,g⟩ U λH' b t U d=>?_)
 .rintro k _ us H h⟨t0,rfl,g⟩U;obtain⟨f,he⟩:=n k h;refine YF.code T.acF aB ?_;refine ah ?_;refine RO.cl ((e (p+k) [aI la[k],aN bH] [] t0 _ _ f ⟨rfl,f,by rw[he];rfl⟩ g (aj.gF (xs:=[_,_]) U)).mono ?_);rintro v r⟨b,U,d⟩;have U:=aj.kO (xs:=[_,_]) U;rcases d with⟨rfl,h⟩|⟨rfl,h⟩;·refine ah ?_;exact Ru.aV ⟨_,U,.inl ⟨rfl,b,rfl,h⟩⟩
  refine ah ?_;exact Ru.aV ⟨_,U,.inr ⟨rfl,b,rfl,h⟩⟩
 rcases d with⟨rfl,t0,rfl,h⟩|⟨rfl,t0,rfl,h⟩;·refine ah ?_;exact Ru.aV (m _ t0 true U.tail (.inl ⟨rfl,h⟩))
 refine ah ?_;exact Ru.aV (m _ t0 false U.tail (.inr ⟨rfl,h⟩))
end
end
section
def oB(a:List Int)(n:Nat):List (Int×Int):=a.map λv=>(v,(n:Int))
def jI:List G.ic->Nat->List (Int×Int)
 |[],_=>[]
 |s::l,i=>oB s.args i++jI l (i+1)
def kE:List G.Edge->Nat->List (Int×Int)
 |[],_=>[]
 |e::l,n=>oB e.args n++kE l n
def kF(b:G.gV):List (Int×Int):=jI b.aD 0++(oB b.aA.args b.aD.length++kE b.aA.go b.aD.length)
theorem Jz:∀(a b:List G.ic)(i:Nat),jI (a++b) i=jI a i++jI b (i+a.length)|[],b,i=>by simp[jI]|s::a,b,i=>by simp only[akV,jI,Jz a b (i+1),aj2,akA];rw[show i+1+a.length=i+(a.length+1)by omega]
theorem JA:∀(a b:List G.Edge)(n:Nat),kE (a++b) n=kE a n++kE b n|[],b,n=>by simp[kE]|s::a,b,n=>by simp only[akV,kE,JA a b n,aj2]
theorem JB{l a c:List (Int×Int)}{b:List Int}{n:Nat}(h:l=a++(oB b n++c))(k:Nat)(f:k<b.length):∃g:a.length+k<l.length,l[a.length+k]=(b[k],(n:Int)):=by
 have e:l[a.length+k]?=some (b[k],(n:Int)):=by rw[h,List.getElem?_append_right af,akw (by simp[oB];omega)];simp[oB,f]
 exact akR.1 e
theorem E7(a:List Int)(n:Nat):(oB a n).length=a.length:=by simp[oB]
theorem Px(b:G.gV){i:Nat}(h:i<b.aD.length):(jI (b.aD.take (i+1)) 0).length=(jI (b.aD.take i) 0).length+b.aD[i].args.length/\∃c,kF b=jI (b.aD.take i) 0++(oB b.aD[i].args i++c):=by
 have e1:b.aD=b.aD.take i++b.aD[i]::b.aD.drop (i+1):=by conv=>lhs;rw[<-ala i b.aD,aj9 h]
 refine⟨by rw[List.take_succ,akP h,Option.toList_some,Jz,aj8];simp[jI,E7,aly (Nat.le_of_lt h)],jI (b.aD.drop (i+1)) (i+1)++(oB b.aA.args b.aD.length++kE b.aA.go b.aD.length),?_⟩;have e2:jI b.aD 0=jI (b.aD.take i) 0++(oB b.aD[i].args i++jI (b.aD.drop (i+1)) (i+1)):=by
  conv=>lhs;rw[e1]
  rw[Jz,jI,akF,aly af,akh]
 unfold kF;rw[e2,aj2,aj2]
theorem Py(b:G.gV){i:Nat}(h:i<b.aA.go.length):(kE (b.aA.go.take (i+1)) b.aD.length).length=(kE (b.aA.go.take i) b.aD.length).length+b.aA.go[i].args.length/\∃c,kF b=(jI b.aD 0++(oB b.aA.args b.aD.length++kE (b.aA.go.take i) b.aD.length))++(oB b.aA.go[i].args b.aD.length++c):=by
 have e1:b.aA.go=b.aA.go.take i++b.aA.go[i]::b.aA.go.drop (i+1):=by conv=>lhs;rw[<-ala i b.aA.go,aj9 h]
 refine⟨by rw[List.take_succ,akP h,Option.toList_some,JA,aj8];simp[kE,E7],kE (b.aA.go.drop (i+1)) b.aD.length,?_⟩;have e2:kE b.aA.go b.aD.length=kE (b.aA.go.take i) b.aD.length++(oB b.aA.go[i].args b.aD.length++kE (b.aA.go.drop (i+1)) b.aD.length):=by
  conv=>lhs;rw[e1]
  rw[JA,kE]
 unfold kF;rw[e2];simp only[aj2]
section
variable{A H:ai}{us:List Th}{d:ab}{b:G.gV}{cs:List AV}
theorem Pz(T:Tb ac)(h1:dS cs=true){K:KT}(a:∀H' d,aj H H' [tB dW d cs]->K (.func EB [] [.az d 0]) H'):YN ac Xq [.agg cs] H K:=by refine YF.code T.ack aB ?_;refine au ?_;refine RO.dL (aj.dc H) (λH1 d U=>?_);refine au ?_;exact Ru.aV (a _ d U)
theorem PA(T:Tb ac)(hb:kj A b cs)(ag:b.aD.length<=1000)(eh:∀s∈b.aD,s.args.length<=1000)(ar:b.aA.args.length<=1000)(av:b.aA.go.length<=1000)(O:∀e∈b.aA.go,e.args.length<=1000):yI ac A (.func EB [] [.az d 0]) (kF b).length (Jw (kF b)) [tB dW d cs] (λ_=>True) (λ_=>True):=by
 intro y J D m us H K u P z aw f n U hR g;obtain⟨vp,vs,jc,rfl,ax,B,Q⟩:=hb;obtain⟨va,vk,vg,rfl,C,ay,E⟩:=Q;have⟨a0,_,_,a1⟩:=B.all;have⟨a2,_,_,a3⟩:=C.all;have⟨a4,_,_,a5⟩:=E.all;refine YF.code T.acD aB ?_;refine ah ?_;refine RO.dL U (v:=y) (λH1 W U=>?_) (ho:=by rw[z];simp[dS,P]);rw[z]at U;refine ah ?_;refine Ru.nm λS M I w=>?_;refine Ru.cC w (up (P:=λi=>∀r m,J (jI (b.aD.take i) 0).length m->aj A r (tB yi W [y]::tB dW d _::(m++us))->Ru ac _ S ([(aX,aN i)]++pk M [p1,p3,aR,aY]) r) b.aD.length (λi hi L r m n U=>?_) 0 af _ m n U);subst I;subst w;refine Ru.loop ?_;refine au ?_;refine Ru.cond (λa=>?_) (λa=>?_)
 .obtain⟨v,c,N⟩:=Px b a;refine au ?_;refine RO.cZ U.gr B (λq o c hj x _ hat hrd=>?_);have F:=x.one;obtain⟨R,rfl,k⟩:=x;have⟨G,_,_,_⟩:=k.all;refine ah ?_;refine RO.gI U λH4 Y U=>?_;refine ah ?_;refine RO.iT U 0 (λZ U=>?_);refine ah ?_;refine RO.cl (Jy T u f (p:=(jI (b.aD.take i) 0).length) (bH:=i) k (by have:=eh _ (agB a);omega) (JB N) n ((U.cM (akS ..)).cM (akO _ (vt (xs:=[_,_])))) λX j t U l=>?_);have U:=(U.cM (akO _ (vt (xs:=[_,_])).symm)).sub (alh _ (List.Sublist.cons _ (akL _)));rcases l with⟨rfl,h⟩|⟨rfl,h⟩;·refine ah ?_;rw[<-v]at h;exact Ru.wk (L (i+1) af af _ _ h U)
  refine ah ?_;exact Ru.mD (vs:=[]) trivial (g _ j _ U.tail.tail (.inr h))
 refine Ru.exitTo ?_;rw[akl af]at n;refine ah ?_;refine RO.cl (Jy T u f (p:=(jI b.aD 0).length) (bH:=b.aD.length) C af (JB (l:=kF b) rfl) n (U.cM (akO _ (vt (xs:=[_])))) λX j t U l=>?_);have U:=U.cM (akO _ (vt (xs:=[_])).symm);rcases l with⟨rfl,h⟩|⟨rfl,h⟩
 .refine ah ?_;refine Ru.nm λS M I w=>?_;refine Ru.cC w (up (P:=λi=>∀r m,J ((jI b.aD 0).length+(b.aA.args.length+(kE (b.aA.go.take i) b.aD.length).length)) m->aj A r (tB yi W [y]::tB dW d _::(m++us))->Ru ac _ S ([(du,aN i)]++pk M [p3,p6,dl,dh]) r) b.aA.go.length (λi hi L r m n U=>?_) 0 af _ j h U);subst I;subst w;refine Ru.loop ?_;refine au ?_;refine Ru.cond (λa=>?_) (λa=>?_)
  .obtain⟨v,c,N⟩:=Py b a;refine au ?_;refine RO.cZ U.gr E (λq o c hj x _ hat hrd=>?_);have F:=x.one;obtain⟨R,rfl,k⟩:=x;have⟨G,_,_,_⟩:=k.all;refine ah ?_;refine RO.fx U λZ Y U=>?_;refine ah ?_;have V:(jI b.aD 0++(oB b.aA.args b.aD.length++kE (b.aA.go.take i) b.aD.length)).length=(jI b.aD 0).length+(b.aA.args.length+(kE (b.aA.go.take i) b.aD.length).length):=by simp only[aj8,E7]
   have p:=JB N;rw[V]at p;refine RO.cl (Jy T u f (p:=(jI b.aD 0).length+(b.aA.args.length+(kE (b.aA.go.take i) b.aD.length).length)) (bH:=b.aD.length) k (by have:=O _ (agB a);omega) p n ((U.cM (akS ..)).cM (akO _ (vt (xs:=[_,_])))) λX j t U l=>?_);have U:=(U.cM (akO _ (vt (xs:=[_,_])).symm)).sub (alh _ (List.Sublist.cons _ (akL _)));rcases l with⟨rfl,h⟩|⟨rfl,h⟩;·refine ah ?_;rw[alo,alo,<-v]at h;exact Ru.wk (L (i+1) af af _ _ h U)
   refine ah ?_;exact Ru.mD (vs:=[]) trivial (g _ j _ U.tail.tail (.inr h))
  refine Ru.exitTo ?_;refine ah ?_;refine Ru.aA (vs:=[]) trivial (g _ m _ U.tail.tail (.inl ?_));have e:(kF b).length=(jI b.aD 0).length+(b.aA.args.length+(kE (b.aA.go.take i) b.aD.length).length):=by rw[akl af];simp[kF,E7]
  rw[e];exact n
 refine ah ?_;exact Ru.mD (vs:=[]) trivial (g _ j _ U.tail.tail (.inr h))
end
end
end
end Go.am.R
namespace Go.am
section
variable{ac:Nat->aG}{c:Cx}{s:List SI}{L:Kn}{A H:ai}{d:Option ab}{l:List be}{ts:List Th}{q:ab}{e n k i cap:Nat}{full ex:Bool}{b:List (Int×Int)}
def iV:List (Int×Int)->List AV
 |[]=>[]
 |w::l=>aI w.1::aI w.2::iV l
theorem PB:∀l,(iV l).length=l.length*2|[]=>rfl|w::l=>by simp only[iV,akA,PB l];omega
theorem PC:∀{l:List (Int×Int)}{k:Nat}(h:k<l.length),((iV l).drop (k*2)).take 2=[aI l[k].1,aI l[k].2]|w::l,0,_=>rfl|w::l,k+1,h=>by have:=PC (l:=l) (k:=k) (by simpa using h);grind[iV]
theorem PD:∀{l:List (Int×Int)}{k:Nat}(_:k<l.length)(w:Int×Int)(j:Nat),(iV (l.set k w))[j]?=if k*2<=j/\j<k*2+2 then[aI w.1,aI w.2][j - k*2]? else(iV l)[j]?
 |v::l,0,_,w,j=>by match j with|0=>simp[iV]|1=>simp[iV]|j+2=>simp[iV];omega
 |v::l,k+1,h,w,j=>by
  match j with
   |0=>simp[iV]
   |1=>simp[iV];omega
   |j+2=>
    have:=PD (l:=l) (k:=k) (by simpa using h) w j;simp only[List.set_cons_succ,iV,ak6,this];by_cases h1:k*2<=j/\j<k*2+2;·rw[aK h1,aK af];congr 1;omega
    rw[aq h1,aq af]
theorem PE(w:Int×Int):∀n,w.1=w.2->ahr (n*2) (aI w.1)=iV (ahr n w)|0,_=>rfl|n+1,h=>by rw[show(n+1)*2=n*2+1+1 by omega,List.replicate_succ,List.replicate_succ,PE w n h,List.replicate_succ,iV,<-h]
def aeT:ai->Int×Int->List AV->Prop:=λ_ w cs=>cs=[aI w.1,aI w.2]
theorem SlD.r{a:AV}(h:Sl H 2 (iV b) b.length a):dV 2 aeT H b a:=⟨_,h,λk c=>PC c⟩
theorem RO.stD(U:aj A H ts)(i:Nat)(w:Int×Int)(u:b.length=n){a x:aJ}(h:∀H',aj A H' (ts.set i (tS e 2 (iV (b.set k w)) n full (.slice q 0 n cap ex)))->RO ac c l s (bC L d .alR) H')(hi:ts[i]?=some (tS e 2 (iV b) n full (.slice q 0 n cap ex)):=by rfl)(o:k<b.length:=by omega)(p:bf L a=.az q (0+k*2):=by exact cw)(r:bf L x=.agg [aI w.1,aI w.2]:=by exact cw):RO ac c (⟨d,.store 2 a x,none,[],[]⟩::l) s L H:=by
 obtain⟨v,f,_,hu⟩:=U.ki i hi;have g:b.length<=cap:=by
  rcases f with⟨_,_,_,h⟩|⟨y,z,aM,m,t,rfl,h2,_,B,_⟩;·cases h
  injection h2 with _ _ _ h2;omega
 obtain⟨H',h1,h2,h3⟩:=dU.wx f (o:=0+k*2) (ws:=[aI w.1,aI w.2]) (us:=iV (b.set k w)) (by grind) rfl (by simp[PB,ak4]) λj hj=>by simp[o,PD,akh]
 exact RO.store (v:=.agg [aI w.1,aI w.2]) h1 (h H' (hu h2 h3)) p r rfl rfl
end
end Go.am
namespace Go.am.R
section
variable{ac:Nat->aG}
def qz(k:Nat)(b:List (Int×Int))(l:List (Int×Int)):List (Int×Int):=l.foldl (λa p=>a.set p.1.toNat ((k:Int),p.2)) b
def mj(g:G.bu)(n:Nat):Nat->List (Int×Int)
 |0=>ahr n (-1, -1)
 |k+1=>qz k (mj g n k) (dC (g.al.getD k default))
def jZ(g:G.bu):List (Int×Int):=mj g g.bp.toNat g.al.length
theorem JC(k:Nat):∀(l a:List (Int×Int)),(qz k a l).length=a.length|[],a=>rfl|p::l,a=>by show(qz k (a.set p.1.toNat ((k:Int),p.2)) l).length=_;rw[JC k l,ak4]
theorem E8(g:G.bu)(n:Nat):∀k,(mj g n k).length=n|0=>by simp[mj]|k+1=>by rw[mj,JC,E8 g n k]
section
variable{g:G.bu}{c f:AV}{d:ab}{H:ai}{come:List Bool}{os:List (List bV)}{h:List AV}
theorem aeW(T:Tb ac)(V:G.Sm g)(r:GX g H d c f come os h)(ag:0<=g.bp)(ar:g.bp<=6000)(hG:∀b∈g.al,∀p∈dC b,0<=p.1/\p.1<g.bp){K:KT}(a0:∀H' v,aj H H' [tS nN 2 (iV (jZ g)) (jZ g).length true v]->K v H'):YN ac Xx [.az d 0] H K:=by
 have av:=V.nb;have⟨hd,_,_,hn⟩:=r.bl.all;have F:=r.kS.aH;have I:=r.c2;have a:=r.kS.lt;obtain⟨n,s⟩:∃n:Nat,g.bp=(n:Int):=⟨g.bp.toNat,af⟩;have u:∀k,(mj g n k).length=n:=E8 g n;have x:jZ g=mj g n g.al.length:=by rw[jZ,s];rfl
 refine YF.code T.acx aB ?_;refine au ?_;refine RO.lf (aj.dc H) 2 (λH1 qx U=>?_) (n:=1) (ws:=[aI (-1),aI (-1)]);refine ah ?_;refine RO.aW ?_ (v:=aN n) (hc:=by rw[U.gr.bh a,I,s];rfl);refine RO.cl (aeH T (n:=n) (u:=aI (-1)) (xv:=.slice qx 0 1 1 true) rfl (U.sl (e:=nN) (size:=2) (n:=1) (full:=true) 0) af λH2 q hl=>?_);have U:=U.fC hl;refine RO.fx U λW m U=>?_;refine ah ?_;refine RO.aW ?_ (v:=c) (hc:=by rw[U.gr.bh a];exact F);refine ah ?_;have U:aj H W (tS nN 2 (iV (mj g n 0)) n true (.slice q 0 n n true)::tB wA m [.slice q 0 n n true]::[]):=by have:=(U.gk 1 rfl).sub (alh _ (alh _ (List.nil_sublist _)));rw[PE (-1, -1) n rfl]at this;exact this
 refine Ru.nm λS M hS X=>?_;refine Ru.cC X (up (P:=λk=>∀C i,aj H C (tS nN 2 (iV (mj g n k)) n true (.slice q 0 n n true)::tB wA m [.slice q 0 n n true]::i9 i)->Ru ac ⟨pu [.tmp p2] K,i,none⟩ S ([(bO,aN k)]++pk M [p3,bN,bR]) C) g.al.length (λk hk ih C i U=>?_) 0 af _ [] U);subst hS;subst X;refine Ru.loop ?_;refine au ?_;refine Ru.cond (λa=>?_) (λa=>?_)
 .have y:=agB a;have aw:=V.bl _ y;have J:=hG _ y;refine ah ?_;refine RO.cZ U.gr r.bl (λq5 o5 c5 hj o ax hat hrd=>?_);have z:=o.one;have L:=o;obtain⟨Y,Z,jc,rfl,_,_,N⟩:=o;obtain⟨va,vk,vg,rfl,_,_,_⟩:=N;refine ah ?_;refine RO.gI U λH4 B U=>?_;refine RO.gI U λH5 q6 U=>?_;refine RO.gG U 1 (λH6 U=>?_);refine RO.iT U 0 (λH7 U=>?_);refine ah ?_;refine RO.eQ U 0 ?_;have U:aj H H7 (tS nN 2 (iV (mj g n k)) n true (.slice q 0 n n true)::tB wA m [.slice q 0 n n true]::tB 3 B [aN k]::i9 i):=(U.tail.gk 2 rfl).gk 2 rfl;refine RO.cl (Pu T (cs:=[Y,Z,aU (g.al[k]).aA.op,va,.str (g.al[k]).aA.name,vk,vg]) z rfl λH8 q1 hl=>?_);have U:aj H H8 ([tB dW q1 [Y,Z,aU (g.al[k]).aA.op,va,.str (g.al[k]).aA.name,vk,vg]]++[tS nN 2 (iV (mj g n k)) n true (.slice q 0 n n true),tB wA m [.slice q 0 n n true],tB 3 B [aN k]]++i9 i):=U.fC hl;refine ah ?_;refine Ru.wk (L:=[(ct,.func EA [] [.az q1 0]),(p3,.az m 0),(p4,.az B 0),(bN,c),(bR,aN g.al.length),(bO,aN k)]) ?_;refine Ru.pG (J:=λj ts=>ts=[tS nN 2 (iV (qz k (mj g n k) ((dC g.al[k]).take j))) n true (.slice q 0 n n true),tB wA m [.slice q 0 n n true],tB 3 B [aN k]]) (Dn:=λ_ _=>False) U (Pv T L af af) (λ_ _=>trivial) rfl (λk args ws a0=>by obtain⟨_,_,rfl⟩:=a0;rfl) (λ_ _ _ _ _ _=>trivial) (λj args ws ts us l o1 o2 H' hj O D U=>?_) (λH' P E D U=>?_) (λj H' P E _ a0=>a0.elim)
  .obtain⟨rfl,Q,rfl⟩:=O;subst D;obtain⟨h0,h1⟩:=J _ (agB Q);have R:(dC g.al[k]).take (j+1)=(dC g.al[k]).take j++[(dC g.al[k])[j]]:=by rw[akd]
   generalize(dC g.al[k])[j]=w at*;obtain⟨w1,w2⟩:=w;obtain⟨t,rfl⟩:∃t:Nat,w1=(t:Int):=⟨w1.toNat,by simp only at h0;omega⟩;have ay:t<n:=by simp only at h1;omega
   have A:(qz k (mj g n k) ((dC g.al[k]).take j)).length=n:=by rw[JC,u]
   refine au ?_;refine Ru.dN U λH2 U=>?_;refine ah ?_;refine RO.stD U 0 ((k:Int),w2) A (λW U=>?_) (k:=t);refine ah ?_;refine Ru.bG (ts:=[_,_,_]) U ?_;rw[R,qz,qz,List.foldl_append];rfl
  subst D;rw[ak7]at U;refine ah ?_;have U:aj H H' (tS nN 2 (iV (mj g n (k+1))) n true (.slice q 0 n n true)::tB wA m [.slice q 0 n n true]::i9 (E::i)):=by
   have e:mj g n (k+1)=qz k (mj g n k) (dC g.al[k]):=by rw[mj,bF a]
   rw[e];exact U.sub (alh _ (alh _ (List.Sublist.cons _ (akL _))))
  exact Ru.wk (ih (k+1) af af H' (E::i) U)
 refine Ru.exitTo ?_;refine ah ?_;have e:k=g.al.length:=af;subst e;rw[<-x]at U;refine Ru.mI (M:=i) (ts:=[_,_]) (U.cM (akH (l₁:=[_,_]) (l₂:=i9 i))) λH' U=>⟨[.slice q 0 n n true],⟨rfl,rfl,trivial⟩,a0 H' _ ?_⟩;have e2:(jZ g).length=n:=by rw[x,u]
 rw[e2];exact U.sub (alh _ (List.nil_sublist _))
end
end
end Go.am.R
end
