/- A part. No conditions. -/
import Derived.Test.YtpplokbfajnjhaaGreatDoorA30
set_option linter.all false
set_option maxHeartbeats 16000000
open List renaming range->ah7
open Int renaming ofNat->aiC
noncomputable section
namespace Go.al.R
section
variable{ab:Nat->aV}
section
section
variable{g:G.aP}{H:ai}
theorem nG.ne{e:Int}(h:nG g e):e≠0:=by rcases h with⟨h,_⟩|⟨h,_⟩|⟨h,_⟩<;>omega
theorem ae8(T:Tb ab)(f:¬Vd g)(i:nk g)(j:lT g){cs:List AV}(hg:dt H g cs){K:KT}(k:∀H' e,nG g e->aS H H'->K (.tuple [.j5,aI e]) H'):YN ab E' [.agg cs] H K:=by have d:=hg.one;obtain⟨c,rfl,bG⟩:=hg;refine YF.code T.La aC (au ?_);refine RO.ct (ak.bN H) λH1 l U=>af ?_;refine RO.co U 0 ?_;refine RO.cl (ad4 T f i j (cs:=[.str g.name,aI g.params,aI g.aQ,c]) ⟨c,rfl,bX.block.gp U.gr bG⟩ λm e he a=>?_);have b:=he.ne;refine af ?_;refine Ru.cond (λ_=>af ?_) (λh=>absurd b h);exact Ru.kJ (vs:=[.j5,aI e]) ⟨rfl,rfl,rfl,rfl,trivial⟩ (k _ e he (U.gr.trans a))
end
end
section
def ey:List Int->List Int->List Int
 |a,[]=>a
 |a,x::l=>ey (if x∈a then a else a++[x]) l
theorem G7{x:Int}:∀{l a:List Int},x∈ey a l↔x∈a\/x∈l
 |[],a=>by simp[ey]
 |y::l,a=>by
  rw[ey,G7];split
  .rename_i h;simp only[acT];constructor
   .rintro(h1|h1);·exact .inl h1
    exact .inr (.inr h1)
   rintro(h1|h1|h1);·exact .inl h1
   .subst h1;exact .inl h
   exact .inr h1
  simp only[adX,acT,aie,or_false,or_assoc]
theorem G8:∀{l a:List Int},a.Nodup->(ey a l).Nodup
 |[],a,h=>h
 |y::l,a,h=>by
  rw[ey];refine G8 ?_;split;·exact h
  rename_i c;rw[aiH];refine⟨h,aC,λx d z b=>?_⟩;rw[abP]at b;subst b;exact λe=>c (e▸d)
theorem CR:∀{l a:List Int},(ey a l).length<=a.length+l.length
 |[],a=>by simp[ey]
 |y::l,a=>by
  rw[ey];have:=CR (l:=l) (a:=if y∈a then a else a++[y]);split at this;·rename_i h;rw[aG h];simp only[air];omega
  rename_i h;rw[an h];simp only[ahY,air,List.length_nil]at this⊢;omega
theorem Ox:∀{l a:List Int}{x:Int},ey a (l++[x])=if x∈ey a l then ey a l else ey a l++[x]|[],a,x=>rfl|y::l,a,x=>by rw[aiR,ey,Ox,ey]
section
variable{H:ai}
theorem Oy(T:Tb ab){a b:List Int}{p bv:AV}(r:eE H a p)(hb:eE H b bv)(z:a.length<=100000)(A:b.length<=100000){K:KT}(h:∀H' v,ak H H' [tS 3 1 ((ey a b).map aI) (ey a b).length true v]->K v H'):YN ab Xh [p,bv] H K:=by
 have⟨B,_,_,C⟩:=r.all;have⟨D,_,_,E⟩:=hb.all;refine YF.code T.Zt aC (af ?_);refine RO.ji (ak.bN H) 1 λM v5 U=>?_;have⟨F,_,_,_⟩:=(U.sl (e:=3) (size:=1) (sv:=v5) (vs:=[]) (n:=0) (full:=true) 0).all;refine af ?_;refine RO.ls U 0 (U.gr.sl r) (λt v9 U=>?_) (h1:=m9 _);have U:ak H t [tS 3 1 ((ey a (b.take 0)).map aI) (ey a (b.take 0)).length true v9]:=by rw[aif]at U;exact U
 have⟨G,_,_,_⟩:=(U.sl (e:=3) (size:=1) (sv:=v9) (vs:=(ey a (b.take 0)).map aI) (n:=(ey a (b.take 0)).length) (full:=true) 0).all;refine af ?_;refine Ru.nm λx y l e=>Ru.bI e (up (P:=λk=>∀i d,ak H i [tS 3 1 ((ey a (b.take k)).map aI) (ey a (b.take k)).length true d]->Ru ab _ x ([(p6,aN k),(p5,d)]++pk y [p1]) i) b.length (λk N c i d U=>?_) 0 aa _ _ U);subst l;subst e;have f:=U.sl (e:=3) (size:=1) (sv:=d) (vs:=(ey a (b.take k)).map aI) (n:=(ey a (b.take k)).length) (full:=true) 0;have⟨I,_,_,J⟩:=f.all;have m:=CR (l:=b.take k) (a:=a);rw[aiA]at m;refine Ru.loop (af ?_);refine Ru.cond (λg=>?_) (λg=>?_)
 .have c:=c (k+1) aa aa;rw[(ah9 g).symm,Ox]at c;generalize ey a (b.take k)=u at*;refine af ?_;refine RO.jk U.gr hb (λq o hj n=>af ?_) (j:=k);refine RO.cl (FG T f aa (λj=>?_) (λj=>?_));·rw[aG j]at c;refine af ?_;exact Ru.wk (c _ d U)
  rw[an j]at c;refine af ?_;refine RO.jk U.gr hb (λq o hj n=>af ?_) (j:=k);refine RO.push U 0 (λw H' s U=>?_) (ws:=[aI b[k]]);have⟨L,_,_,_⟩:=(U.sl (e:=3) (size:=1) (n:=u.length+1) (full:=true) (sv:=s) 0).all;refine af ?_;exact Ru.wk (c _ s (by rw[ail,ahY];exact U))
 refine Ru.exitTo ?_;rw[aic aa]at U;refine af ?_;exact Ru.aL (h _ d U)
end
end
section
def mF(g:G.aP)(n b:Nat)(pl:List (List Int)):Prop:=∃a aB i,lC g (-1) a aB i/\(∀b,gM g (-1) a aB i b)/\(a.getD b false=false/\pl=[]\/∃M c2 o2 h,lC g (-1) c2 o2 h/\(∀b,gM g (-1) c2 o2 h b)/\qN g c2 o2 n M/\Cs g a aB M n b pl)
theorem Oz{l:List Int}(h:l.Pairwise (·<·)):l.Nodup:=h.imp λh=>Int.ne_of_lt h
theorem aeZ:∀(n:Nat)(l:List Int),l.Nodup->(∀x∈l,0<=x/\x<n)->l.length<=n:=λn l hd h=>by
 have:=rX n (l.map Int.toNat) (by rw[List.Nodup,List.pairwise_map];refine List.Pairwise.imp_of_mem (λ{a b}g hb k=>?_) hd;have:=h a g;have:=h b hb;omega) λx i=>by obtain⟨y,j,rfl⟩:=aia.1 i;have:=h y j;omega
 simpa using this
theorem mF.bd{g:G.aP}{n b:Nat}{pl:List (List Int)}(h:mF g n b pl):(pl=[]\/pl.length=(aE g b).aA.length+1)/\∀k,(pl.getD k []).Nodup/\(pl.getD k []).length<=n/\∀x∈pl.getD k [],0<=x/\x<n:=by
 have nil:∀k,(([]:List (List Int)).getD k []).Nodup/\(([]:List (List Int)).getD k []).length<=n/\∀x∈([]:List (List Int)).getD k [],0<=x/\x<n:=λk=>by simp
 obtain⟨_,_,_,_,_,⟨_,rfl⟩|⟨_,_,_,_,_,_,_,⟨_,hl,j⟩|⟨_,rfl⟩⟩⟩:=h;·exact⟨.inl rfl,nil⟩
 .refine⟨.inr hl,λk=>?_⟩;by_cases l:k<=(aE g b).aA.length
  .have⟨a,m⟩:=j k l;have i:∀x∈pl.getD k [],0<=x/\x<n:=λx o=>by obtain⟨v,rfl,p,_⟩:=(m x).1 o;omega
   exact⟨Oz a,aeZ n _ (Oz a) i,i⟩
  rw[ah3,aiJ aa];simp
 exact⟨.inl rfl,nil⟩
def se(pl:List (List Int))(a:Int)(B:G.dK)(b k:Nat)(x:Int):Prop:=x∈pl.getD k []\/k=0/\(x∈B.params\/b=0/\0<=x/\x<a)
def vH(pl:List (List Int))(B:G.dK)(k:Nat)(x:Int):Prop:=x∈pl.getD (k+1) []\/x=(B.aA.getD k default).to
structure jZ(g:G.aP)(pls:Nat->List (List Int))(P:Nat->Nat->Prop)(NL:List (List Int)):Prop where
 snd:∀N∈NL,N.Nodup/\N.length<=1000/\∃b j,P b j/\((∀x,x∈N↔se (pls b) g.params (aE g b) b j x)\/(j<(aE g b).aA.length/\0<=((aE g b).aA.getD j default).to/\∀x,x∈N↔vH (pls b) (aE g b) j x))
 c1:∀b j,P b j->∃N∈NL,∀x,x∈N↔se (pls b) g.params (aE g b) b j x
 c2:∀b j,P b j->j<(aE g b).aA.length->0<=((aE g b).aA.getD j default).to->∃N∈NL,∀x,x∈N↔vH (pls b) (aE g b) j x
section
variable{g:G.aP}{c e:Nat->List (List Int)}{P f:Nat->Nat->Prop}{d:List (List Int)}
theorem jZ.congr(h:jZ g c P d)(a:∀b j,P b j↔f b j)(i:∀b j,P b j->c b=e b):jZ g e f d:=by
 refine⟨λN k=>?_,λb j hb=>?_,λb j hb=>?_⟩;·have⟨h1,h2,b,j,h3,l⟩:=h.snd N k;refine⟨h1,h2,b,j,(a b j).1 h3,?_⟩;rw[<-i b j h3];exact l
 .have hb:=(a b j).2 hb;rw[<-i b j hb];exact h.c1 b j hb
 have hb:=(a b j).2 hb;rw[<-i b j hb];exact h.c2 b j hb
theorem jZ.OA(h:jZ g c P d){b j:Nat}{N:List Int}(q:N.Nodup)(hl:N.length<=1000)(p:∀x,x∈N↔se (c b) g.params (aE g b) b j x)(n:¬(j<(aE g b).aA.length/\0<=((aE g b).aA.getD j default).to)):jZ g c (λa i=>P a i\/a=b/\i=j) (d++[N]):=by
 refine⟨λk o=>?_,λa i hb=>?_,λa i hb h1 h2=>?_⟩
 .rcases adX.1 o with l|l;·have⟨h1,h2,a,i,h3,m⟩:=h.snd k l;exact⟨h1,h2,a,i,.inl h3,m⟩
  rw[abP]at l;subst l;exact⟨q,hl,b,j,.inr ⟨rfl,rfl⟩,.inl p⟩
 .rcases hb with hb|⟨rfl,rfl⟩;·have⟨k,h1,h2⟩:=h.c1 a i hb;exact⟨k,ah1 _ h1,h2⟩
  exact⟨N,aid _ (abP.2 rfl),p⟩
 rcases hb with hb|⟨rfl,rfl⟩;·have⟨k,h3,m⟩:=h.c2 a i hb h1 h2;exact⟨k,ah1 _ h3,m⟩
 exact absurd ⟨h1,h2⟩ n
theorem jZ.ae0(h:jZ g c P d){b j:Nat}{N l:List Int}(t:N.Nodup)(hl:N.length<=1000)(s:∀x,x∈N↔se (c b) g.params (aE g b) b j x)(hj:j<(aE g b).aA.length)(u:0<=((aE g b).aA.getD j default).to)(p:l.Nodup)(q:l.length<=1000)(n:∀x,x∈l↔vH (c b) (aE g b) j x):jZ g c (λi k=>P i k\/i=b/\k=j) (d++[N]++[l]):=by
 refine⟨λm r=>?_,λi k hb=>?_,λi k hb h1 h2=>?_⟩
 .rcases adX.1 r with a|a
  .rcases adX.1 a with a|a;·have⟨h1,h2,i,k,h3,o⟩:=h.snd m a;exact⟨h1,h2,i,k,.inl h3,o⟩
   rw[abP]at a;subst a;exact⟨t,hl,b,j,.inr ⟨rfl,rfl⟩,.inl s⟩
  rw[abP]at a;subst a;exact⟨p,q,b,j,.inr ⟨rfl,rfl⟩,.inr ⟨hj,u,n⟩⟩
 .rcases hb with hb|⟨rfl,rfl⟩;·have⟨m,h1,h2⟩:=h.c1 i k hb;exact⟨m,ah1 _ (ah1 _ h1),h2⟩
  exact⟨N,ah1 _ (aid _ (abP.2 rfl)),s⟩
 rcases hb with hb|⟨rfl,rfl⟩;·have⟨m,h3,o⟩:=h.c2 i k hb h1 h2;exact⟨m,ah1 _ (ah1 _ h3),o⟩
 exact⟨l,aid _ (abP.2 rfl),n⟩
end
end
section
section
variable{g:G.aP}{H:ai}{cs:List AV}
def vI(d e:ah)(g:G.aP)(n f:Nat)(h i a j k l v3:AV)(B:G.dK)(m o:List Th)(b:List AV)(c:Nat):List Th:=[tZ m,tS cB 1 b c true v3,tZ o,tB cH e [i,a,aU B.aq.op,j,.str B.aq.name,k,l],tB cJ d [.str g.name,aN f,aN n,h]]
theorem OB(T:Tb ab)(hg:dt H g cs)(hB:G.Sm g)(hR:ev g)(d6:g.aj.length<=30){n:Nat}(hn:g.aQ=n)(g9:n<=200){K:KT}(h:∀H' v f a F d,(∀b,b<g.aj.length->mF g n b (d b))->jZ g d (λb j=>b<g.aj.length/\j<(d b).length) f->f.length<=3000->fA f a F->ak H H' [tZ F,tS cB 1 a f.length true v]->K v H'):YN ab W0 [.agg cs] H K:=by
 have gn:=hg.one;have e2:=hg;obtain⟨I,rfl,bG⟩:=hg;have⟨e3,_,_,g'⟩:=bG.all;have d7:eV I I=true:=bG.bK;have ha:=hR.p0;have c9:=hR.p1;obtain⟨C,b3⟩:∃C:Nat,g.params=C:=⟨g.params.toNat,aa⟩;have e4:∀{D},aS H D->dt D g [.str g.name,aN C,aN n,I]:=λhg=>by have:=bX.fS hg e2;rw[hn,b3]at this;exact this
 refine YF.code T.Zd aC (au ?_);refine RO.ct (ak.bN H) λH1 L U=>?_;have U:ak H H1 [tB cJ L [.str g.name,aI g.params,aI g.aQ,I]]:=U;rw[hn,b3]at U;refine af ?_;refine RO.ji U 1 λH2 c' U=>?_;have⟨gq,_,_,_⟩:=(U.sl (e:=cB) (size:=1) (sv:=c') (vs:=[]) (n:=0) (full:=true) 0).all;have U:=U.lU;refine af ?_;refine Ru.nm λS1 M1 e5 dm=>Ru.bI dm (up (P:=λb=>∀D f d a A v3,(∀c,c<b->mF g n c (d c))->jZ g d (λc j=>c<b/\j<(d c).length) f->f.length<=90*b->fA f a A->ak H D [tZ A,tS cB 1 a f.length true v3,tB cJ L [.str g.name,aN C,aN n,I]]->Ru ab _ S1 ([(p4,aN b),(p3,v3)]++pk M1 [p1]) D) g.aj.length (λb hb ih D f d a A v3 dr t e6 Q U=>?_) 0 aa _ [] (λ_=>[]) [] [] c' (λc J=>by omega) ⟨λN hN=>(by cases hN),λc j J=>aa,λc j J=>aa⟩ aC ⟨rfl,λb hb=>absurd hb aC⟩ U);subst e5;subst dm;have⟨e7,_,_,e8⟩:=(U.sl (e:=cB) (size:=1) (sv:=v3) (vs:=a) (n:=f.length) (full:=true) 1).all;refine Ru.loop (af ?_);refine Ru.cond (λds=>?_) (λds=>?_)
 .have ih:=ih (b+1) aa aa;have b4:b<g.aj.length:=ds;have b6:=acm b4;have dv:=hB.bl _ b6;have hc:=hB.st _ b6;have z:aE g b=g.aj[b]:=bf b4 _;have e9:∀{k:Nat}(hk:k<g.aj[b].aA.length), -1<=g.aj[b].aA[k].to/\g.aj[b].aA[k].to<n:=λhk=>by have:=(hR.aA _ b6 _ (acm hk)).r;have h1:=this.t0;have h2:=this.t1;omega
  refine af ?_;refine RO.co U 2 (af ?_);refine RO.nC U.gr bG (λe' fa hf gx ba gy bb=>?_) (j:=b);have gA:=ba.one;refine RO.eF ?_ (hc:=(bb U.gr).2);generalize hh:g.aj[b]=B at*;obtain⟨vp,p,jc,rfl,b7,a8,va,vk,vg,rfl,fb,fd,fe⟩:=ba;have⟨hm,_,_,ho⟩:=b7.all;have⟨hq,_,_,hr⟩:=a8.all;have fk:cC p p=true:=by obtain⟨_,hw,_⟩:=a8;exact Sl.cC hw
  have fl:cC vg vg=true:=by obtain⟨_,hw,_⟩:=fe;exact Sl.cC hw
  refine af ?_;refine RO.dN U λH3 O U=>?_;have fo:=U.px (e:=cH) (q:=O) (vs:=[.bh,.bh,i 4 0,.bh,.str [],.bh,.bh]) 0;have d':∀H0:ai,H0.next=H3.next->(∀j,j∉ [O]->H0.get j=H3.get j)->aS H H0:=λH0 h1 h2=>⟨by rw[h1];exact U.gr.nx,λj hj=>by rw[h2 j ?_,U.gr.cM j hj];rw[abP];intro e;rw[e]at hj;omega⟩;refine RO.uZ (is:=[O]) (Q:=λv ns=>∃pl R P,mF g n b pl/\fA pl R P/\tR 1 R pl.length v∈P/\ns=[tZ P]) U (λj hj=>by rw[abP]at hj;rw[hj];exact fo.2) (λH0 fp hs=>ads T (e4 (d' H0 fp hs)) hB hR d6 hn aa b4 (λH' v Z aB b' F h1 h2 h3 h4 h5=>⟨_,h4,[],[],F,⟨Z,aB,b',h1,h2,.inl ⟨h3,rfl⟩⟩,⟨rfl,λb hb=>absurd hb aC⟩,h5,rfl⟩) (λH' v pl R F Z aB b' M c2 o2 ea h1 h2 h3 h4 h5 h6 h7 h8 h9=>⟨_,h9,pl,R,F,⟨Z,aB,b',h1,h2,.inr ⟨M,c2,o2,ea,h3,h4,h5,h6⟩⟩,h7,h8,rfl⟩)) (λv5 ns HU hQ hv U=>?_);obtain⟨pl,R,P,dx,ca,ag,rfl⟩:=hQ;refine⟨λac dy=>?_,?_⟩;·obtain⟨_,c9⟩:=U.get 4 rfl;refine tF (i:=e') (o:=fa) (vs:=[vp,p,aU B.aq.op,va,.str B.aq.name,vk,vg]) dy (by(conv=>lhs;whnf)<;>rfl) (by(conv=>lhs;whnf)<;>rfl) (Gt (Sl.cC b7) fk (Sl.cC fb) (Sl.cC fd) fl) (bb U.gr).2 ?_;exact eo (i:=L) (o:=3) (v:=I) dy (by(conv=>lhs;whnf)<;>rfl) (by(conv=>lhs;whnf)<;>rfl) e3 d7 (tB.cell c9 rfl) rfl
  have⟨hx,_,_,hz⟩:=(Gx U 0 rfl ca ag).all;refine af ?_;refine RO.eY U 1 (λH4 U=>?_);obtain⟨av,bc⟩:=dx.bd;rw[z]at av;have U:ak H H4 (vI L O g n C I vp p va vk vg v3 B A P a f.length):=ak.dR (xs:=[_,_]) (ts:=[_,_]) (us:=[_]) U;have bv:∀c j,c<b/\j<(d c).length->d c=(λi=>if i=b then pl else d i) c:=λc j J=>by dsimp only;rw[an aa]
  have eb:jZ g (λi=>if i=b then pl else d i) (λc j=>c<b/\j<(d c).length\/c=b/\j<0) f:=t.congr (λc j=>⟨λh=>.inl h,λh=>h.resolve_right λh=>by omega⟩) bv;generalize cd:(λi=>if i=b then pl else d i)=q at*;have S:q b=pl:=by rw[<-cd];exact aG rfl
  have cf:∀c,c≠b->q c=d c:=λc J=>by rw[<-cd];exact an J
  clear bv cd t;refine af ?_;refine Ru.nm λS2 M2 fq dz=>Ru.bI dz (up (P:=λk=>∀D f a A v3,jZ g q (λc j=>c<b/\j<(d c).length\/c=b/\j<k) f->f.length<=90*b+2*k->fA f a A->ak H D (vI L O g n C I vp p va vk vg v3 B A P a f.length)->Ru ab _ S2 ([(p7,aN k),(p3,v3)]++pk M2 [p1,p4,p5,p6]) D) pl.length (λk hk V D f a A v3 t e6 Q U=>?_) 0 aa _ f a A v3 eb aa Q U);subst fq;subst dz;have⟨e7,_,_,e8⟩:=(U.sl (e:=cB) (size:=1) (sv:=v3) (vs:=a) (n:=f.length) (full:=true) 1).all;refine Ru.loop (af ?_);refine Ru.cond (λaw=>?_) (λaw=>?_)
  .have V:=V (k+1) aa aa;have gH:pl.length=B.aA.length+1:=av.resolve_left λe=>by rw[e]at aw;cases aw
   refine af ?_;refine RO.ji U 1 λH5 d0 U=>?_;have⟨gL,_,_,_⟩:=(U.sl (e:=3) (size:=1) (sv:=d0) (vs:=[]) (n:=0) (full:=true) 0).all;refine RO.bg (RO.nil (Ru.seq (Ru.pA (P:=λM' H'=>∃(o:AV)(mo:List Int),M'=[(p8,o),(p1,.aD L 0),(p3,v3),(p4,aN b),(p5,v5),(p6,.aD O 0),(p7,aN k)]/\mo=(if k=0 then B.params else[])/\ak H H' (tS 3 1 (mo.map aI) mo.length true o::vI L O g n C I vp p va vk vg v3 B A P a f.length)) (λM' HC hP=>?_) (λs' m=>?_))));rotate_left
   .refine af ?_;refine Ru.cond (λ(l:k=0)=>?_) (λ(l:¬k=0)=>?_);·refine af ?_;refine RO.ls U 0 (U.gr.sl b7) (λH6 o U=>?_) (h1:=m9 _);have⟨cn,_,_,_⟩:=(U.sl (e:=3) (size:=1) (sv:=o) (vs:=[]++B.params.map aI) (n:=0+B.params.length) (full:=true) 0).all;refine af ?_;exact m _ _ _ ⟨o,B.params,rfl,by rw[aG l],by rw[aif]at U;exact U⟩ dC
    refine af ?_;exact m _ _ _ ⟨d0,[],rfl,by rw[an l],U⟩ dC
   obtain⟨o,mo,hM,d1,U⟩:=hP;subst hM;have g0:mo.length<=12:=by
    rw[d1];split;·exact dv.1
    simp
   have⟨cn,_,_,_⟩:=(U.sl (e:=3) (size:=1) (sv:=o) (vs:=mo.map aI) (n:=mo.length) (full:=true) 0).all;refine Ru.seq (Ru.pA (P:=λM' H'=>∃(o:AV)(s:List Int),M'=[(p8,o),(p1,.aD L 0),(p3,v3),(p4,aN b),(p5,v5),(p6,.aD O 0),(p7,aN k)]/\(∀x:Int,x∈s↔k=0/\(x∈B.params\/b=0/\0<=x/\x<C))/\s.length<=212/\ak H H' (tS 3 1 (s.map aI) s.length true o::vI L O g n C I vp p va vk vg v3 B A P a f.length)) (λM' HC hP=>?_) (λs' m=>?_));rotate_left
   .refine af ?_;refine Ru.nm λS3 M3 fs d2=>Ru.bI d2 (up (P:=λj=>∀D o,(j=0\/k=0/\b=0)->ak H D (tS 3 1 ((mo++(ah7 j).map aiC).map aI) (mo++(ah7 j).map aiC).length true o::vI L O g n C I vp p va vk vg v3 B A P a f.length)->Ru ab _ S3 ([(p9,aN j),(p8,o)]++pk M3 [p1,p3,p4,p5,p6,p7]) D) C (λj hj cp D o d3 U=>?_) 0 aa _ o (.inl rfl) (by simpa using U));subst fs;subst d2;have⟨cn,_,_,_⟩:=(U.sl (e:=3) (size:=1) (sv:=o) (vs:=(mo++(ah7 j).map aiC).map aI) (n:=(mo++(ah7 j).map aiC).length) (full:=true) 0).all;have E:(mo++(ah7 j).map aiC).length<=212:=by simp;omega
    have f0:∀x:Int,x∈(ah7 j).map aiC↔0<=x/\x<j:=λx=>by
     rw[aia];constructor;·rintro⟨y,hy,rfl⟩;rw[aiO]at hy;have:aiC y=(y:Int):=rfl;omega
     intro hF;exact⟨x.toNat,aiO.2 aa,by show((x.toNat:Nat):Int)=x;omega⟩
    have cv:(k=0->b=0->j=C)->∀x:Int,x∈mo++(ah7 j).map aiC↔k=0/\(x∈B.params\/b=0/\0<=x/\x<C):=λcx x=>by
     rw[adX,f0,d1];by_cases l:k=0
     .rw[aG l];by_cases u:b=0;·have:=cx l u;simp[l,u,this]
      have:j=0:=d3.resolve_right λh=>u h.2;simp[l,u,this]<;>omega
     have:j=0:=d3.resolve_right λh=>l h.1;simp[l,this]<;>omega
    refine Ru.loop (af ?_);refine RO.eD U 5 ?_;refine af ?_;refine RO.bW (λcx=>?_) (λcx=>?_);rotate_left;·refine af ?_;refine Ru.exitTo (af ?_);exact m _ _ _ ⟨o,_,rfl,cv λ_ _=>by omega,E,U⟩ dC
    refine af ?_;refine RO.bW (λl=>?_) (λl=>?_);rotate_left;·refine af ?_;refine Ru.exitTo (af ?_);exact m _ _ _ ⟨o,_,rfl,cv λh9=>absurd h9 l,E,U⟩ dC
    refine af ?_;refine Ru.cond (λu=>?_) (λu=>?_);rotate_left;·refine Ru.exitTo (af ?_);exact m _ _ _ ⟨o,_,rfl,cv λ_ h9=>absurd h9 u,E,U⟩ dC
    have cp:=cp (j+1) aa aa;refine af ?_;refine RO.push U 0 (λw H' v2 U=>?_) (ws:=[aN j]);have⟨hA,_,_,_⟩:=(U.sl (e:=3) (size:=1) (n:=(mo++(ah7 j).map aiC).length+1) (full:=true) (sv:=v2) 0).all;refine af ?_;refine Ru.wk (cp _ v2 (.inr ⟨l,u⟩) ?_);have e1:mo++(ah7 (j+1)).map aiC=(mo++(ah7 j).map aiC)++[(j:Int)]:=by rw[aiW,ail,ahD];rfl
    rw[e1,ail,ahY];exact U
   have⟨o,s,hM,f1,E,U⟩:=hP;subst hM;have b0:=U.sl (e:=3) (size:=1) (sv:=o) (vs:=s.map aI) (n:=s.length) (full:=true) 0;have⟨cn,_,_,_⟩:=b0.all;have⟨ec,g1,_⟩:=bc k;have ax:=Gx U 3 rfl ca ag;refine af ?_;refine RO.bO (aS.refl _) ax (λq9 o9 g7 f2 W f3 hat hrd=>?_) (j:=k);rw[show pl[k]=pl.getD k []from(bf _ _).symm]at W;obtain⟨v9,rfl,X⟩:=W;have⟨ei,_,_,_⟩:=X.all;refine RO.be (v:=v9) (af ?_) (hc:=hat 0 _ rfl);refine RO.cl (Oy T X b0 aa aa λH7 w hl=>?_);have cy:=(hl.sl (e:=3) (size:=1) (sv:=w) (vs:=(ey (pl.getD k []) s).map aI) (n:=(ey (pl.getD k []) s).length) (full:=true) 0).all;have U:=((((U.dq hl).sub (us:=tS 3 1 ((ey (pl.getD k []) s).map aI) (ey (pl.getD k []) s).length true w::vI L O g n C I vp p va vk vg v3 B A P a f.length) (.cons_cons _ (.cons _ (aiE _)))).as 0 rfl (t':=tR 1 ((ey (pl.getD k []) s).map aI) (ey (pl.getD k []) s).length w) λg8 hp=>tS.io hp)).iC;have⟨cy,_,f4,_⟩:=cy;have cE:∀x,x∈ey (pl.getD k []) s↔se (q b) g.params (aE g b) b k x:=λx=>by rw[G7,f1,S,se,z,b3]
   have cR:=G8 (l:=s) ec;have hC:=CR (l:=s) (a:=pl.getD k []);refine RO.push U 1 (λw0 H8 a' U=>?_) (ws:=[w]) (hl:=gT rfl cy f4 rfl rfl rfl);have⟨g2,_,_,_⟩:=(U.sl (e:=cB) (size:=1) (n:=f.length+1) (full:=true) (sv:=a') (vs:=a++[w]) 1).all;have ay:=Q.tE (l:=ey (pl.getD k []) s) (v:=w);generalize ey (pl.getD k []) s=N1 at*;have U:ak H H8 (vI L O g n C I vp p va vk vg a' B (tR 1 (N1.map aI) N1.length w::A) P (a++[w]) (f.length+1)):=U;refine af ?_;refine RO.bW (λ(Y:k<B.aA.length)=>?_) (λ(Y:¬k<B.aA.length)=>?_);rotate_left
   .refine af ?_;exact Ru.wk (V _ (f++[N1]) _ _ a' ((t.OA cR aa cE λh=>Y (by have:=h.1;rw[z]at this;exact this)).congr (λc j=>⟨λh=>by
     rcases h with(h|h)|h;·exact .inl h
     .exact .inr ⟨h.1,aa⟩
     exact .inr ⟨h.1,aa⟩,λh=>by
     rcases h with h|h;·exact .inl (.inl h)
     by_cases e:j=k;·exact .inr ⟨h.1,e⟩
     exact .inl (.inr ⟨h.1,aa⟩)⟩) λ_ _ _=>rfl) (by simp;omega) ay (by rw[ahY];exact U))
   have c8:(aE g b).aA.getD k default=B.aA[k]:=by rw[z];exact bf Y _
   have⟨t0,t1⟩:=e9 Y;refine af ?_;refine RO.nC U.gr a8 (λf5 f6 f7 ej a1 ek a2=>?_) (j:=k);obtain⟨g3,rfl,gd⟩:=a1;refine af ?_;refine RO.be (v:=aI B.aA[k].to) (af ?_) (hc:=(a2 U.gr).1 1 _ rfl);refine Ru.cond (λ(ht:0<=B.aA[k].to)=>?_) (λ(ht:¬0<=B.aA[k].to)=>?_);rotate_left
   .refine af ?_;exact Ru.wk (V _ (f++[N1]) _ _ a' ((t.OA cR aa cE λh=>ht (by have:=h.2;rw[c8]at this;exact this)).congr (λc j=>⟨λh=>by
     rcases h with(h|h)|h;·exact .inl h
     .exact .inr ⟨h.1,aa⟩
     exact .inr ⟨h.1,aa⟩,λh=>by
     rcases h with h|h;·exact .inl (.inl h)
     by_cases e:j=k;·exact .inr ⟨h.1,e⟩
     exact .inl (.inr ⟨h.1,aa⟩)⟩) λ_ _ _=>rfl) (by simp;omega) ay (by rw[ahY];exact U))
   have⟨el,g4,_⟩:=bc (k+1);have ax:=Gx U 2 rfl ca ag;refine af ?_;refine RO.bO (aS.refl _) ax (λq9 o9 g7 f2 W f3 hat hrd=>?_) (j:=k+1);rw[show pl[k+1]=pl.getD (k+1) []from(bf _ _).symm]at W;obtain⟨v9,rfl,X⟩:=W;have⟨ei,_,_,_⟩:=X.all;refine RO.be (v:=v9) (af ?_) (hc:=hat 0 _ rfl);refine RO.nC U.gr a8 (λf5 f6 f7 ej a1 ek a2=>?_) (j:=k);obtain⟨g5,rfl,gg⟩:=a1;refine af ?_;refine RO.be (v:=aI B.aA[k].to) (af ?_) (hc:=(a2 U.gr).1 1 _ rfl);refine RO.i6 (ak.bN H8) 1 (ws:=[aI B.aA[k].to]) (n:=1) (λH9 f8 hl=>?_);have f9:eE H9 [B.aA[k].to] (.slice f8 0 1 1 true):=hl.sl (e:=3) (size:=1) (vs:=[aI B.aA[k].to]) (n:=1) (full:=true) 0;have U:=U.bR hl.gr;refine RO.cl (Oy T (hl.gr.sl X) f9 aa aC λhD w2 d4=>?_);have a6:=(d4.sl (e:=3) (size:=1) (sv:=w2) (vs:=(ey (pl.getD (k+1) []) [B.aA[k].to]).map aI) (n:=(ey (pl.getD (k+1) []) [B.aA[k].to]).length) (full:=true) 0).all;have U:=((U.dq d4).as 0 rfl (t':=tR 1 ((ey (pl.getD (k+1) []) [B.aA[k].to]).map aI) (ey (pl.getD (k+1) []) [B.aA[k].to]).length w2) λg8 hp=>tS.io hp).iC;have⟨a6,_,et,_⟩:=a6;have f':∀x,x∈ey (pl.getD (k+1) []) [B.aA[k].to]↔vH (q b) (aE g b) k x:=λx=>by rw[G7,abP,S,vH,c8]
   have gb:=G8 (l:=[B.aA[k].to]) el;have ew:=CR (l:=[B.aA[k].to]) (a:=pl.getD (k+1) []);rw[aiv]at ew;refine RO.push U 1 (λw0 hE d5 U=>?_) (ws:=[w2]) (hl:=gT rfl a6 et rfl rfl rfl);have⟨g6,_,_,_⟩:=(U.sl (e:=cB) (size:=1) (n:=f.length+1+1) (full:=true) (sv:=d5) (vs:=a++[w]++[w2]) 1).all;have e0:=ay.tE (l:=ey (pl.getD (k+1) []) [B.aA[k].to]) (v:=w2);generalize ey (pl.getD (k+1) []) [B.aA[k].to]=N2 at*;refine af ?_;exact Ru.wk (V _ (f++[N1]++[N2]) _ _ d5 ((t.ae0 cR aa cE (by rw[z];exact Y) (by rw[c8];exact ht) gb aa f').congr (λc j=>⟨λh=>by
    rcases h with(h|h)|h;·exact .inl h
    .exact .inr ⟨h.1,aa⟩
    exact .inr ⟨h.1,aa⟩,λh=>by
    rcases h with h|h;·exact .inl (.inl h)
    by_cases e:j=k;·exact .inr ⟨h.1,e⟩
    exact .inl (.inr ⟨h.1,aa⟩)⟩) λ_ _ _=>rfl) (by simp;omega) e0 (by rw[ahY,ahY];exact U))
  refine Ru.exitTo ?_;obtain rfl:k=pl.length:=aa;have gi:pl.length<=41:=by
   rcases av with e|e;·rw[e];simp
   rw[e];have:=dv.2.1;omega
  refine af ?_;refine Ru.wk (ih _ f q a A v3 (λc J=>by
   by_cases e:c=b;·subst e;rw[S];exact dx
   rw[cf c e];exact dr c aa) (t.congr (λc j=>?_) λ_ _ _=>rfl) aa Q (U.sub (.cons_cons _ (.cons_cons _ (.cons _ (.cons _ (aiE _)))))));constructor
  .rintro(⟨h1,h2⟩|⟨rfl,h2⟩);·exact⟨aa,by rw[cf c aa];exact h2⟩
   exact⟨aa,by rw[S];exact h2⟩
  rintro⟨h1,h2⟩;by_cases e:c=b;·subst e;rw[S]at h2;exact .inr ⟨rfl,h2⟩
  rw[cf c e]at h2;exact .inl ⟨aa,h2⟩
 refine Ru.exitTo ?_;obtain rfl:b=g.aj.length:=aa;refine af ?_;exact Ru.aL (h _ v3 f a A d dr t aa Q (U.sub (.cons_cons _ (.cons_cons _ (ajr _)))))
end
end
end
end Go.al.R
end
