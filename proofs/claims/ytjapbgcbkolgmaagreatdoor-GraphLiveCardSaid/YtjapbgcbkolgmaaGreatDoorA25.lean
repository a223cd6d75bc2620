/- A part. No conditions. -/
import Derived.Test.YtjapbgcbkolgmaaGreatDoorA24
set_option linter.all false
set_option maxHeartbeats 16000000
open Int renaming ofNat->age
noncomputable section
namespace Go.al.R
section
variable{ac:Nat->aX}
theorem RO.Ed{H:ah}{c:Cx}{s:List SI}{L:Kn}{d:Option af}{l:List bA}{f:aL}{args:List aL}{fv:AV}{a:List AV}{re:List gE}(h:YF ac fv a H λr i=>(∀aa,Le (bq L d r) aa->du aa i re=true)/\RO ac c l s (bq L d r) i)(j:aW L f=fv:=by exact cw)(b:fv.bC=true:=by first|rfl|assumption)(k:args.map (aW L)=a:=by rfl)(e:a.all AV.bC=true:=by repeat first|rfl|assumption|(refine ad ?_ ?_)):RO ac c (⟨d,.call f args,none,[],re⟩::l) s L H:=RO.GV h j b k e
theorem Ee{H:ah}{L:Kn}{aa:ak AV}{p:af}{x:aL}{i:af}{o n:Nat}{vs:List AV}{re:List gE}(a:Le L aa)(b:aW L x=.aE i o)(c:lk L p=.agg vs)(hs:lI vs vs=true)(d:dK H i o n=some vs)(e:du aa H re=true):du aa H (⟨p,.gR n x,none⟩::re)=true:=by simp only[du,dc,bf,aD,a.gv b rfl,gF,d,afL,a.get c rfl,gT,hs,e,ahj]
theorem Sl.fy{H:ah}{size n:Nat}{a:List AV}{v:AV}(h:Sl H size a n v):fy v v=true:=by
 rcases h with⟨rfl,_⟩|⟨i,o,cap,ex,c,m,e,b,aM,fz,rfl,_⟩;·rfl
 simp[al.fy,af.eS]
theorem Io{n:List Nat}{a b:Int}{v:AV}(h:fy v v=true):lI [.str n,aI a,aI b,v] [.str n,aI a,aI b,v]=true:=by simp only[lI,h,Bool.and_true];simp[fy,kf,eT]
def gP(B:G.dW)(k:Nat):List Int:=if k<B.aS.length then(B.aS.getD k default).args else jS B.aB
def pM(a:List (List Bool))(gl:List Int)(B:G.dW)(i k:Nat)(x:Int):Prop:=gl.getD x.toNat 0<0\/(gl.getD x.toNat 0≠(i:Int)/\(a.getD (gl.getD x.toNat 0).toNat []).getD i false=true)\/x∈B.i4++eN (B.aS.take k)
structure uD(g:G.be)(az:List (List Int))(dm:List (List Bool))(gl:List Int)(i:Nat):Prop where
 en:(bm g i).aB.op=68->(az.getD i []).length≠0/\(bm g i).aB.args.length=(g.aj.getD (nE g ((az.getD i []).getD ((az.getD i []).length - 1) 0)).toNat default).i4.length
 rt:(bm g i).aB.op=69->az.getD i []=[]
 rd:∀k,k<=(bm g i).aS.length->∀x∈gP (bm g i) k,pM dm gl (bm g i) i k x
structure mI(g:G.be):Prop where
 ex:∃come az dm gl,jD g (-1) come az/\(∀b,ja g (-1) come az false b)/\pL g dm/\jE g.bc.toNat g.i4.toNat gl (iO g g.aj.length)/\∀i,i<g.aj.length->come.getD i false=true->uD g az dm gl i
structure NY(g:G.be):Prop where
 ex:∃come az oth dm gl,oO g (-1) come az oth/\(∀b,ja g (-1) come az oth b)/\(oth=false->pL g dm/\jE g.bc.toNat g.i4.toNat gl (iO g g.aj.length))
theorem jE.uz{g:G.be}(b:fu g){gl:List Int}(h:jE g.bc.toNat g.i4.toNat gl (iO g g.aj.length)){v:Int}(h0:0<=v)(h1:v<g.bc):gl.getD v.toNat 0= -1\/∃i:Nat,i<g.aj.length/\gl.getD v.toNat 0=i:=by
 have d:=b.p0;by_cases e:v<g.i4;·exact .inl (h.aM _ ab)
 have:=b.all v ab h1;rw[<-agT (l:=g.aj),<-AT g _ (adv _)]at this;obtain⟨p,a,rfl⟩:=afE.1 this;refine .inr ⟨p.2,?_,h.bz p a⟩;obtain⟨i,hi,c⟩:=agP.1 a;rw[agK]at hi;obtain⟨x,_,rfl⟩:=afE.1 c;exact hi
theorem jE.eq{g:G.be}(c:fu g){gl a:List Int}(h:jE g.bc.toNat g.i4.toNat gl (iO g g.aj.length))(d:jE g.bc.toNat g.i4.toNat a (iO g g.aj.length)){v:Int}(h0:0<=v)(h1:v<g.bc):gl.getD v.toNat 0=a.getD v.toNat 0:=by
 have e:=c.p0;by_cases f:v<g.i4;·rw[h.aM _ ab,d.aM _ ab]
 have:=c.all v ab h1;rw[<-agT (l:=g.aj),<-AT g _ (adv _)]at this;obtain⟨p,b,rfl⟩:=afE.1 this;rw[h.bz p b,d.bz p b]
theorem AU{g:G.be}(c:fu g){B:G.dW}(d:B∈g.aj){k:Nat}{x:Int}(a:x∈gP B k):0<=x/\x<g.bc:=by
 unfold gP at a;split at a;·rename_i f;rw[bB f]at a;have:=(c.aS _ d _ (adq f)).r.iE x a;omega
 have b:=c.yY _ d;rcases ae8.1 a with a|a;·have:=b.iE x a;omega
 obtain⟨e,he,a⟩:=agP.1 a;obtain⟨y,h,rfl⟩:=afr he;have:=(b.AL y h).iE x a;omega
theorem mI.rt{g:G.be}(h:mI g)(m:fu g){b:List Bool}{az:List (List Int)}{q:List (List Bool)}{gl:List Int}(u:jD g (-1) b az)(n:pL g q)(o:jE g.bc.toNat g.i4.toNat gl (iO g g.aj.length)){i:Nat}(hi:i<g.aj.length)(v:b.getD i false=true):uD g az q gl i:=by
 have r:=m.sh;obtain⟨c1,o1,B,C,d,j,l,c,p⟩:=h.ex;obtain⟨w,y⟩:=(u.snd i v).comp r d j;obtain⟨h1,h2,h3⟩:=p i hi w;rw[y]at h1 h2;refine⟨h1,h2,λk z x s=>?_⟩;have a:=AU m (B:=bm g i) (by rw[bm,bB hi];exact adq hi) s;have t:=h3 k z x s;unfold pM at t⊢;rw[o.eq m c a.1 a.2];rcases c.uz m a.1 a.2 with e|⟨f,A,e⟩;·exact .inl ab
 rw[e,afs]at t⊢;rwa[n.eq r d j l A hi]
theorem NZ:∀{l:List G.Edge},(∀e∈l,e.args.length<=12)->(l.flatMap (·.args)).length<=12*l.length|[],_=>by simp|a::l,h=>by have h1:=h a (abL ..);have h2:=NZ λe he=>h e (aco _ he);rw[ags,afq,afB];omega
abbrev uE(e f h i c d:af)(cap:Nat)(ex:Bool)(g:G.be)(j:AV)(gl:List Int)(Fd k:List Th)(l b:List AV)(a:List Bool):List Th:=[tS 3 1 (gl.map aI) g.bc.toNat true (.slice h 0 g.bc.toNat g.bc.toNat true),tZ Fd,tS rU 1 l g.aj.length true (.slice i 0 g.aj.length cap ex),tB pA f [.slice c 0 g.aj.length g.aj.length true,.slice d 0 g.aj.length g.aj.length true,.bool false],tZ k,tS wn 1 b g.aj.length true (.slice d 0 g.aj.length g.aj.length true),tS 4 1 (a.map .bool) g.aj.length true (.slice c 0 g.aj.length g.aj.length true),tB eg e [.str g.i7,aI g.i4,aI g.bc,j]]
section
variable{g:G.be}{H:ah}{cs:List AV}
theorem acQ(T:Tb ac)(hg:gu H g cs)(hB:G.Sm g)(hR:fu g)(a2:g.aj.length<=40)(d':g.bc<=6000){K:KT}(h1:∀J,aZ H J->mI g->K (.bool true) J)(h2:∀J,aZ H J->NY g->¬mI g->K (.bool false) J):YN ac Wp [.agg cs] H K:=by
 have f3:=hg.one;have ba:=hg;have hS:=hR.sh;obtain⟨vb,rfl,bW⟩:=hg;have dy:=bW;have⟨g2,_,_,g3⟩:=bW.all;have g5:=hS.ne;have g6:=hR.p0;have g7:=hR.p1;refine YF.code T.Zb aF ?_;refine ai ?_;refine RO.dp (aq.ct H) λH1 r U=>?_;refine ai ?_;refine RO.dj U 0 ?_;refine RO.cl (AS T (cY.jk U.gr ba) hB hS a2 (wo:= -1) λH2 qc Y n Fo a az ea Z bb b7 hl=>?_);have U:=U.eO hl;refine RO.ff U λH3 L U=>?_;refine ai ?_;refine Ru.eE (λs=>?_) (λs=>?_);·refine ai ?_;exact Ru.aP (h2 _ U.gr ⟨a,az,ea,[],[],Z,bb,λh9=>by rw[s]at h9;cases h9⟩ λm=>by obtain⟨b,o,o',r,q2,L⟩:=Z.NS s;obtain⟨c1,o1,_,_,q4,q5,_⟩:=m.ex;exact L ((r.comp hS q4 q5).2.symm.trans (q2.comp hS q4 q5).2))
 subst s;refine ai ?_;refine RO.dj U 4 ?_;refine RO.dj U 4 ?_;refine RO.Ed (NX T (cY.jk U.gr ba) hB hS a2 λH4 h5 N Fd C P b' hl=>⟨λaa ag=>?_,?_⟩);·obtain⟨_,hp⟩:=(U.eO hl).get 6 rfl;obtain⟨_,eb,_⟩:=dy;exact Ee (i:=r) (o:=0) (vs:=[.str g.i7,aI g.i4,aI g.bc,vb]) ag (by(conv=>lhs;whnf)<;>rfl) (by(conv=>lhs;whnf)<;>rfl) (Io (Sl.fy eb)) (tB.lV hp (m:=4) (by show 0+4<=4;omega)) rfl
 have U:=U.eO hl;obtain⟨qd,cap,ex,rfl⟩:=U.rQ 1 rfl ab;refine RO.cl (NV T (cY.jk U.gr ba) hB hR d' λH5 qg gl Q hl=>?_);have U:aq H H5 (uE r L qg qd qc Y cap ex g vb gl Fd Fo N n a):=U.eO hl;refine ai ?_;have h2:=λJ hg=>h2 J hg ⟨a,az,false,C,gl,Z,bb,λ_=>⟨P,Q⟩⟩;have ec:=Z.lc;have g8:=Z.lo;have g9:=b7.len;have g':=Q.len;refine Ru.nm λS0 M ei hM=>?_;refine Ru.bT hM (up (P:=λi=>∀HX,(∀x,x<i->a.getD x false=true->uD g az C gl x)->aq H HX (uE r L qg qd qc Y cap ex g vb gl Fd Fo N n a)->Ru ac _ S0 ([(p6,aN i)]++pk M [p1,p3,p4,p5]) HX) g.aj.length (λi hi ih HX ca U=>?_) 0 ab _ (λx O=>by omega) U);subst ei;subst hM;refine Ru.loop ?_;refine ai ?_;refine RO.iC U 7 ?_;refine ai ?_;refine Ru.cond (λR=>?_) (λR=>?_)
 .have S:=adq R;have ha:=hB.bl _ S;have ej:=hB.st _ S;have cd:=hB.ed _ S;have hc:=hR.yY _ S;have u:bm g i=g.aj[i]:=by rw[bm,bB R]
  have ih:=ih (i+1) ab ab;have sC:∀(l:List Bool)(k:Nat),l.length=g.aj.length->k<g.aj.length->(l.map AV.bool)[0+k*1]?=some (.bool (l.getD k false)):=λl k h1 h2=>by rw[show 0+k*1=k by omega,af0,getElem?_pos l k ab,bB ab];rfl
  have X:(a.getD i false=true->uD g az C gl i)->∀x,x<i+1->a.getD x false=true->uD g az C gl x:=λhb x O=>by
   by_cases e:x=i;·subst e;exact hb
   exact ca x ab
  have cf:n[0+i*1]?=some (n.getD i .b9):=by rw[show 0+i*1=i by omega,getElem?_pos n i ab,bB ab]
  refine ai ?_;refine RO.dM U 6 (hv:=sC a i ec R) ?_;refine ai ?_;refine Ru.eE (λs=>?_) (λs=>?_)
  .have s:a.getD i false=false:=by simpa using s
   refine Ru.exitTo ?_;refine ai ?_;exact Ru.wk (ih _ (X λh=>by rw[s]at h;cases h) U)
  have s:a.getD i false=true:=by simpa using s
  obtain⟨_,ek⟩:=(Z.snd i s).ok hS;have f4:=Z.iM i s;have cn:=b7.mem i ab;have av:mI g->uD g az C gl i:=λm=>m.rt hR Z.toFlI P Q R s;have bd:=λm=>(av m).en;have cp:=λm=>(av m).rt;have cv:=λm=>(av m).rd;clear av;simp only[u]at bd cp cv;generalize cx:az.getD i []=o at*;generalize hh:n.getD i .b9=ov at*;obtain⟨_,v,_,_⟩:=U.jO 4 rfl cn;have⟨el,_,_,hk⟩:=v.all;refine ai ?_;refine RO.iC U 7 ?_;refine ai ?_;refine RO.bY U.gr bW (λq9 o9 h6 aw bv hm hat hrd=>?_) (j:=i);have f6:=bv;have et:gT ov ov=true:=Sl.bN v;generalize g.aj[i]=B at*;have f7:=bv.one;obtain⟨vp,D,jc,rfl,cy,ax,cE⟩:=bv;have dz:=cE;obtain⟨va,vk,vg,rfl,ew,hn,ho⟩:=cE;have⟨hr,_,_,ht⟩:=cy.all;have⟨hv,_,_,hw⟩:=ax.all;have⟨hx,_,_,hA⟩:=ew.all;refine ai ?_;refine RO.dM U 5 (hv:=cf) ?_;refine RO.eL U λH6 q7 U=>?_;refine RO.MX U 0 (ws:=[vp,D,aU B.aB.op,va,.str B.aB.i7,vk,vg]) (λH7 U=>⟨λaa ag=>?_,?_⟩);·obtain⟨_,hp⟩:=U.get 6 rfl;obtain⟨_,e0⟩:=U.get 4 rfl;exact iX (i:=Y) (o:=0+i*1) (v:=ov) ag (by(conv=>lhs;whnf)<;>rfl) (by(conv=>lhs;whnf)<;>rfl) el et (cM.GY hp cf) (iX (re:=[]) (i:=L) (o:=1) (v:=.slice Y 0 g.aj.length g.aj.length true) ag (by(conv=>lhs;whnf)<;>rfl) (by(conv=>lhs;whnf)<;>rfl) rfl (by simp[gT,fy,af.eS]) (tB.cell e0 rfl) rfl)
  have U:aq H H7 (tB de q7 [vp,D,aU B.aB.op,va,.str B.aB.i7,vk,vg]::uE r L qg qd qc Y cap ex g vb gl Fd Fo N n a):=U;refine RO.aR ?_;refine RO.nil ?_;refine Ru.seq ?_;have hC:=hB.nb;refine Ru.sw (P:=λM J=>M=[(p1,.aE r 0),(p3,.aE L 0),(p4,.slice qd 0 g.aj.length cap ex),(p5,.slice qg 0 g.bc.toNat g.bc.toNat true),(p6,aN i),(p7,.aE q7 0)]/\(B.aB.op=68->o.length≠0/\B.aB.args.length=(g.aj.getD (nE g (o.getD (o.length - 1) 0)).toNat default).i4.length)/\(B.aB.op=69->o=[])/\aq H J (tB de q7 [vp,D,aU B.aB.op,va,.str B.aB.i7,vk,vg]::uE r L qg qd qc Y cap ex g vb gl Fd Fo N n a)) (λM H8⟨hM,g0,g1,U⟩=>?_) (λs' c=>?_);rotate_left
  .refine ai ?_;refine RO.bR (λt=>?_) (λt=>?_)
   .refine ai ?_;refine RO.bR (λd6=>?_) (λd6=>?_);·refine ai ?_;exact Ru.aP (h2 _ U.gr λm=>(bd m t).1 d6)
    have cR:o.length - 1<o.length:=ab;obtain⟨_,v,_,_⟩:=U.jO 5 rfl cn;refine ai ?_;refine RO.iC U 8 ?_;refine ai ?_;refine RO.iC U 8 ?_;refine ai ?_;refine RO.arith (v:=aN (o.length - 1)) ?_ (hv:=ou (k:=o.length) ab ab);refine ai ?_;refine RO.mD (aZ.refl _) v (λq8 o8 hj E=>?_) (j:=o.length - 1);have c9:=ek _ (adq cR);have e1:o.getD (o.length - 1) 0=o[o.length - 1]:=bB cR _;have p:=λm=>(bd m t).2;rw[e1]at c p;generalize o[o.length - 1]=x at*;obtain⟨x,rfl⟩:∃y:Nat,x=y:=⟨x.toNat,ab⟩;rw[nE,afs]at c p;rw[afs]at c9;obtain⟨_,c',hD⟩:=c9;have hq:eR .quo 3 (x:Int) (.ofNat 2)=some (aN (x/2)):=by simp only[eR];rw[ap bo,show((x:Int).tdiv (age 2))=((x/2:Nat):Int)from by rw[afm,Int.tdiv_eq_ediv_of_nonneg ab];simp,mA ab ab];rfl
    have b0:=hS.rg _ c' ((bm g (x/2)).aB.go[2]) (adq _);have e2:(bm g (x/2)).aB.go.getD 2 default=(bm g (x/2)).aB.go[2]:=bB ab _;rw[e2]at c p;have e3:bm g (x/2)=g.aj[x/2]:=by rw[bm,bB c']
    refine ai ?_;refine RO.arith ?_ (hv:=hq);refine ai ?_;refine RO.bY U.gr bW (λr o1 c1 e4 ay e5 hat hrd=>?_) (j:=x/2);rw[<-e3]at ay;obtain⟨hE,f8,hF,rfl,_,_,hG,hH,e6,rfl,_,_,a6⟩:=ay;have⟨f9,_,_,_⟩:=a6.all;refine ai ?_;refine RO.bi (v:=e6) ?_ (hc:=hat 6 _ rfl);refine ai ?_;refine RO.bY U.gr a6 (λq8 o8 c8 e7 e8 e' hat hrd=>?_) (j:=2);obtain⟨ve,rfl,_⟩:=e8;generalize hI:(bm g (x/2)).aB.go[2].block=jb at*;obtain⟨jb,rfl⟩:∃y:Nat,jb=y:=⟨jb.toNat,ab⟩;rw[afs]at c p;have fa:jb<g.aj.length:=ab;refine ai ?_;refine RO.bY U.gr bW (λr o1 c1 e4 ay e5 hat hrd=>?_) (j:=jb);rw[bB fa]at c p;obtain⟨hJ,f',hK,rfl,d0,_⟩:=ay;have⟨gb,_,_,gd⟩:=d0.all;refine ai ?_;refine RO.bR (λa3=>?_) (λa3=>?_);·refine ai ?_;exact Ru.aP (h2 _ U.gr λm=>a3 (p m))
    refine ai ?_;refine RO.bR (λa4=>absurd (t.symm.trans a4) bo) (λa4=>?_);refine ai ?_;exact c _ _ _ ⟨rfl,λ_=>⟨d6,agJ.1 a3⟩,λh=>absurd h a4,U⟩ ey
   refine ai ?_;refine RO.bR (λa4=>?_) (λa4=>?_)
   .refine ai ?_;refine Ru.cond (λa5=>?_) (λa5=>?_);·refine ai ?_;exact Ru.aP (h2 _ U.gr λm=>by simp[cp m a4]at a5)
    refine ai ?_;exact c _ _ _ ⟨rfl,λh=>absurd h t,λ_=>afQ ab,U⟩ ey
   refine ai ?_;exact c _ _ _ ⟨rfl,λh=>absurd h t,λh=>absurd h a4,U⟩ ey
  subst hM;clear hat hrd;have d1:∀k,(B.i4++eN (B.aS.take k)).length<=100:=λk=>by have:=Im (B.aS.take k);rw[afH]at this;rw[afq];omega
  have d2:(jS B.aB).length<=200:=by have:=NZ cd;rw[jS,afq];omega
  refine ai ?_;refine RO.lW U 1 λH9 hL U=>?_;have⟨hN,_,_,_⟩:=(U.sl 0 rfl).all;refine ai ?_;refine RO.lu U 0 (U.gr.sl cy) (λHA fb U=>?_) (h1:=mC _);have U:aq H HA (tS 3 1 ((B.i4++eN (B.aS.take 0)).map aI) (B.i4++eN (B.aS.take 0)).length true fb::tB de q7 [vp,D,aU B.aB.op,va,.str B.aB.i7,vk,vg]::uE r L qg qd qc Y cap ex g vb gl Fd Fo N n a):=by rw[agI,show eN []=[]from rfl,agk];rw[afC]at U;exact U
  have⟨hO,_,_,_⟩:=(U.sl 0 rfl).all;refine ai ?_;refine Ru.nm λS1 M1 fd dm=>?_;refine Ru.bT dm (up (P:=λk=>∀HX kv,(∀y,y<k->∀x∈gP B y,pM C gl B i y x)->aq H HX (tS 3 1 ((B.i4++eN (B.aS.take k)).map aI) (B.i4++eN (B.aS.take k)).length true kv::tB de q7 [vp,D,aU B.aB.op,va,.str B.aB.i7,vk,vg]::uE r L qg qd qc Y cap ex g vb gl Fd Fo N n a)->Ru ac _ S1 ([(eP,aN k),(p9,kv)]++pk M1 [p1,p3,p4,p5,p6,p7]) HX) (B.aS.length+1) (λk h7 q HX kv dr U=>?_) 0 ab _ _ (λy hy=>by omega) U);subst fd;subst dm;have hP:=d1 k;have w:=U.sl 0 rfl;have⟨gg,_,_,_⟩:=w.all;refine Ru.loop ?_;refine ai ?_;refine Ru.cond (λfe=>?_) (λfe=>?_)
  .have q:=q (k+1) ab ab;refine ai ?_;refine RO.dj U 1 (m:=5) (o:=2) ?_;refine RO.cl (NU T (cY.Cs U.gr dz) ⟨ab,ab⟩ cd λHB rv hl=>?_);have U:=U.eO hl;have⟨gi,_,_,gn⟩:=(U.sl 0 rfl).all;refine RO.aR ?_;refine RO.nil ?_;refine Ru.seq ?_;refine Ru.sw (P:=λM J=>∃b3,M=[(eK,b3),(p1,.aE r 0),(p3,.aE L 0),(p4,.slice qd 0 g.aj.length cap ex),(p5,.slice qg 0 g.bc.toNat g.bc.toNat true),(p6,aN i),(p7,.aE q7 0),(p9,kv),(eP,aN k)]/\eU J (gP B k) b3/\aq H J (tS 3 1 ((B.i4++eN (B.aS.take k)).map aI) (B.i4++eN (B.aS.take k)).length true kv::tB de q7 [vp,D,aU B.aB.op,va,.str B.aB.i7,vk,vg]::uE r L qg qd qc Y cap ex g vb gl Fd Fo N n a)) (λM HC⟨b3,hM,A,U⟩=>?_) (λs' c=>?_);rotate_left
   .refine ai ?_;refine Ru.cond (λt=>?_) (λt=>?_);·refine ai ?_;refine RO.bY U.gr ax (λq8 o8 c8 e7 fk e' hat hrd=>?_) (j:=k);obtain⟨fl,rfl,a8⟩:=fk;have⟨hQ,_,_,_⟩:=a8.all;refine ai ?_;exact c _ _ _ ⟨fl,rfl,by rw[gP,aJ t,bB t];exact U.gr.sl a8,U.tail⟩ ey
    refine ai ?_;exact c _ _ _ ⟨rv,rfl,by rw[gP,ap t];exact U.sl 0 rfl,U.tail⟩ ey
   subst hM;have⟨gq,_,_,gx⟩:=A.all;have w:=U.sl 0 rfl;have d3:∀x∈gP B k,0<=x/\x<g.bc:=λx O=>AU hR S O;have gy:(gP B k).length<=200:=by
    unfold gP;split;·rename_i t;rw[bB t];have:=(ej _ (adq t)).1;omega
    exact d2
   refine ai ?_;refine Ru.nm λS2 M2 fo ds=>?_;refine Ru.bT ds (up (P:=λj=>(∀y(h:y<(gP B k).length),y<j->pM C gl B i k (gP B k)[y])->Ru ac _ S2 ([(jy,aN j)]++pk M2 [p1,p3,p4,p5,p6,p7,p9,eP,eK]) HC) (gP B k).length (λj hj F dv=>?_) 0 ab (λy _ hy=>by omega));subst fo;subst ds;refine Ru.loop ?_;refine ai ?_;refine Ru.cond (λb4=>?_) (λb4=>?_)
   .have F:=F (j+1) ab ab;have b0:=d3 _ (adq b4);have I:mI g->pM C gl B i k (gP B k)[j]:=λm=>cv m k ab _ (adq b4);have d:pM C gl B i k (gP B k)[j]->∀y(h:y<(gP B k).length),y<j+1->pM C gl B i k (gP B k)[y]:=λhb y hy h=>by
     by_cases e:y=j;·subst e;exact hb
     exact dv y hy ab
    refine ai ?_;refine RO.mD (aZ.refl _) A (λq9 o9 aw E=>?_) (j:=j);generalize hz:(gP B k)[j]=x at*;obtain⟨x,rfl⟩:∃y:Nat,x=y:=⟨x.toNat,ab⟩;have fp:(gl.map aI)[0+x*1]?=some (aI (gl.getD x 0)):=by rw[show 0+x*1=x by omega,af0,getElem?_pos gl x ab,bB ab];rfl
    have dx:=Q.uz hR b0.1 b0.2;unfold pM at d I;rw[afs]at dx d I;generalize gl.getD x 0=fr at*;have hU:x<g.bc.toNat:=ab;refine ai ?_;refine RO.dM U 2 (hv:=fp) ?_;refine ai ?_;refine RO.bR (λb1=>?_) (λb1=>?_)
    .have b1:0<=fr:=b1;obtain⟨f,hf,rfl⟩:∃f:Nat,f<g.aj.length/\fr=f:=by
      rcases dx with e|e;·omega
      exact e
     rw[afs]at d I;obtain⟨_,_,_,_,_,b6⟩:=P.ex;have hV:=P.len;have gA:=(b6 f hf).len;have gH:=b'.len;obtain⟨_,a',_,_⟩:=U.jO 3 rfl (b'.mem f ab);have fq:N[0+f*1]?=some (N.getD f .b9):=by rw[show 0+f*1=f by omega,getElem?_pos N f ab,bB ab]
     generalize N.getD f .b9=h' at*;generalize hW:C.getD f []=row at*;have⟨gL,_,_,_⟩:=a'.all;refine ai ?_;refine RO.bR (λb2=>?_) (λb2=>?_)
     .refine ai ?_;refine RO.dM U 4 (hv:=fq) ?_;refine ai ?_;refine RO.fO (aZ.refl _) a' (λq9 o9 aw E=>?_) (j:=i);have fs:row.getD i false=row[i]:=bB ab _;rw[fs]at d I;generalize row[i]=rb at*;refine ai ?_;refine RO.oq (λd7=>?_) (λd7=>?_)
      .refine ai ?_;refine RO.mD (aZ.refl _) A (λq9 o9 aw E=>?_) (j:=j);rw[hz]at E;refine ai ?_;refine RO.cl (AH T w ab (λc1=>?_) (λc1=>?_));·refine ai ?_;exact Ru.wk (F (d (.inr (.inr c1))))
       refine ai ?_;exact Ru.aP (h2 _ U.gr λm=>by
        rcases I m with h8|⟨_,h8⟩|h8;·omega
        .simp[h8]at d7
        exact c1 h8)
      refine ai ?_;exact Ru.wk (F (d (.inr (.inl ⟨ab,by simpa using d7⟩))))
     refine ai ?_;refine RO.mD (aZ.refl _) A (λq9 o9 aw E=>?_) (j:=j);rw[hz]at E;refine ai ?_;refine RO.cl (AH T w ab (λc1=>?_) (λc1=>?_));·refine ai ?_;exact Ru.wk (F (d (.inr (.inr c1))))
     refine ai ?_;exact Ru.aP (h2 _ U.gr λm=>by
      rcases I m with h8|⟨h8,_⟩|h8;·omega
      .exact h8 ab
      exact c1 h8)
    have b1:¬0<=fr:=b1;refine ai ?_;exact Ru.wk (F (d (.inl ab)))
   refine Ru.exitTo ?_;have V:∀y,y<k+1->∀x∈gP B y,pM C gl B i y x:=λy hy x O=>by
    by_cases e:y=k;·subst e;obtain⟨z,hz,rfl⟩:=afr O;exact dv z hz ab
    exact dr y ab x O
   refine ai ?_;refine RO.bR (λc1=>?_) (λc1=>?_)
   .rw[(afK c1).symm,HQ,<-afu]at q;generalize B.i4++eN (B.aS.take k)=l0 at*;refine ai ?_;refine RO.bY U.gr ax (λq7 o7 c7 f0 a1 f1 W d4=>?_) (j:=k);generalize O:B.aS[k]=x at*;obtain⟨f2,rfl,d5⟩:=a1;refine ai ?_;refine RO.bi (v:=aI x.to) ?_ (hc:=W 1 _ rfl);refine ai ?_;refine Ru.cond (λg4=>?_) (λg4=>?_);·have g4:0<=x.to:=g4;rw[aJ g4]at q;refine ai ?_;refine RO.bY U.gr ax (λq7 o7 c7 f0 a1 f1 W d4=>?_) (j:=k);rw[O]at a1;obtain⟨f2,rfl,d5⟩:=a1;refine ai ?_;refine RO.bi (v:=aI x.to) ?_ (hc:=W 1 _ rfl);refine RO.push U 0 (λw0 H9 v2 U=>?_) (ws:=[aI x.to]);have⟨hX,hY,h4,_⟩:=(U.sl 0 rfl).all;refine ai ?_;exact Ru.wk (q _ v2 V (by rw[afS,afq];exact U))
    have g4:¬0<=x.to:=g4;rw[ap g4,agk]at q;refine ai ?_;exact Ru.wk (q _ kv V U)
   rw[show B.aS.take (k+1)=B.aS.take k from by rw[afF ab,afF ab]]at q;refine ai ?_;exact Ru.wk (q _ kv V U)
  refine Ru.exitTo ?_;refine ai ?_;exact Ru.wk (ih _ (X λ_=>⟨by rw[u,cx];exact g0,by rw[u,cx];exact g1,by rw[u];exact λy hy x O=>dr y ab x O⟩) U.tail.tail)
 refine Ru.exitTo ?_;refine ai ?_;exact Ru.aP (h1 _ U.gr ⟨a,az,C,gl,Z.toFlI,bb,P,Q,λx O=>ca x ab⟩)
end
end
end Go.al.R
end
