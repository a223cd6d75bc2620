/- A part. No conditions. -/
import Derived.Test.YtodnahjlheaolaaGreatDoorA22
set_option linter.all false
set_option maxHeartbeats 16000000
open Int renaming ofNat->ah0
noncomputable section
namespace Go.al.R
variable{A:G.aM}{B vs:List AV}{C H:List Int}{D L:Int}{E:ai}{F o:Nat}{I:AV}{J:List gN}{M:Kn}{N:aJ}
section
variable{ac:Nat->aX}
theorem RO.At{c:Cx}{s:List SI}{d:Option ah}{l:List bD}{args:List aJ}(h:YF ac I B E λr e=>(∀af,Le (bo M d r) af->dQ af e J=true)/\RO ac c l s (bo M d r) e)(f:aT M N=I:=by exact cw)(a:I.bk=true:=by first|rfl|assumption)(i:args.map (aT M)=B:=by rfl)(b:B.all AV.bk=true:=by repeat first|rfl|assumption|(refine ad ?_ ?_)):RO ac c (⟨d,.call N args,none,[],J⟩::l) s M E:=RO.EY h f a i b
theorem qW{af:az AV}{p:ah}{i:ah}(a:Le M af)(b:aT M N=.aD i o)(c:lk M p=.agg vs)(hs:j9 vs vs=true)(d:dE E i o F=some vs)(e:dQ af E J=true):dQ af E (⟨p,.ee F N,none⟩::J)=true:=by simp only[dQ,d8,bg,aH,a.gv b rfl,gW,d,ahQ,a.get c rfl,eV,hs,e,ai1]
theorem Sl.cD(h:Sl E F B o I):cD I I=true:=by
 rcases h with⟨rfl,_⟩|⟨i,c,cap,ex,b,m,e,a,aK,fz,rfl,_⟩;·rfl
 simp[al.cD,ah.ft]
theorem Ct{n:List Nat}(h:cD I I=true):j9 [.str n,aI D,aI L,I] [.str n,aI D,aI L,I]=true:=by simp only[j9,h,Bool.and_true];simp[cD,jT,dW]
def di(B:G.dI)(k:Nat):List Int:=if k<B.aB.length then(B.aB.getD k default).args else jF B.aq
def qX(a:List (List Bool))(gl:List Int)(B:G.dI)(i k:Nat)(x:Int):Prop:=gl.getD x.toNat 0<0\/(gl.getD x.toNat 0≠(i:Int)/\(a.getD (gl.getD x.toNat 0).toNat []).getD i false=true)\/x∈B.i4++eM (B.aB.take k)
structure vM(g:G.aM)(aA:List (List Int))(dm:List (List Bool))(gl:List Int)(i:Nat):Prop where
 en:(aE g i).aq.op=68->(aA.getD i []).length≠0/\(aE g i).aq.args.length=(g.aj.getD (my g ((aA.getD i []).getD ((aA.getD i []).length - 1) 0)).toNat default).i4.length
 rt:(aE g i).aq.op=69->aA.getD i []=[]
 rd:∀k,k<=(aE g i).aB.length->∀x∈di (aE g i) k,qX dm gl (aE g i) i k x
structure jG(g:G.aM):Prop where
 ex:∃come aA dm gl,jw g (-1) come aA/\(∀b,fc g (-1) come aA false b)/\sq g dm/\ku g.aO.toNat g.i4.toNat gl (jy g g.aj.length)/\∀i,i<g.aj.length->come.getD i false=true->vM g aA dm gl i
structure Gs(g:G.aM):Prop where
 ex:∃come aA oth dm gl,jx g (-1) come aA oth/\(∀b,fc g (-1) come aA oth b)/\(oth=false->sq g dm/\ku g.aO.toNat g.i4.toNat gl (jy g g.aj.length))
theorem ku.oD(b:dT A)(h:ku A.aO.toNat A.i4.toNat C (jy A A.aj.length))(h0:0<=D)(h1:D<A.aO):C.getD D.toNat 0= -1\/∃i:Nat,i<A.aj.length/\C.getD D.toNat 0=i:=by
 have d:=b.p0;by_cases e:D<A.i4;·exact .inl (h.aK _ aa)
 have:=b.all D aa h1;rw[<-aid (l:=A.aj),<-vL A _ (aeE _)]at this;obtain⟨p,a,rfl⟩:=ahm.1 this;refine .inr ⟨p.2,?_,h.bq p a⟩;have⟨i,hi,c⟩:=ahI.1 a;rw[ahR]at hi;obtain⟨x,_,rfl⟩:=ahm.1 c;exact hi
theorem ku.eq(b:dT A)(h:ku A.aO.toNat A.i4.toNat C (jy A A.aj.length))(c:ku A.aO.toNat A.i4.toNat H (jy A A.aj.length))(h0:0<=D)(h1:D<A.aO):C.getD D.toNat 0=H.getD D.toNat 0:=by
 have d:=b.p0;by_cases e:D<A.i4;·rw[h.aK _ aa,c.aK _ aa]
 have:=b.all D aa h1;rw[<-aid (l:=A.aj),<-vL A _ (aeE _)]at this;obtain⟨p,a,rfl⟩:=ahm.1 this;rw[h.bq p a,c.bq p a]
theorem vN(c:dT A){B:G.dI}(d:B∈A.aj)(a:D∈di B F):0<=D/\D<A.aO:=by
 unfold di at a;split at a;·rename_i f;rw[aZ f]at a;have:=(c.aB _ d _ (abO f)).r.iU D a;omega
 have b:=c.yo _ d;rcases ac6.1 a with a|a;·have:=b.iU D a;omega
 have⟨e,he,a⟩:=ahI.1 a;obtain⟨y,h,rfl⟩:=ahd he;have:=(b.Ap y h).iU D a;omega
theorem jG.rt(h:jG A)(m:dT A){b:List Bool}{aA:List (List Int)}{q:List (List Bool)}(u:jw A (-1) b aA)(n:sq A q)(o:ku A.aO.toNat A.i4.toNat C (jy A A.aj.length))(hi:F<A.aj.length)(v:b.getD F false=true):vM A aA q C F:=by
 have r:=m.sh;have⟨c1,o1,D,E,d,j,l,c,p⟩:=h.ex;have⟨w,y⟩:=(u.snd F v).comp r d j;have⟨h1,h2,h3⟩:=p F hi w;rw[y]at h1 h2;refine⟨h1,h2,λk z x s=>?_⟩;have a:=vN m (B:=aE A F) (by rw[aE,aZ hi];exact abO hi) s;have t:=h3 k z x s;unfold qX at t⊢;rw[o.eq m c a.1 a.2];rcases c.oD m a.1 a.2 with e|⟨f,B,e⟩;·exact .inl aa
 rw[e,aeY]at t⊢;rwa[n.eq r d j l B hi]
theorem Gt:∀{l:List G.Edge},(∀e∈l,e.args.length<=12)->(l.flatMap (·.args)).length<=12*l.length|[],_=>by simp|a::l,h=>by have h1:=h a (acj ..);have h2:=Gt λe he=>h e (ab8 _ he);rw[aim,ae8,ahK];omega
abbrev vO(e f h i c d:ah)(cap:Nat)(ex:Bool)(g:G.aM)(j:AV)(gl:List Int)(Fd k:List Th)(l b:List AV)(a:List Bool):List Th:=[tS 3 1 (gl.map aI) g.aO.toNat true (.slice h 0 g.aO.toNat g.aO.toNat true),tZ Fd,tS n9 1 l g.aj.length true (.slice i 0 g.aj.length cap ex),tB mh f [.slice c 0 g.aj.length g.aj.length true,.slice d 0 g.aj.length g.aj.length true,.bool false],tZ k,tS xE 1 b g.aj.length true (.slice d 0 g.aj.length g.aj.length true),tS 4 1 (a.map .bool) g.aj.length true (.slice c 0 g.aj.length g.aj.length true),tB cA e [.str g.i7,aI g.i4,aI g.aO,j]]
theorem acQ(T:Tb ac)(hg:dc E A B)(hB:G.Sm A)(hR:dT A)(a2:A.aj.length<=30)(d7:A.aO<=6000){K:KT}(h1:∀N,aR E N->jG A->K (.bool true) N)(h2:∀N,aR E N->Gs A->¬jG A->K (.bool false) N):YN ac Wg [.agg B] E K:=by
 have f1:=hg.one;have ba:=hg;have hS:=hR.sh;obtain⟨vb,rfl,bz⟩:=hg;have dx:=bz;have⟨g0,_,_,g1⟩:=bz.all;have g2:=hS.ne;have g3:=hR.p0;have g5:=hR.p1;refine YF.code T.YD aC ?_;refine ab ?_;refine RO.bZ (ak.bM E) λH1 r U=>?_;refine ab ?_;refine RO.bT U 0 ?_;refine RO.cl (vK T (bV.eY U.gr ba) hB hS a2 (wo:= -1) λH2 qc qs n Fo a aA d' hI bb b7 hl=>?_);have U:=U.cH hl;refine RO.dD U λH3 O U=>?_;refine ab ?_;refine Ru.d9 (λs=>?_) (λs=>?_);·refine ab ?_;exact Ru.aL (h2 _ U.gr ⟨a,aA,d',[],[],hI,bb,λh9=>by rw[s]at h9;cases h9⟩ λm=>by obtain⟨b,o,o',r,q2,O⟩:=hI.Gn s;obtain⟨c1,o1,_,_,q4,q5,_⟩:=m.ex;exact O ((r.comp hS q4 q5).2.symm.trans (q2.comp hS q4 q5).2))
 subst s;refine ab ?_;refine RO.bT U 4 ?_;refine RO.bT U 4 ?_;refine RO.At (acP T (bV.eY U.gr ba) hB hS a2 λH4 hY P Fd D R b' hl=>⟨λaf ag=>?_,?_⟩);·obtain⟨_,hp⟩:=(U.cH hl).get 6 rfl;obtain⟨_,ea,_⟩:=dx;exact qW (i:=r) (o:=0) (vs:=[.str A.i7,aI A.i4,aI A.aO,vb]) ag (by(conv=>lhs;whnf)<;>rfl) (by(conv=>lhs;whnf)<;>rfl) (Ct (Sl.cD ea)) (tB.kl hp (m:=4) (by show 0+4<=4;omega)) rfl
 have U:=U.cH hl;obtain⟨qd,cap,ex,rfl⟩:=U.jp 1 rfl aa;refine RO.cl (MD T (bV.eY U.gr ba) hB hR d7 λH5 qg gl S hl=>?_);have U:ak E H5 (vO r O qg qd qc qs cap ex A vb gl Fd Fo P n a):=U.cH hl;refine ab ?_;have h2:=λN hg=>h2 N hg ⟨a,aA,false,D,gl,hI,bb,λ_=>⟨R,S⟩⟩;have eb:=hI.lc;have g6:=hI.lo;have g7:=b7.len;have g8:=S.len;refine Ru.nm λS0 M ec hM=>?_;refine Ru.bH hM (up (P:=λi=>∀HX,(∀x,x<i->a.getD x false=true->vM A aA D gl x)->ak E HX (vO r O qg qd qc qs cap ex A vb gl Fd Fo P n a)->Ru ac _ S0 ([(p6,aN i)]++pk M [p1,p3,p4,p5]) HX) A.aj.length (λi hi ih HX ca U=>?_) 0 aa _ (λx Q=>by omega) U);subst ec;subst hM;refine Ru.loop ?_;refine ab ?_;refine RO.eo U 7 ?_;refine ab ?_;refine Ru.cond (λV=>?_) (λV=>?_)
 .have W:=abO V;have g9:=hB.bl _ W;have ei:=hB.st _ W;have cd:=hB.ed _ W;have g':=hR.yo _ W;have u:aE A i=A.aj[i]:=by rw[aE,aZ V]
  have ih:=ih (i+1) aa aa;have nC:∀(l:List Bool)(k:Nat),l.length=A.aj.length->k<A.aj.length->(l.map AV.bool)[0+k*1]?=some (.bool (l.getD k false)):=λl k h1 h2=>by rw[show 0+k*1=k by omega,ahB,getElem?_pos l k aa,aZ aa];rfl
  have Z:(a.getD i false=true->vM A aA D gl i)->∀x,x<i+1->a.getD x false=true->vM A aA D gl x:=λhb x Q=>by
   by_cases e:x=i;·subst e;exact hb
   exact ca x aa
  have cf:n[0+i*1]?=some (n.getD i .bQ):=by rw[show 0+i*1=i by omega,getElem?_pos n i aa,aZ aa]
  refine ab ?_;refine RO.cJ U 6 (hv:=nC a i eb V) ?_;refine ab ?_;refine Ru.d9 (λs=>?_) (λs=>?_)
  .have s:a.getD i false=false:=by simpa using s
   refine Ru.exitTo ?_;refine ab ?_;exact Ru.wk (ih _ (Z λh=>by rw[s]at h;cases h) U)
  have s:a.getD i false=true:=by simpa using s
  obtain⟨_,ej⟩:=(hI.snd i s).ok hS;have f2:=hI.iw i s;have cn:=b7.mem i aa;have av:jG A->vM A aA D gl i:=λm=>m.rt hR hI.toFlI R S V s;have bc:=λm=>(av m).en;have cp:=λm=>(av m).rt;have cv:=λm=>(av m).rd;clear av;simp only[u]at bc cp cv;generalize cx:aA.getD i []=o at*;generalize ha:n.getD i .bQ=ov at*;obtain⟨_,v,_,_⟩:=U.jr 4 rfl cn;have⟨ek,_,_,hc⟩:=v.all;refine ab ?_;refine RO.eo U 7 ?_;refine ab ?_;refine RO.bL U.gr bz (λq9 o9 h4 aw bv hh hat hrd=>?_) (j:=i);have f3:=bv;have el:eV ov ov=true:=Sl.bI v;generalize A.aj[i]=h7 at*;have f4:=bv.one;obtain⟨vp,F,jc,rfl,cy,ax,cE⟩:=bv;have dy:=cE;obtain⟨va,vk,vg,rfl,et,hk,hm⟩:=cE;have⟨hn,_,_,ho⟩:=cy.all;have⟨hr,_,_,ht⟩:=ax.all;have⟨hv,_,_,hw⟩:=et.all;refine ab ?_;refine RO.cJ U 5 (hv:=cf) ?_;refine RO.dL U λH6 q7 U=>?_;refine RO.yj U 0 (ws:=[vp,F,aU h7.aq.op,va,.str h7.aq.i7,vk,vg]) (λH7 U=>⟨λaf ag=>?_,?_⟩);·obtain⟨_,hp⟩:=U.get 6 rfl;obtain⟨_,ew⟩:=U.get 4 rfl;exact ev (i:=qs) (o:=0+i*1) (v:=ov) ag (by(conv=>lhs;whnf)<;>rfl) (by(conv=>lhs;whnf)<;>rfl) ek el (cO.J' hp cf) (ev (re:=[]) (i:=O) (o:=1) (v:=.slice qs 0 A.aj.length A.aj.length true) ag (by(conv=>lhs;whnf)<;>rfl) (by(conv=>lhs;whnf)<;>rfl) rfl (by simp[eV,cD,ah.ft]) (tB.cell ew rfl) rfl)
  have U:ak E H7 (tB cS q7 [vp,F,aU h7.aq.op,va,.str h7.aq.i7,vk,vg]::vO r O qg qd qc qs cap ex A vb gl Fd Fo P n a):=U;refine RO.bf ?_;refine RO.nil ?_;refine Ru.seq ?_;have hx:=hB.nb;refine Ru.oJ (P:=λM N=>M=[(p1,.aD r 0),(p3,.aD O 0),(p4,.slice qd 0 A.aj.length cap ex),(p5,.slice qg 0 A.aO.toNat A.aO.toNat true),(p6,aN i),(p7,.aD q7 0)]/\(h7.aq.op=68->o.length≠0/\h7.aq.args.length=(A.aj.getD (my A (o.getD (o.length - 1) 0)).toNat default).i4.length)/\(h7.aq.op=69->o=[])/\ak E N (tB cS q7 [vp,F,aU h7.aq.op,va,.str h7.aq.i7,vk,vg]::vO r O qg qd qc qs cap ex A vb gl Fd Fo P n a)) (λM H8⟨hM,gA,gH,U⟩=>?_) (λs' c=>?_);rotate_left
  .refine ab ?_;refine RO.bP (λt=>?_) (λt=>?_)
   .refine ab ?_;refine RO.bP (λd5=>?_) (λd5=>?_);·refine ab ?_;exact Ru.aL (h2 _ U.gr λm=>(bc m t).1 d5)
    have cR:o.length - 1<o.length:=aa;obtain⟨_,v,_,_⟩:=U.jr 5 rfl cn;refine ab ?_;refine RO.eo U 8 ?_;refine ab ?_;refine RO.eo U 8 ?_;refine ab ?_;refine RO.arith (v:=aN (o.length - 1)) ?_ (hv:=me (k:=o.length) aa aa);refine ab ?_;refine RO.fA (aR.refl _) v (λq8 o8 hj I=>?_) (j:=o.length - 1);have c8:=ej _ (abO cR);have e0:o.getD (o.length - 1) 0=o[o.length - 1]:=aZ cR _;have p:=λm=>(bc m t).2;rw[e0]at c p;generalize o[o.length - 1]=x at*;obtain⟨x,rfl⟩:∃y:Nat,x=y:=⟨x.toNat,aa⟩;rw[my,aeY]at c p;rw[aeY]at c8;obtain⟨_,c9,hA⟩:=c8;have hq:fO .quo 3 (x:Int) (.ofNat 2)=some (aN (x/2)):=by simp only[fO];rw[an bt,show((x:Int).tdiv (ah0 2))=((x/2:Nat):Int)from by rw[ag0,Int.tdiv_eq_ediv_of_nonneg aa];simp,mY aa aa];rfl
    have b0:=hS.rg _ c9 ((aE A (x/2)).aq.go[2]) (abO _);have e1:(aE A (x/2)).aq.go.getD 2 default=(aE A (x/2)).aq.go[2]:=aZ aa _;rw[e1]at c p;have e2:aE A (x/2)=A.aj[x/2]:=by rw[aE,aZ c9]
    refine ab ?_;refine RO.arith ?_ (hv:=hq);refine ab ?_;refine RO.bL U.gr bz (λr o1 c1 e3 ay e4 hat hrd=>?_) (j:=x/2);rw[<-e2]at ay;obtain⟨hC,f5,hD,rfl,_,_,hE,hF,e5,rfl,_,_,a6⟩:=ay;have⟨f6,_,_,_⟩:=a6.all;refine ab ?_;refine RO.aW (v:=e5) ?_ (hc:=hat 6 _ rfl);refine ab ?_;refine RO.bL U.gr a6 (λq8 o8 gL e6 e7 e8 hat hrd=>?_) (j:=2);obtain⟨ve,rfl,_⟩:=e7;generalize hG:(aE A (x/2)).aq.go[2].block=jb at*;obtain⟨jb,rfl⟩:∃y:Nat,jb=y:=⟨jb.toNat,aa⟩;rw[aeY]at c p;have e9:jb<A.aj.length:=aa;refine ab ?_;refine RO.bL U.gr bz (λr o1 c1 e3 ay e4 hat hrd=>?_) (j:=jb);rw[aZ e9]at c p;obtain⟨hH,f7,hJ,rfl,dz,_⟩:=ay;have⟨f8,_,_,f9⟩:=dz.all;refine ab ?_;refine RO.bP (λa3=>?_) (λa3=>?_);·refine ab ?_;exact Ru.aL (h2 _ U.gr λm=>a3 (p m))
    refine ab ?_;refine RO.bP (λa4=>absurd (t.symm.trans a4) bt) (λa4=>?_);refine ab ?_;exact c _ _ _ ⟨rfl,λ_=>⟨d5,aix.1 a3⟩,λh=>absurd h a4,U⟩ dw
   refine ab ?_;refine RO.bP (λa4=>?_) (λa4=>?_)
   .refine ab ?_;refine Ru.cond (λa5=>?_) (λa5=>?_);·refine ab ?_;exact Ru.aL (h2 _ U.gr λm=>by simp[cp m a4]at a5)
    refine ab ?_;exact c _ _ _ ⟨rfl,λh=>absurd h t,λ_=>ahz aa,U⟩ dw
   refine ab ?_;exact c _ _ _ ⟨rfl,λh=>absurd h t,λh=>absurd h a4,U⟩ dw
  subst hM;clear hat hrd;have d0:∀k,(h7.i4++eM (h7.aB.take k)).length<=100:=λk=>by have:=Cs (h7.aB.take k);rw[ahU]at this;rw[ae8];omega
  have d1:(jF h7.aq).length<=200:=by have:=Gt cd;rw[jF,ae8];omega
  refine ab ?_;refine RO.ir U 1 λH9 hK U=>?_;have⟨hL,_,_,_⟩:=(U.sl 0 rfl).all;refine ab ?_;refine RO.kI U 0 (U.gr.sl cy) (λHA e' U=>?_) (h1:=md _);have U:ak E HA (tS 3 1 ((h7.i4++eM (h7.aB.take 0)).map aI) (h7.i4++eM (h7.aB.take 0)).length true e'::tB cS q7 [vp,F,aU h7.aq.op,va,.str h7.aq.i7,vk,vg]::vO r O qg qd qc qs cap ex A vb gl Fd Fo P n a):=by rw[aiB,show eM []=[]from rfl,ah8];rw[ahw]at U;exact U
  have⟨hN,_,_,_⟩:=(U.sl 0 rfl).all;refine ab ?_;refine Ru.nm λS1 M1 fa c'=>?_;refine Ru.bH c' (up (P:=λk=>∀HX kv,(∀y,y<k->∀x∈di h7 y,qX D gl h7 i y x)->ak E HX (tS 3 1 ((h7.i4++eM (h7.aB.take k)).map aI) (h7.i4++eM (h7.aB.take k)).length true kv::tB cS q7 [vp,F,aU h7.aq.op,va,.str h7.aq.i7,vk,vg]::vO r O qg qd qc qs cap ex A vb gl Fd Fo P n a)->Ru ac _ S1 ([(dS,aN k),(p9,kv)]++pk M1 [p1,p3,p4,p5,p6,p7]) HX) (h7.aB.length+1) (λk h5 q HX kv dm U=>?_) 0 aa _ _ (λy hy=>by omega) U);subst fa;subst c';have hO:=d0 k;have w:=U.sl 0 rfl;have⟨f',_,_,_⟩:=w.all;refine Ru.loop ?_;refine ab ?_;refine Ru.cond (λfb=>?_) (λfb=>?_)
  .have q:=q (k+1) aa aa;refine ab ?_;refine RO.bT U 1 (m:=5) (o:=2) ?_;refine RO.cl (Gr T (bV.uJ U.gr dy) ⟨aa,aa⟩ cd λHB rv hl=>?_);have U:=U.cH hl;have⟨gb,_,_,gd⟩:=(U.sl 0 rfl).all;refine RO.bf ?_;refine RO.nil ?_;refine Ru.seq ?_;refine Ru.oJ (P:=λM N=>∃b3,M=[(eD,b3),(p1,.aD r 0),(p3,.aD O 0),(p4,.slice qd 0 A.aj.length cap ex),(p5,.slice qg 0 A.aO.toNat A.aO.toNat true),(p6,aN i),(p7,.aD q7 0),(p9,kv),(dS,aN k)]/\dh N (di h7 k) b3/\ak E N (tS 3 1 ((h7.i4++eM (h7.aB.take k)).map aI) (h7.i4++eM (h7.aB.take k)).length true kv::tB cS q7 [vp,F,aU h7.aq.op,va,.str h7.aq.i7,vk,vg]::vO r O qg qd qc qs cap ex A vb gl Fd Fo P n a)) (λM HC⟨b3,hM,C,U⟩=>?_) (λs' c=>?_);rotate_left
   .refine ab ?_;refine Ru.cond (λt=>?_) (λt=>?_);·refine ab ?_;refine RO.bL U.gr ax (λq8 o8 gL e6 fd e8 hat hrd=>?_) (j:=k);obtain⟨fe,rfl,a8⟩:=fd;have⟨hP,_,_,_⟩:=a8.all;refine ab ?_;exact c _ _ _ ⟨fe,rfl,by rw[di,aF t,aZ t];exact U.gr.sl a8,U.tail⟩ dw
    refine ab ?_;exact c _ _ _ ⟨rv,rfl,by rw[di,an t];exact U.sl 0 rfl,U.tail⟩ dw
   subst hM;have⟨gg,_,_,gi⟩:=C.all;have w:=U.sl 0 rfl;have d2:∀x∈di h7 k,0<=x/\x<A.aO:=λx Q=>vN hR W Q;have gn:(di h7 k).length<=200:=by
    unfold di;split;·rename_i t;rw[aZ t];have:=(ei _ (abO t)).1;omega
    exact d1
   refine ab ?_;refine Ru.nm λS2 M2 fk dr=>?_;refine Ru.bH dr (up (P:=λj=>(∀y(h:y<(di h7 k).length),y<j->qX D gl h7 i k (di h7 k)[y])->Ru ac _ S2 ([(gQ,aN j)]++pk M2 [p1,p3,p4,p5,p6,p7,p9,dS,eD]) HC) (di h7 k).length (λj hj J ds=>?_) 0 aa (λy _ hy=>by omega));subst fk;subst dr;refine Ru.loop ?_;refine ab ?_;refine Ru.cond (λb4=>?_) (λb4=>?_)
   .have J:=J (j+1) aa aa;have b0:=d2 _ (abO b4);have L:jG A->qX D gl h7 i k (di h7 k)[j]:=λm=>cv m k aa _ (abO b4);have d:qX D gl h7 i k (di h7 k)[j]->∀y(h:y<(di h7 k).length),y<j+1->qX D gl h7 i k (di h7 k)[y]:=λhb y hy h=>by
     by_cases e:y=j;·subst e;exact hb
     exact ds y hy aa
    refine ab ?_;refine RO.fA (aR.refl _) C (λq9 o9 aw I=>?_) (j:=j);generalize hz:(di h7 k)[j]=x at*;obtain⟨x,rfl⟩:∃y:Nat,x=y:=⟨x.toNat,aa⟩;have fl:(gl.map aI)[0+x*1]?=some (aI (gl.getD x 0)):=by rw[show 0+x*1=x by omega,ahB,getElem?_pos gl x aa,aZ aa];rfl
    have dv:=S.oD hR b0.1 b0.2;unfold qX at d L;rw[aeY]at dv d L;generalize gl.getD x 0=fr at*;have hQ:x<A.aO.toNat:=aa;refine ab ?_;refine RO.cJ U 2 (hv:=fl) ?_;refine ab ?_;refine RO.bP (λb1=>?_) (λb1=>?_)
    .have b1:0<=fr:=b1;obtain⟨f,hf,rfl⟩:∃f:Nat,f<A.aj.length/\fr=f:=by
      rcases dv with e|e;·omega
      exact e
     rw[aeY]at d L;obtain⟨_,_,_,_,_,b6⟩:=R.ex;have hT:=R.len;have gq:=(b6 f hf).len;have gx:=b'.len;obtain⟨_,a',_,_⟩:=U.jr 3 rfl (b'.mem f aa);have fo:P[0+f*1]?=some (P.getD f .bQ):=by rw[show 0+f*1=f by omega,getElem?_pos P f aa,aZ aa]
     generalize P.getD f .bQ=h6 at*;generalize hU:D.getD f []=row at*;have⟨gy,_,_,_⟩:=a'.all;refine ab ?_;refine RO.bP (λb2=>?_) (λb2=>?_)
     .refine ab ?_;refine RO.cJ U 4 (hv:=fo) ?_;refine ab ?_;refine RO.ic (aR.refl _) a' (λq9 o9 aw I=>?_) (j:=i);have fp:row.getD i false=row[i]:=aZ aa _;rw[fp]at d L;generalize row[i]=rb at*;refine ab ?_;refine RO.pD (λd6=>?_) (λd6=>?_)
      .refine ab ?_;refine RO.fA (aR.refl _) C (λq9 o9 aw I=>?_) (j:=j);rw[hz]at I;refine ab ?_;refine RO.cl (Cn T w aa (λc1=>?_) (λc1=>?_));·refine ab ?_;exact Ru.wk (J (d (.inr (.inr c1))))
       refine ab ?_;exact Ru.aL (h2 _ U.gr λm=>by
        rcases L m with h8|⟨_,h8⟩|h8;·omega
        .simp[h8]at d6
        exact c1 h8)
      refine ab ?_;exact Ru.wk (J (d (.inr (.inl ⟨aa,by simpa using d6⟩))))
     refine ab ?_;refine RO.fA (aR.refl _) C (λq9 o9 aw I=>?_) (j:=j);rw[hz]at I;refine ab ?_;refine RO.cl (Cn T w aa (λc1=>?_) (λc1=>?_));·refine ab ?_;exact Ru.wk (J (d (.inr (.inr c1))))
     refine ab ?_;exact Ru.aL (h2 _ U.gr λm=>by
      rcases L m with h8|⟨h8,_⟩|h8;·omega
      .exact h8 aa
      exact c1 h8)
    have b1:¬0<=fr:=b1;refine ab ?_;exact Ru.wk (J (d (.inl aa)))
   refine Ru.exitTo ?_;have X:∀y,y<k+1->∀x∈di h7 y,qX D gl h7 i y x:=λy hy x Q=>by
    by_cases e:y=k;·subst e;obtain⟨z,hz,rfl⟩:=ahd Q;exact ds z hz aa
    exact dm y aa x Q
   refine ab ?_;refine RO.bP (λc1=>?_) (λc1=>?_)
   .rw[(ahb c1).symm,Gh,<-ae0]at q;generalize h7.i4++eM (h7.aB.take k)=l0 at*;refine ab ?_;refine RO.bL U.gr ax (λq7 o7 c7 fq a1 fs Y d3=>?_) (j:=k);generalize Q:h7.aB[k]=x at*;obtain⟨f0,rfl,d4⟩:=a1;refine ab ?_;refine RO.aW (v:=aI x.to) ?_ (hc:=Y 1 _ rfl);refine ab ?_;refine Ru.cond (λg4=>?_) (λg4=>?_);·have g4:0<=x.to:=g4;rw[aF g4]at q;refine ab ?_;refine RO.bL U.gr ax (λq7 o7 c7 fq a1 fs Y d3=>?_) (j:=k);rw[Q]at a1;obtain⟨f0,rfl,d4⟩:=a1;refine ab ?_;refine RO.aW (v:=aI x.to) ?_ (hc:=Y 1 _ rfl);refine RO.push U 0 (λw0 H9 v2 U=>?_) (ws:=[aI x.to]);have⟨hV,hW,hX,_⟩:=(U.sl 0 rfl).all;refine ab ?_;exact Ru.wk (q _ v2 X (by rw[ahx,ae8];exact U))
    have g4:¬0<=x.to:=g4;rw[an g4,ah8]at q;refine ab ?_;exact Ru.wk (q _ kv X U)
   rw[show h7.aB.take (k+1)=h7.aB.take k from by rw[aho aa,aho aa]]at q;refine ab ?_;exact Ru.wk (q _ kv X U)
  refine Ru.exitTo ?_;refine ab ?_;exact Ru.wk (ih _ (Z λ_=>⟨by rw[u,cx];exact gA,by rw[u,cx];exact gH,by rw[u];exact λy hy x Q=>dm y aa x Q⟩) U.tail.tail)
 refine Ru.exitTo ?_;refine ab ?_;exact Ru.aL (h1 _ U.gr ⟨a,aA,D,gl,hI.toFlI,bb,R,S,λx Q=>ca x aa⟩)
end
end Go.al.R
end
