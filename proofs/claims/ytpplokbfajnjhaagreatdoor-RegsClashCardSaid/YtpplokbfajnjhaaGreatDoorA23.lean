/- A part. No conditions. -/
import Derived.Test.YtpplokbfajnjhaaGreatDoorA22
set_option linter.all false
set_option maxHeartbeats 16000000
open Int renaming ofNat->aiC
noncomputable section
namespace Go.al.R
section
variable{ab:Nat->aV}
theorem RO.Gp{H:ai}{c:Cx}{s:List SI}{L:Kn}{d:Option ah}{l:List bD}{f:aJ}{args:List aJ}{fv:AV}{a:List AV}{re:List gX}(h:YF ab fv a H λr H'=>(∀ac,Le (bq L d r) ac->dX ac H' re=true)/\RO ab c l s (bq L d r) H')(g:aT L f=fv:=by exact cw)(b:fv.br=true:=by first|rfl|assumption)(i:args.map (aT L)=a:=by rfl)(e:a.all AV.br=true:=by repeat first|rfl|assumption|(refine ad ?_ ?_)):RO ab c (⟨d,.call f args,none,[],re⟩::l) s L H:=RO.EW h g b i e
theorem tF{H:ai}{L:Kn}{ac:az AV}{p:ah}{x:aJ}{i:ah}{o n:Nat}{vs:List AV}{re:List gX}(a:Le L ac)(b:aT L x=.aD i o)(c:lk L p=.agg vs)(hs:j8 vs vs=true)(d:dE H i o n=some vs)(e:dX ac H re=true):dX ac H (⟨p,.eF n x,none⟩::re)=true:=by simp only[dX,dZ,bi,aH,a.gv b rfl,gY,d,aip,a.get c rfl,eV,hs,e,ajL]
theorem Sl.cC{H:ai}{size n:Nat}{a:List AV}{v:AV}(h:Sl H size a n v):cC v v=true:=by
 rcases h with⟨rfl,_⟩|⟨i,o,cap,ex,c,m,e,b,aK,fz,rfl,_⟩;·rfl
 simp[al.cC,ah.fg]
theorem MT{n:List Nat}{a b:Int}{v:AV}(h:cC v v=true):j8 [.str n,aI a,aI b,v] [.str n,aI a,aI b,v]=true:=by simp only[j8,h,Bool.and_true];simp[cC,jS,dV]
def dg(B:G.dK)(k:Nat):List Int:=if k<B.aA.length then(B.aA.getD k default).args else fL B.aq
def qL(a:List (List Bool))(gl:List Int)(B:G.dK)(i k:Nat)(x:Int):Prop:=gl.getD x.toNat 0<0\/(gl.getD x.toNat 0≠(i:Int)/\(a.getD (gl.getD x.toNat 0).toNat []).getD i false=true)\/x∈B.params++dw (B.aA.take k)
structure vu(g:G.aP)(aB:List (List Int))(dm:List (List Bool))(gl:List Int)(i:Nat):Prop where
 en:(aE g i).aq.op=68->(aB.getD i []).length≠0/\(aE g i).aq.args.length=(g.aj.getD (mz g ((aB.getD i []).getD ((aB.getD i []).length - 1) 0)).toNat default).params.length
 rt:(aE g i).aq.op=69->aB.getD i []=[]
 rd:∀k,k<=(aE g i).aA.length->∀x∈dg (aE g i) k,qL dm gl (aE g i) i k x
structure jW(g:G.aP):Prop where
 ex:∃come aB dm gl,jV g (-1) come aB/\(∀b,gM g (-1) come aB false b)/\rZ g dm/\lD g.aQ.toNat g.params.toNat gl (kq g g.aj.length)/\∀i,i<g.aj.length->come.getD i false=true->vu g aB dm gl i
structure Gq(g:G.aP):Prop where
 ex:∃come aB oth dm gl,lC g (-1) come aB oth/\(∀b,gM g (-1) come aB oth b)/\(oth=false->rZ g dm/\lD g.aQ.toNat g.params.toNat gl (kq g g.aj.length))
theorem lD.oE{g:G.aP}(b:ev g){gl:List Int}(h:lD g.aQ.toNat g.params.toNat gl (kq g g.aj.length)){v:Int}(h0:0<=v)(h1:v<g.aQ):gl.getD v.toNat 0= -1\/∃i:Nat,i<g.aj.length/\gl.getD v.toNat 0=i:=by
 have d:=b.p0;by_cases e:v<g.params;·exact .inl (h.aK _ aa)
 have:=b.all v aa h1;rw[<-ajg (l:=g.aj),<-Aa g _ (afM _)]at this;obtain⟨p,a,rfl⟩:=aia.1 this;refine .inr ⟨p.2,?_,h.bu p a⟩;have⟨i,hi,c⟩:=aiG.1 a;rw[aiO]at hi;obtain⟨x,_,rfl⟩:=aia.1 c;exact hi
theorem lD.eq{g:G.aP}(c:ev g){gl a:List Int}(h:lD g.aQ.toNat g.params.toNat gl (kq g g.aj.length))(d:lD g.aQ.toNat g.params.toNat a (kq g g.aj.length)){v:Int}(h0:0<=v)(h1:v<g.aQ):gl.getD v.toNat 0=a.getD v.toNat 0:=by
 have e:=c.p0;by_cases f:v<g.params;·rw[h.aK _ aa,d.aK _ aa]
 have:=c.all v aa h1;rw[<-ajg (l:=g.aj),<-Aa g _ (afM _)]at this;obtain⟨p,b,rfl⟩:=aia.1 this;rw[h.bu p b,d.bu p b]
theorem vA{g:G.aP}(c:ev g){B:G.dK}(d:B∈g.aj){k:Nat}{x:Int}(a:x∈dg B k):0<=x/\x<g.aQ:=by
 unfold dg at a;split at a;·rename_i f;rw[bf f]at a;have:=(c.aA _ d _ (acm f)).r.iS x a;omega
 have b:=c.xQ _ d;rcases adX.1 a with a|a;·have:=b.iS x a;omega
 have⟨e,he,a⟩:=aiG.1 a;obtain⟨y,h,rfl⟩:=ah0 he;have:=(b.zT y h).iS x a;omega
theorem jW.rt{g:G.aP}(h:jW g)(m:ev g){b:List Bool}{aB:List (List Int)}{q:List (List Bool)}{gl:List Int}(u:jV g (-1) b aB)(n:rZ g q)(o:lD g.aQ.toNat g.params.toNat gl (kq g g.aj.length)){i:Nat}(hi:i<g.aj.length)(v:b.getD i false=true):vu g aB q gl i:=by
 have r:=m.sh;have⟨c1,o1,z,A,d,j,l,c,p⟩:=h.ex;have⟨e1,e2⟩:=(u.snd i v).comp r d j;have⟨h1,h2,h3⟩:=p i hi e1;rw[e2]at h1 h2;refine⟨h1,h2,λk w x s=>?_⟩;have a:=vA m (B:=aE g i) (by rw[aE,bf hi];exact acm hi) s;have t:=h3 k w x s;unfold qL at t⊢;rw[o.eq m c a.1 a.2];rcases c.oE m a.1 a.2 with e|⟨f,y,e⟩;·exact .inl aa
 rw[e,ahX]at t⊢;rwa[n.eq r d j l y hi]
theorem Gr:∀{l:List G.Edge},(∀e∈l,e.args.length<=12)->(l.flatMap (·.args)).length<=12*l.length|[],_=>by simp|a::l,h=>by have h1:=h a (acI ..);have h2:=Gr λe he=>h e (adT _ he);rw[ai9,ahY,air];omega
abbrev vB(e f h i c d:ah)(cap:Nat)(ex:Bool)(g:G.aP)(j:AV)(gl:List Int)(Fd k:List Th)(l b:List AV)(a:List Bool):List Th:=[tS 3 1 (gl.map aI) g.aQ.toNat true (.slice h 0 g.aQ.toNat g.aQ.toNat true),tZ Fd,tS gR 1 l g.aj.length true (.slice i 0 g.aj.length cap ex),tB nZ f [.slice c 0 g.aj.length g.aj.length true,.slice d 0 g.aj.length g.aj.length true,.bool false],tZ k,tS uJ 1 b g.aj.length true (.slice d 0 g.aj.length g.aj.length true),tS 4 1 (a.map .bool) g.aj.length true (.slice c 0 g.aj.length g.aj.length true),tB cJ e [.str g.name,aI g.params,aI g.aQ,j]]
section
variable{g:G.aP}{H:ai}{cs:List AV}
theorem adc(T:Tb ab)(hg:dt H g cs)(hB:G.Sm g)(hR:ev g)(a2:g.aj.length<=30)(d':g.aQ<=6000){K:KT}(h1:∀H',aS H H'->jW g->K (.bool true) H')(h2:∀H',aS H H'->Gq g->¬jW g->K (.bool false) H'):YN ab WY [.agg cs] H K:=by
 have f2:=hg.one;have ba:=hg;have hS:=hR.sh;obtain⟨vb,rfl,bG⟩:=hg;have dy:=bG;have⟨g2,_,_,g3⟩:=bG.all;have g5:=hS.ne;have g6:=hR.p0;have g7:=hR.p1;refine YF.code T.Zb aC ?_;refine af ?_;refine RO.ct (ak.bN H) λH1 r U=>?_;refine af ?_;refine RO.co U 0 ?_;refine RO.cl (z8 T (bX.fS U.gr ba) hB hS a2 (wo:= -1) λH2 qc X n Fo a aB ea Y bb b7 hl=>?_);have U:=U.dq hl;refine RO.dS U λH3 J U=>?_;refine af ?_;refine Ru.eC (λs=>?_) (λs=>?_);·refine af ?_;exact Ru.aL (h2 _ U.gr ⟨a,aB,ea,[],[],Y,bb,λh9=>by rw[s]at h9;cases h9⟩ λm=>by obtain⟨b,o,o',r,q2,J⟩:=Y.Gg s;obtain⟨c1,o1,_,_,q4,q5,_⟩:=m.ex;exact J ((r.comp hS q4 q5).2.symm.trans (q2.comp hS q4 q5).2))
 subst s;refine af ?_;refine RO.co U 4 ?_;refine RO.co U 4 ?_;refine RO.Gp (adb T (bX.fS U.gr ba) hB hS a2 λH4 gH L Fd C O b' hl=>⟨λac ag=>?_,?_⟩);·obtain⟨_,hp⟩:=(U.dq hl).get 6 rfl;obtain⟨_,eb,_⟩:=dy;exact tF (i:=r) (o:=0) (vs:=[.str g.name,aI g.params,aI g.aQ,vb]) ag (by(conv=>lhs;whnf)<;>rfl) (by(conv=>lhs;whnf)<;>rfl) (MT (Sl.cC eb)) (tB.kU hp (m:=4) (by show 0+4<=4;omega)) rfl
 have U:=U.dq hl;obtain⟨Z,cap,ex,rfl⟩:=U.jO (e:=gR) (size:=1) (n:=g.aj.length) (full:=true) (sv:=gH) 1 rfl aa;refine RO.cl (ada T (bX.fS U.gr ba) hB hR d' λH5 qg gl P hl=>?_);have U:ak H H5 (vB r J qg Z qc X cap ex g vb gl Fd Fo L n a):=U.dq hl;refine af ?_;have h2:=λH' hg=>h2 H' hg ⟨a,aB,false,C,gl,Y,bb,λ_=>⟨O,P⟩⟩;have ec:=Y.lc;have g8:=Y.lo;have g9:=b7.len;have g':=P.len;refine Ru.nm λS0 M ei hM=>?_;refine Ru.bI hM (up (P:=λi=>∀HX,(∀x,x<i->a.getD x false=true->vu g aB C gl x)->ak H HX (vB r J qg Z qc X cap ex g vb gl Fd Fo L n a)->Ru ab _ S0 ([(p6,aN i)]++pk M [p1,p3,p4,p5]) HX) g.aj.length (λi hi ih HX ca U=>?_) 0 aa _ (λx N=>by omega) U);subst ei;subst hM;refine Ru.loop ?_;refine af ?_;refine RO.eD U 7 ?_;refine af ?_;refine Ru.cond (λQ=>?_) (λQ=>?_)
 .have R:=acm Q;have ha:=hB.bl _ R;have ej:=hB.st _ R;have cd:=hB.ed _ R;have hc:=hR.xQ _ R;have u:aE g i=g.aj[i]:=by rw[aE,bf Q]
  have ih:=ih (i+1) aa aa;have nD:∀(l:List Bool)(k:Nat),l.length=g.aj.length->k<g.aj.length->(l.map AV.bool)[0+k*1]?=some (.bool (l.getD k false)):=λl k h1 h2=>by rw[show 0+k*1=k by omega,aiw,getElem?_pos l k aa,bf aa];rfl
  have W:(a.getD i false=true->vu g aB C gl i)->∀x,x<i+1->a.getD x false=true->vu g aB C gl x:=λhb x N=>by
   by_cases e:x=i;·subst e;exact hb
   exact ca x aa
  have cf:n[0+i*1]?=some (n.getD i .bM):=by rw[show 0+i*1=i by omega,getElem?_pos n i aa,bf aa]
  refine af ?_;refine RO.cZ U 6 (hv:=nD a i ec Q) ?_;refine af ?_;refine Ru.eC (λs=>?_) (λs=>?_)
  .have s:a.getD i false=false:=by simpa using s
   refine Ru.exitTo ?_;refine af ?_;exact Ru.wk (ih _ (W λh=>by rw[s]at h;cases h) U)
  have s:a.getD i false=true:=by simpa using s
  obtain⟨_,ek⟩:=(Y.snd i s).ok hS;have f3:=Y.iD i s;have cn:=b7.mem i aa;have av:jW g->vu g aB C gl i:=λm=>m.rt hR Y.toFlI O P Q s;have bc:=λm=>(av m).en;have cp:=λm=>(av m).rt;have cv:=λm=>(av m).rd;clear av;simp only[u]at bc cp cv;generalize cx:aB.getD i []=o at*;generalize hh:n.getD i .bM=ov at*;obtain⟨_,v,_,_⟩:=U.kj 4 rfl cn;have⟨el,_,_,hk⟩:=v.all;refine af ?_;refine RO.eD U 7 ?_;refine af ?_;refine RO.bO U.gr bG (λq9 o9 hY aw bv hm hat hrd=>?_) (j:=i);have f4:=bv;have et:eV ov ov=true:=Sl.bK v;generalize g.aj[i]=B at*;have f5:=bv.one;obtain⟨vp,D,jc,rfl,cy,ax,cE⟩:=bv;have dz:=cE;obtain⟨va,vk,vg,rfl,ew,hn,ho⟩:=cE;have⟨hr,_,_,ht⟩:=cy.all;have⟨hv,_,_,hw⟩:=ax.all;have⟨hx,_,_,hA⟩:=ew.all;refine af ?_;refine RO.cZ U 5 (hv:=cf) ?_;refine RO.dN U λH6 q7 U=>?_;refine RO.xK U 0 (ws:=[vp,D,aU B.aq.op,va,.str B.aq.name,vk,vg]) (λH7 U=>⟨λac ag=>?_,?_⟩);·obtain⟨_,hp⟩:=U.get 6 rfl;obtain⟨_,e0⟩:=U.get 4 rfl;exact eo (i:=X) (o:=0+i*1) (v:=ov) ag (by(conv=>lhs;whnf)<;>rfl) (by(conv=>lhs;whnf)<;>rfl) el et (cP.Kf hp cf) (eo (re:=[]) (i:=J) (o:=1) (v:=.slice X 0 g.aj.length g.aj.length true) ag (by(conv=>lhs;whnf)<;>rfl) (by(conv=>lhs;whnf)<;>rfl) rfl (by simp[eV,cC,ah.fg]) (tB.cell e0 rfl) rfl)
  have U:ak H H7 (tB cH q7 [vp,D,aU B.aq.op,va,.str B.aq.name,vk,vg]::vB r J qg Z qc X cap ex g vb gl Fd Fo L n a):=U;refine RO.bg ?_;refine RO.nil ?_;refine Ru.seq ?_;have hC:=hB.nb;refine Ru.pA (P:=λM H'=>M=[(p1,.aD r 0),(p3,.aD J 0),(p4,.slice Z 0 g.aj.length cap ex),(p5,.slice qg 0 g.aQ.toNat g.aQ.toNat true),(p6,aN i),(p7,.aD q7 0)]/\(B.aq.op=68->o.length≠0/\B.aq.args.length=(g.aj.getD (mz g (o.getD (o.length - 1) 0)).toNat default).params.length)/\(B.aq.op=69->o=[])/\ak H H' (tB cH q7 [vp,D,aU B.aq.op,va,.str B.aq.name,vk,vg]::vB r J qg Z qc X cap ex g vb gl Fd Fo L n a)) (λM H8⟨hM,gL,g0,U⟩=>?_) (λs' c=>?_);rotate_left
  .refine af ?_;refine RO.bW (λt=>?_) (λt=>?_)
   .refine af ?_;refine RO.bW (λd6=>?_) (λd6=>?_);·refine af ?_;exact Ru.aL (h2 _ U.gr λm=>(bc m t).1 d6)
    have cR:o.length - 1<o.length:=aa;obtain⟨_,v,_,_⟩:=U.kj 5 rfl cn;refine af ?_;refine RO.eD U 8 ?_;refine af ?_;refine RO.eD U 8 ?_;refine af ?_;refine RO.arith (v:=aN (o.length - 1)) ?_ (hv:=mg (k:=o.length) aa aa);refine af ?_;refine RO.jk (aS.refl _) v (λq8 o8 hj E=>?_) (j:=o.length - 1);have c8:=ek _ (acm cR);have e1:o.getD (o.length - 1) 0=o[o.length - 1]:=bf cR _;have p:=λm=>(bc m t).2;rw[e1]at c p;generalize o[o.length - 1]=x at*;obtain⟨x,rfl⟩:∃y:Nat,x=y:=⟨x.toNat,aa⟩;rw[mz,ahX]at c p;rw[ahX]at c8;obtain⟨_,c9,hD⟩:=c8;have hq:fG .quo 3 (x:Int) (.ofNat 2)=some (aN (x/2)):=by simp only[fG];rw[an bx,show((x:Int).tdiv (aiC 2))=((x/2:Nat):Int)from by rw[ahU,Int.tdiv_eq_ediv_of_nonneg aa];simp,m8 aa aa];rfl
    have b0:=hS.rg _ c9 ((aE g (x/2)).aq.go[2]) (acm _);have e2:(aE g (x/2)).aq.go.getD 2 default=(aE g (x/2)).aq.go[2]:=bf aa _;rw[e2]at c p;have e3:aE g (x/2)=g.aj[x/2]:=by rw[aE,bf c9]
    refine af ?_;refine RO.arith ?_ (hv:=hq);refine af ?_;refine RO.bO U.gr bG (λr o1 c1 e4 ay e5 hat hrd=>?_) (j:=x/2);rw[<-e3]at ay;obtain⟨hE,f6,hF,rfl,_,_,hG,hH,e6,rfl,_,_,a6⟩:=ay;have⟨f7,_,_,_⟩:=a6.all;refine af ?_;refine RO.be (v:=e6) ?_ (hc:=hat 6 _ rfl);refine af ?_;refine RO.bO U.gr a6 (λq8 o8 g1 e7 e8 e9 hat hrd=>?_) (j:=2);obtain⟨ve,rfl,_⟩:=e8;generalize hI:(aE g (x/2)).aq.go[2].block=jb at*;obtain⟨jb,rfl⟩:∃y:Nat,jb=y:=⟨jb.toNat,aa⟩;rw[ahX]at c p;have e':jb<g.aj.length:=aa;refine af ?_;refine RO.bO U.gr bG (λr o1 c1 e4 ay e5 hat hrd=>?_) (j:=jb);rw[bf e']at c p;obtain⟨hJ,f8,hK,rfl,d0,_⟩:=ay;have⟨f9,_,_,f'⟩:=d0.all;refine af ?_;refine RO.bW (λa3=>?_) (λa3=>?_);·refine af ?_;exact Ru.aL (h2 _ U.gr λm=>a3 (p m))
    refine af ?_;refine RO.bW (λa4=>absurd (t.symm.trans a4) bx) (λa4=>?_);refine af ?_;exact c _ _ _ ⟨rfl,λ_=>⟨d6,ajj.1 a3⟩,λh=>absurd h a4,U⟩ dC
   refine af ?_;refine RO.bW (λa4=>?_) (λa4=>?_)
   .refine af ?_;refine Ru.cond (λa5=>?_) (λa5=>?_);·refine af ?_;exact Ru.aL (h2 _ U.gr λm=>by simp[cp m a4]at a5)
    refine af ?_;exact c _ _ _ ⟨rfl,λh=>absurd h t,λ_=>aih aa,U⟩ dC
   refine af ?_;exact c _ _ _ ⟨rfl,λh=>absurd h t,λh=>absurd h a4,U⟩ dC
  subst hM;clear hat hrd;have d1:∀k,(B.params++dw (B.aA.take k)).length<=100:=λk=>by have:=Gm (B.aA.take k);rw[aiA]at this;rw[ahY];omega
  have d2:(fL B.aq).length<=200:=by have:=Gr cd;rw[fL,ahY];omega
  refine af ?_;refine RO.ji U 1 λH9 fa U=>?_;have⟨hL,_,_,_⟩:=(U.sl (e:=3) (size:=1) (sv:=fa) (vs:=[]) (n:=0) (full:=true) 0).all;refine af ?_;refine RO.ls U 0 (U.gr.sl cy) (λHA c' U=>?_) (h1:=m9 _);have U:ak H HA (tS 3 1 ((B.params++dw (B.aA.take 0)).map aI) (B.params++dw (B.aA.take 0)).length true c'::tB cH q7 [vp,D,aU B.aq.op,va,.str B.aq.name,vk,vg]::vB r J qg Z qc X cap ex g vb gl Fd Fo L n a):=by rw[ajm,show dw []=[]from rfl,aiS];rw[aif]at U;exact U
  have⟨hN,_,_,_⟩:=(U.sl (e:=3) (size:=1) (sv:=c') (full:=true) (vs:=(B.params++dw (B.aA.take 0)).map aI) (n:=(B.params++dw (B.aA.take 0)).length) 0).all;refine af ?_;refine Ru.nm λS1 M1 fb dm=>?_;refine Ru.bI dm (up (P:=λk=>∀HX kv,(∀y,y<k->∀x∈dg B y,qL C gl B i y x)->ak H HX (tS 3 1 ((B.params++dw (B.aA.take k)).map aI) (B.params++dw (B.aA.take k)).length true kv::tB cH q7 [vp,D,aU B.aq.op,va,.str B.aq.name,vk,vg]::vB r J qg Z qc X cap ex g vb gl Fd Fo L n a)->Ru ab _ S1 ([(eM,aN k),(p9,kv)]++pk M1 [p1,p3,p4,p5,p6,p7]) HX) (B.aA.length+1) (λk h4 q HX kv dr U=>?_) 0 aa _ _ (λy hy=>by omega) U);subst fb;subst dm;have hO:=d1 k;have w:=U.sl (e:=3) (size:=1) (sv:=kv) (vs:=(B.params++dw (B.aA.take k)).map aI) (n:=(B.params++dw (B.aA.take k)).length) (full:=true) 0;have⟨gb,_,_,_⟩:=w.all;refine Ru.loop ?_;refine af ?_;refine Ru.cond (λfd=>?_) (λfd=>?_)
  .have q:=q (k+1) aa aa;refine af ?_;refine RO.co U 1 (m:=5) (o:=2) ?_;refine RO.cl (Gn T (bX.uH U.gr dz) ⟨aa,aa⟩ cd λHB rv hl=>?_);have U:=U.dq hl;have⟨gd,_,_,gg⟩:=(U.sl (e:=3) (size:=1) (sv:=rv) (vs:=(fL B.aq).map aI) (n:=(fL B.aq).length) (full:=true) 0).all;refine RO.bg ?_;refine RO.nil ?_;refine Ru.seq ?_;refine Ru.pA (P:=λM H'=>∃b3,M=[(eS,b3),(p1,.aD r 0),(p3,.aD J 0),(p4,.slice Z 0 g.aj.length cap ex),(p5,.slice qg 0 g.aQ.toNat g.aQ.toNat true),(p6,aN i),(p7,.aD q7 0),(p9,kv),(eM,aN k)]/\eE H' (dg B k) b3/\ak H H' (tS 3 1 ((B.params++dw (B.aA.take k)).map aI) (B.params++dw (B.aA.take k)).length true kv::tB cH q7 [vp,D,aU B.aq.op,va,.str B.aq.name,vk,vg]::vB r J qg Z qc X cap ex g vb gl Fd Fo L n a)) (λM HC⟨b3,hM,A,U⟩=>?_) (λs' c=>?_);rotate_left
   .refine af ?_;refine Ru.cond (λt=>?_) (λt=>?_);·refine af ?_;refine RO.bO U.gr ax (λq8 o8 g1 e7 fe e9 hat hrd=>?_) (j:=k);obtain⟨fk,rfl,a8⟩:=fe;have⟨hP,_,_,_⟩:=a8.all;refine af ?_;exact c _ _ _ ⟨fk,rfl,by rw[dg,aG t,bf t];exact U.gr.sl a8,U.tail⟩ dC
    refine af ?_;exact c _ _ _ ⟨rv,rfl,by rw[dg,an t];exact U.sl (e:=3) (size:=1) (sv:=rv) (vs:=(fL B.aq).map aI) (n:=(fL B.aq).length) (full:=true) 0,U.tail⟩ dC
   subst hM;have⟨gi,_,_,gn⟩:=A.all;have w:=U.sl (e:=3) (size:=1) (sv:=kv) (vs:=(B.params++dw (B.aA.take k)).map aI) (n:=(B.params++dw (B.aA.take k)).length) (full:=true) 0;have d3:∀x∈dg B k,0<=x/\x<g.aQ:=λx N=>vA hR R N;have gq:(dg B k).length<=200:=by
    unfold dg;split;·rename_i t;rw[bf t];have:=(ej _ (acm t)).1;omega
    exact d2
   refine af ?_;refine Ru.nm λS2 M2 fl ds=>?_;refine Ru.bI ds (up (P:=λj=>(∀y(h:y<(dg B k).length),y<j->qL C gl B i k (dg B k)[y])->Ru ab _ S2 ([(ib,aN j)]++pk M2 [p1,p3,p4,p5,p6,p7,p9,eM,eS]) HC) (dg B k).length (λj hj F dv=>?_) 0 aa (λy _ hy=>by omega));subst fl;subst ds;refine Ru.loop ?_;refine af ?_;refine Ru.cond (λb4=>?_) (λb4=>?_)
   .have F:=F (j+1) aa aa;have b0:=d3 _ (acm b4);have I:jW g->qL C gl B i k (dg B k)[j]:=λm=>cv m k aa _ (acm b4);have d:qL C gl B i k (dg B k)[j]->∀y(h:y<(dg B k).length),y<j+1->qL C gl B i k (dg B k)[y]:=λhb y hy h=>by
     by_cases e:y=j;·subst e;exact hb
     exact dv y hy aa
    refine af ?_;refine RO.jk (aS.refl _) A (λq9 o9 aw E=>?_) (j:=j);generalize hz:(dg B k)[j]=x at*;obtain⟨x,rfl⟩:∃y:Nat,x=y:=⟨x.toNat,aa⟩;have fo:(gl.map aI)[0+x*1]?=some (aI (gl.getD x 0)):=by rw[show 0+x*1=x by omega,aiw,getElem?_pos gl x aa,bf aa];rfl
    have dx:=P.oE hR b0.1 b0.2;unfold qL at d I;rw[ahX]at dx d I;generalize gl.getD x 0=fr at*;have hQ:x<g.aQ.toNat:=aa;refine af ?_;refine RO.cZ U 2 (hv:=fo) ?_;refine af ?_;refine RO.bW (λb1=>?_) (λb1=>?_)
    .have b1:0<=fr:=b1;obtain⟨f,hf,rfl⟩:∃f:Nat,f<g.aj.length/\fr=f:=by
      rcases dx with e|e;·omega
      exact e
     rw[ahX]at d I;obtain⟨_,_,_,_,_,b6⟩:=O.ex;have hT:=O.len;have gx:=(b6 f hf).len;have gy:=b'.len;obtain⟨_,a',_,_⟩:=U.kj 3 rfl (b'.mem f aa);have fp:L[0+f*1]?=some (L.getD f .bM):=by rw[show 0+f*1=f by omega,getElem?_pos L f aa,bf aa]
     generalize L.getD f .bM=h5 at*;generalize hU:C.getD f []=row at*;have⟨gA,_,_,_⟩:=a'.all;refine af ?_;refine RO.bW (λb2=>?_) (λb2=>?_)
     .refine af ?_;refine RO.cZ U 4 (hv:=fp) ?_;refine af ?_;refine RO.iQ (aS.refl _) a' (λq9 o9 aw E=>?_) (j:=i);have fq:row.getD i false=row[i]:=bf aa _;rw[fq]at d I;generalize row[i]=rb at*;refine af ?_;refine RO.pj (λd7=>?_) (λd7=>?_)
      .refine af ?_;refine RO.jk (aS.refl _) A (λq9 o9 aw E=>?_) (j:=j);rw[hz]at E;refine af ?_;refine RO.cl (FG T w aa (λc1=>?_) (λc1=>?_));·refine af ?_;exact Ru.wk (F (d (.inr (.inr c1))))
       refine af ?_;exact Ru.aL (h2 _ U.gr λm=>by
        rcases I m with h8|⟨_,h8⟩|h8;·omega
        .simp[h8]at d7
        exact c1 h8)
      refine af ?_;exact Ru.wk (F (d (.inr (.inl ⟨aa,by simpa using d7⟩))))
     refine af ?_;refine RO.jk (aS.refl _) A (λq9 o9 aw E=>?_) (j:=j);rw[hz]at E;refine af ?_;refine RO.cl (FG T w aa (λc1=>?_) (λc1=>?_));·refine af ?_;exact Ru.wk (F (d (.inr (.inr c1))))
     refine af ?_;exact Ru.aL (h2 _ U.gr λm=>by
      rcases I m with h8|⟨h8,_⟩|h8;·omega
      .exact h8 aa
      exact c1 h8)
    have b1:¬0<=fr:=b1;refine af ?_;exact Ru.wk (F (d (.inl aa)))
   refine Ru.exitTo ?_;have S:∀y,y<k+1->∀x∈dg B y,qL C gl B i y x:=λy hy x N=>by
    by_cases e:y=k;·subst e;obtain⟨z,hz,rfl⟩:=ah0 N;exact dv z hz aa
    exact dr y aa x N
   refine af ?_;refine RO.bW (λc1=>?_) (λc1=>?_)
   .rw[(ah9 c1).symm,FW,<-ahD]at q;generalize B.params++dw (B.aA.take k)=l0 at*;refine af ?_;refine RO.bO U.gr ax (λq7 o7 c7 fs a1 f0 V d4=>?_) (j:=k);generalize N:B.aA[k]=x at*;obtain⟨f1,rfl,d5⟩:=a1;refine af ?_;refine RO.be (v:=aI x.to) ?_ (hc:=V 1 _ rfl);refine af ?_;refine Ru.cond (λg4=>?_) (λg4=>?_);·have g4:0<=x.to:=g4;rw[aG g4]at q;refine af ?_;refine RO.bO U.gr ax (λq7 o7 c7 fs a1 f0 V d4=>?_) (j:=k);rw[N]at a1;obtain⟨f1,rfl,d5⟩:=a1;refine af ?_;refine RO.be (v:=aI x.to) ?_ (hc:=V 1 _ rfl);refine RO.push U 0 (λw0 H9 v2 U=>?_) (ws:=[aI x.to]);have⟨hV,hW,hX,_⟩:=(U.sl (e:=3) (size:=1) (n:=l0.length+1) (full:=true) (sv:=v2) 0).all;refine af ?_;exact Ru.wk (q _ v2 S (by rw[ail,ahY];exact U))
    have g4:¬0<=x.to:=g4;rw[an g4,aiS]at q;refine af ?_;exact Ru.wk (q _ kv S U)
   rw[show B.aA.take (k+1)=B.aA.take k from by rw[aic aa,aic aa]]at q;refine af ?_;exact Ru.wk (q _ kv S U)
  refine Ru.exitTo ?_;refine af ?_;exact Ru.wk (ih _ (W λ_=>⟨by rw[u,cx];exact gL,by rw[u,cx];exact g0,by rw[u];exact λy hy x N=>dr y aa x N⟩) U.tail.tail)
 refine Ru.exitTo ?_;refine af ?_;exact Ru.aL (h1 _ U.gr ⟨a,aB,C,gl,Y.toFlI,bb,O,P,λx N=>ca x aa⟩)
end
end
end Go.al.R
end
