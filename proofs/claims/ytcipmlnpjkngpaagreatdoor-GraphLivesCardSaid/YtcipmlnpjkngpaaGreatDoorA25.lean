/- A part. No conditions. -/
import Derived.Test.YtcipmlnpjkngpaaGreatDoorA24
set_option linter.all false
set_option maxHeartbeats 16000000
open Int renaming ofNat->afq
noncomputable section
namespace Go.ak.R
section
variable{ac:Nat->aX}
theorem RO.Lw{H:ai}{c:Cx}{s:List SI}{L:Kn}{d:Option af}{l:List bu}{f:aK}{args:List aK}{fv:AV}{a:List AV}{re:List fU}(h:YF ac fv a H λr i=>(∀aa,Le (bj L d r) aa->dl aa i re=true)/\RO ac c l s (bj L d r) i)(j:aT L f=fv:=by exact cw)(b:fv.bq=true:=by first|rfl|assumption)(k:args.map (aT L)=a:=by rfl)(e:a.all AV.bq=true:=by repeat first|rfl|assumption|(refine ad ?_ ?_)):RO ac c (⟨d,.call f args,none,[],re⟩::l) s L H:=RO.D1 h j b k e
theorem yY{H:ai}{L:Kn}{aa:am AV}{p:af}{x:aK}{i:af}{o n:Nat}{vs:List AV}{re:List fU}(a:Le L aa)(b:aT L x=.aD i o)(c:lk L p=.agg vs)(hs:jO vs vs=true)(d:du H i o n=some vs)(e:dl aa H re=true):dl aa H (⟨p,.fL n x,none⟩::re)=true:=by simp only[dl,dc,bc,aE,a.gv b rfl,gz,d,aeT,a.get c rfl,fC,hs,e,agq]
theorem Sl.de{H:ai}{size n:Nat}{a:List AV}{v:AV}(h:Sl H size a n v):de v v=true:=by
 rcases h with⟨rfl,_⟩|⟨i,o,cap,ex,c,m,e,b,aM,fz,rfl,_⟩;·rfl
 simp[ak.de,af.fo]
theorem aad{n:List Nat}{a b:Int}{v:AV}(h:de v v=true):jO [.str n,aI a,aI b,v] [.str n,aI a,aI b,v]=true:=by simp only[jO,h,Bool.and_true];simp[de,jp,eU]
def dJ(B:G.dE)(k:Nat):List Int:=if k<B.aL.length then(B.aL.getD k default).args else iI B.aA
def oF(a:List (List Bool))(gl:List Int)(B:G.dE)(i k:Nat)(x:Int):Prop:=gl.getD x.toNat 0<0\/(gl.getD x.toNat 0≠(i:Int)/\(a.getD (gl.getD x.toNat 0).toNat []).getD i false=true)\/x∈B.i4++ez (B.aL.take k)
structure uh(g:G.aY)(aq:List (List Int))(dm:List (List Bool))(gl:List Int)(i:Nat):Prop where
 en:(be g i).aA.op=68->(aq.getD i []).length≠0/\(be g i).aA.args.length=(g.aj.getD (lN g ((aq.getD i []).getD ((aq.getD i []).length - 1) 0)).toNat default).i4.length
 rt:(be g i).aA.op=69->aq.getD i []=[]
 rd:∀k,k<=(be g i).aL.length->∀x∈dJ (be g i) k,oF dm gl (be g i) i k x
structure lO(g:G.aY):Prop where
 ex:∃come aq dm gl,jv g (-1) come aq/\(∀b,iH g (-1) come aq false b)/\qK g dm/\kJ g.aW.toNat g.i4.toNat gl (jK g g.aj.length)/\∀i,i<g.aj.length->come.getD i false=true->uh g aq dm gl i
structure E4(g:G.aY):Prop where
 ex:∃come aq oth dm gl,pG g (-1) come aq oth/\(∀b,iH g (-1) come aq oth b)/\(oth=false->qK g dm/\kJ g.aW.toNat g.i4.toNat gl (jK g g.aj.length))
theorem kJ.wF{g:G.aY}(b:eE g){gl:List Int}(h:kJ g.aW.toNat g.i4.toNat gl (jK g g.aj.length)){v:Int}(h0:0<=v)(h1:v<g.aW):gl.getD v.toNat 0= -1\/∃i:Nat,i<g.aj.length/\gl.getD v.toNat 0=i:=by
 have d:=b.p0;by_cases e:v<g.i4;·exact .inl (h.aM _ ab)
 have:=b.all v ab h1;rw[<-af4 (l:=g.aj),<-yW g _ (aeq _)]at this;obtain⟨p,a,rfl⟩:=aeK.1 this;refine .inr ⟨p.2,?_,h.bt p a⟩;obtain⟨i,hi,c⟩:=afO.1 a;rw[afR]at hi;obtain⟨x,_,rfl⟩:=aeK.1 c;exact hi
theorem kJ.eq{g:G.aY}(c:eE g){gl a:List Int}(h:kJ g.aW.toNat g.i4.toNat gl (jK g g.aj.length))(d:kJ g.aW.toNat g.i4.toNat a (jK g g.aj.length)){v:Int}(h0:0<=v)(h1:v<g.aW):gl.getD v.toNat 0=a.getD v.toNat 0:=by
 have e:=c.p0;by_cases f:v<g.i4;·rw[h.aM _ ab,d.aM _ ab]
 have:=c.all v ab h1;rw[<-af4 (l:=g.aj),<-yW g _ (aeq _)]at this;obtain⟨p,b,rfl⟩:=aeK.1 this;rw[h.bt p b,d.bt p b]
theorem si{g:G.aY}(c:eE g){B:G.dE}(d:B∈g.aj){k:Nat}{x:Int}(a:x∈dJ B k):0<=x/\x<g.aW:=by
 unfold dJ at a;split at a;·rename_i f;rw[bm f]at a;have:=(c.aL _ d _ (acI f)).r.iy x a;omega
 have b:=c.wG _ d;rcases aeu.1 a with a|a;·have:=b.iy x a;omega
 obtain⟨e,he,a⟩:=afO.1 a;obtain⟨y,h,rfl⟩:=aeB he;have:=(b.yS y h).iy x a;omega
theorem lO.rt{g:G.aY}(h:lO g)(m:eE g){b:List Bool}{aq:List (List Int)}{q:List (List Bool)}{gl:List Int}(u:jv g (-1) b aq)(n:qK g q)(o:kJ g.aW.toNat g.i4.toNat gl (jK g g.aj.length)){i:Nat}(hi:i<g.aj.length)(v:b.getD i false=true):uh g aq q gl i:=by
 have r:=m.sh;obtain⟨c1,o1,B,C,d,j,l,c,p⟩:=h.ex;obtain⟨w,y⟩:=(u.snd i v).comp r d j;obtain⟨h1,h2,h3⟩:=p i hi w;rw[y]at h1 h2;refine⟨h1,h2,λk z x s=>?_⟩;have a:=si m (B:=be g i) (by rw[be,bm hi];exact acI hi) s;have t:=h3 k z x s;unfold oF at t⊢;rw[o.eq m c a.1 a.2];rcases c.wF m a.1 a.2 with e|⟨f,A,e⟩;·exact .inl ab
 rw[e,aeA]at t⊢;rwa[n.eq r d j l A hi]
theorem E5:∀{l:List G.Edge},(∀e∈l,e.args.length<=12)->(l.flatMap (·.args)).length<=12*l.length|[],_=>by simp|a::l,h=>by have h1:=h a (acm ..);have h2:=E5 λe he=>h e (aen _ he);rw[afp,aex,aeJ];omega
abbrev ui(e f h i c d:af)(cap:Nat)(ex:Bool)(g:G.aY)(j:AV)(gl:List Int)(Fd k:List Th)(l b:List AV)(a:List Bool):List Th:=[tS 3 1 (gl.map aI) g.aW.toNat true (.slice h 0 g.aW.toNat g.aW.toNat true),tZ Fd,tS tu 1 l g.aj.length true (.slice i 0 g.aj.length cap ex),tB lG f [.slice c 0 g.aj.length g.aj.length true,.slice d 0 g.aj.length g.aj.length true,.bool false],tZ k,tS vT 1 b g.aj.length true (.slice d 0 g.aj.length g.aj.length true),tS 4 1 (a.map .bool) g.aj.length true (.slice c 0 g.aj.length g.aj.length true),tB cX e [.str g.i7,aI g.i4,aI g.aW,j]]
section
variable{g:G.aY}{H:ai}{cs:List AV}
theorem aae(T:Tb ac)(hg:dS H g cs)(hB:G.Sm g)(hR:eE g)(a2:g.aj.length<=40)(ea:g.aW<=6000){K:KT}(h1:∀J,aZ H J->lO g->K (.bool true) J)(h2:∀J,aZ H J->E4 g->¬lO g->K (.bool false) J):YN ac Up [.agg cs] H K:=by
 have f6:=hg.one;have ba:=hg;have hS:=hR.sh;obtain⟨vb,rfl,bH⟩:=hg;have dz:=bH;have⟨g6,_,_,g7⟩:=bH.all;have g8:=hS.ne;have g9:=hR.p0;have g':=hR.p1;refine YF.code T.V8 aC ?_;refine ah ?_;refine RO.cG (al.bY H) λH1 r U=>?_;refine ah ?_;refine RO.cr U 0 ?_;refine RO.cl (yV T (b8.fY U.gr ba) hB hS a2 (wo:= -1) λH2 qc Y n Fo a aq eb Z bb b7 hl=>?_);have U:=U.eK hl;refine RO.eR U λH3 L U=>?_;refine ah ?_;refine Ru.eh (λs=>?_) (λs=>?_);·refine ah ?_;exact Ru.aP (h2 _ U.gr ⟨a,aq,eb,[],[],Z,bb,λh9=>by rw[s]at h9;cases h9⟩ λm=>by obtain⟨b,o,o',r,q2,L⟩:=Z.EZ s;obtain⟨c1,o1,_,_,q4,q5,_⟩:=m.ex;exact L ((r.comp hS q4 q5).2.symm.trans (q2.comp hS q4 q5).2))
 subst s;refine ah ?_;refine RO.cr U 4 ?_;refine RO.cr U 4 ?_;refine RO.Lw (aac T (b8.fY U.gr ba) hB hS a2 λH4 h' N Fd C P b' hl=>⟨λaa ag=>?_,?_⟩);·obtain⟨_,hp⟩:=(U.eK hl).get 6 rfl;obtain⟨_,ec,_⟩:=dz;exact yY (i:=r) (o:=0) (vs:=[.str g.i7,aI g.i4,aI g.aW,vb]) ag (by(conv=>lhs;whnf)<;>rfl) (by(conv=>lhs;whnf)<;>rfl) (aad (Sl.de ec)) (tB.mL hp (m:=4) (by show 0+4<=4;omega)) rfl
 have U:=U.eK hl;obtain⟨qd,cap,ex,rfl⟩:=U.md 1 rfl ab;refine RO.cl (aab T (b8.fY U.gr ba) hB hR ea λH5 qg gl Q hl=>?_);have U:al H H5 (ui r L qg qd qc Y cap ex g vb gl Fd Fo N n a):=U.eK hl;refine ah ?_;have h2:=λJ hg=>h2 J hg ⟨a,aq,false,C,gl,Z,bb,λ_=>⟨P,Q⟩⟩;have ei:=Z.lc;have ha:=Z.lo;have hc:=b7.len;have hh:=Q.len;refine Ru.nm λS0 M ej hM=>?_;refine Ru.bM hM (up (P:=λi=>∀HX,(∀x,x<i->a.getD x false=true->uh g aq C gl x)->al H HX (ui r L qg qd qc Y cap ex g vb gl Fd Fo N n a)->Ru ac _ S0 ([(p6,aN i)]++pk M [p1,p3,p4,p5]) HX) g.aj.length (λi hi ih HX ca U=>?_) 0 ab _ (λx O=>by omega) U);subst ej;subst hM;refine Ru.loop ?_;refine ah ?_;refine RO.gR U 7 ?_;refine ah ?_;refine Ru.cond (λR=>?_) (λR=>?_)
 .have S:=acI R;have hk:=hB.bl _ S;have ek:=hB.st _ S;have cd:=hB.ed _ S;have hm:=hR.wG _ S;have u:be g i=g.aj[i]:=by rw[be,bm R]
  have ih:=ih (i+1) ab ab;have mZ:∀(l:List Bool)(k:Nat),l.length=g.aj.length->k<g.aj.length->(l.map AV.bool)[0+k*1]?=some (.bool (l.getD k false)):=λl k h1 h2=>by rw[show 0+k*1=k by omega,ae5,getElem?_pos l k ab,bm ab];rfl
  have X:(a.getD i false=true->uh g aq C gl i)->∀x,x<i+1->a.getD x false=true->uh g aq C gl x:=λhb x O=>by
   by_cases e:x=i;·subst e;exact hb
   exact ca x ab
  have cf:n[0+i*1]?=some (n.getD i .ct):=by rw[show 0+i*1=i by omega,getElem?_pos n i ab,bm ab]
  refine ah ?_;refine RO.dh U 6 (hv:=mZ a i ei R) ?_;refine ah ?_;refine Ru.eh (λs=>?_) (λs=>?_)
  .have s:a.getD i false=false:=by simpa using s
   refine Ru.exitTo ?_;refine ah ?_;exact Ru.wk (ih _ (X λh=>by rw[s]at h;cases h) U)
  have s:a.getD i false=true:=by simpa using s
  obtain⟨_,el⟩:=(Z.snd i s).ok hS;have f7:=Z.iF i s;have cn:=b7.mem i ab;have av:lO g->uh g aq C gl i:=λm=>m.rt hR Z.toFlI P Q R s;have bd:=λm=>(av m).en;have cp:=λm=>(av m).rt;have cv:=λm=>(av m).rd;clear av;simp only[u]at bd cp cv;generalize cx:aq.getD i []=o at*;generalize hn:n.getD i .ct=ov at*;obtain⟨_,v,_,_⟩:=U.mi 4 rfl cn;have⟨et,_,_,ho⟩:=v.all;refine ah ?_;refine RO.gR U 7 ?_;refine ah ?_;refine RO.bW U.gr bH (λq9 o9 ij aw bv hr hat hrd=>?_) (j:=i);have f8:=bv;have ew:fC ov ov=true:=Sl.bL v;generalize g.aj[i]=B at*;have f9:=bv.one;obtain⟨vp,D,jc,rfl,cy,ax,cR⟩:=bv;have d0:=cR;obtain⟨va,vk,vg,rfl,e0,ht,hv⟩:=cR;have⟨hw,_,_,hx⟩:=cy.all;have⟨hA,_,_,hC⟩:=ax.all;have⟨hD,_,_,hE⟩:=e0.all;refine ah ?_;refine RO.dh U 5 (hv:=cf) ?_;refine RO.dM U λH6 q7 U=>?_;refine RO.yJ U 0 (ws:=[vp,D,aU B.aA.op,va,.str B.aA.i7,vk,vg]) (λH7 U=>⟨λaa ag=>?_,?_⟩);·obtain⟨_,hp⟩:=U.get 6 rfl;obtain⟨_,e1⟩:=U.get 4 rfl;exact gh (i:=Y) (o:=0+i*1) (v:=ov) ag (by(conv=>lhs;whnf)<;>rfl) (by(conv=>lhs;whnf)<;>rfl) et ew (cI.I7 hp cf) (gh (re:=[]) (i:=L) (o:=1) (v:=.slice Y 0 g.aj.length g.aj.length true) ag (by(conv=>lhs;whnf)<;>rfl) (by(conv=>lhs;whnf)<;>rfl) rfl (by simp[fC,de,af.fo]) (tB.cell e1 rfl) rfl)
  have U:al H H7 (tB cL q7 [vp,D,aU B.aA.op,va,.str B.aA.i7,vk,vg]::ui r L qg qd qc Y cap ex g vb gl Fd Fo N n a):=U;refine RO.bw ?_;refine RO.nil ?_;refine Ru.seq ?_;have hF:=hB.nb;refine Ru.se (P:=λM J=>M=[(p1,.aD r 0),(p3,.aD L 0),(p4,.slice qd 0 g.aj.length cap ex),(p5,.slice qg 0 g.aW.toNat g.aW.toNat true),(p6,aN i),(p7,.aD q7 0)]/\(B.aA.op=68->o.length≠0/\B.aA.args.length=(g.aj.getD (lN g (o.getD (o.length - 1) 0)).toNat default).i4.length)/\(B.aA.op=69->o=[])/\al H J (tB cL q7 [vp,D,aU B.aA.op,va,.str B.aA.i7,vk,vg]::ui r L qg qd qc Y cap ex g vb gl Fd Fo N n a)) (λM H8⟨hM,g3,g5,U⟩=>?_) (λs' c=>?_);rotate_left
  .refine ah ?_;refine RO.bT (λt=>?_) (λt=>?_)
   .refine ah ?_;refine RO.bT (λd7=>?_) (λd7=>?_);·refine ah ?_;exact Ru.aP (h2 _ U.gr λm=>(bd m t).1 d7)
    have c9:o.length - 1<o.length:=ab;obtain⟨_,v,_,_⟩:=U.mi 5 rfl cn;refine ah ?_;refine RO.gR U 8 ?_;refine ah ?_;refine RO.gR U 8 ?_;refine ah ?_;refine RO.arith (v:=aN (o.length - 1)) ?_ (hv:=pj (k:=o.length) ab ab);refine ah ?_;refine RO.kZ (aZ.refl _) v (λq8 o8 hj E=>?_) (j:=o.length - 1);have c':=el _ (acI c9);have e2:o.getD (o.length - 1) 0=o[o.length - 1]:=bm c9 _;have p:=λm=>(bd m t).2;rw[e2]at c p;generalize o[o.length - 1]=x at*;obtain⟨x,rfl⟩:∃y:Nat,x=y:=⟨x.toNat,ab⟩;rw[lN,aeA]at c p;rw[aeA]at c';obtain⟨_,dm,hG⟩:=c';have hq:eT .quo 3 (x:Int) (.ofNat 2)=some (aN (x/2)):=by simp only[eT];rw[ap bK,show((x:Int).tdiv (afq 2))=((x/2:Nat):Int)from by rw[aev,Int.tdiv_eq_ediv_of_nonneg ab];simp,ma ab ab];rfl
    have b0:=hS.rg _ dm ((be g (x/2)).aA.go[2]) (acI _);have e3:(be g (x/2)).aA.go.getD 2 default=(be g (x/2)).aA.go[2]:=bm ab _;rw[e3]at c p;have e4:be g (x/2)=g.aj[x/2]:=by rw[be,bm dm]
    refine ah ?_;refine RO.arith ?_ (hv:=hq);refine ah ?_;refine RO.bW U.gr bH (λr o1 c1 e5 ay e6 hat hrd=>?_) (j:=x/2);rw[<-e4]at ay;obtain⟨hH,f',hI,rfl,_,_,hJ,hK,e7,rfl,_,_,a6⟩:=ay;have⟨gb,_,_,_⟩:=a6.all;refine ah ?_;refine RO.bk (v:=e7) ?_ (hc:=hat 6 _ rfl);refine ah ?_;refine RO.bW U.gr a6 (λq8 o8 c8 e8 e9 e' hat hrd=>?_) (j:=2);obtain⟨ve,rfl,_⟩:=e9;generalize hL:(be g (x/2)).aA.go[2].block=jb at*;obtain⟨jb,rfl⟩:∃y:Nat,jb=y:=⟨jb.toNat,ab⟩;rw[aeA]at c p;have fa:jb<g.aj.length:=ab;refine ah ?_;refine RO.bW U.gr bH (λr o1 c1 e5 ay e6 hat hrd=>?_) (j:=jb);rw[bm fa]at c p;obtain⟨hN,gd,hO,rfl,d1,_⟩:=ay;have⟨gg,_,_,gn⟩:=d1.all;refine ah ?_;refine RO.bT (λa3=>?_) (λa3=>?_);·refine ah ?_;exact Ru.aP (h2 _ U.gr λm=>a3 (p m))
    refine ah ?_;refine RO.bT (λa4=>absurd (t.symm.trans a4) bK) (λa4=>?_);refine ah ?_;exact c _ _ _ ⟨rfl,λ_=>⟨d7,afP.1 a3⟩,λh=>absurd h a4,U⟩ eg
   refine ah ?_;refine RO.bT (λa4=>?_) (λa4=>?_)
   .refine ah ?_;refine Ru.cond (λa5=>?_) (λa5=>?_);·refine ah ?_;exact Ru.aP (h2 _ U.gr λm=>by simp[cp m a4]at a5)
    refine ah ?_;exact c _ _ _ ⟨rfl,λh=>absurd h t,λ_=>aeQ ab,U⟩ eg
   refine ah ?_;exact c _ _ _ ⟨rfl,λh=>absurd h t,λh=>absurd h a4,U⟩ eg
  subst hM;clear hat hrd;have d2:∀k,(B.i4++ez (B.aL.take k)).length<=100:=λk=>by have:=E1 (B.aL.take k);rw[aeP]at this;rw[aex];omega
  have d3:(iI B.aA).length<=200:=by have:=E5 cd;rw[iI,aex];omega
  refine ah ?_;refine RO.lF U 1 λH9 hP U=>?_;have⟨hQ,_,_,_⟩:=(U.sl 0 rfl).all;refine ah ?_;refine RO.me U 0 (U.gr.sl cy) (λHA fb U=>?_) (h1:=mJ _);have U:al H HA (tS 3 1 ((B.i4++ez (B.aL.take 0)).map aI) (B.i4++ez (B.aL.take 0)).length true fb::tB cL q7 [vp,D,aU B.aA.op,va,.str B.aA.i7,vk,vg]::ui r L qg qd qc Y cap ex g vb gl Fd Fo N n a):=by rw[afE,show ez []=[]from rfl,afu];rw[aeL]at U;exact U
  have⟨hU,_,_,_⟩:=(U.sl 0 rfl).all;refine ah ?_;refine Ru.nm λS1 M1 fd dr=>?_;refine Ru.bM dr (up (P:=λk=>∀HX kv,(∀y,y<k->∀x∈dJ B y,oF C gl B i y x)->al H HX (tS 3 1 ((B.i4++ez (B.aL.take k)).map aI) (B.i4++ez (B.aL.take k)).length true kv::tB cL q7 [vp,D,aU B.aA.op,va,.str B.aA.i7,vk,vg]::ui r L qg qd qc Y cap ex g vb gl Fd Fo N n a)->Ru ac _ S1 ([(gf,aN k),(p9,kv)]++pk M1 [p1,p3,p4,p5,p6,p7]) HX) (B.aL.length+1) (λk it q HX kv ds U=>?_) 0 ab _ _ (λy hy=>by omega) U);subst fd;subst dr;have hV:=d2 k;have w:=U.sl 0 rfl;have⟨gq,_,_,_⟩:=w.all;refine Ru.loop ?_;refine ah ?_;refine Ru.cond (λfe=>?_) (λfe=>?_)
  .have q:=q (k+1) ab ab;refine ah ?_;refine RO.cr U 1 (m:=5) (o:=2) ?_;refine RO.cl (E2 T (b8.tn U.gr d0) ⟨ab,ab⟩ cd λHB rv hl=>?_);have U:=U.eK hl;have⟨gx,_,_,gy⟩:=(U.sl 0 rfl).all;refine RO.bw ?_;refine RO.nil ?_;refine Ru.seq ?_;refine Ru.se (P:=λM J=>∃b3,M=[(fJ,b3),(p1,.aD r 0),(p3,.aD L 0),(p4,.slice qd 0 g.aj.length cap ex),(p5,.slice qg 0 g.aW.toNat g.aW.toNat true),(p6,aN i),(p7,.aD q7 0),(p9,kv),(gf,aN k)]/\fx J (dJ B k) b3/\al H J (tS 3 1 ((B.i4++ez (B.aL.take k)).map aI) (B.i4++ez (B.aL.take k)).length true kv::tB cL q7 [vp,D,aU B.aA.op,va,.str B.aA.i7,vk,vg]::ui r L qg qd qc Y cap ex g vb gl Fd Fo N n a)) (λM HC⟨b3,hM,A,U⟩=>?_) (λs' c=>?_);rotate_left
   .refine ah ?_;refine Ru.cond (λt=>?_) (λt=>?_);·refine ah ?_;refine RO.bW U.gr ax (λq8 o8 c8 e8 fl e' hat hrd=>?_) (j:=k);obtain⟨fp,rfl,a8⟩:=fl;have⟨hW,_,_,_⟩:=a8.all;refine ah ?_;exact c _ _ _ ⟨fp,rfl,by rw[dJ,aH t,bm t];exact U.gr.sl a8,U.tail⟩ eg
    refine ah ?_;exact c _ _ _ ⟨rv,rfl,by rw[dJ,ap t];exact U.sl 0 rfl,U.tail⟩ eg
   subst hM;have⟨gA,_,_,gH⟩:=A.all;have w:=U.sl 0 rfl;have d4:∀x∈dJ B k,0<=x/\x<g.aW:=λx O=>si hR S O;have gL:(dJ B k).length<=200:=by
    unfold dJ;split;·rename_i t;rw[bm t];have:=(ek _ (acI t)).1;omega
    exact d3
   refine ah ?_;refine Ru.nm λS2 M2 fq dv=>?_;refine Ru.bM dv (up (P:=λj=>(∀y(h:y<(dJ B k).length),y<j->oF C gl B i k (dJ B k)[y])->Ru ac _ S2 ([(iS,aN j)]++pk M2 [p1,p3,p4,p5,p6,p7,p9,gf,fJ]) HC) (dJ B k).length (λj hj F dx=>?_) 0 ab (λy _ hy=>by omega));subst fq;subst dv;refine Ru.loop ?_;refine ah ?_;refine Ru.cond (λb4=>?_) (λb4=>?_)
   .have F:=F (j+1) ab ab;have b0:=d4 _ (acI b4);have I:lO g->oF C gl B i k (dJ B k)[j]:=λm=>cv m k ab _ (acI b4);have d:oF C gl B i k (dJ B k)[j]->∀y(h:y<(dJ B k).length),y<j+1->oF C gl B i k (dJ B k)[y]:=λhb y hy h=>by
     by_cases e:y=j;·subst e;exact hb
     exact dx y hy ab
    refine ah ?_;refine RO.kZ (aZ.refl _) A (λq9 o9 aw E=>?_) (j:=j);generalize hz:(dJ B k)[j]=x at*;obtain⟨x,rfl⟩:∃y:Nat,x=y:=⟨x.toNat,ab⟩;have fs:(gl.map aI)[0+x*1]?=some (aI (gl.getD x 0)):=by rw[show 0+x*1=x by omega,ae5,getElem?_pos gl x ab,bm ab];rfl
    have dy:=Q.wF hR b0.1 b0.2;unfold oF at d I;rw[aeA]at dy d I;generalize gl.getD x 0=fr at*;have hX:x<g.aW.toNat:=ab;refine ah ?_;refine RO.dh U 2 (hv:=fs) ?_;refine ah ?_;refine RO.bT (λb1=>?_) (λb1=>?_)
    .have b1:0<=fr:=b1;obtain⟨f,hf,rfl⟩:∃f:Nat,f<g.aj.length/\fr=f:=by
      rcases dy with e|e;·omega
      exact e
     rw[aeA]at d I;obtain⟨_,_,_,_,_,b6⟩:=P.ex;have hY:=P.len;have g0:=(b6 f hf).len;have g1:=b'.len;obtain⟨_,a',_,_⟩:=U.mi 3 rfl (b'.mem f ab);have f0:N[0+f*1]?=some (N.getD f .ct):=by rw[show 0+f*1=f by omega,getElem?_pos N f ab,bm ab]
     generalize N.getD f .ct=iv at*;generalize h4:C.getD f []=row at*;have⟨g2,_,_,_⟩:=a'.all;refine ah ?_;refine RO.bT (λb2=>?_) (λb2=>?_)
     .refine ah ?_;refine RO.dh U 4 (hv:=f0) ?_;refine ah ?_;refine RO.iE (aZ.refl _) a' (λq9 o9 aw E=>?_) (j:=i);have f1:row.getD i false=row[i]:=bm ab _;rw[f1]at d I;generalize row[i]=rb at*;refine ah ?_;refine RO.nV (λd'=>?_) (λd'=>?_)
      .refine ah ?_;refine RO.kZ (aZ.refl _) A (λq9 o9 aw E=>?_) (j:=j);rw[hz]at E;refine ah ?_;refine RO.cl (K9 T w ab (λc1=>?_) (λc1=>?_));·refine ah ?_;exact Ru.wk (F (d (.inr (.inr c1))))
       refine ah ?_;exact Ru.aP (h2 _ U.gr λm=>by
        rcases I m with h8|⟨_,h8⟩|h8;·omega
        .simp[h8]at d'
        exact c1 h8)
      refine ah ?_;exact Ru.wk (F (d (.inr (.inl ⟨ab,by simpa using d'⟩))))
     refine ah ?_;refine RO.kZ (aZ.refl _) A (λq9 o9 aw E=>?_) (j:=j);rw[hz]at E;refine ah ?_;refine RO.cl (K9 T w ab (λc1=>?_) (λc1=>?_));·refine ah ?_;exact Ru.wk (F (d (.inr (.inr c1))))
     refine ah ?_;exact Ru.aP (h2 _ U.gr λm=>by
      rcases I m with h8|⟨h8,_⟩|h8;·omega
      .exact h8 ab
      exact c1 h8)
    have b1:¬0<=fr:=b1;refine ah ?_;exact Ru.wk (F (d (.inl ab)))
   refine Ru.exitTo ?_;have V:∀y,y<k+1->∀x∈dJ B y,oF C gl B i y x:=λy hy x O=>by
    by_cases e:y=k;·subst e;obtain⟨z,hz,rfl⟩:=aeB O;exact dx z hz ab
    exact ds y ab x O
   refine ah ?_;refine RO.bT (λc1=>?_) (λc1=>?_)
   .rw[(aeO c1).symm,EW,<-aeC]at q;generalize B.i4++ez (B.aL.take k)=l0 at*;refine ah ?_;refine RO.bW U.gr ax (λq7 o7 c7 f2 a1 f3 W d5=>?_) (j:=k);generalize O:B.aL[k]=x at*;obtain⟨f4,rfl,d6⟩:=a1;refine ah ?_;refine RO.bk (v:=aI x.to) ?_ (hc:=W 1 _ rfl);refine ah ?_;refine Ru.cond (λg4=>?_) (λg4=>?_);·have g4:0<=x.to:=g4;rw[aH g4]at q;refine ah ?_;refine RO.bW U.gr ax (λq7 o7 c7 f2 a1 f3 W d5=>?_) (j:=k);rw[O]at a1;obtain⟨f4,rfl,d6⟩:=a1;refine ah ?_;refine RO.bk (v:=aI x.to) ?_ (hc:=W 1 _ rfl);refine RO.push U 0 (λw0 H9 v2 U=>?_) (ws:=[aI x.to]);have⟨h5,h6,h7,_⟩:=(U.sl 0 rfl).all;refine ah ?_;exact Ru.wk (q _ v2 V (by rw[aeZ,aex];exact U))
    have g4:¬0<=x.to:=g4;rw[ap g4,afu]at q;refine ah ?_;exact Ru.wk (q _ kv V U)
   rw[show B.aL.take (k+1)=B.aL.take k from by rw[aeI ab,aeI ab]]at q;refine ah ?_;exact Ru.wk (q _ kv V U)
  refine Ru.exitTo ?_;refine ah ?_;exact Ru.wk (ih _ (X λ_=>⟨by rw[u,cx];exact g3,by rw[u,cx];exact g5,by rw[u];exact λy hy x O=>ds y ab x O⟩) U.tail.tail)
 refine Ru.exitTo ?_;refine ah ?_;exact Ru.aP (h1 _ U.gr ⟨a,aq,C,gl,Z.toFlI,bb,P,Q,λx O=>ca x ab⟩)
end
end
end Go.ak.R
end
