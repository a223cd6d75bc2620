/- A part of the proof. No conditions. -/
import Derived.Test.YtjhkgigolpfcfaaGreatDoorA22
set_option linter.all false
set_option maxHeartbeats 16000000
open List renaming mem_cons_of_mem->aey,mem_cons_self->aeU,length_cons->akA,length_take->akF
open Nat renaming le_of_ble_eq_true->akc
open Int renaming ofNat->ak1
noncomputable section
namespace Go.am.R
section
variable{ac:Nat->aG}
theorem RO.Qi{H:ai}{c:Cx}{s:List SI}{L:Kn}{d:Option ab}{l:List be}{f:aJ}{args:List aJ}{fv:AV}{a:List AV}{re:List jo}(h:YF ac fv a H λr g=>(∀aa,Le (bC L d r) aa->fG aa g re=true)/\RO ac c l s (bC L d r) g)(i:bf L f=fv:=by exact cw)(b:fv.bB=true:=by first|rfl|assumption)(j:args.map (bf L)=a:=by rfl)(e:a.all AV.bB=true:=by repeat first|rfl|assumption|(refine ad ?_ ?_)):RO ac c (⟨d,.call f args,none,[],re⟩::l) s L H:=RO.HT h i b j e
theorem Qj{H:ai}{L:Kn}{aa:ap AV}{p:ab}{x:aJ}{i:ab}{o n:Nat}{vs:List AV}{re:List jo}(a:Le L aa)(b:bf L x=.az i o)(c:lk L p=.agg vs)(hs:pg vs vs=true)(d:fE H i o n=some vs)(e:fG aa H re=true):fG aa H (⟨p,.gw n x,none⟩::re)=true:=by simp only[fG,fF,bq,aE,a.gv b rfl,jp,d,akt,a.get c rfl,iy,hs,e,alK]
theorem Sl.gz{H:ai}{size n:Nat}{a:List AV}{v:AV}(h:Sl H size a n v):gz v v=true:=by
 rcases h with⟨rfl,_⟩|⟨i,o,cap,ex,c,m,e,b,aM,fz,rfl,_⟩;·rfl
 simp[am.gz,ab.ip]
theorem afO{n:List Nat}{a b:Int}{v:AV}(h:gz v v=true):pg [.str n,aI a,aI b,v] [.str n,aI a,aI b,v]=true:=by simp only[pg,h,Bool.and_true];simp[gz,qv,fQ]
def kU(B:G.gV)(k:Nat):List Int:=if k<B.aD.length then(B.aD.getD k default).args else ui B.aA
def wZ(a:List (List Bool))(gl:List Int)(B:G.gV)(i k:Nat)(x:Int):Prop:=gl.getD x.toNat 0<0\/(gl.getD x.toNat 0≠(i:Int)/\(a.getD (gl.getD x.toNat 0).toNat []).getD i false=true)\/x∈B.params++eU (B.aD.take k)
structure C1(g:G.bu)(aC:List (List Int))(dm:List (List Bool))(gl:List Int)(i:Nat):Prop where
 en:(aH g i).aA.op=68->(aC.getD i []).length≠0/\(aH g i).aA.args.length=(g.al.getD (ru g ((aC.getD i []).getD ((aC.getD i []).length - 1) 0)).toNat default).params.length
 rt:(aH g i).aA.op=69->aC.getD i []=[]
 rd:∀k,k<=(aH g i).aD.length->∀x∈kU (aH g i) k,wZ dm gl (aH g i) i k x
structure JT(g:G.bu):Prop where
 ex:∃come aC dm gl,lw g (-1) come aC/\(∀b,oF g (-1) come aC false b)/\JS g dm/\sH g.bp.toNat g.params.toNat gl (pd g g.al.length)/\∀i,i<g.al.length->come.getD i false=true->C1 g aC dm gl i
structure IS(g:G.bu):Prop where
 ex:∃come aC oth dm gl,fN g (-1) come aC oth/\(∀b,oF g (-1) come aC oth b)/\(oth=false->JS g dm/\sH g.bp.toNat g.params.toNat gl (pd g g.al.length))
theorem sH.qA{g:G.bu}(b:sD g){gl:List Int}(h:sH g.bp.toNat g.params.toNat gl (pd g g.al.length)){v:Int}(h0:0<=v)(h1:v<g.bp):gl.getD v.toNat 0= -1\/∃i:Nat,i<g.al.length/\gl.getD v.toNat 0=i:=by
 have d:=b.p0;by_cases e:v<g.params;·exact .inl (h.aM _ af)
 have:=b.all v af h1;rw[<-ak7 (l:=g.al),<-Fk g _ (afb _)]at this;obtain⟨p,a,rfl⟩:=akk.1 this;refine .inr ⟨p.2,?_,h.bH p a⟩;obtain⟨i,hi,c⟩:=akZ.1 a;rw[ak3]at hi;obtain⟨x,_,rfl⟩:=akk.1 c;exact hi
theorem sH.eq{g:G.bu}(c:sD g){gl a:List Int}(h:sH g.bp.toNat g.params.toNat gl (pd g g.al.length))(d:sH g.bp.toNat g.params.toNat a (pd g g.al.length)){v:Int}(h0:0<=v)(h1:v<g.bp):gl.getD v.toNat 0=a.getD v.toNat 0:=by
 have e:=c.p0;by_cases f:v<g.params;·rw[h.aM _ af,d.aM _ af]
 have:=c.all v af h1;rw[<-ak7 (l:=g.al),<-Fk g _ (afb _)]at this;obtain⟨p,b,rfl⟩:=akk.1 this;rw[h.bH p b,d.bH p b]
theorem sr{g:G.bu}(c:sD g){B:G.gV}(d:B∈g.al){k:Nat}{x:Int}(a:x∈kU B k):0<=x/\x<g.bp:=by
 unfold kU at a;split at a;·rename_i f;rw[bF f]at a;have:=(c.aD _ d _ (agB f)).r.pF x a;omega
 have b:=c.CD _ d;rcases ahp.1 a with a|a;·have:=b.pF x a;omega
 obtain⟨e,he,a⟩:=akZ.1 a;obtain⟨y,h,rfl⟩:=aka he;have:=(b.E0 y h).pF x a;omega
theorem JT.rt{g:G.bu}(h:JT g)(m:sD g){b:List Bool}{aC:List (List Int)}{q:List (List Bool)}{gl:List Int}(u:lw g (-1) b aC)(n:JS g q)(o:sH g.bp.toNat g.params.toNat gl (pd g g.al.length)){i:Nat}(hi:i<g.al.length)(v:b.getD i false=true):C1 g aC q gl i:=by
 have r:=m.sh;obtain⟨c1,o1,z,A,d,j,l,c,p⟩:=h.ex;obtain⟨e1,e2⟩:=(u.snd i v).comp r d j;obtain⟨h1,h2,h3⟩:=p i hi e1;rw[e2]at h1 h2;refine⟨h1,h2,λk w x s=>?_⟩;have a:=sr m (B:=aH g i) (by rw[aH,bF hi];exact agB hi) s;have t:=h3 k w x s;unfold wZ at t⊢;rw[o.eq m c a.1 a.2];rcases c.qA m a.1 a.2 with e|⟨f,y,e⟩;·exact .inl af
 rw[e,aj3]at t⊢;rwa[n.eq r d j l y hi]
theorem Qk:∀{l:List G.Edge},(∀e∈l,e.args.length<=12)->(l.flatMap (·.args)).length<=12*l.length|[],_=>by simp|a::l,h=>by have h1:=h a (aeU ..);have h2:=Qk λe he=>h e (aey _ he);rw[alp,aj8,akA];omega
abbrev yZ(e f h i c d:ab)(cap:Nat)(ex:Bool)(g:G.bu)(j:AV)(gl:List Int)(Fd k:List Th)(l b:List AV)(a:List Bool):List Th:=[tS 3 1 (gl.map aI) g.bp.toNat true (.slice h 0 g.bp.toNat g.bp.toNat true),tZ Fd,tS 61 1 l g.al.length true (.slice i 0 g.al.length cap ex),tB Ap f [.slice c 0 g.al.length g.al.length true,.slice d 0 g.al.length g.al.length true,.bool false],tZ k,tS Il 1 b g.al.length true (.slice d 0 g.al.length g.al.length true),tS 4 1 (a.map .bool) g.al.length true (.slice c 0 g.al.length g.al.length true),tB fI e [.str g.name,aI g.params,aI g.bp,j]]
section
variable{g:G.bu}{H:ai}{cs:List AV}
theorem afP(T:Tb ac)(hg:iG H g cs)(hB:G.Sm g)(hR:sD g)(a1:g.al.length<=30)(d3:g.bp<=6000){K:KT}(h1:∀J,bm H J->JT g->K (.bool true) J)(h2:∀J,bm H J->IS g->¬JT g->K (.bool false) J):YN ac Wu [.agg cs] H K:=by
 have fp:=hg.one;have a6:=hg;have hS:=hR.sh;obtain⟨vb,rfl,cA⟩:=hg;have c':=cA;have⟨gA,_,_,gB⟩:=cA.all;have gH:=hS.ne;have gL:=hR.p0;have gQ:=hR.p1;refine YF.code T.abe aB ?_;refine ah ?_;refine RO.dL (aj.dc H) λH1 r U=>?_;refine ah ?_;refine RO.eQ U 0 ?_;refine RO.cl (JQ T (dQ.nM U.gr a6) hB hS a1 (wo:= -1) λH2 qc Y n Fo a aC d4 Z a8 bv hl=>?_);have U:=U.fC hl;refine RO.fx U λH3 L U=>?_;refine ah ?_;refine Ru.kN (λs=>?_) (λs=>?_);·refine ah ?_;exact Ru.aV (h2 _ U.gr ⟨a,aC,d4,[],[],Z,a8,λh9=>by rw[s]at h9;cases h9⟩ λm=>by obtain⟨b,o,o',r,q2,L⟩:=Z.FA s;obtain⟨c1,o1,_,_,q4,q5,_⟩:=m.ex;exact L ((r.comp hS q4 q5).2.symm.trans (q2.comp hS q4 q5).2))
 subst s;refine ah ?_;refine RO.eQ U 4 ?_;refine RO.eQ U 4 ?_;refine RO.Qi (afN T (dQ.nM U.gr a6) hB hS a1 λH4 gn N Fd C P b0 hl=>⟨λaa ag=>?_,?_⟩);·obtain⟨_,hp⟩:=(U.fC hl).get 6 rfl;obtain⟨_,d5,_⟩:=c';exact Qj (i:=r) (o:=0) (vs:=[.str g.name,aI g.params,aI g.bp,vb]) ag (by(conv=>lhs;whnf)<;>rfl) (by(conv=>lhs;whnf)<;>rfl) (afO (Sl.gz d5)) (tB.qQ hp (m:=4) (by show 0+4<=4;omega)) rfl
 have U:=U.fC hl;obtain⟨qd,cap,ex,rfl⟩:=U.uT (e:=61) (size:=1) (n:=g.al.length) (full:=true) (sv:=gn) 1 rfl af;refine RO.cl (afM T (dQ.nM U.gr a6) hB hR d3 λH5 qg gl Q hl=>?_);have U:aj H H5 (yZ r L qg qd qc Y cap ex g vb gl Fd Fo N n a):=U.fC hl;refine ah ?_;have h2:=λJ hg=>h2 J hg ⟨a,aC,false,C,gl,Z,a8,λ_=>⟨P,Q⟩⟩;have d6:=Z.lc;have gY:=Z.lo;have g0:=bv.len;have g1:=Q.len;refine Ru.nm λS0 M d7 hM=>?_;refine Ru.cC hM (up (P:=λi=>∀HX,(∀x,x<i->a.getD x false=true->C1 g aC C gl x)->aj H HX (yZ r L qg qd qc Y cap ex g vb gl Fd Fo N n a)->Ru ac _ S0 ([(p6,aN i)]++pk M [p1,p3,p4,p5]) HX) g.al.length (λi hi ih HX b3 U=>?_) 0 af _ (λx O=>by omega) U);subst d7;subst hM;refine Ru.loop ?_;refine ah ?_;refine RO.gU U 7 ?_;refine ah ?_;refine Ru.cond (λR=>?_) (λR=>?_)
 .have S:=agB R;have g2:=hB.bl _ S;have d8:=hB.st _ S;have b4:=hB.ed _ S;have g3:=hR.CD _ S;have u:aH g i=g.al[i]:=by rw[aH,bF R]
  have ih:=ih (i+1) af af;have iD:∀(l:List Bool)(k:Nat),l.length=g.al.length->k<g.al.length->(l.map AV.bool)[0+k*1]?=some (.bool (l.getD k false)):=λl k h1 h2=>by rw[show 0+k*1=k by omega,aks,getElem?_pos l k af,bF af];rfl
  have X:(a.getD i false=true->C1 g aC C gl i)->∀x,x<i+1->a.getD x false=true->C1 g aC C gl x:=λhb x O=>by
   by_cases e:x=i;·subst e;exact hb
   exact b3 x af
  have b5:n[0+i*1]?=some (n.getD i .co):=by rw[show 0+i*1=i by omega,getElem?_pos n i af,bF af]
  refine ah ?_;refine RO.fD U 6 (hv:=iD a i d6 R) ?_;refine ah ?_;refine Ru.kN (λs=>?_) (λs=>?_)
  .have s:a.getD i false=false:=by simpa using s
   refine Ru.exitTo ?_;refine ah ?_;exact Ru.wk (ih _ (X λh=>by rw[s]at h;cases h) U)
  have s:a.getD i false=true:=by simpa using s
  obtain⟨_,d'⟩:=(Z.snd i s).ok hS;have fq:=Z.jx i s;have b6:=bv.mem i af;have av:JT g->C1 g aC C gl i:=λm=>m.rt hR Z.toFlI P Q R s;have a9:=λm=>(av m).en;have b':=λm=>(av m).rt;have ca:=λm=>(av m).rd;clear av;simp only[u]at a9 b' ca;generalize cd:aC.getD i []=o at*;generalize g5:n.getD i .co=ov at*;obtain⟨_,v,_,_⟩:=U.mf 4 rfl b6;have⟨ea,_,_,g6⟩:=v.all;refine ah ?_;refine RO.gU U 7 ?_;refine ah ?_;refine RO.cZ U.gr cA (λq9 o9 hO aw a' g7 hat hrd=>?_) (j:=i);have fs:=a';have eb:iy ov ov=true:=Sl.bX v;generalize g.al[i]=B at*;have f0:=a'.one;obtain⟨vp,D,jc,rfl,cf,ax,cn⟩:=a';have dm:=cn;obtain⟨va,vk,vg,rfl,ec,g8,g9⟩:=cn;have⟨g',_,_,ha⟩:=cf.all;have⟨hc,_,_,hh⟩:=ax.all;have⟨hk,_,_,hm⟩:=ec.all;refine ah ?_;refine RO.fD U 5 (hv:=b5) ?_;refine RO.gI U λH6 q7 U=>?_;refine RO.Ja U 0 (ws:=[vp,D,aU B.aA.op,va,.str B.aA.name,vk,vg]) (λH7 U=>⟨λaa ag=>?_,?_⟩);·obtain⟨_,hp⟩:=U.get 6 rfl;obtain⟨_,ei⟩:=U.get 4 rfl;exact il (i:=Y) (o:=0+i*1) (v:=ov) ag (by(conv=>lhs;whnf)<;>rfl) (by(conv=>lhs;whnf)<;>rfl) ea eb (dU.NA hp b5) (il (re:=[]) (i:=L) (o:=1) (v:=.slice Y 0 g.al.length g.al.length true) ag (by(conv=>lhs;whnf)<;>rfl) (by(conv=>lhs;whnf)<;>rfl) rfl (by simp[iy,gz,ab.ip]) (tB.cell ei rfl) rfl)
  have U:aj H H7 (tB dW q7 [vp,D,aU B.aA.op,va,.str B.aA.name,vk,vg]::yZ r L qg qd qc Y cap ex g vb gl Fd Fo N n a):=U;refine RO.bg ?_;refine RO.nil ?_;refine Ru.seq ?_;have hn:=hB.nb;refine Ru.wP (P:=λM J=>M=[(p1,.az r 0),(p3,.az L 0),(p4,.slice qd 0 g.al.length cap ex),(p5,.slice qg 0 g.bp.toNat g.bp.toNat true),(p6,aN i),(p7,.az q7 0)]/\(B.aA.op=68->o.length≠0/\B.aA.args.length=(g.al.getD (ru g (o.getD (o.length - 1) 0)).toNat default).params.length)/\(B.aA.op=69->o=[])/\aj H J (tB dW q7 [vp,D,aU B.aA.op,va,.str B.aA.name,vk,vg]::yZ r L qg qd qc Y cap ex g vb gl Fd Fo N n a)) (λM H8⟨hM,gq,gx,U⟩=>?_) (λs' c=>?_);rotate_left
  .refine ah ?_;refine RO.de (λt=>?_) (λt=>?_)
   .refine ah ?_;refine RO.de (λd0=>?_) (λd0=>?_);·refine ah ?_;exact Ru.aV (h2 _ U.gr λm=>(a9 m t).1 d0)
    have cp:o.length - 1<o.length:=af;obtain⟨_,v,_,_⟩:=U.mf 5 rfl b6;refine ah ?_;refine RO.gU U 8 ?_;refine ah ?_;refine RO.gU U 8 ?_;refine ah ?_;refine RO.arith (v:=aN (o.length - 1)) ?_ (hv:=px (k:=o.length) af af);refine ah ?_;refine RO.kz (bm.refl _) v (λq8 o8 hj E=>?_) (j:=o.length - 1);have cv:=d' _ (agB cp);have ej:o.getD (o.length - 1) 0=o[o.length - 1]:=bF cp _;have p:=λm=>(a9 m t).2;rw[ej]at c p;generalize o[o.length - 1]=x at*;obtain⟨x,rfl⟩:∃y:Nat,x=y:=⟨x.toNat,af⟩;rw[ru,aj3]at c p;rw[aj3]at cv;obtain⟨_,cx,ho⟩:=cv;have hq:iK .quo 3 (x:Int) (.ofNat 2)=some (aN (x/2)):=by simp only[iK];rw[aq bA,show((x:Int).tdiv (ak1 2))=((x/2:Nat):Int)from by rw[aj5,Int.tdiv_eq_ediv_of_nonneg af];simp,pY af af];rfl
    have ba:=hS.rg _ cx ((aH g (x/2)).aA.go[2]) (agB _);have ek:(aH g (x/2)).aA.go.getD 2 default=(aH g (x/2)).aA.go[2]:=bF af _;rw[ek]at c p;have el:aH g (x/2)=g.al[x/2]:=by rw[aH,bF cx]
    refine ah ?_;refine RO.arith ?_ (hv:=hq);refine ah ?_;refine RO.cZ U.gr cA (λr o1 c1 et ay ew hat hrd=>?_) (j:=x/2);rw[<-el]at ay;obtain⟨hr,f1,ht,rfl,_,_,hv,hw,eY,rfl,_,_,a2⟩:=ay;have⟨f2,_,_,_⟩:=a2.all;refine ah ?_;refine RO.aW (v:=eY) ?_ (hc:=hat 6 _ rfl);refine ah ?_;refine RO.cZ U.gr a2 (λq8 o8 gy e0 e1 e2 hat hrd=>?_) (j:=2);obtain⟨ve,rfl,_⟩:=e1;generalize hx:(aH g (x/2)).aA.go[2].block=jb at*;obtain⟨jb,rfl⟩:∃y:Nat,jb=y:=⟨jb.toNat,af⟩;rw[aj3]at c p;have e3:jb<g.al.length:=af;refine ah ?_;refine RO.cZ U.gr cA (λr o1 c1 et ay ew hat hrd=>?_) (j:=jb);rw[bF e3]at c p;obtain⟨hA,f3,hC,rfl,dr,_⟩:=ay;have⟨f4,_,_,f5⟩:=dr.all;refine ah ?_;refine RO.de (λd1=>?_) (λd1=>?_);·refine ah ?_;exact Ru.aV (h2 _ U.gr λm=>d1 (p m))
    refine ah ?_;refine RO.de (λa5=>absurd (t.symm.trans a5) bA) (λa5=>?_);refine ah ?_;exact c _ _ _ ⟨rfl,λ_=>⟨d0,Classical.not_not.1 d1⟩,λh=>absurd h a5,U⟩ fB
   refine ah ?_;refine RO.de (λa5=>?_) (λa5=>?_)
   .refine ah ?_;refine Ru.cond (λfo=>?_) (λfo=>?_);·refine ah ?_;exact Ru.aV (h2 _ U.gr λm=>by simp[b' m a5]at fo)
    refine ah ?_;exact c _ _ _ ⟨rfl,λh=>absurd h t,λ_=>akM af,U⟩ fB
   refine ah ?_;exact c _ _ _ ⟨rfl,λh=>absurd h t,λh=>absurd h a5,U⟩ fB
  subst hM;clear hat hrd;have ds:∀k,(B.params++eU (B.aD.take k)).length<=100:=λk=>by have:=JR (B.aD.take k);rw[akF]at this;rw[aj8];omega
  have dv:(ui B.aA).length<=200:=by have:=Qk b4;rw[ui,aj8];omega
  refine ah ?_;refine RO.qS U 1 λH9 e4 U=>?_;have⟨hD,_,_,_⟩:=(U.sl (e:=3) (size:=1) (sv:=e4) (vs:=[]) (n:=0) (full:=true) 0).all;refine ah ?_;refine RO.pZ U 0 (U.gr.sl cf) (λHA cy U=>?_) (h1:=qP _);have U:aj H HA (tS 3 1 ((B.params++eU (B.aD.take 0)).map aI) (B.params++eU (B.aD.take 0)).length true cy::tB dW q7 [vp,D,aU B.aA.op,va,.str B.aA.name,vk,vg]::yZ r L qg qd qc Y cap ex g vb gl Fd Fo N n a):=by rw[alm,show eU []=[]from rfl,akT];rw[akh]at U;exact U
  have⟨hE,_,_,_⟩:=(U.sl (e:=3) (size:=1) (sv:=cy) (full:=true) (vs:=(B.params++eU (B.aD.take 0)).map aI) (n:=(B.params++eU (B.aD.take 0)).length) 0).all;refine ah ?_;refine Ru.nm λS1 M1 e5 cE=>?_;refine Ru.cC cE (up (P:=λk=>∀HX kv,(∀y,y<k->∀x∈kU B y,wZ C gl B i y x)->aj H HX (tS 3 1 ((B.params++eU (B.aD.take k)).map aI) (B.params++eU (B.aD.take k)).length true kv::tB dW q7 [vp,D,aU B.aA.op,va,.str B.aA.name,vk,vg]::yZ r L qg qd qc Y cap ex g vb gl Fd Fo N n a)->Ru ac _ S1 ([(aO,aN k),(p9,kv)]++pk M1 [p1,p3,p4,p5,p6,p7]) HX) (B.aD.length+1) (λk hP q HX kv c3 U=>?_) 0 af _ _ (λy hy=>by omega) U);subst e5;subst cE;have hF:=ds k;have w:=U.sl (e:=3) (size:=1) (sv:=kv) (vs:=(B.params++eU (B.aD.take k)).map aI) (n:=(B.params++eU (B.aD.take k)).length) (full:=true) 0;have⟨f6,_,_,_⟩:=w.all;refine Ru.loop ?_;refine ah ?_;refine Ru.cond (λe6=>?_) (λe6=>?_)
  .have q:=q (k+1) af af;refine ah ?_;refine RO.eQ U 1 (m:=5) (o:=2) ?_;refine RO.cl (afL T (dQ.Ig U.gr dm) ⟨af,af⟩ b4 λHB rv hl=>?_);have U:=U.fC hl;have⟨f7,_,_,f8⟩:=(U.sl (e:=3) (size:=1) (sv:=rv) (vs:=(ui B.aA).map aI) (n:=(ui B.aA).length) (full:=true) 0).all;refine RO.bg ?_;refine RO.nil ?_;refine Ru.seq ?_;refine Ru.wP (P:=λM J=>∃bb,M=[(aR,bb),(p1,.az r 0),(p3,.az L 0),(p4,.slice qd 0 g.al.length cap ex),(p5,.slice qg 0 g.bp.toNat g.bp.toNat true),(p6,aN i),(p7,.az q7 0),(p9,kv),(aO,aN k)]/\fZ J (kU B k) bb/\aj H J (tS 3 1 ((B.params++eU (B.aD.take k)).map aI) (B.params++eU (B.aD.take k)).length true kv::tB dW q7 [vp,D,aU B.aA.op,va,.str B.aA.name,vk,vg]::yZ r L qg qd qc Y cap ex g vb gl Fd Fo N n a)) (λM HC⟨bb,hM,A,U⟩=>?_) (λs' c=>?_);rotate_left
   .refine ah ?_;refine Ru.cond (λt=>?_) (λt=>?_);·refine ah ?_;refine RO.cZ U.gr ax (λq8 o8 gy e0 e7 e2 hat hrd=>?_) (j:=k);obtain⟨e8,rfl,a3⟩:=e7;have⟨hG,_,_,_⟩:=a3.all;refine ah ?_;exact c _ _ _ ⟨e8,rfl,by rw[kU,aK t,bF t];exact U.gr.sl a3,U.tail⟩ fB
    refine ah ?_;exact c _ _ _ ⟨rv,rfl,by rw[kU,aq t];exact U.sl (e:=3) (size:=1) (sv:=rv) (vs:=(ui B.aA).map aI) (n:=(ui B.aA).length) (full:=true) 0,U.tail⟩ fB
   subst hM;have⟨f9,_,_,f'⟩:=A.all;have w:=U.sl (e:=3) (size:=1) (sv:=kv) (vs:=(B.params++eU (B.aD.take k)).map aI) (n:=(B.params++eU (B.aD.take k)).length) (full:=true) 0;have dx:∀x∈kU B k,0<=x/\x<g.bp:=λx O=>sr hR S O;have gb:(kU B k).length<=200:=by
    unfold kU;split;·rename_i t;rw[bF t];have:=(d8 _ (agB t)).1;omega
    exact dv
   refine ah ?_;refine Ru.nm λS2 M2 e' c5=>?_;refine Ru.cC c5 (up (P:=λj=>(∀y(h:y<(kU B k).length),y<j->wZ C gl B i k (kU B k)[y])->Ru ac _ S2 ([(aY,aN j)]++pk M2 [p1,p3,p4,p5,p6,p7,p9,aO,aR]) HC) (kU B k).length (λj hj F c8=>?_) 0 af (λy _ hy=>by omega));subst e';subst c5;refine Ru.loop ?_;refine ah ?_;refine Ru.cond (λbc=>?_) (λbc=>?_)
   .have F:=F (j+1) af af;have ba:=dx _ (agB bc);have I:JT g->wZ C gl B i k (kU B k)[j]:=λm=>ca m k af _ (agB bc);have d:wZ C gl B i k (kU B k)[j]->∀y(h:y<(kU B k).length),y<j+1->wZ C gl B i k (kU B k)[y]:=λhb y hy h=>by
     by_cases e:y=j;·subst e;exact hb
     exact c8 y hy af
    refine ah ?_;refine RO.kz (bm.refl _) A (λq9 o9 aw E=>?_) (j:=j);generalize hz:(kU B k)[j]=x at*;obtain⟨x,rfl⟩:∃y:Nat,x=y:=⟨x.toNat,af⟩;have fa:(gl.map aI)[0+x*1]?=some (aI (gl.getD x 0)):=by rw[show 0+x*1=x by omega,aks,getElem?_pos gl x af,bF af];rfl
    have c9:=Q.qA hR ba.1 ba.2;unfold wZ at d I;rw[aj3]at c9 d I;generalize gl.getD x 0=fr at*;have hH:x<g.bp.toNat:=af;refine ah ?_;refine RO.fD U 2 (hv:=fa) ?_;refine ah ?_;refine RO.de (λb1=>?_) (λb1=>?_)
    .have b1:0<=fr:=b1;obtain⟨f,hf,rfl⟩:∃f:Nat,f<g.al.length/\fr=f:=by
      rcases c9 with e|e;·omega
      exact e
     rw[aj3]at d I;obtain⟨_,_,_,_,_,bd⟩:=P.ex;have hI:=P.len;have gd:=(bd f hf).len;have gg:=b0.len;obtain⟨_,a4,_,_⟩:=U.mf 3 rfl (b0.mem f af);have fb:N[0+f*1]?=some (N.getD f .co):=by rw[show 0+f*1=f by omega,getElem?_pos N f af,bF af]
     generalize N.getD f .co=hQ at*;generalize hJ:C.getD f []=row at*;have⟨gi,_,_,_⟩:=a4.all;refine ah ?_;refine RO.de (λb2=>?_) (λb2=>?_)
     .refine ah ?_;refine RO.fD U 4 (hv:=fb) ?_;refine ah ?_;refine RO.lg (bm.refl _) a4 (λq9 o9 aw E=>?_) (j:=i);have fd:row.getD i false=row[i]:=bF af _;rw[fd]at d I;generalize row[i]=rb at*;refine ah ?_;refine RO.tq (λd2=>?_) (λd2=>?_)
      .refine ah ?_;refine RO.kz (bm.refl _) A (λq9 o9 aw E=>?_) (j:=j);rw[hz]at E;refine ah ?_;refine RO.cl (OU T w af (λc1=>?_) (λc1=>?_));·refine ah ?_;exact Ru.wk (F (d (.inr (.inr c1))))
       refine ah ?_;exact Ru.aV (h2 _ U.gr λm=>by
        rcases I m with h8|⟨_,h8⟩|h8;·omega
        .simp[h8]at d2
        exact c1 h8)
      refine ah ?_;exact Ru.wk (F (d (.inr (.inl ⟨af,by simpa using d2⟩))))
     refine ah ?_;refine RO.kz (bm.refl _) A (λq9 o9 aw E=>?_) (j:=j);rw[hz]at E;refine ah ?_;refine RO.cl (OU T w af (λc1=>?_) (λc1=>?_));·refine ah ?_;exact Ru.wk (F (d (.inr (.inr c1))))
     refine ah ?_;exact Ru.aV (h2 _ U.gr λm=>by
      rcases I m with h8|⟨h8,_⟩|h8;·omega
      .exact h8 af
      exact c1 h8)
    have b1:¬0<=fr:=b1;refine ah ?_;exact Ru.wk (F (d (.inl af)))
   refine Ru.exitTo ?_;have V:∀y,y<k+1->∀x∈kU B y,wZ C gl B i y x:=λy hy x O=>by
    by_cases e:y=k;·subst e;obtain⟨z,hz,rfl⟩:=aka O;exact c8 z hz af
    exact c3 y af x O
   refine ah ?_;refine RO.de (λc1=>?_) (λc1=>?_)
   .rw[(akd c1).symm,Jt,<-aj2]at q;generalize B.params++eU (B.aD.take k)=l0 at*;refine ah ?_;refine RO.cZ U.gr ax (λq7 o7 c7 fe a0 fk W dy=>?_) (j:=k);generalize O:B.aD[k]=x at*;obtain⟨fl,rfl,dz⟩:=a0;refine ah ?_;refine RO.aW (v:=aI x.to) ?_ (hc:=W 1 _ rfl);refine ah ?_;refine Ru.cond (λg4=>?_) (λg4=>?_);·have g4:0<=x.to:=g4;rw[aK g4]at q;refine ah ?_;refine RO.cZ U.gr ax (λq7 o7 c7 fe a0 fk W dy=>?_) (j:=k);rw[O]at a0;obtain⟨fl,rfl,dz⟩:=a0;refine ah ?_;refine RO.aW (v:=aI x.to) ?_ (hc:=W 1 _ rfl);refine RO.push U 0 (λw0 H9 v2 U=>?_) (ws:=[aI x.to]);have⟨hK,hL,hN,_⟩:=(U.sl (e:=3) (size:=1) (n:=l0.length+1) (full:=true) (sv:=v2) 0).all;refine ah ?_;exact Ru.wk (q _ v2 V (by rw[akE,aj8];exact U))
    have g4:¬0<=x.to:=g4;rw[aq g4,akT]at q;refine ah ?_;exact Ru.wk (q _ kv V U)
   rw[show B.aD.take (k+1)=B.aD.take k from by rw[akl af,akl af]]at q;refine ah ?_;exact Ru.wk (q _ kv V U)
  refine Ru.exitTo ?_;refine ah ?_;exact Ru.wk (ih _ (X λ_=>⟨by rw[u,cd];exact gq,by rw[u,cd];exact gx,by rw[u];exact λy hy x O=>c3 y af x O⟩) U.tail.tail)
 refine Ru.exitTo ?_;refine ah ?_;exact Ru.aV (h1 _ U.gr ⟨a,aC,C,gl,Z.toFlI,a8,P,Q,λx O=>b3 x af⟩)
end
end
end Go.am.R
end
