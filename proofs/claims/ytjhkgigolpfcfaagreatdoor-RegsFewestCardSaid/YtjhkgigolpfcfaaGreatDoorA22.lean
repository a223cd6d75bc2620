/- A part of the proof. No conditions. -/
import Derived.Test.YtjhkgigolpfcfaaGreatDoorA21
set_option linter.all false
set_option maxHeartbeats 16000000
open List renaming mem_singleton->aep,mem_cons_of_mem->aey,mem_cons_self->aeU,replicate->ahr,range->ake,length_take->akF,range_succ->alb
open Nat renaming le_of_ble_eq_true->akc
open Int renaming ofNat->ak1
open List.Perm renaming swap->akS
noncomputable section
namespace Go.am.R
section
variable{ac:Nat->aG}
section
theorem RO.Qi{H:ai}{c:Cx}{s:List SI}{L:Kn}{d:Option ab}{l:List be}{f:aJ}{args:List aJ}{fv:AV}{a:List AV}{re:List jo}(h:YF ac fv a H λr H'=>(∀aa,Le (bC L d r) aa->fG aa H' re=true)/\RO ac c l s (bC L d r) H')(g:bf L f=fv:=by exact cw)(b:fv.bB=true:=by first|rfl|assumption)(i:args.map (bf L)=a:=by rfl)(e:a.all AV.bB=true:=by repeat first|rfl|assumption|(refine ad ?_ ?_)):RO ac c (⟨d,.call f args,none,[],re⟩::l) s L H:=RO.HT h g b i e
theorem Qj{H:ai}{L:Kn}{aa:ap AV}{p:ab}{x:aJ}{i:ab}{o n:Nat}{vs:List AV}{re:List jo}(a:Le L aa)(b:bf L x=.az i o)(c:lk L p=.agg vs)(hs:pg vs vs=true)(d:fE H i o n=some vs)(e:fG aa H re=true):fG aa H (⟨p,.gw n x,none⟩::re)=true:=by simp only[fG,fF,bq,aE,a.gv b rfl,jp,d,akt,a.get c rfl,iy,hs,e,alK]
theorem Sl.gz{H:ai}{size n:Nat}{a:List AV}{v:AV}(h:Sl H size a n v):gz v v=true:=by rcases h with⟨rfl,_⟩|⟨i,o,cap,ex,c,m,e,b,aM,fz,rfl,_⟩;all_goals simp[am.gz,ab.ip]
theorem afO{n:List Nat}{a b:Int}{v:AV}(h:gz v v=true):pg [.str n,aI a,aI b,v] [.str n,aI a,aI b,v]=true:=by simp_all[pg,Bool.and_true,gz,qv,fQ]
def kU(B:G.gV)(k:Nat):List Int:=if k<B.aD.length then(B.aD.getD k default).args else ui B.aA
def wZ(a:List (List Bool))(gl:List Int)(B:G.gV)(i k:Nat)(x:Int):Prop:=gl.getD x.toNat 0<0\/(gl.getD x.toNat 0≠(i:Int)/\(a.getD (gl.getD x.toNat 0).toNat []).getD i false=true)\/x∈B.params++eU (B.aD.take k)
structure C1(g:G.bu)(aC:List (List Int))(dm:List (List Bool))(gl:List Int)(i:Nat):Prop where
 en:(aH g i).aA.op=68->(aC.getD i []).length≠0/\(aH g i).aA.args.length=(g.al.getD (ru g ((aC.getD i []).getD ((aC.getD i []).length - 1) 0)).toNat default).params.length
 rt:(aH g i).aA.op=69->aC.getD i []=[]
 rd:∀k,k<=(aH g i).aD.length->∀x∈kU (aH g i) k,wZ dm gl (aH g i) i k x
structure JT(g:G.bu):Prop where
 ex:∃come aC dm gl,lw g (-1) come aC/\(∀b,oF g (-1) come aC false b)/\JS g dm/\sH g.bp.toNat g.params.toNat gl (pd g g.al.length)/\∀i,i<g.al.length->come.getD i false=true->C1 g aC dm gl i
theorem sH.qA{g:G.bu}(b:sD g){gl:List Int}(h:sH g.bp.toNat g.params.toNat gl (pd g g.al.length)){v:Int}(h0:0<=v)(h1:v<g.bp):gl.getD v.toNat 0= -1\/∃i:Nat,i<g.al.length/\gl.getD v.toNat 0=i:=by
 by_cases c:v<g.params;·exact .inl (h.aM _ af)
 have:=b.all v af h1;rw[<-ak7 (l:=g.al),<-Fk g _ (afb _)]at this;obtain⟨p,a,rfl⟩:=akk.1 this;refine .inr ⟨p.2,?_,h.bH p a⟩;obtain⟨i,hi,d⟩:=akZ.1 a;grind
theorem Qk:∀{l:List G.Edge},(∀e∈l,e.args.length<=12)->(l.flatMap (·.args)).length<=12*l.length|[],_=>by simp|a::l,h=>by have h1:=h a (aeU ..);have h2:=Qk λe he=>h e (aey _ he);grind
abbrev yZ(e f h i c d:ab)(cap:Nat)(ex:Bool)(g:G.bu)(j:AV)(gl:List Int)(Fd k:List Th)(l b:List AV)(a:List Bool):List Th:=[tS 3 1 (gl.map aI) g.bp.toNat true (.slice h 0 g.bp.toNat g.bp.toNat true),tZ Fd,tS 61 1 l g.al.length true (.slice i 0 g.al.length cap ex),tB Ap f [.slice c 0 g.al.length g.al.length true,.slice d 0 g.al.length g.al.length true,.bool false],tZ k,tS Il 1 b g.al.length true (.slice d 0 g.al.length g.al.length true),tS 4 1 (a.map .bool) g.al.length true (.slice c 0 g.al.length g.al.length true),tB fI e [.str g.name,aI g.params,aI g.bp,j]]
section
variable{g:G.bu}{H:ai}{cs:List AV}
theorem afP(T:Tb ac)(hg:iG H g cs)(hB:G.Sm g)(hR:sD g)(ar:g.al.length<=30)(c':g.bp<=6000){K:KT}(h1:∀H',bm H H'->JT g->K (.bool true) H')(h2:∀H',bm H H'->K (.bool false) H'):YN ac Wu [.agg cs] H K:=by
 have e6:=hg.one;have ay:=hg;have hS:=hR.sh;obtain⟨vb,rfl,cA⟩:=hg;have cx:=cA;have⟨f8,_,_,f9⟩:=cA.all;have f':=hS.ne;have gb:=hR.p0;have gd:=hR.p1;refine YF.code T.abe aB ?_;refine ah ?_;refine RO.dL (aj.dc H) λH1 A U=>?_;refine ah ?_;refine RO.eQ U 0 ?_;refine RO.cl (JQ T (dQ.nM U.gr ay) hB hS ar (wo:= -1) λH2 qc P d Fo b aC gg hI dm a9 hl=>?_);have U:=U.fC hl;refine RO.fx U λH3 N U=>?_;refine ah ?_;refine Ru.kN (λC=>?_) (λC=>?_);·refine ah ?_;exact Ru.aV (h2 _ U.gr)
 subst C;refine ah ?_;refine RO.eQ U 4 ?_;refine RO.eQ U 4 ?_;refine RO.Qi (afN T (dQ.nM U.gr ay) hB hS ar λH4 f3 D Fd O a0 a' hl=>⟨λaa V=>?_,?_⟩);·obtain⟨_,hp⟩:=(U.fC hl).get 6 rfl;obtain⟨_,dr,_⟩:=cx;exact Qj (i:=A) (o:=0) (vs:=[.str g.name,aI g.params,aI g.bp,vb]) V (by(conv=>lhs;whnf)<;>rfl) (by(conv=>lhs;whnf)<;>rfl) (afO (Sl.gz dr)) (tB.qQ hp (m:=4) (by show 0+4<=4;omega)) rfl
 have U:=U.fC hl;obtain⟨Q,cap,ex,rfl⟩:=U.uT (e:=61) (size:=1) (n:=g.al.length) (full:=true) (sv:=f3) 1 rfl af;refine RO.cl (afM T (dQ.nM U.gr ay) hB hR c' λH5 R gl a1 hl=>?_);have U:aj H H5 (yZ A N R Q qc P cap ex g vb gl Fd Fo D d b):=U.fC hl;refine ah ?_;have ds:=hI.lc;have gi:=hI.lo;have gn:=a9.len;have gq:=a1.len;refine Ru.nm λS0 M dv hM=>?_;refine Ru.cC hM (up (P:=λi=>∀HX,(∀x,x<i->b.getD x false=true->C1 g aC O gl x)->aj H HX (yZ A N R Q qc P cap ex g vb gl Fd Fo D d b)->Ru ac _ S0 ([(p6,aN i)]++pk M [p1,p3,p4,p5]) HX) g.al.length (λi hi ih HX ba U=>?_) 0 af _ (λx m=>by omega) U);subst dv;subst hM;refine Ru.loop ?_;refine ah ?_;refine RO.gU U 7 ?_;refine ah ?_;refine Ru.cond (λW=>?_) (λW=>?_)
 .have E:=agB W;have gu:=hB.bl _ E;have dx:=hB.st _ E;have bb:=hB.ed _ E;have bc:=hR.CD _ E;have F:aH g i=g.al[i]:=by rw[aH,bF W]
  have ih:=ih (i+1) af af;have dy:∀(l:List Bool)(k:Nat),l.length=g.al.length->k<g.al.length->(l.map AV.bool)[0+k*1]?=some (.bool (l.getD k false)):=λl k h1 h2=>by rw[show 0+k*1=k by omega,aks,getElem?_pos l k af,bF af];rfl
  have L:(b.getD i false=true->C1 g aC O gl i)->∀x,x<i+1->b.getD x false=true->C1 g aC O gl x:=λhb x m=>by
   by_cases e:x=i;·subst e;exact hb
   exact ba x af
  have bd:d[0+i*1]?=some (d.getD i .co):=by rw[show 0+i*1=i by omega,getElem?_pos d i af,bF af]
  refine ah ?_;refine RO.fD U 6 (hv:=dy b i ds W) ?_;refine ah ?_;refine Ru.kN (λC=>?_) (λC=>?_)
  .have C:b.getD i false=false:=by simpa using C
   refine Ru.exitTo ?_;refine ah ?_;exact Ru.wk (ih _ (L λh=>by rw[C]at h;cases h) U)
  have C:b.getD i false=true:=by simpa using C
  obtain⟨_,dz⟩:=(hI.snd i C).ok hS;have e7:=hI.jx i C;have bv:=a9.mem i af;generalize bS:aC.getD i []=o at*;generalize gx:d.getD i .co=ov at*;obtain⟨_,q,_,_⟩:=U.mf 4 rfl bv;have⟨dD,_,_,gy⟩:=q.all;refine ah ?_;refine RO.gU U 7 ?_;refine ah ?_;refine RO.cZ U.gr cA (λq9 o9 hE X a2 gA hat hrd=>?_) (j:=i);have e8:=a2;have dE:iy ov ov=true:=Sl.bX q;generalize g.al[i]=B at*;have e':=a2.one;obtain⟨vp,u,jc,rfl,b0,Y,b3⟩:=a2;have cy:=b3;obtain⟨va,vk,vg,rfl,d0,gH,gL⟩:=b3;have⟨g0,_,_,g1⟩:=b0.all;have⟨g2,_,_,g3⟩:=Y.all;have⟨g5,_,_,g6⟩:=d0.all;refine ah ?_;refine RO.fD U 5 (hv:=bd) ?_;refine RO.gI U λH6 S U=>?_;refine RO.Ja U 0 (ws:=[vp,u,aU B.aA.op,va,.str B.aA.name,vk,vg]) (λH7 U=>⟨λaa V=>?_,?_⟩);·obtain⟨_,hp⟩:=U.get 6 rfl;obtain⟨_,d1⟩:=U.get 4 rfl;exact il (i:=P) (o:=0+i*1) (v:=ov) V (by(conv=>lhs;whnf)<;>rfl) (by(conv=>lhs;whnf)<;>rfl) dD dE (dU.NA hp bd) (il (re:=[]) (i:=N) (o:=1) (v:=.slice P 0 g.al.length g.al.length true) V (by(conv=>lhs;whnf)<;>rfl) (by(conv=>lhs;whnf)<;>rfl) rfl (by simp[iy,gz,ab.ip]) (tB.cell d1 rfl) rfl)
  have U:aj H H7 (tB dW S [vp,u,aU B.aA.op,va,.str B.aA.name,vk,vg]::yZ A N R Q qc P cap ex g vb gl Fd Fo D d b):=U;refine RO.bg ?_;refine RO.nil ?_;refine Ru.seq ?_;have g7:=hB.nb;refine Ru.wP (P:=λM H'=>M=[(p1,.az A 0),(p3,.az N 0),(p4,.slice Q 0 g.al.length cap ex),(p5,.slice R 0 g.bp.toNat g.bp.toNat true),(p6,aN i),(p7,.az S 0)]/\(B.aA.op=68->o.length≠0/\B.aA.args.length=(g.al.getD (ru g (o.getD (o.length - 1) 0)).toNat default).params.length)/\(B.aA.op=69->o=[])/\aj H H' (tB dW S [vp,u,aU B.aA.op,va,.str B.aA.name,vk,vg]::yZ A N R Q qc P cap ex g vb gl Fd Fo D d b)) (λM H8⟨hM,f4,f5,U⟩=>?_) (λs' a=>?_);rotate_left
  .refine ah ?_;refine RO.de (λp=>?_) (λp=>?_)
   .refine ah ?_;refine RO.de (λe3=>?_) (λe3=>?_);·refine ah ?_;exact Ru.aV (h2 _ U.gr)
    have b4:o.length - 1<o.length:=af;obtain⟨_,q,_,_⟩:=U.mf 5 rfl bv;refine ah ?_;refine RO.gU U 8 ?_;refine ah ?_;refine RO.gU U 8 ?_;refine ah ?_;refine RO.arith (v:=aN (o.length - 1)) ?_ (hv:=px (k:=o.length) af af);refine ah ?_;refine RO.kz (bm.refl _) q (λq8 o8 hj v=>?_) (j:=o.length - 1);have b5:=dz _ (agB b4);have d2:o.getD (o.length - 1) 0=o[o.length - 1]:=bF b4 _;rw[d2]at a;generalize o[o.length - 1]=x at*;obtain⟨x,rfl⟩:∃y:Nat,x=y:=⟨x.toNat,af⟩;rw[ru,aj3]at a;rw[aj3]at b5;obtain⟨_,b6,g8⟩:=b5;have hq:iK .quo 3 (x:Int) (.ofNat 2)=some (aN (x/2)):=by simp only[iK];rw[aq bA,show((x:Int).tdiv (ak1 2))=((x/2:Nat):Int)from by rw[aj5,Int.tdiv_eq_ediv_of_nonneg af];simp,pY af af];rfl
    have a3:=hS.rg _ b6 ((aH g (x/2)).aA.go[2]) (agB _);have d3:(aH g (x/2)).aA.go.getD 2 default=(aH g (x/2)).aA.go[2]:=bF af _;rw[d3]at a;have d4:aH g (x/2)=g.al[x/2]:=by rw[aH,bF b6]
    refine ah ?_;refine RO.arith ?_ (hv:=hq);refine ah ?_;refine RO.cZ U.gr cA (λA o1 c1 d5 Z d6 hat hrd=>?_) (j:=x/2);rw[<-d4]at Z;obtain⟨g9,fa,g',rfl,_,_,ha,hc,d7,rfl,_,_,av⟩:=Z;have⟨fb,_,_,_⟩:=av.all;refine ah ?_;refine RO.aW (v:=d7) ?_ (hc:=hat 6 _ rfl);refine ah ?_;refine RO.cZ U.gr av (λq8 o8 f6 d' ea eb hat hrd=>?_) (j:=2);obtain⟨ve,rfl,_⟩:=ea;generalize hh:(aH g (x/2)).aA.go[2].block=jb at*;obtain⟨jb,rfl⟩:∃y:Nat,jb=y:=⟨jb.toNat,af⟩;rw[aj3]at a;have ec:jb<g.al.length:=af;refine ah ?_;refine RO.cZ U.gr cA (λA o1 c1 d5 Z d6 hat hrd=>?_) (j:=jb);rw[bF ec]at a;obtain⟨hk,fd,hm,rfl,cE,_⟩:=Z;have⟨fe,_,_,fk⟩:=cE.all;refine ah ?_;refine RO.de (λe4=>?_) (λe4=>?_);·refine ah ?_;exact Ru.aV (h2 _ U.gr)
    refine ah ?_;refine RO.de (λa8=>absurd (p.symm.trans a8) bA) (λa8=>?_);refine ah ?_;exact a _ _ _ ⟨rfl,λ_=>⟨e3,Classical.not_not.1 e4⟩,λh=>absurd h a8,U⟩ fB
   refine ah ?_;refine RO.de (λa8=>?_) (λa8=>?_)
   .refine ah ?_;refine Ru.cond (λf7=>?_) (λf7=>?_);·refine ah ?_;exact Ru.aV (h2 _ U.gr)
    refine ah ?_;exact a _ _ _ ⟨rfl,λh=>absurd h p,λ_=>akM af,U⟩ fB
   refine ah ?_;exact a _ _ _ ⟨rfl,λh=>absurd h p,λh=>absurd h a8,U⟩ fB
  subst hM;clear hat hrd;have cK:∀k,(B.params++eU (B.aD.take k)).length<=100:=λk=>by have:=JR (B.aD.take k);rw[akF]at this;rw[aj8];omega
  have c3:(ui B.aA).length<=200:=by have:=Qk bb;rw[ui,aj8];omega
  refine ah ?_;refine RO.qS U 1 λH9 ei U=>?_;have⟨hn,_,_,_⟩:=(U.sl (e:=3) (size:=1) (sv:=ei) (vs:=[]) (n:=0) (full:=true) 0).all;refine ah ?_;refine RO.pZ U 0 (U.gr.sl b0) (λHA b' U=>?_) (h1:=qP _);have U:aj H HA (tS 3 1 ((B.params++eU (B.aD.take 0)).map aI) (B.params++eU (B.aD.take 0)).length true b'::tB dW S [vp,u,aU B.aA.op,va,.str B.aA.name,vk,vg]::yZ A N R Q qc P cap ex g vb gl Fd Fo D d b):=by rw[alm,show eU []=[]from rfl,akT];rw[akh]at U;exact U
  have⟨ho,_,_,_⟩:=(U.sl (e:=3) (size:=1) (sv:=b') (full:=true) (vs:=(B.params++eU (B.aD.take 0)).map aI) (n:=(B.params++eU (B.aD.take 0)).length) 0).all;refine ah ?_;refine Ru.nm λS1 M1 ej ca=>?_;refine Ru.cC ca (up (P:=λk=>∀HX kv,(∀y,y<k->∀x∈kU B y,wZ O gl B i y x)->aj H HX (tS 3 1 ((B.params++eU (B.aD.take k)).map aI) (B.params++eU (B.aD.take k)).length true kv::tB dW S [vp,u,aU B.aA.op,va,.str B.aA.name,vk,vg]::yZ A N R Q qc P cap ex g vb gl Fd Fo D d b)->Ru ac _ S1 ([(aO,aN k),(p9,kv)]++pk M1 [p1,p3,p4,p5,p6,p7]) HX) (B.aD.length+1) (λk hF n HX kv cd U=>?_) 0 af _ _ (λy hy=>by omega) U);subst ej;subst ca;have hr:=cK k;have s:=U.sl (e:=3) (size:=1) (sv:=kv) (vs:=(B.params++eU (B.aD.take k)).map aI) (n:=(B.params++eU (B.aD.take k)).length) (full:=true) 0;have⟨fl,_,_,_⟩:=s.all;refine Ru.loop ?_;refine ah ?_;refine Ru.cond (λek=>?_) (λek=>?_)
  .have n:=n (k+1) af af;refine ah ?_;refine RO.eQ U 1 (m:=5) (o:=2) ?_;refine RO.cl (afL T (dQ.Ig U.gr cy) ⟨af,af⟩ bb λHB rv hl=>?_);have U:=U.fC hl;have⟨fo,_,_,fp⟩:=(U.sl (e:=3) (size:=1) (sv:=rv) (vs:=(ui B.aA).map aI) (n:=(ui B.aA).length) (full:=true) 0).all;refine RO.bg ?_;refine RO.nil ?_;refine Ru.seq ?_;refine Ru.wP (P:=λM H'=>∃a4,M=[(aR,a4),(p1,.az A 0),(p3,.az N 0),(p4,.slice Q 0 g.al.length cap ex),(p5,.slice R 0 g.bp.toNat g.bp.toNat true),(p6,aN i),(p7,.az S 0),(p9,kv),(aO,aN k)]/\fZ H' (kU B k) a4/\aj H H' (tS 3 1 ((B.params++eU (B.aD.take k)).map aI) (B.params++eU (B.aD.take k)).length true kv::tB dW S [vp,u,aU B.aA.op,va,.str B.aA.name,vk,vg]::yZ A N R Q qc P cap ex g vb gl Fd Fo D d b)) (λM HC⟨a4,hM,t,U⟩=>?_) (λs' a=>?_);rotate_left
   .refine ah ?_;refine Ru.cond (λp=>?_) (λp=>?_);·refine ah ?_;refine RO.cZ U.gr Y (λq8 o8 f6 d' el eb hat hrd=>?_) (j:=k);obtain⟨er,rfl,aw⟩:=el;have⟨ht,_,_,_⟩:=aw.all;refine ah ?_;exact a _ _ _ ⟨er,rfl,by rw[kU,aK p,bF p];exact U.gr.sl aw,U.tail⟩ fB
    refine ah ?_;exact a _ _ _ ⟨rv,rfl,by rw[kU,aq p];exact U.sl (e:=3) (size:=1) (sv:=rv) (vs:=(ui B.aA).map aI) (n:=(ui B.aA).length) (full:=true) 0,U.tail⟩ fB
   subst hM;have⟨fq,_,_,fs⟩:=t.all;have s:=U.sl (e:=3) (size:=1) (sv:=kv) (vs:=(B.params++eU (B.aD.take k)).map aI) (n:=(B.params++eU (B.aD.take k)).length) (full:=true) 0;have c5:∀x∈kU B k,0<=x/\x<g.bp:=λx m=>by
    unfold kU at m;split at m;·rename_i p;rw[bF p]at m;have:=(hR.aD _ E _ (agB p)).r.pF x m;omega
    rcases ahp.1 m with m|m;·have:=bc.pF x m;omega
    obtain⟨e,he,m⟩:=akZ.1 m;obtain⟨y,hy,rfl⟩:=aka he;have:=(bc.E0 y hy).pF x m;omega
   have fN:(kU B k).length<=200:=by
    unfold kU;split;·rename_i p;rw[bF p];have:=(dx _ (agB p)).1;omega
    exact c3
   refine ah ?_;refine Ru.nm λS2 M2 et cf=>?_;refine Ru.cC cf (up (P:=λj=>(∀y(h:y<(kU B k).length),y<j->wZ O gl B i k (kU B k)[y])->Ru ac _ S2 ([(aY,aN j)]++pk M2 [p1,p3,p4,p5,p6,p7,p9,aO,aR]) HC) (kU B k).length (λj hj w cn=>?_) 0 af (λy _ hy=>by omega));subst et;subst cf;refine Ru.loop ?_;refine ah ?_;refine Ru.cond (λcp=>?_) (λcp=>?_)
   .have w:=w (j+1) af af;have a3:=c5 _ (agB cp);have c:wZ O gl B i k (kU B k)[j]->∀y(h:y<(kU B k).length),y<j+1->wZ O gl B i k (kU B k)[y]:=λhb y hy h=>by
     by_cases e:y=j;·subst e;exact hb
     exact cn y hy af
    refine ah ?_;refine RO.kz (bm.refl _) t (λq9 o9 X v=>?_) (j:=j);generalize hz:(kU B k)[j]=x at*;obtain⟨x,rfl⟩:∃y:Nat,x=y:=⟨x.toNat,af⟩;have ev:(gl.map aI)[0+x*1]?=some (aI (gl.getD x 0)):=by rw[show 0+x*1=x by omega,aks,getElem?_pos gl x af,bF af];rfl
    have cv:=a1.qA hR a3.1 a3.2;unfold wZ at c;rw[aj3]at cv c;generalize gl.getD x 0=fr at*;have hv:x<g.bp.toNat:=af;refine ah ?_;refine RO.fD U 2 (hv:=ev) ?_;refine ah ?_;refine RO.de (λb1=>?_) (λb1=>?_)
    .have b1:0<=fr:=b1;obtain⟨f,hf,rfl⟩:∃f:Nat,f<g.al.length/\fr=f:=by
      rcases cv with e|e;·omega
      exact e
     rw[aj3]at c;obtain⟨_,_,_,_,_,a6⟩:=a0.ex;have hw:=a0.len;have f0:=(a6 f hf).len;have f1:=a'.len;obtain⟨_,ax,_,_⟩:=U.mf 3 rfl (a'.mem f af);have ew:D[0+f*1]?=some (D.getD f .co):=by rw[show 0+f*1=f by omega,getElem?_pos D f af,bF af]
     generalize D.getD f .co=hG at*;generalize hx:O.getD f []=a5 at*;have⟨f2,_,_,_⟩:=ax.all;refine ah ?_;refine RO.de (λb2=>?_) (λb2=>?_)
     .refine ah ?_;refine RO.fD U 4 (hv:=ew) ?_;refine ah ?_;refine RO.lg (bm.refl _) ax (λq9 o9 X v=>?_) (j:=i);have ey:a5.getD i false=a5[i]:=bF af _;rw[ey]at c;generalize a5[i]=rb at*;refine ah ?_;refine RO.tq (λe5=>?_) (λe5=>?_)
      .refine ah ?_;refine RO.kz (bm.refl _) t (λq9 o9 X v=>?_) (j:=j);rw[hz]at v;refine ah ?_;refine RO.cl (OU T s af (λc1=>?_) (λc1=>?_));·refine ah ?_;exact Ru.wk (w (c (.inr (.inr c1))))
       refine ah ?_;exact Ru.aV (h2 _ U.gr)
      refine ah ?_;exact Ru.wk (w (c (.inr (.inl ⟨af,by simpa using e5⟩))))
     refine ah ?_;refine RO.kz (bm.refl _) t (λq9 o9 X v=>?_) (j:=j);rw[hz]at v;refine ah ?_;refine RO.cl (OU T s af (λc1=>?_) (λc1=>?_));·refine ah ?_;exact Ru.wk (w (c (.inr (.inr c1))))
     refine ah ?_;exact Ru.aV (h2 _ U.gr)
    have b1:¬0<=fr:=b1;refine ah ?_;exact Ru.wk (w (c (.inl af)))
   refine Ru.exitTo ?_;have I:∀y,y<k+1->∀x∈kU B y,wZ O gl B i y x:=λy hy x m=>by
    by_cases e:y=k;·subst e;obtain⟨z,hz,rfl⟩:=aka m;exact cn z hz af
    exact cd y af x m
   refine ah ?_;refine RO.de (λc1=>?_) (λc1=>?_)
   .rw[(akd c1).symm,Jt,<-aj2]at n;generalize B.params++eU (B.aD.take k)=l0 at*;refine ah ?_;refine RO.cZ U.gr Y (λS o7 c7 eP ag e0 J c8=>?_) (j:=k);generalize m:B.aD[k]=x at*;obtain⟨e2,rfl,c9⟩:=ag;refine ah ?_;refine RO.aW (v:=aI x.to) ?_ (hc:=J 1 _ rfl);refine ah ?_;refine Ru.cond (λg4=>?_) (λg4=>?_);·have g4:0<=x.to:=g4;rw[aK g4]at n;refine ah ?_;refine RO.cZ U.gr Y (λS o7 c7 eP ag e0 J c8=>?_) (j:=k);rw[m]at ag;obtain⟨e2,rfl,c9⟩:=ag;refine ah ?_;refine RO.aW (v:=aI x.to) ?_ (hc:=J 1 _ rfl);refine RO.push U 0 (λw0 H9 v2 U=>?_) (ws:=[aI x.to]);have⟨hA,hC,hD,_⟩:=(U.sl (e:=3) (size:=1) (n:=l0.length+1) (full:=true) (sv:=v2) 0).all;refine ah ?_;exact Ru.wk (n _ v2 I (by rw[akE,aj8];exact U))
    have g4:¬0<=x.to:=g4;rw[aq g4,akT]at n;refine ah ?_;exact Ru.wk (n _ kv I U)
   rw[show B.aD.take (k+1)=B.aD.take k from by rw[akl af,akl af]]at n;refine ah ?_;exact Ru.wk (n _ kv I U)
  refine Ru.exitTo ?_;refine ah ?_;exact Ru.wk (ih _ (L λ_=>⟨by rw[F,bS];exact f4,by rw[F,bS];exact f5,by rw[F];exact λy hy x m=>cd y af x m⟩) U.tail.tail)
 refine Ru.exitTo ?_;refine ah ?_;exact Ru.aV (h1 _ U.gr ⟨b,aC,O,gl,hI,dm,a0,a1,λx m=>ba x af⟩)
end
end
section
structure J'(g:G.bu):Prop where
 jx:EW g
 Kb:uc g=false
 C6:sD g
 right:JT g
theorem Kc{g:G.bu}(h:EW g)(hg:uc g=false):g.al.length<=30/\g.bp<=200:=by simp only[uc,Bool.or_eq_false_iff,decide_eq_false_iff_not]at hg;have h1:=h.nb;have h2:=h.nv;omega
section
variable{g:G.bu}{H:ai}{cs:List AV}
theorem aga(T:Tb ac)(hg:iG H g cs)(b:EW g)(i:CQ g){K:KT}(h1:∀H',bm H H'->J' g->K (aI 0) H')(h2:∀H'(e:Int),bm H H'->e≠0->K (aI e) H'):YN ac Wg [.agg cs] H K:=by
 have a:=hg;obtain⟨n,rfl,cA⟩:=hg;have⟨k,_,_,l⟩:=cA.all;refine YF.code T.aa0 aB ?_;refine ah ?_;refine RO.dL (aj.dc H) λH1 q U=>?_;refine ah ?_;refine RO.eQ U 0 ?_;refine RO.cl (aej T (dQ.nM U.gr a) b.sm (λc hg f=>?_) (λc hg=>?_));rotate_left;·have U:=U.cI hg;refine ah ?_;exact Ru.aV (h2 _ 5 U.gr bA)
 have U:=U.cI hg;obtain⟨d,m⟩:=Kc b f;refine ah ?_;refine RO.eQ U 0 ?_;refine RO.cl (aeM T (dQ.nM U.gr a) b.sm i b.nm af (λc hg h=>?_) (λc hg=>?_));rotate_left;·have U:=U.cI hg;refine ah ?_;exact Ru.aV (h2 _ 4 U.gr bA)
 have U:=U.cI hg;refine ah ?_;refine RO.eQ U 0 ?_;refine RO.cl (afP T (dQ.nM U.gr a) b.sm h d af (λc hg j=>?_) (λc hg=>?_));rotate_left;·have U:=U.cI hg;refine ah ?_;exact Ru.aV (h2 _ 9 U.gr bA)
 have U:=U.cI hg;refine ah ?_;exact Ru.aV (h1 _ U.gr ⟨b,f,h,j⟩)
theorem agb(T:Tb ac)(hg:iG H g cs)(c:CQ g){K:KT}(h1:∀H',bm H H'->J' g->K (.bool true) H')(h2:∀H',bm H H'->K (.bool false) H'):YN ac Wl [.agg cs] H K:=by
 have a:=hg;obtain⟨j,rfl,cA⟩:=hg;have⟨h,_,_,i⟩:=cA.all;refine YF.code T.aa5 aB ?_;refine ah ?_;refine RO.dL (aj.dc H) λH1 q U=>?_;refine ah ?_;refine RO.eQ U 0 ?_;refine RO.cl (DE T (dQ.nM U.gr a) (λb hg=>?_) (λb hg d=>?_));·have U:=U.cI hg;refine ah ?_;exact Ru.aV (h2 _ U.gr)
 have U:=U.cI hg;refine ah ?_;refine RO.eQ U 0 ?_;refine ah ?_;refine RO.cl (aga T (dQ.nM U.gr a) d c (λb hg f=>?_) (λb e hg he=>?_));·have U:=U.cI hg;refine ah ?_;exact Ru.aV (h1 _ U.gr f)
 have U:=U.cI hg;refine ah ?_;rw[decide_eq_false (show¬e=ak1 0 from he)];exact Ru.aV (h2 _ U.gr)
end
end
end
end Go.am.R
namespace Go.am
section
variable{ac:Nat->aG}{c:Cx}{s:List SI}{L:Kn}{A B H H':ai}{d:Option ab}{l:List be}{ts us:List Th}{q r:ab}{e n m o k i cap size bytes:Nat}{vs ws:List AV}{v w sv a:AV}{full ex:Bool}
theorem RO.agh{x:aJ}{g is:List ab}(t:fE H q o m=some vs)(p:q∉is)(h:∀i,(∀j,i.get j=H.get j)->i.next=H.next->RO ac c l s (bC L d (.agg vs)) i)(u:bf L x=.az q o:=by exact cw)(v:yL L g=is.map some:=by exact cw):RO ac c (⟨d,.gw m x,none,g,[]⟩::l) s L H:=λaa e=>by
 obtain⟨h1,h2,h3⟩:=CG e (H:=H) v;generalize w:eV aa H g=b at h1 h2 h3;obtain⟨y,z⟩:=h3 b.1;have f:∀j,(eB b.1 b.2).get j=H.get j:=λj=>by
  rw[z];split;·rfl
  rename_i k;exact h2 j k
 obtain⟨n,k⟩:=h _ f (y.trans h1) _ (e.set d _);refine⟨n+1,?_⟩;have r:fE b.1 q o m=some vs:=by simp only[fE,h2 q p];exact t
 have he:aE (.gw m x) aa b.1=some (.agg vs,b.1):=by simp only[aE,e.gv u rfl,jp,r,bq,akt]
 simp[w,he,k,Xo,Go.am.aC,fF,bq,fG]
theorem Sl.agi{b:ai}{is:List ab}(h:Sl H size vs n v)(hg:∀j,j∉is->b.get j=H.get j)(g:b.next=H.next)(k:∀q o m c e,v=.slice q o m c e->q∉is):Sl b size vs n v:=by
 rcases h with h|⟨i,o,cap,ex,f,m,e,d,aM,fz,h1,h2,h3⟩;·exact .inl h
 refine .inr ⟨i,o,cap,ex,f,m,e,d,aM,fz,h1,by grind,?_⟩;grind
theorem RO.Ke(U:aj A H (tS e size vs n true sv::ts)){x y:aJ}{zs:List AV}{K is:List ab}{re:List jo}(hs:Sl H size ws k a)(R:∀q o m c e,a=.slice q o m c e->q∉is)(ji:∀j∈is,∃(m:Nat)(t:Th),ts[m]?=some t/\∀Hx f,t.P Hx f->j∈f)(h:∀M v,aj A M (tS e size (vs++ws) (n+k) true v::ts)->(∀aa,Le (bC L d v) aa->fG aa M re=true)/\RO ac c l s (bC L d v) M)(h1:dS ws=true:=by repeat first|rfl|assumption|(refine ao ?_ ?_))(N:yL L K=is.map some:=by exact cw)(hx:bf L x=sv:=by exact cw)(hy:bf L y=a:=by exact cw)(hb:(n+k)*bytes<=70368744177664:=by omega)(u:n+k<=70368744177664:=by omega):RO ac c (⟨d,.append e bytes size zs false x y,none,K,re⟩::l) s L H:=λaa i=>by
 obtain⟨G,I,g3⟩:=CG i (H:=H) N;generalize hh:eV aa H K=g at G I g3;obtain⟨hG,fs,hF⟩:=U;match fs,hF with
  |J::fs,⟨q1,q2,q3,O⟩=>
   have z:∀j∈is,∃f∈fs,j∈f:=λj hj=>by obtain⟨m,t,hm,ht⟩:=ji j hj;obtain⟨f,w,N⟩:=O.at hm;exact⟨f,List.mem_of_getElem? w,ht _ _ N⟩
   have C:∀j∈is,j∉J:=λj hj S=>by obtain⟨f,w,r⟩:=z j hj;exact q3 j S f w r
   have T:∀j∈is,j.an<H.next.an:=λj hj=>by obtain⟨f,w,r⟩:=z j hj;exact O.lt f w j r
   have ho:dU g.1 J e size vs n true sv:=dU.frame q1 (by rw[G];exact afb _) λj hj=>I j λu=>C j u hj;have V:Sl g.1 size ws k a:=hs.agi I G R;obtain⟨b,H1,fp',a1,a2,a3,Q,a5⟩:=ho.append (bytes:=bytes) hs.length h1 hb u;rw[G]at a3 Q a5;obtain⟨g4,g5⟩:=g3 H1;have E:∀j∈fp',j∉is:=λj hj D=>by
    rcases Q j hj with h|h;·exact C j D h
    have:=T j D;omega
   have F:dU (eB H1 g.2) fp' e size (vs++ws) (n+k) true b:=dU.frame a2 (by rw[g4];exact afb _) λj hj=>by rw[g5,aq (E j hj)]
   have p:oS J fp' H (eB H1 g.2):=⟨by rw[g4];exact a3,λj hj=>(Q j hj).imp id λh=>h.1,λj hj W=>by
    rw[g5];split;·rfl
    rename_i u;rw[a5 j hj W,I j u]⟩;obtain⟨X,Y,_⟩:=Fs.ki (t':=tS e size (vs++ws) (n+k) true b) hG p (fs:=J::fs) (ts:=tS e size vs n true sv::ts) (i:=0) ⟨q1,q2,q3,O⟩ rfl rfl F;have Z:aj A (eB H1 g.2) (tS e size (vs++ws) (n+k) true b::ts):=⟨p.cI hG q2,X,Y⟩;obtain⟨h4,h5⟩:=h _ b Z;obtain⟨n',ag⟩:=h5 _ (i.set d b);have he:aE (.append e bytes size zs false x y) aa g.1=some (b,H1):=by simp only[aE,aes,bP,i.gv hx ho.sl.bB,i.gv hy hs.bB,V.je,a1]
   refine⟨n'+1,?_⟩;simp only[Xo,Go.am.aC,fF,bq,hh,he,h4 _ (i.set d b)];omega
end
end Go.am
namespace Go.am.R
section
variable{ac:Nat->aG}
section
theorem QB{f:Nat->List AV}{m:Nat}(a:∀j,(f j).length=m):∀n,((ake n).flatMap f).length=n*m|0=>by simp|n+1=>by rw[alb,akD,aj8,QB a n,akK,a,Nat.succ_mul]
theorem Fq{f:Nat->List AV}{m:Nat}(a:∀j,(f j).length=m){k:Nat}:∀{n},k<n->(((ake n).flatMap f).drop (k*m)).take m=f k
 |n+1,h=>by
  rw[alb,akD,akK];have hl:=QB a n;by_cases e:k=n;·grind
  have b:k<n:=af;have h1:k*m+m<=n*m:=by rw[<-Nat.succ_mul];exact aky _ b
  rw[List.drop_append_of_le_length af,List.take_append_of_le_length (by grind)];exact Fq a b
def Kf(s:G.ic)(v:AV):List AV:=[aU s.op,aI s.to,v,aI s.n,aI s.m,.str s.name]
def qB(l:List G.ic)(a:Nat->AV)(n:Nat):List AV:=(ake n).flatMap λk=>Kf (l.getD k default) (a k)
def uk(l:List G.Edge)(es:Nat->AV)(n:Nat):List AV:=(ake n).flatMap λk=>[aI (l.getD k default).block,es k]
theorem agj{l:List G.ic}{a:Nat->AV}{k:Nat}{v:AV}:qB l (λi=>if i=k then v else a i) (k+1)=qB l a k++Kf (l.getD k default) v:=by rw[qB,alb,akD,akK,aK rfl];congr 1;exact CY λi hi=>by grind
theorem agk{l:List G.Edge}{es:Nat->AV}{k:Nat}{v:AV}:uk l (λi=>if i=k then v else es i) (k+1)=uk l es k++[aI (l.getD k default).block,v]:=by rw[uk,alb,akD,akK,aK rfl];congr 1;exact CY λi hi=>by grind
def Ft(B:G.gV)(cs:List AV)(H:ai)(a:List ab):Prop:=∃(c b d e f:AV)(g es:Nat->AV),cs=[c,b,aU B.aA.op,d,.str B.aA.name,e,f]/\(tR 1 (B.params.map aI) B.params.length c).P H a/\(tR 6 (qB B.aD g B.aD.length) B.aD.length b).P H a/\(∀k(h:k<B.aD.length),(tR 1 (B.aD[k].args.map aI) B.aD[k].args.length (g k)).P H a)/\(tR 1 (B.aA.args.map aI) B.aA.args.length d).P H a/\(tR 1 (B.aA.b9.map aU) B.aA.b9.length e).P H a/\(tR 2 (uk B.aA.go es B.aA.go.length) B.aA.go.length f).P H a/\∀k(h:k<B.aA.go.length),(tR 1 (B.aA.go[k].args.map aI) B.aA.go[k].args.length (es k)).P H a
def tK(B:G.gV)(cs:List AV):Th where
 P:=Ft B cs
 fr:=by
  rintro H H' i⟨c,b,d,e,f,g,es,h0,h1,h2,h3,j,l,m,n⟩a hg
  exact⟨c,b,d,e,f,g,es,h0,(tR _ _ _ _).fr h1 a hg,(tR _ _ _ _).fr h2 a hg,λk h=>(tR _ _ _ _).fr (h3 k h) a hg,(tR _ _ _ _).fr j a hg,(tR _ _ _ _).fr l a hg,(tR _ _ _ _).fr m a hg,λk h=>(tR _ _ _ _).fr (n k h) a hg⟩
 lt:=by
  rintro H i⟨c,b,d,e,f,g,es,h0,h1,_⟩
  exact h1.2.2
theorem Ft.aH{B:G.gV}{cs:List AV}{H:ai}{d:List ab}(h:Ft B cs H d):kj H B cs:=by
 obtain⟨e,b,f,g,i,c,es,rfl,h1,h2,h3,j,l,m,n⟩:=h;refine⟨e,b,_,rfl,h1.1,⟨_,h2.1,λk a=>?_⟩,f,g,i,rfl,j.1,l.1,⟨_,m.1,λk a=>?_⟩⟩;·rw[qB,Fq (m:=6) (f:=λk=>Kf (B.aD.getD k default) (c k)) (λ_=>rfl) a,bF a];exact⟨c k,rfl,(h3 k a).1⟩
 rw[uk,Fq (m:=2) (f:=λk=>[aI (B.aA.go.getD k default).block,es k]) (λ_=>rfl) a,bF a];exact⟨es k,rfl,(n k a).1⟩
theorem tR.agl{size n:Nat}{b:List AV}{v:AV}{H:ai}{f a:List ab}(h:(tR size b n v).P H f)(hs:∀j∈f,j∈a)(hb:∀j∈a,j.an<H.next.an):(tR size b n v).P H a:=⟨h.1,λi o m c e d=>hs _ (h.2.1 i o m c e d),hb⟩
theorem agm{A H:ai}{F:List Th}{a:List Th}(U:aj A H (tZ F::a)){B:G.gV}{vp vst va vk vg:AV}{ss es:Nat->AV}(h1:tR 1 (B.params.map aI) B.params.length vp∈F)(h2:tR 6 (qB B.aD ss B.aD.length) B.aD.length vst∈F)(h3:∀k(h:k<B.aD.length),tR 1 (B.aD[k].args.map aI) B.aD[k].args.length (ss k)∈F)(d:tR 1 (B.aA.args.map aI) B.aA.args.length va∈F)(e:tR 1 (B.aA.b9.map aU) B.aA.b9.length vk∈F)(g:tR 2 (uk B.aA.go es B.aA.go.length) B.aA.go.length vg∈F)(i:∀k(h:k<B.aA.go.length),tR 1 (B.aA.go[k].args.map aI) B.aA.go[k].args.length (es k)∈F):aj A H (tK B [vp,vst,aU B.aA.op,va,.str B.aA.name,vk,vg]::a):=by
 refine U.as 0 rfl λj b=>?_;have w:∀{size n c v},tR size c n v∈F->(tR size c n v).P H j:=λh=>by obtain⟨f,l,m⟩:=b.1 _ h;exact tR.agl m l b.2
 exact⟨vp,vst,va,vk,vg,ss,es,rfl,w h1,w h2,λk h=>w (h3 k h),w d,w e,w g,λk h=>w (i k h)⟩
theorem Kg{H:ai}{size n:Nat}{a:List AV}{v:AV}(h:Sl H size a n v):∀q o m c e,v=.slice q o m c e->q.an<H.next.an:=λq o m c e b=>by rcases h with⟨h,_⟩|⟨i,_,_,_,_,_,_,_,_,_,h,_,_,_,_,hi,_⟩;all_goals grind
theorem agn{o:Nat}{n:List Nat}{a b c:AV}(d:gz a a=true)(hb:gz b b=true)(e:gz c c=true):pg [aU o,a,.str n,b,c] [aU o,a,.str n,b,c]=true:=by simp_all[pg,Bool.and_true,gz,qv,fQ]
section
variable{g:G.bu}{H:ai}{cs:List AV}
theorem ago(T:Tb ac){B:G.gV}(hb:kj H B cs)(hl:CJ B){K:KT}(h:∀H' N,N.length=7->dS N=true->aj H H' [tK B N]->K (.agg N) H'):YN ac Wo [.agg cs] H K:=by
 have c5:=hb.one;obtain⟨l1,l2,l3,l4,l5,_⟩:=hl.bl;obtain⟨vp,vst,jc,rfl,ag,a3,va,vk,vg,rfl,O,P,ar⟩:=hb;have⟨d7,d',_,_⟩:=ag.all;have⟨ea,_,_,_⟩:=a3.all;have⟨eb,ec,_,_⟩:=O.all;have⟨cf,ei,_,_⟩:=P.all;have⟨a4,ej,_,_⟩:=ar.all;obtain⟨ek,av,_⟩:=id ar;have cn:=agn (o:=B.aA.op) (n:=B.aA.name) (Sl.gz O) (Sl.gz P) (Sl.gz av);refine YF.code T.aa8 aB ?_;refine au ?_;refine RO.dL (aj.dc H) λH1 w U=>?_;refine RO.gI U λH2 R U=>?_;refine ah ?_;refine RO.lf U 1 (ws:=[]) (n:=0) (λH3 q7 U=>?_);refine ah ?_;have U:aj H H3 [tS 3 1 [] 0 true (.slice q7 0 0 0 true),tB dW R [.aS,.aS,i 4 0,.aS,.str [],.aS,.aS],tB dW w [vp,vst,aU B.aA.op,va,.str B.aA.name,vk,vg]]:=U;obtain⟨_,b⟩:=U.get 2 rfl;have r:w∉ [q7]:=λh=>U.ne 2 0 rfl rfl af (λf h=>h.1) (λf h=>(dU.mem h).1) (aep.1 h);refine RO.wO (o:=0) (v:=vp) (tB.cell b rfl) r (λS A C=>?_);have U:=U.bX C A;refine ah ?_;obtain⟨_,b⟩:=U.get 2 rfl;refine RO.agh (o:=2) (m:=5) (vs:=[aU B.aA.op,va,.str B.aA.name,vk,vg]) (tB.qQ b (by show 2+5<=7;omega)) r (λS A C=>?_);have U:=U.bX C A;refine RO.gI U λH4 V U=>?_;have W:=U.AU 0;refine RO.Ke (U.cM (akS _ _ _)) (is:=[V]) (U.gr.sl ag) (λq o m c e hv Y=>?_) (λj hj=>⟨0,_,rfl,λHx f l=>by rw[aep]at hj;subst hj;exact l.1⟩) (λS a U=>⟨λaa u=>?_,?_⟩) (h1:=qP _);·have:=Kg ag q o m c e hv;rw[aep]at Y;subst Y;omega
 .obtain⟨_,b⟩:=U.get 3 rfl;exact Qj (i:=w) (o:=2) (vs:=[aU B.aA.op,va,.str B.aA.name,vk,vg]) u (by(conv=>lhs;whnf)<;>rfl) (by(conv=>lhs;whnf)<;>rfl) cn (tB.qQ b (by show 2+5<=7;omega)) rfl
 have⟨ba,bb,bc,_⟩:=(U.sl (e:=3) (size:=1) (sv:=a) (vs:=[]++B.params.map aI) (n:=0+B.params.length) (full:=true) 0).all;refine ah ?_;refine RO.build (vs:=[a,.aS,aU B.aA.op,va,.str B.aA.name,vk,vg]) ?_ (hl:=kG rfl ba bc rfl rfl (kG rfl rfl rfl rfl rfl rfl));refine RO.iT U 1 (ws:=[a,.aS,aU B.aA.op,va,.str B.aA.name,vk,vg]) (λH5 U=>?_);have U:aj H H5 [tS 3 1 (B.params.map aI) B.params.length true a,tB dW V [a,.aS,aU B.aA.op,va,.str B.aA.name,vk,vg],tB dW R [.aS,.aS,i 4 0,.aS,.str [],.aS,.aS],tB dW w [vp,vst,aU B.aA.op,va,.str B.aA.name,vk,vg]]:=by rw[akh]at U;exact U
 have U:=(U.py qU 6).rl;refine ah ?_;refine Ru.nm λS0 M hS hM=>?_;refine Ru.cC hM (up (P:=λk=>∀Z F ss sv,(∀x(h:x<B.aD.length),x<k->tR 1 (B.aD[x].args.map aI) B.aD[x].args.length (ss x)∈F)->aj H Z [tZ F,tS qU 6 (qB B.aD ss k) k true sv,tS 3 1 (B.params.map aI) B.params.length true a,tB dW V [a,sv,aU B.aA.op,va,.str B.aA.name,vk,vg],tB dW R [.aS,.aS,i 4 0,.aS,.str [],.aS,.aS],tB dW w [vp,vst,aU B.aA.op,va,.str B.aA.name,vk,vg]]->Ru ac _ S0 ([(p4,aN k)]++pk M [p1,p2,p3]) Z) B.aD.length (λk hk ih Z F ss sv a5 U=>?_) 0 af _ [] (λ_=>.aS) _ (λx _ D=>by omega) U);subst hS;subst hM;have⟨c8,bd,c9,_⟩:=(U.sl (e:=qU) (size:=6) (sv:=sv) (vs:=qB B.aD ss k) (n:=k) (full:=true) 1).all;refine Ru.loop ?_;refine ah ?_;refine RO.gU U 5 ?_;refine ah ?_;refine Ru.cond (λp=>?_) (λp=>?_)
 .have eh:=hl.st _ (agB p);have ih:=ih (k+1) af af;have a4:B.aD.getD k default=B.aD[k]:=bF p _;refine ah ?_;refine RO.gU U 5 ?_;refine ah ?_;refine RO.cZ U.gr a3 (λq8 o8 e0 el cp er hat hrd=>?_) (j:=k);generalize cv:B.aD[k]=s at*;obtain⟨et,rfl,X⟩:=cp;have⟨ev,ew,_,_⟩:=X.all;refine ah ?_;refine RO.fx U λH6 q5 U=>?_;refine ah ?_;refine RO.qS U 1 λH7 cx U=>?_;have⟨c',_,_,_⟩:=(U.sl (e:=3) (size:=1) (sv:=cx) (vs:=[]) (n:=0) (full:=true) 0).all;refine ah ?_;refine RO.pZ U 0 (U.gr.sl X) (λH8 I U=>?_) (h1:=qP _);have⟨dm,dr,ds,_⟩:=(U.sl (e:=3) (size:=1) (sv:=I) (vs:=[]++s.args.map aI) (n:=0+s.args.length) (full:=true) 0).all;refine ah ?_;refine RO.gG U 1 (λH9 U=>?_);refine ah ?_;refine RO.gU U 5 ?_;refine ah ?_;refine RO.eQ U 1 ?_;refine RO.push U 3 (λw0 HA a6 U=>?_) (ws:=[aU s.op,aI s.to,I,aI s.n,aI s.m,.str s.name]) (hl:=kG rfl rfl rfl rfl rfl rfl);have⟨dv,dx,dy,_⟩:=(U.sl (e:=qU) (size:=6) (sv:=a6) (n:=k+1) (full:=true) 3).all;refine ah ?_;refine RO.gG U 5 (λHB U=>?_);refine ah ?_;have aw:=((U.sub (.cons_cons _ (.cons _ (akL _)))).as (t':=tR 1 (s.args.map aI) s.args.length I) 0 rfl λfp l=>by have E:=tS.mg l;rw[akh]at E;exact E).lq;exact Ru.wk (ih HB (tR 1 (s.args.map aI) s.args.length I::F) (λi=>if i=k then I else ss i) a6 (λx D cy=>by
   by_cases e:x=k;·subst e;simp only[aK,cv];exact aeU ..
   simp only[aq e];exact aey _ (a5 x D af)) (by rw[agj,a4];exact aw))
 refine Ru.exitTo ?_;obtain rfl:k=B.aD.length:=af;refine ah ?_;refine RO.lf U 1 (ws:=[]) (n:=0) (λH6 Q U=>?_);refine ah ?_;have U:aj H H6 [tS 3 1 [] 0 true (.slice Q 0 0 0 true),tZ F,tS qU 6 (qB B.aD ss B.aD.length) B.aD.length true sv,tS 3 1 (B.params.map aI) B.params.length true a,tB dW V [a,sv,aU B.aA.op,va,.str B.aA.name,vk,vg],tB dW R [.aS,.aS,i 4 0,.aS,.str [],.aS,.aS],tB dW w [vp,vst,aU B.aA.op,va,.str B.aA.name,vk,vg]]:=U;have r:w∉ [Q]:=λh=>U.ne 6 0 rfl rfl af (λf h=>h.1) (λf h=>(dU.mem h).1) (aep.1 h);obtain⟨_,b⟩:=U.get 6 rfl;refine RO.wO (o:=3) (v:=va) (tB.cell b rfl) r (λS A C=>?_);have U:=U.bX C A;refine RO.lf U 1 (ws:=[]) (n:=0) (λH7 ax U=>?_);refine ah ?_;have U:aj H H7 [tS 5 1 [] 0 true (.slice ax 0 0 0 true),tS 3 1 [] 0 true (.slice Q 0 0 0 true),tZ F,tS qU 6 (qB B.aD ss B.aD.length) B.aD.length true sv,tS 3 1 (B.params.map aI) B.params.length true a,tB dW V [a,sv,aU B.aA.op,va,.str B.aA.name,vk,vg],tB dW R [.aS,.aS,i 4 0,.aS,.str [],.aS,.aS],tB dW w [vp,vst,aU B.aA.op,va,.str B.aA.name,vk,vg]]:=U;have bv:w∉ [ax,Q]:=λh=>by
  rcases aeV.1 h with h|h;·exact U.ne 7 0 rfl rfl af (λf h=>h.1) (λf h=>(dU.mem h).1) h
  exact r h
 obtain⟨_,b⟩:=U.get 7 rfl;refine RO.wO (o:=5) (v:=vk) (tB.cell b rfl) bv (λS A C=>?_);have U:=U.bX C A;have W:=U.CI 0;refine RO.Ke (U.cM (akS _ _ _)) (is:=[ax]) (U.gr.sl O) (λq o m c e hv Y=>?_) (λj hj=>⟨0,_,rfl,λHx f l=>by rw[aep]at hj;subst hj;exact(dU.mem l).1⟩) (λS d U=>⟨λaa u=>?_,?_⟩) (h1:=qP _);·have:=Kg O q o m c e hv;rw[aep]at Y;subst Y;omega
 .obtain⟨_,b⟩:=U.get 7 rfl;exact il (i:=w) (o:=5) (v:=vk) u (by(conv=>lhs;whnf)<;>rfl) (by(conv=>lhs;whnf)<;>rfl) cf (Sl.bX P) (tB.cell b rfl) rfl
 have⟨dz,bS,dD,_⟩:=(U.sl (e:=3) (size:=1) (sv:=d) (vs:=[]++B.aA.args.map aI) (n:=0+B.aA.args.length) (full:=true) 0).all;refine ah ?_;refine RO.pZ U 1 (U.gr.sl P) (λH8 g U=>?_) (h1:=HS.2 λv hv=>by obtain⟨x,_,rfl⟩:=akk.1 hv;rfl);have⟨dE,b0,d0,_⟩:=(U.sl (e:=5) (size:=1) (sv:=g) (vs:=[]++B.aA.b9.map aU) (n:=0+B.aA.b9.length) (full:=true) 1).all;refine ah ?_;refine RO.gG U 5 (λH9 U=>?_);refine ah ?_;refine RO.gG U 5 (λH9 U=>?_);refine ah ?_;refine RO.gG U 5 (λHE U=>?_);refine ah ?_;have z1:=(((U.gk 2 rfl).gk 1 rfl).as (t':=tR 1 (B.aA.args.map aI) B.aA.args.length d) 0 rfl λfp l=>by have E:=tS.mg l;rw[akh]at E;exact E).lq;have z2:=((z1.gk 1 rfl).as (t':=tR 1 (B.aA.b9.map aU) B.aA.b9.length g) 0 rfl λfp l=>by have E:=tS.mg l;rw[akh]at E;exact E).lq;have z3:=((z2.gk 1 rfl).as 0 rfl λfp l=>tS.mg l).lq;have z4:=((z3.gk 1 rfl).as 0 rfl λfp l=>tS.mg l).lq;have U:=(z4.py yj 2).cM (akS _ _ _);have m1:∀t∈ [tR 1 (B.params.map aI) B.params.length a,tR 6 (qB B.aD ss B.aD.length) B.aD.length sv,tR 1 (B.aA.b9.map aU) B.aA.b9.length g,tR 1 (B.aA.args.map aI) B.aA.args.length d]++F,t∈tR 1 (B.params.map aI) B.params.length a::tR 6 (qB B.aD ss B.aD.length) B.aD.length sv::tR 1 (B.aA.b9.map aU) B.aA.b9.length g::tR 1 (B.aA.args.map aI) B.aA.args.length d::F:=λt ht=>ht;clear z1 z2 z3 z4;refine Ru.nm λS1 M1 cE a8=>?_;refine Ru.cC a8 (up (P:=λj=>∀Z F2 es gv,(∀t∈ [tR 1 (B.params.map aI) B.params.length a,tR 6 (qB B.aD ss B.aD.length) B.aD.length sv,tR 1 (B.aA.b9.map aU) B.aA.b9.length g,tR 1 (B.aA.args.map aI) B.aA.args.length d]++F,t∈F2)->(∀x(h:x<B.aA.go.length),x<j->tR 1 (B.aA.go[x].args.map aI) B.aA.go[x].args.length (es x)∈F2)->aj H Z [tZ F2,tS yj 2 (uk B.aA.go es j) j true gv,tB dW V [a,sv,aU B.aA.op,d,.str B.aA.name,g,gv],tB dW R [.aS,.aS,i 4 0,.aS,.str [],.aS,.aS],tB dW w [vp,vst,aU B.aA.op,va,.str B.aA.name,vk,vg]]->Ru ac _ S1 ([(p6,aN j)]++pk M1 [p1,p2,p3]) Z) B.aA.go.length (λj hj ih Z F2 es gv y k7 U=>?_) 0 af _ _ (λ_=>.aS) _ m1 (λx _ D=>by omega) U);subst cE;subst a8;have⟨b3,b4,d1,_⟩:=(U.sl (e:=yj) (size:=2) (sv:=gv) (vs:=uk B.aA.go es j) (n:=j) (full:=true) 1).all;have b5:=Sl.bX (U.sl (e:=yj) (size:=2) (sv:=gv) (vs:=uk B.aA.go es j) (n:=j) (full:=true) 1);refine Ru.loop ?_;refine ah ?_;refine Ru.cond (λp=>?_) (λp=>?_)
 .have eh:=hl.ed _ (agB p);have ih:=ih (j+1) af af;have b6:B.aA.go.getD j default=B.aA.go[j]:=bF p _;have b':=Sl.bX av;have a2:=Kg av;obtain⟨qe,oe,J,ay,ce,rfl,he,ey,L,d2⟩:=ar.at p;have a0:=a2 qe oe _ _ _ rfl;generalize cK:B.aA.go[j]=e at*;obtain⟨ve,rfl,a9⟩:=he;have⟨eP,_,_,_⟩:=a9.all;refine ah ?_;refine RO.aW (v:=aI e.block) ?_ (hc:=by rw[U.gr.bh a0];exact L 0 _ rfl);refine RO.lf U 1 (ws:=[]) (n:=0) (λH6 a1 U=>?_);refine ah ?_;have U:aj H H6 [tS 3 1 [] 0 true (.slice a1 0 0 0 true),tZ F2,tS yj 2 (uk B.aA.go es j) j true gv,tB dW V [a,sv,aU B.aA.op,d,.str B.aA.name,g,gv],tB dW R [.aS,.aS,i 4 0,.aS,.str [],.aS,.aS],tB dW w [vp,vst,aU B.aA.op,va,.str B.aA.name,vk,.slice qe oe B.aA.go.length J ay]]:=U;have r:w∉ [a1]:=λh=>U.ne 5 0 rfl rfl af (λf h=>h.1) (λf h=>(dU.mem h).1) (aep.1 h);have W:=U.CI 0;obtain⟨_,b⟩:=U.get 5 rfl;refine RO.wO (o:=6) (v:=.slice qe oe B.aA.go.length J ay) (tB.cell b rfl) r (λS A C=>?_);have U:=U.bX C A;refine ah ?_;refine RO.wO (is:=[a1]) (o:=oe+j*2+1) (v:=ve) (by rw[U.gr.bh a0];exact L 1 _ rfl) (λh=>by rw[aep]at h;subst h;omega) (λS A C=>?_);have U:=U.bX C A;refine RO.Ke U (is:=[]) (U.gr.sl a9) (λq o m c e hv Y=>by cases Y) (λj hj=>by cases hj) (λS z U=>⟨λaa u=>?_,?_⟩) (h1:=qP _);·obtain⟨_,b⟩:=U.get 5 rfl;obtain⟨_,c3⟩:=U.get 3 rfl;refine il (i:=qe) (o:=oe+j*2+0) (v:=aI e.block) u (by(conv=>lhs;whnf)<;>rfl) (by(conv=>lhs;whnf)<;>rfl) rfl (by simp[iy,gz,fQ]) (by rw[U.gr.bh a0];exact L 0 _ rfl) ?_;refine il (i:=w) (o:=6) (v:=.slice qe oe B.aA.go.length J ay) u (by(conv=>lhs;whnf)<;>rfl) (by(conv=>lhs;whnf)<;>rfl) rfl b' (tB.cell b rfl) ?_;exact il (i:=V) (o:=6) (v:=gv) u (by(conv=>lhs;whnf)<;>rfl) (by(conv=>lhs;whnf)<;>rfl) b3 b5 (tB.cell c3 rfl) rfl
  have⟨ca,d3,cd,_⟩:=(U.sl (e:=3) (size:=1) (sv:=z) (vs:=[]++e.args.map aI) (n:=0+e.args.length) (full:=true) 0).all;refine RO.build (vs:=[aI e.block,z]) ?_ (hl:=kG rfl rfl rfl rfl rfl (kG rfl ca cd rfl rfl rfl));refine RO.push U 2 (λw0 HA a' U=>?_) (ws:=[aI e.block,z]) (hl:=kG rfl rfl rfl rfl rfl rfl);have⟨d4,d5,d6,_⟩:=(U.sl (e:=yj) (size:=2) (sv:=a') (n:=j+1) (full:=true) 2).all;refine ah ?_;refine RO.gG U 3 (λHB U=>?_);refine ah ?_;have aw:=(U.as (t':=tR 1 (e.args.map aI) e.args.length z) 0 rfl λfp l=>by have E:=tS.mg l;rw[akh]at E;exact E).lq;exact Ru.wk (ih HB (tR 1 (e.args.map aI) e.args.length z::F2) (λi=>if i=j then z else es i) a' (λt ht=>aey _ (y t ht)) (λx D cy=>by
   by_cases e:x=j;·subst e;simp only[aK,cK];exact aeU ..
   simp only[aq e];exact aey _ (k7 x D af)) (by rw[agk,b6];exact aw))
 refine Ru.exitTo ?_;obtain rfl:j=B.aA.go.length:=af;refine ah ?_;refine RO.eQ U 2 ?_;refine RO.iT U 3 (λHF U=>?_) (ws:=[a,sv,aU B.aA.op,d,.str B.aA.name,g,gv]);refine ah ?_;have y1:=((U.gk 1 rfl).as 0 rfl λfp l=>tS.mg l).lq;have y2:=agm y1 (B:=B) (vp:=a) (vst:=sv) (va:=d) (vk:=g) (vg:=gv) (ss:=ss) (es:=es) (.tail _ (y _ aB)) (.tail _ (y _ aB)) (λx D=>.tail _ (y _ (akq _ (a5 x D D)))) (.tail _ (y _ aB)) (.tail _ (y _ aB)) (.head _) (λx D=>.tail _ (k7 x D D));exact Ru.lM (vs:=[_]) ⟨⟨R,0,rfl,U.agg 3⟩,trivial⟩ (h HF _ rfl (ao bb (ao bd (ao rfl (ao bS (ao rfl (ao b0 (ao b4 rfl))))))) (y2.sub (.cons_cons _ (.cons _ (.cons _ (.cons _ .slnil))))))
end
end
section
section
variable{g:G.bu}{H:ai}{cs:List AV}
theorem Kh(T:Tb ac)(hg:iG H g cs)(hn:g.al.length<=5000)(Q:∀b∈g.al,CJ b){K:KT}(h:∀H' a,bm H H'->iG H' g a->K (.agg a) H'):YN ac Wf [.agg cs] H K:=by
 obtain⟨G,rfl,cA⟩:=hg;have⟨ag,ar,av,aw⟩:=cA.all;refine YF.code T.aaZ aB ?_;refine au ?_;refine RO.dL (aj.dc H) λH1 I U=>?_;refine RO.gI U λH2 o U=>?_;refine ah ?_;refine RO.eQ U 1 ?_;refine RO.fx U λH3 p U=>?_;refine ah ?_;refine RO.gG U 0 (λR U=>?_);have U:aj H R [tB fI p [.str g.name,aI g.params,aI g.bp,.aS],tB fI o [.str [],i 3 0,i 3 0,.aS],tB fI I [.str g.name,aI g.params,aI g.bp,G]]:=U;have U:=(U.py dW 7).rl;refine ah ?_;refine Ru.nm λS M V J=>?_;refine Ru.cC J (up (P:=λk=>∀q F(cc:Nat->List AV)sv,(∀x,(cc x).length=7)->(∀x(h:x<g.al.length),x<k->tK g.al[x] (cc x)∈F)->aj H q [tZ F,tS dW 7 ((ake k).flatMap cc) k true sv,tB fI p [.str g.name,aI g.params,aI g.bp,sv],tB fI o [.str [],i 3 0,i 3 0,.aS],tB fI I [.str g.name,aI g.params,aI g.bp,G]]->Ru ac _ S ([(p4,aN k)]++pk M [p1,p2,p3]) q) g.al.length (λk n r q F cc sv c d U=>?_) 0 af _ [] (λ_=>ahr 7 .aS) _ (λ_=>rfl) (λx _ L=>by omega) U);subst V;subst J;have f:=U.sl (e:=dW) (size:=7) (sv:=sv) (vs:=(ake k).flatMap cc) (n:=k) (full:=true) 1;have⟨l,O,P,_⟩:=f.all;have m:=Sl.bX f;refine Ru.loop ?_;refine ah ?_;refine Ru.cond (λj=>?_) (λj=>?_)
 .have r:=r (k+1) af af;have z:=Q _ (agB j);refine ah ?_;refine RO.cZ U.gr cA (λq8 o8 c8 ax A ay hat hrd=>?_) (j:=k);generalize C:g.al[k]=B at*;refine ah ?_;refine RO.Qi (ago T (dQ.block U.gr A) z λH5 a W h1 hl=>⟨λaa D=>?_,?_⟩);·obtain⟨_,E⟩:=(U.fC hl).get 3 rfl;exact il (i:=p) (o:=3) (v:=sv) D (by(conv=>lhs;whnf)<;>rfl) (by(conv=>lhs;whnf)<;>rfl) l m (tB.cell E rfl) rfl
  have U:=(U.fC hl).lq;match a,W with
   |[s,t,u,v,w,y,a7],_=>
    refine RO.push U 1 (λw0 H6 N U=>?_) (ws:=[s,t,u,v,w,y,a7]) (hl:=kG rfl rfl rfl rfl rfl rfl);have⟨a0,a1,a2,_⟩:=(U.sl (e:=dW) (size:=7) (n:=k+1) (full:=true) (sv:=N) 1).all;refine ah ?_;refine RO.gG U 2 (λX U=>?_);refine ah ?_;exact Ru.wk (r X (tK B [s,t,u,v,w,y,a7]::F) (λi=>if i=k then[s,t,u,v,w,y,a7]else cc i) N (λx=>by
     by_cases e:x=k;·simp only[aK e];rfl
     simp only[aq e];exact c x) (λx L a3=>by
     by_cases e:x=k;·subst e;simp only[aK,C];exact aeU ..
     simp only[aq e];exact aey _ (d x L af)) (by rw[alb,akD,akK,aK rfl];rw[CY (g:=cc) λi hi=>by rw[ak3]at hi;rw[aq af]];exact U))
 refine Ru.exitTo ?_;obtain rfl:k=g.al.length:=af;refine ah ?_;refine RO.eQ U 2 ?_;refine RO.iT U 3 (λY U=>?_) (ws:=[.str g.name,aI g.params,aI g.bp,sv]);refine ah ?_;refine Ru.lM (vs:=[_]) ⟨⟨o,0,rfl,U.agg 3⟩,trivial⟩ (h Y _ U.gr ⟨sv,rfl,_,U.sl (e:=dW) (size:=7) (sv:=sv) (vs:=(ake g.al.length).flatMap cc) (n:=g.al.length) (full:=true) 1,λk n=>?_⟩);rw[Fq c n];obtain⟨_,Z⟩:=U.mf 0 rfl (d k n n);exact Ft.aH Z
end
end
end
end Go.am.R
end
