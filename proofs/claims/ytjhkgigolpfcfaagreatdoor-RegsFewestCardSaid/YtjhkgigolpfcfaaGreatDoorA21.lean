/- A part of the proof. No conditions. -/
import Derived.Test.YtjhkgigolpfcfaaGreatDoorA20
import Derived.Test.YtjhkgigolpfcfaaGreatDoorA17
set_option linter.all false
set_option maxHeartbeats 16000000
open List renaming mem_singleton->aep,mem_cons_of_mem->aey,mem_cons_self->aeU,replicate->ahr,range->ake,length_map->akg,getElem?_append_left->akw,length_singleton->akC,length_take->akF,nodup_append->akI,range_succ->alb
open Nat renaming le_of_ble_eq_true->akc,le_trans->alj,add_assoc->alo
open Int renaming ofNat->ak1
open List.Perm renaming cons->akO,swap->akS
noncomputable section
namespace Go.am.R
section
variable{ac:Nat->aG}
section
def ru(g:G.bu)(x:Int):Int:=((aH g (x.toNat/2)).aA.go.getD 2 default).block
def lu(g:G.bu)(b:Nat)(o:List Int):List (Int×List Int):=
 if(aH g b).aA.op=67 then[(((aH g b).aA.go.getD 0 default).block,o++[2*(b:Int)]),(((aH g b).aA.go.getD 1 default).block,o++[2*(b:Int)+1])]
 else if(aH g b).aA.op=68 then(if o.length=0 then[]else[(ru g (o.getD (o.length - 1) 0),o.take (o.length - 1))])
 else(aH g b).aA.go.map λe=>(e.block,o)
def wX(g:G.bu)(o:List Int):Prop:=∀x∈o,0<=x/\x.toNat/2<g.al.length/\(aH g (x.toNat/2)).aA.go.length=3
def rA(w:List (Int×List Int))(a:Nat->AV):List AV:=(ake w.length).flatMap λk=>[aI (w.getD k (0,[])).1,a k]
def afC(o:List Int)(c:AV)(w:List (Int×List Int))(a:Nat->AV)(F:List Th):Prop:=∀k,k<w.length->tR 1 ((w.getD k (0,[])).2.map aI) (w.getD k (0,[])).2.length (a k)∈F\/∀b,Sl b 1 (o.map aI) o.length c->Sl b 1 ((w.getD k (0,[])).2.map aI) (w.getD k (0,[])).2.length (a k)
theorem CY{b c:Type}{f g:b->List c}:∀{l:List b},(∀x∈l,f x=g x)->l.flatMap f=l.flatMap g|[],_=>rfl|a::l,h=>by rw[alp,alp,h a (aeU ..),CY λx d=>h x (aey _ d)]
theorem afD{w:List (Int×List Int)}{x:Int×List Int}{a:Nat->AV}:rA (w++[x]) a=rA w a++[aI x.1,a w.length]:=by
 unfold rA;rw[aj8,akC,alb,akD,akK];congr 1;·refine CY λk b=>?_;rw[ak3]at b;simp[akw b]
 simp
theorem _root_.Go.am.aj.Qg{A H:ai}{t:Th}{a:List Th}(U:aj A H (t::a)):aj A H (tZ [t]::a):=(U.rl.cM (akS t (tZ []) a)).lq
section
variable{g:G.bu}{H:ai}{cs:List AV}
theorem afE(T:Tb ac)(hg:iG H g cs)(hB:G.Sm g){b:Nat}(hb:b<g.al.length)(n:(aH g b).aA.op=67->(aH g b).aA.go.length=3){o:List Int}{a:AV}(q:fZ H o a)(cn:o.length<=1000)(hO:wX g o){K:KT}(h:∀H' wv vs F,afC o a (lu g b o) vs F->aj H H' [tZ F,tS nO 2 (rA (lu g b o) vs) (lu g b o).length true wv]->K wv H'):YN ac WN [.agg cs,aN b,a] H K:=by
 have b5:=hg.one;obtain⟨vb,rfl,cA⟩:=hg;have⟨cp,_,_,cv⟩:=cA.all;have⟨Z,cx,ag,cy⟩:=q.all;have cE:=hB.nb;have ar:=agB hb;have cK:=hB.bl _ ar;have l:aH g b=g.al[b]:=by rw[aH,bF hb]
 rw[l]at n;refine YF.code T.abB aB ?_;refine ah ?_;refine RO.dL (aj.dc H) λH1 q3 U=>?_;refine ah ?_;refine RO.cZ U.gr cA (λq1 o1 c1 av p aw hat hrd=>?_) (j:=b);unfold lu at h;rw[l]at h;generalize c3:g.al[b]=B at*;obtain⟨vp,c5,jc,rfl,c9,c',va,vk,vg,rfl,ax,ay,c⟩:=p;have⟨dm,_,_,dr⟩:=c.all;have⟨ds,dv,_,_⟩:=ax.all;have⟨dx,dy,_,_⟩:=ay.all;have dz:=c.ee;have b6:=I' (k:=2) (m:=5) hrd bA;refine ah ?_;refine RO.qS U 2 λH2 O U=>?_;have⟨dD,_,_,_⟩:=(U.sl (e:=nO) (size:=2) (sv:=O) (vs:=[]) (n:=0) (full:=true) 0).all;refine RO.fx U λH3 q7 U=>?_;have U:aj H H3 [tB tx q7 [aU B.aA.op,va,.str B.aA.name,vk,vg],tS nO 2 [] 0 true O,tB fI q3 [.str g.name,aI g.params,aI g.bp,vb]]:=U;refine ah ?_;refine Ru.cond (λE=>?_) (λE=>?_)
 .have n:=n E;rw[aK E]at h;have s:iK .mul 3 (.ofNat 2) (.ofNat b)=some (aI (2*(b:Int))):=by simp only[iK];rw[show(ak1 2*ak1 b:Int)=2*(b:Int)from rfl,pY af af]
  refine ah ?_;refine RO.qS U 1 λH4 a0 U=>?_;have⟨dE,_,_,_⟩:=(U.sl (e:=3) (size:=1) (sv:=a0) (vs:=[]) (n:=0) (full:=true) 0).all;refine ah ?_;refine RO.pZ U 0 (U.gr.sl q) (λH5 a1 U=>?_) (h1:=qP _);have⟨d0,_,_,_⟩:=(U.sl (e:=3) (size:=1) (sv:=a1) (vs:=[]++o.map aI) (n:=0+o.length) (full:=true) 0).all;refine ah ?_;refine RO.arith ?_ (hv:=s);refine RO.push U 0 (λw1 H6 I U=>?_) (ws:=[aI (2*(b:Int))]);have⟨a2,d1,a3,_⟩:=(U.sl (e:=3) (size:=1) (n:=0+o.length+1) (full:=true) (sv:=I) 0).all;refine ah ?_;refine RO.qS U 1 λH7 a4 U=>?_;have⟨d2,_,_,_⟩:=(U.sl (e:=3) (size:=1) (sv:=a4) (vs:=[]) (n:=0) (full:=true) 0).all;refine ah ?_;refine RO.pZ U 0 (U.gr.sl q) (λH8 a5 U=>?_) (h1:=qP _);have⟨d3,_,_,_⟩:=(U.sl (e:=3) (size:=1) (sv:=a5) (vs:=[]++o.map aI) (n:=0+o.length) (full:=true) 0).all;refine ah ?_;refine RO.arith ?_ (hv:=s);refine RO.add ?_ (a:=2*(b:Int)) (b:=1);refine RO.push U 0 (λw1 H9 j U=>?_) (ws:=[aI (2*(b:Int)+1)]);have⟨C,b',D,_⟩:=(U.sl (e:=3) (size:=1) (n:=0+o.length+1) (full:=true) (sv:=j) 0).all;refine ah ?_;refine RO.cZ U.gr c (λP Q c8 a6 d t hat hrd=>?_) (j:=0);obtain⟨R,rfl,_⟩:=d;refine ah ?_;refine RO.build (vs:=[aI B.aA.go[0].block,I]) ?_ (hl:=kG rfl rfl rfl rfl rfl (kG rfl a2 a3 rfl rfl rfl));refine ah ?_;refine RO.cZ U.gr c (λP Q c8 ca d t hat hrd=>?_) (j:=1);obtain⟨R,rfl,_⟩:=d;refine ah ?_;refine RO.build (vs:=[aI B.aA.go[1].block,j]) ?_ (hl:=kG rfl rfl rfl rfl rfl (kG rfl C D rfl rfl rfl));refine RO.lf U 2 (ws:=[aI B.aA.go[0].block,I,aI B.aA.go[1].block,j]) (n:=2) (λHA a8 U=>?_) (hl:=kG rfl rfl rfl rfl rfl (kG rfl rfl rfl rfl rfl rfl));refine RO.pZ U 4 (U.sl (e:=nO) (size:=2) (n:=2) (full:=true) 0) (λS f U=>?_);have⟨a9,_,_,_⟩:=(U.sl (e:=nO) (size:=2) (n:=0+2) (full:=true) (sv:=f) 4).all;refine ah ?_;have e1:∀x:Int,[]++o.map aI++[aI x]=(o++[x]).map aI:=λx=>by simp
  have e2:∀x:Int,0+o.length+1=(o++[x]).length:=λx=>by simp
  have a':=((U.sub (.cons _ (.cons_cons _ (.cons_cons _ (.cons _ (.cons_cons _ (.cons _ .slnil))))))).as 0 rfl λfp V=>tS.mg V).as 1 rfl λfp V=>tS.mg V;have u:=((((a'.cM (akS _ _ _)).Qg).cM (akS _ _ _)).lq);rw[e1,e1,e2 (2*(b:Int))]at u;have W:B.aA.go.getD 0 default=B.aA.go[0]:=bF af _;have ba:B.aA.go.getD 1 default=B.aA.go[1]:=bF af _;rw[W,ba]at h;refine Ru.aV (h S f (λk=>if k=0 then I else j) _ (λk r=>.inl ?_) u);match k,r with|0,_=>simp|1,_=>simp
 rw[aq E]at h;refine ah ?_;refine Ru.cond (λX=>?_) (λX=>?_)
 .rw[aK X]at h;refine ah ?_;refine Ru.cond (λY=>?_) (λY=>?_);·rw[aK Y]at h;refine ah ?_;exact Ru.aV (h _ O (λ_=>.aS) [] (λk r=>absurd r aB) (U.sub (.cons _ (.cons_cons _ (.cons _ .slnil)))).rl)
  rw[aq Y]at h;have i:o.length - 1<o.length:=af;refine ah ?_;refine RO.arith (v:=aN (o.length - 1)) ?_ (hv:=px (k:=o.length) af af);refine RO.kz U.gr q (λP Q hj d4=>?_) (j:=o.length - 1);have v:=hO _ (agB i);have bb:o.getD (o.length - 1) 0=o[o.length - 1]:=bF i _;rw[bb]at h;generalize o[o.length - 1]=x at*;obtain⟨x,rfl⟩:∃y:Nat,x=y:=⟨x.toNat,af⟩;rw[ru,aj3]at h;rw[aj3]at v;obtain⟨_,bc,z⟩:=v;have hq:iK .quo 3 (x:Int) (.ofNat 2)=some (aN (x/2)):=by simp only[iK];rw[aq bA,show((x:Int).tdiv (ak1 2))=((x/2:Nat):Int)from by rw[aj5,Int.tdiv_eq_ediv_of_nonneg af];simp,pY af af];rfl
  refine ah ?_;refine RO.arith ?_ (hv:=hq);refine RO.cZ U.gr cA (λq1 o1 c1 av p aw hat hrd=>?_) (j:=x/2);rw[aH,bF bc]at z h;generalize g.al[x/2]=B2 at*;obtain⟨d5,cd,d6,rfl,_,_,d7,d',bd,rfl,_,_,m⟩:=p;have⟨cf,_,_,_⟩:=m.all;refine ah ?_;refine RO.aW (v:=bd) ?_ (hc:=hat 6 _ rfl);refine RO.cZ U.gr m (λP Q c8 a6 d t hat hrd=>?_) (j:=2);obtain⟨R,rfl,_⟩:=d;refine ah ?_;refine RO.arith (v:=aN (o.length - 1)) ?_ (hv:=px (k:=o.length) af af);refine RO.pc (U.gr.sl q) (b:=o.length - 1) ?_;have A:=λJ(hs:Sl J 1 (o.map aI) o.length a)=>CF hs (b:=o.length - 1) af;have⟨bv,_,bS,_⟩:=(A _ q).all;refine RO.build (vs:=[aI B2.aA.go[2].block,pc a (o.length - 1)]) ?_ (hl:=kG rfl rfl rfl rfl rfl (kG rfl bv bS rfl rfl rfl));refine RO.lf U 2 (ws:=[aI B2.aA.go[2].block,pc a (o.length - 1)]) (n:=1) (λHA a8 U=>?_) (hl:=kG rfl rfl rfl rfl rfl rfl);refine RO.pZ U 2 (U.sl (e:=nO) (size:=2) (n:=1) (full:=true) 0) (λS f U=>?_);have⟨a9,_,_,_⟩:=(U.sl (e:=nO) (size:=2) (n:=0+1) (full:=true) (sv:=f) 2).all;refine ah ?_;have W:B2.aA.go.getD 2 default=B2.aA.go[2]:=bF af _;rw[W]at h;refine Ru.aV (h S f (λk=>pc a (o.length - 1)) [] (λk r=>.inr λJ hs=>?_) (U.sub (.cons _ (.cons _ (.cons_cons _ (.cons _ .slnil))))).rl);have b0:k=0:=by simpa using r
  subst b0;have:=A J hs;rw[alt,<-List.map_take]at this;simpa using this
 rw[aq X]at h;refine ah ?_;refine Ru.nm λS0 M hS hM=>?_;refine Ru.cC hM (up (P:=λk=>∀L w,aj H L [tB tx q7 [aU B.aA.op,va,.str B.aA.name,vk,vg],tS nO 2 (rA ((B.aA.go.take k).map λe=>(e.block,o)) λ_=>a) k true w,tB fI q3 [.str g.name,aI g.params,aI g.bp,vb]]->Ru ac _ S0 ([(aY,aN k),(p8,w)]++pk M [p2,p7]) L) B.aA.go.length (λk r N L w U=>?_) 0 af _ _ U);subst hS;subst hM;have⟨ea,_,_,_⟩:=(U.sl (e:=nO) (size:=2) (sv:=w) (n:=k) (full:=true) 1).all;refine Ru.loop ?_;refine ah ?_;refine Ru.cond (λi=>?_) (λi=>?_);·have N:=N (k+1) af af;rw[(akd i).symm,akE,List.map_singleton,afD]at N;refine ah ?_;refine RO.cZ U.gr c (λq9 o9 ek eb b3 ec hat hrd=>?_) (j:=k);generalize B.aA.go[k]=e at*;obtain⟨R,rfl,ei⟩:=b3;refine ah ?_;refine RO.build (vs:=[aI e.block,a]) ?_ (hl:=kG rfl rfl rfl rfl rfl (kG rfl Z ag rfl rfl rfl));refine RO.push U 1 (λw0 H5 v2 U=>?_) (ws:=[aI e.block,a]);have⟨ej,_,_,_⟩:=(U.sl (e:=nO) (size:=2) (n:=k+1) (full:=true) (sv:=v2) 1).all;refine ah ?_;exact Ru.wk (N _ v2 U)
 refine Ru.exitTo ?_;rw[akl af]at U;have b4:k=(B.aA.go.map λe=>(e.block,o)).length:=by rw[akg];omega
 refine ah ?_;refine Ru.aV (h L w (λ_=>a) [] (λx hx=>.inr λJ hs=>?_) ?_)
 .have z:x<B.aA.go.length:=by simpa using hx
  have e:((B.aA.go.map λe=>(e.block,o)).getD x (0,[])).2=o:=by rw[bF hx,akN]
  rw[e];exact hs
 rw[<-b4];exact(U.sub (.cons _ (.cons_cons _ (.cons _ .slnil)))).rl
end
end
section
theorem RO.afF{A H:ai}{j:List Th}{c:Cx}{s:List SI}{L:Kn}{d:Option ab}{l:List be}{e n k cap:Nat}{b ex:Bool}{q:ab}{m:Type}{f:m->AV}{zs:List m}(U:aj A H j)(i:Nat)(z:m)(o:zs.length=n){a x:aJ}{re:List jo}(h:∀H',aj A H' (j.set i (tS e 1 ((zs.set k z).map f) n b (.slice q 0 n cap ex)))->(∀aa,Le (bC L d .alR) aa->fG aa H' re=true)/\RO ac c l s (bC L d .alR) H')(p:bf L a=.az q (0+k*1):=by exact cw)(r:bf L x=f z:=by exact cw)(hi:j[i]?=some (tS e 1 (zs.map f) n b (.slice q 0 n cap ex)):=by rfl)(t:k<zs.length:=by first|omega|assumption)(u:(f z).ee=true:=by first|rfl|assumption)(v:(f z).cells=[f z]:=by first|rfl|assumption)(hd:(f z).bB=true:=by first|rfl|assumption):RO ac c (⟨d,.store 1 a x,none,[],re⟩::l) s L H:=by subst o;obtain⟨C,w,_,hu⟩:=U.ki i hi;obtain⟨H',h1,h2,h3⟩:=NC.set (k:=k) w t z u;have:=hu (t':=tS e 1 ((zs.set k z).map f) (zs.set k z).length b (.slice q 0 (zs.set k z).length cap ex)) h2 h3;rw[ak4]at this;obtain⟨y,B⟩:=h H' this;refine RO.Ei (λ_ _ h=>by cases h) (λ_ h=>by cases h) (λaa g=>⟨H',?_,rfl⟩) y B;simp only[eV,aE,g.gv p rfl,g.gv r hd,v,akC,bq,h1]
theorem afG(T:Tb ac){H:ai}{l m:List Int}{v w:AV}(g:fZ H l v)(j:fZ H m w)(hl:l.length<=1000000){K:KT}(h1:l=m->K (.bool true) H)(h2:l≠m->K (.bool false) H):YN ac Wk [v,w] H K:=by
 have⟨s,t,u,x⟩:=g.all;have⟨y,z,A,B⟩:=j.all;refine YF.code T.aa4 aB ?_;refine ah ?_;refine Ru.cond (λa=>?_) (λa=>?_);·refine ah ?_;exact Ru.aV (h2 λe=>a (by rw[e]))
 have a:l.length=m.length:=af;refine ah ?_;refine Ru.nm λS M p n=>?_;refine Ru.cC n (up (P:=λk=>(∀i(h:i<l.length)(b:i<m.length),i<k->l[i]=m[i])->Ru ac _ S ([(p5,aN k)]++pk M [p0,p1]) H) l.length (λk C q o=>?_) 0 af (λi _ _ hi=>by omega));subst p;subst n;refine Ru.loop ?_;refine ah ?_;refine Ru.cond (λd=>?_) (λd=>?_)
 .refine ah ?_;refine RO.kz (bm.refl H) g (λr o1 hj f=>?_) (j:=k);refine ah ?_;refine RO.kz (bm.refl H) j (λr o1 hj f=>?_) (j:=k);refine ah ?_;refine Ru.cond (λc=>?_) (λc=>?_);·refine ah ?_;exact Ru.aV (h2 λe=>c (by subst e;rfl))
  refine ah ?_;refine Ru.wk (q (k+1) af af λi h b hi=>?_);by_cases e:i=k;·subst e;exact Classical.not_not.1 c
  exact o i h b af
 refine Ru.exitTo ?_;refine ah ?_;exact Ru.aV (h1 (alg a λi h b=>o i h b af))
structure mL(g:G.bu):Prop where
 ne:0<g.al.length
 t3:∀b,b<g.al.length->(aH g b).aA.op=67->(aH g b).aA.go.length=3
 rg:∀b,b<g.al.length->∀e∈(aH g b).aA.go,1<=e.block/\e.block<=(g.al.length:Int) - 1
theorem sD.sh{g:G.bu}(h:sD g):mL g:=by
 have hb:∀b,b<g.al.length->yO g (aH g b).aA:=λb hb=>by rw[aH,bF hb];exact h.CD _ (agB hb)
 refine⟨h.ne,λb c d=>?_,λb c e he=>?_⟩;·have:=(hb b c).ae;generalize(aH g b).aA.go.length=n at*;generalize(aH g b).aA.args.length=a at*;cases this<;>simp_all
 obtain⟨i,hi,rfl⟩:=aka he;have:=(hb b c).E0 i hi;exact⟨this.lo,this.hi⟩
inductive lR(g:G.bu)(wo:Int):Nat->List Int->Prop
 |zero(h:wo≠0):lR g wo 0 []
 |step{b:Nat}{o:List Int}{w:Int×List Int}(h:lR g wo b o)(hw:w∈lu g b o)(hn:w.1≠wo):lR g wo w.1.toNat w.2
section
variable{g:G.bu}{wo:Int}
theorem wX.wz{o:List Int}{x:Int}(h:wX g o)(b:0<=x/\x.toNat/2<g.al.length/\(aH g (x.toNat/2)).aA.go.length=3):wX g (o++[x]):=λy a=>by
 rcases ahp.1 a with a|a;·exact h y a
 rw[aep]at a;subst a;exact b
theorem vE(d:mL g){b:Nat}(hb:b<g.al.length){o:List Int}(c:wX g o):∀w∈lu g b o,(1<=w.1/\w.1<=(g.al.length:Int) - 1)/\wX g w.2/\w.2.length<=o.length+1:=by
 intro w a;unfold lu at a;split at a
 .rename_i f;have h3:=d.t3 b hb f;have h:=d.rg b hb;have e1:(2*(b:Int)).toNat/2=b:=af;have e2:(2*(b:Int)+1).toNat/2=b:=af;simp only[aeV,aki,or_false]at a;rcases a with rfl|rfl;·refine⟨h _ (by rw[bF af];exact agB _),c.wz ⟨af,by rw[e1];exact hb,by rw[e1];exact h3⟩,aB⟩
  refine⟨h _ (by rw[bF af];exact agB _),c.wz ⟨af,by rw[e2];exact hb,by rw[e2];exact h3⟩,aB⟩
 split at a
 .split at a;·cases a
  rename_i h0;rw[aep]at a;subst a;have i:=agB (l:=o) (n:=o.length - 1) af;obtain⟨_,h2,h3⟩:=c _ i;refine⟨?_,λx j=>c x (List.mem_of_mem_take j),by rw[akF];omega⟩;show 1<=ru g _/\_;rw[bF af,ru];exact d.rg _ h2 _ (by rw[bF af];exact agB _)
 obtain⟨e,he,rfl⟩:=akk.1 a;exact⟨d.rg b hb e he,c,aB⟩
theorem lR.ok(a:mL g){b:Nat}{o:List Int}(h:lR g wo b o):b<g.al.length/\wX g o:=by induction h with|zero _=>exact⟨a.ne,λx d=>by cases d⟩|step _ e _ c=>obtain⟨⟨h1,h2⟩,h3,_⟩:=vE a c.1 c.2 _ e;exact⟨af,h3⟩
structure lw(g:G.bu)(wo:Int)(come:List Bool)(aC:List (List Int)):Prop where
 lc:come.length=g.al.length
 lo:aC.length=g.al.length
 c0:wo≠0->come.getD 0 false=true
 JN:∀b,come.getD b false=false->aC.getD b []=[]
 snd:∀b,come.getD b false=true->lR g wo b (aC.getD b [])
 jx:∀b,come.getD b false=true->(aC.getD b []).length+lr come<g.al.length
def A3(wo:Int)(a:List Bool)(aC:List (List Int))(b:Bool)(w:Int×List Int):Prop:=w.1=wo\/a.getD w.1.toNat false=true/\(b=false->aC.getD w.1.toNat []=w.2)
def oF(g:G.bu)(wo:Int)(a:List Bool)(aC:List (List Int))(c:Bool)(b:Nat):Prop:=a.getD b false=true->∀w∈lu g b (aC.getD b []),A3 wo a aC c w
theorem lw.add(k:mL g){a:List Bool}{aC:List (List Int)}(h:lw g wo a aC){b:Nat}{w:Int×List Int}(hb:a.getD b false=true)(l:w∈lu g b (aC.getD b []))(m:w.1≠wo)(n:a.getD w.1.toNat false=false):lw g wo (a.set w.1.toNat true) (aC.set w.1.toNat w.2):=by
 have d:=h.lc;have f:=h.lo;obtain⟨j,o⟩:=(h.snd b hb).ok k;obtain⟨⟨h1,h2⟩,h3,q⟩:=vE k j o _ l;have i:w.1.toNat<g.al.length:=af;have r:=h.jx b hb;have p:=wS (by rw[d];exact i) n;refine⟨by simpa using d,by simpa using f,λh0=>?_,λx c=>?_,λx c=>?_,λx c=>?_⟩
 .rw[fu (by rw[d];exact i)];split;·rfl
  exact h.c0 h0
 .rw[fu (by rw[d];exact i)]at c;rw[fu (by rw[f];exact i)];split;·rename_i e;rw[aK e]at c;cases c
  rename_i e;rw[aq e]at c;exact h.JN x c
 .rw[fu (by rw[d];exact i)]at c;rw[fu (by rw[f];exact i)];split;·rename_i e;subst e;exact .step (h.snd b hb) l m
  rename_i e;rw[aq e]at c;exact h.snd x c
 rw[fu (by rw[d];exact i)]at c;rw[fu (by rw[f];exact i)];split;·omega
 rename_i e;rw[aq e]at c;have:=h.jx x c;omega
end
end
section
theorem _root_.Go.am.aj.afH{A H:ai}{F G:List Th}{b:List Th}(U:aj A H (tZ F::tZ G::b)):aj A H (tZ (F++G)::b):=by
 refine U.lq.as 0 rfl λd a=>⟨λu hu=>?_,a.2⟩;rcases ahp.1 hu with hu|hu;·obtain⟨f,e,c⟩:=a.1 _ (aeU ..);obtain⟨g,h,i⟩:=c.1 u hu;grind
 exact a.1 u (aey _ hu)
theorem _root_.Go.am.aj.afI{A H:ai}{F G:List Th}{b:List Th}(U:aj A H (tZ F::b))(h:∀t∈G,∃t0∈F,∀c f,t0.P c f->t.P c f):aj A H (tZ (G++F)::b):=by
 refine U.as 0 rfl λd a=>⟨λu hu=>?_,a.2⟩;rcases ahp.1 hu with hu|hu;·obtain⟨t0,h0,h1⟩:=h u hu;obtain⟨f,e,g⟩:=a.1 _ h0;grind
 exact a.1 u hu
theorem lQ.Jo{c:List (List Int)}{a:List AV}{F G:List Th}(h:lQ c a F)(hs:∀t∈F,t∈G):lQ c a G:=⟨h.len,λb hb=>hs _ (h.mem b hb)⟩
theorem lQ.set{c:List (List Int)}{a:List AV}{F:List Th}(h:lQ c a F){t:Nat}(d:t<c.length){l:List Int}{v:AV}(f:tR 1 (l.map aI) l.length v∈F):lQ (c.set t l) (a.set t v) F:=by
 have hl:=h.len;refine⟨by grind,λb hb=>?_⟩;rw[ak4]at hb;rw[fu d,fu af];by_cases e:b=t;·grind
 rw[aq e,aq e];exact h.mem b hb
theorem JP{w:List (Int×List Int)}{vs:Nat->AV}:∀n,((ake n).flatMap λk=>[aI (w.getD k (0,[])).1,vs k]).length=n*2|0=>rfl|n+1=>by rw[alb,akD,aj8,JP n];simp;omega
theorem afJ{w:List (Int×List Int)}{vs:Nat->AV}{k:Nat}(a:k<w.length):(rA w vs)[0+k*2]?=some (aI (w.getD k (0,[])).1)/\(rA w vs)[0+k*2+1]?=some (vs k):=by unfold rA;obtain⟨d,hd⟩:∃d,w.length=k+1+d:=⟨w.length - (k+1),af⟩;rw[hd,akh];clear hd a;induction d with|zero=>rw[alG,alb,akD,akK];have hl:=JP (w:=w) (vs:=vs) k;grind|succ d b=>have hl:=JP (w:=w) (vs:=vs) (k+1+d);grind[alo,alb,akw]
def yY(f h i d e:ab)(g:G.bu)(j:AV)(F:List Th)(a:List Bool)(b:List AV)(c:Bool):List Th:=[tZ F,tB Ap f [.slice d 0 g.al.length g.al.length true,.slice e 0 g.al.length g.al.length true,.bool c],tS Il 1 b g.al.length true (.slice e 0 g.al.length g.al.length true),tS 4 1 (a.map .bool) g.al.length true (.slice d 0 g.al.length g.al.length true),tB Ap h [.aS,.aS,.bool false],tB fI i [.str g.name,aI g.params,aI g.bp,j]]
section
variable{g:G.bu}{wo:Int}{H:ai}{cs:List AV}
theorem lw.zero(i:mL g):lw g wo (if wo≠0 then(ahr g.al.length false).set 0 true else ahr g.al.length false) (ahr g.al.length []):=by
 have a:=i.ne;have c:∀b,(ahr g.al.length ([]:List Int)).getD b []=[]:=λb=>by simp only[akm,ak8];split<;>rfl
 have f:∀b,(ahr g.al.length false).getD b false=false:=λb=>by simp only[akm,ak8];split<;>rfl
 by_cases h:wo≠0
 .rw[aK h];have j:∀b,((ahr g.al.length false).set 0 true).getD b false=true->b=0:=λb hb=>by
   rw[fu (by simpa using a)]at hb;by_cases e:b=0;·exact e
   rw[aq e,f]at hb;cases hb
  have d:=wS (come:=ahr g.al.length false) (k:=0) (by simpa using a) (f 0);rw[E3]at d;refine⟨aB,aB,λ_=>by grind,λb _=>c b,λb hb=>?_,λb hb=>?_⟩;·rw[c,j b hb];exact .zero h
  grind
 rw[aq h];exact⟨aB,aB,λh0=>absurd h0 h,λb _=>c b,λb hb=>(by grind),λb hb=>(by grind)⟩
theorem JQ(T:Tb ac)(hg:iG H g cs)(hB:G.Sm g)(hS:mL g)(dx:g.al.length<=30){K:KT}(h:∀H' P L l F c aC p,lw g wo c aC->(∀b,oF g wo c aC p b)->lQ aC l F->aj H H' [tZ F,tS Il 1 l g.al.length true (.slice L 0 g.al.length g.al.length true),tS 4 1 (c.map .bool) g.al.length true (.slice P 0 g.al.length g.al.length true)]->K (.agg [.slice P 0 g.al.length g.al.length true,.slice L 0 g.al.length g.al.length true,.bool p]) H'):YN ac Wv [.agg cs,aI wo] H K:=by
 have dy:=hg.one;have b6:=hg;obtain⟨vb,rfl,cA⟩:=hg;have⟨d1,_,_,d2⟩:=cA.all;have b':=hS.ne;refine YF.code T.abf aB ?_;refine au ?_;refine RO.dL (aj.dc H) λH1 Y U=>?_;refine RO.gI U λH2 S U=>?_;refine ah ?_;refine RO.oT U (n:=g.al.length) (λH3 P U=>?_) (hz:=by rw[iZ];simp);refine ah ?_;refine RO.oT U (n:=g.al.length) (λH4 L U=>?_) (hz:=by rw[iZ];simp);refine ah ?_;refine RO.fx U λH5 V U=>?_;have U:=U.py 3 1;have U:=(U.as 0 rfl λfp hp=>tS.mg hp).Qg;rw[iZ,iZ]at U;have U:aj H H5 (yY V S Y P L g vb [tR 1 [] 0 .aS] (ahr g.al.length false) (ahr g.al.length .aS) false):=by unfold yY;rw[alz];exact U
 have f:lQ (ahr g.al.length []) (ahr g.al.length .aS) [tR 1 [] 0 .aS]:=⟨aB,λb hb=>by rw[ak9]at hb;rw[bF (by simpa using hb),bF (by simpa using hb),List.getElem_replicate,List.getElem_replicate];exact aeU ..⟩;refine RO.nil ?_;refine Ru.seq ?_;refine Ru.wP (P:=λM H'=>M=[(p1,aI wo),(p2,.az Y 0),(p4,.az S 0),(p5,aN g.al.length),(p6,.az V 0)]/\aj H H' (yY V S Y P L g vb [tR 1 [] 0 .aS] (if wo≠0 then(ahr g.al.length false).set 0 true else ahr g.al.length false) (ahr g.al.length .aS) false)) (λM H6⟨hM,U⟩=>?_) (λs' q=>?_);rotate_left
 .refine ah ?_;refine Ru.cond (λu=>?_) (λu=>?_);·have u:wo≠0:=u;rw[aK u]at q;refine ah ?_;refine RO.lC (f:=AV.bool) (zs:=ahr g.al.length false) U 3 true (n:=g.al.length) (ak9 ..) (λH6 U=>?_) (k:=0) (ho:=by simpa using b');refine ah ?_;exact q _ _ _ ⟨rfl,U⟩ fB
  have u:¬wo≠0:=u;rw[aq u]at q;refine ah ?_;exact q _ _ _ ⟨rfl,U⟩ fB
 subst hM;have r:=lw.zero (wo:=wo) hS;generalize(if wo≠0 then(ahr g.al.length false).set 0 true else ahr g.al.length false)=ds at*;generalize [tR 1 [] 0 .aS]=F0 at*;generalize ahr g.al.length AV.aS=dz at*;generalize ahr g.al.length ([]:List Int)=dD at*;refine ah ?_;refine Ru.nm λS0 M ca hM=>?_;refine Ru.cC hM (dn (P:=λm=>∀B c aC l F p C,(if C=true then lr c+1 else 0)=m->lw g wo c aC->lQ aC l F->(C=false->∀b,oF g wo c aC p b)->aj H B (yY V S Y P L g vb F c l p)->Ru ac _ S0 ([(p7,.bool C)]++pk M [p1,p2,p4,p5,p6]) B) (λm ih B c aC l F p C cd r f y U=>?_) _ _ _ _ _ _ false true rfl r f (λh=>by cases h) U);subst ca;subst hM;refine Ru.loop ?_;refine ah ?_;refine Ru.kN (λax=>?_) (λax=>?_)
 .subst ax;simp only[bq]at cd;refine ah ?_;refine Ru.nm λS1 M1 cf a4=>?_;refine Ru.cC a4 (up (P:=λk=>∀B c aC l F p C,(C=true->lr c+1<m)->lr c+1<=m->lw g wo c aC->lQ aC l F->(C=false->∀b,b<k->oF g wo c aC p b)->aj H B (yY V S Y P L g vb F c l p)->Ru ac _ S1 ([(p8,aN k),(p7,.bool C)]++pk M1 [p1,p2,p4,p5,p6]) B) g.al.length (λb hb ay B c aC l F p C A D r f y U=>?_) 0 af _ c aC l F p false (λh=>by cases h) af r f (λ_ b hb=>by omega) U);subst cf;subst a4;refine Ru.loop ?_;refine ah ?_;refine Ru.cond (λa5=>?_) (λa5=>?_)
  .have a6:=r.lc;have a8:=r.lo;have a9:=f.len;refine ah ?_;refine RO.qS U 2 λH6 v9 U=>?_;have⟨d3,_,_,d4⟩:=(U.sl (e:=nO) (size:=2) (sv:=v9) (vs:=[]) (n:=0) (full:=true) 0).all;refine RO.bg ?_;refine RO.nil ?_;refine Ru.seq ?_;refine Ru.wP (P:=λM H'=>∃w vs F' W,M=[(p9,W),(p1,aI wo),(p2,.az Y 0),(p4,.az S 0),(p5,aN g.al.length),(p6,.az V 0),(p7,.bool C),(p8,aN b)]/\(c.getD b false=true->w=lu g b (aC.getD b []))/\(c.getD b false=false->w=[])/\w.length<=12/\(∀k,k<w.length->tR 1 ((w.getD k (0,[])).2.map aI) (w.getD k (0,[])).2.length (vs k)∈F')/\lQ aC l F'/\aj H H' (tS nO 2 (rA w vs) w.length true W::yY V S Y P L g vb F' c l p)) (λM H7⟨w,vs,F',W,hM,a',cn,dE,cp,f,U⟩=>?_) (λs' q=>?_);rotate_left
   .have cv:(c.map AV.bool)[0+b*1]?=some (.bool (c.getD b false)):=by rw[show 0+b*1=b by omega,aks,getElem?_pos c b af,bF af];rfl
    refine ah ?_;refine RO.fD U 4 (hv:=cv) ?_;refine ah ?_;refine Ru.kN (λu=>?_) (λu=>?_)
    .have cx:l[0+b*1]?=some (l.getD b .co):=by rw[show 0+b*1=b by omega,getElem?_pos l b af,bF af]
     have hF:=f.mem b af;obtain⟨_,ba,_,_⟩:=U.mf 1 rfl hF;have⟨d5,_,_,_⟩:=ba.all;obtain⟨E,a0⟩:=(r.snd b u).ok hS;have b5:=r.jx b u;refine ah ?_;refine RO.eQ U 6 ?_;refine ah ?_;refine RO.fD U 3 (hv:=cx) ?_;refine RO.cl (afE T (dQ.nM U.gr b6) hB E (hS.t3 b E) ba af a0 λH7 W vs Fw cy hl=>?_);have U:=U.fC hl;have X:=(hl.sl (e:=nO) (size:=2) (sv:=W) (full:=true) (vs:=rA (lu g b (aC.getD b [])) vs) (n:=(lu g b (aC.getD b [])).length) 1).all.1;refine ah ?_;have cE:=((U.sub (.cons_cons _ (.cons_cons _ (.cons _ (akL _))))).cM (akO _ (akS _ _ _))).afH;have cK:(lu g b (aC.getD b [])).length<=12:=by
      have:=(hB.bl _ (agB E)).2.2.2.2.1;unfold lu;split;·simp
      split;·split<;>simp
      rw[akg,aH,bF E];omega
     generalize lu g b (aC.getD b [])=w at*;have c3:=(cE.afI (G:=(ake w.length).map λk=>tR 1 ((w.getD k (0,[])).2.map aI) (w.getD k (0,[])).2.length (vs k)) λt N=>by
      obtain⟨k,hk,rfl⟩:=akk.1 N;rw[ak3]at hk;rcases cy k hk with h9|h9;·exact⟨_,akf _ h9,λ_ _ h=>h⟩
      exact⟨_,akq _ hF,λ_ _ h=>Qe h9 h⟩).cM (akS _ _ _);exact q _ _ _ ⟨w,vs,_,W,rfl,λ_=>rfl,λh=>(by rw[u]at h;cases h),cK,λk hk=>akf _ (akk.2 ⟨k,ak3.2 hk,rfl⟩),f.Jo λt N=>akq _ (akq _ N),c3⟩ fB
    refine ah ?_;exact q _ _ _ ⟨[],λ_=>.aS,F,v9,rfl,λh=>(by rw[u]at h;cases h),λ_=>rfl,aB,λk hk=>absurd hk aB,f,U⟩ fB
   subst hM;have d0:b<g.al.length:=a5;refine ah ?_;have ay:=ay (b+1) af af;refine Ru.nm λS2 M2 c5 bb=>?_;refine Ru.cC bb (up (P:=λj=>∀B a d n o v,(v=true->lr a+1<m)->lr a+1<=m->lw g wo a d->lQ d n F'->(c.getD b false=true->a.getD b false=true/\d.getD b []=aC.getD b [])->(v=false->a.getD b false=c.getD b false/\(∀Q,Q<b->oF g wo a d o Q)/\∀i,i<w.length->i<j->A3 wo a d o (w.getD i (0,[])))->aj H B (tS nO 2 (rA w vs) w.length true W::yY V S Y P L g vb F' a n o)->Ru ac _ S2 ([(aO,aN j),(p7,.bool v)]++pk M2 [p1,p2,p4,p5,p6,p8,p9]) B) w.length (λj hj I B a d n o v A D r f O y U=>?_) 0 af _ c aC l p C A D r f (λh=>⟨h,rfl⟩) (λh=>⟨rfl,y h,λi _ hi=>by omega⟩) U);subst c5;subst bb;have X:=(U.sl (e:=nO) (size:=2) (sv:=W) (full:=true) (vs:=rA w vs) (n:=w.length) 0).all;have d6:=X.2.2.2;have X:=X.1;have a6:=r.lc;have a8:=r.lo;have a9:=f.len;refine Ru.loop ?_;refine ah ?_;refine Ru.cond (λs=>?_) (λs=>?_)
   .have bc:c.getD b false=true:=by cases R:c.getD b false with|true=>rfl|false=>rw[cn R]at s;simp at s
    obtain⟨z,Z⟩:=O bc;have bd:w.getD j (0,[])∈lu g b (d.getD b []):=by rw[Z,<-a' bc,bF s];exact agB s
    obtain⟨E,a0⟩:=(r.snd b z).ok hS;obtain⟨⟨d7,d'⟩,ea,eb⟩:=vE hS E a0 _ bd;have b5:=r.jx b z;have hF:=cp j s;have I:=I (j+1) af af;have ag:v=false->A3 wo a d o (w.getD j (0,[]))->a.getD b false=c.getD b false/\(∀Q,Q<b->oF g wo a d o Q)/\∀i,i<w.length->i<j+1->A3 wo a d o (w.getD i (0,[])):=λh hd=>by
     obtain⟨a1,a2,a3⟩:=y h;refine⟨a1,a2,λi hi c8=>?_⟩;by_cases e:i=j;·subst e;exact hd
     exact a3 i hi af
    obtain⟨bv,bS⟩:=afJ (vs:=vs) s;generalize c9:w.getD j (0,[])=wj at*;obtain⟨t,N⟩:∃t:Nat,wj.1=t:=⟨wj.1.toNat,af⟩;rw[N]at bv;have ec:t<g.al.length:=af;obtain⟨qw,cap,ex,rfl⟩:=U.uT (e:=nO) (size:=2) (n:=w.length) (full:=true) (sv:=W) 0 rfl af;obtain⟨_,ar,_,_⟩:=U.mf 1 rfl hF;have⟨ei,ej,ek,_⟩:=ar.all;refine ah ?_;refine RO.fD U 0 (hv:=bv) ?_;refine ah ?_;refine Ru.cond (λu=>?_) (λu=>?_)
    .have u:wj.1=wo:=by rw[N];exact u
     refine ah ?_;exact Ru.wk (I _ a d n o v A D r f O (λh=>ag h (.inl u)) U)
    have u:wj.1≠wo:=by rw[N];exact u
    have c':(a.map AV.bool)[0+t*1]?=some (.bool (a.getD t false)):=by rw[show 0+t*1=t by omega,aks,getElem?_pos a t af,bF af];rfl
    refine ah ?_;refine RO.fD U 4 (hv:=c') ?_;refine ah ?_;refine Ru.kN (λJ=>?_) (λJ=>?_)
    .have J:a.getD t false=false:=by simpa using J
     have b0:b≠t:=λe=>by rw[<-e,z]at J;cases J
     have el:=wS af J;refine ah ?_;refine RO.fD U 0 (hv:=bS) ?_;refine ah ?_;refine RO.afF (f:=AV.bool) (zs:=a) U 4 true a6 (k:=t) (λH8 U=>⟨λaa dm=>?_,?_⟩);·obtain⟨_,hp⟩:=U.get 2 rfl;exact il (i:=V) (o:=1) (v:=.slice L 0 g.al.length g.al.length true) dm (by(conv=>lhs;whnf)<;>rfl) (by(conv=>lhs;whnf)<;>rfl) rfl (by simp[iy,gz,ab.ip]) (tB.cell hp rfl) rfl
     refine ah ?_;refine RO.yK U 3 (n:=g.al.length) (vs:=n) af (k:=t) (w:=vs j) (λH9 U=>?_);refine ah ?_;have av:=r.add hS z bd u (by rw[N,aj3];exact J);rw[N,aj3]at av;exact Ru.wk (I _ (a.set t true) (d.set t wj.2) (n.set t (vs j)) o true (λ_=>by omega) af av (f.set af hF) (λh=>by rw[fu af,fu af,aq b0,aq b0];exact⟨z,Z⟩) (λh=>by cases h) U)
    have J:a.getD t false=true:=by simpa using J
    have dr:n[0+t*1]?=some (n.getD t .co):=by rw[show 0+t*1=t by omega,getElem?_pos n t af,bF af]
    obtain⟨_,aw,_,_⟩:=U.mf 1 rfl (f.mem t af);have⟨er,_,_,_⟩:=aw.all;have dv:=r.jx t J;refine ah ?_;refine RO.fD U 3 (hv:=dr) ?_;refine ah ?_;refine RO.fD U 0 (hv:=bS) ?_;refine RO.cl (afG T aw ar af (λg3=>?_) (λg3=>?_));·refine ah ?_;exact Ru.wk (I _ a d n o v A D r f O (λh=>ag h (.inr (by rw[N,aj3];exact⟨J,λ_=>g3⟩))) U)
    refine ah ?_;refine RO.gG U 2 (λH8 U=>?_);refine ah ?_;have b3:∀w,A3 wo a d o w->A3 wo a d true w:=λw hw=>hw.imp id λh=>⟨h.1,λh=>by cases h⟩;exact Ru.wk (I _ a d n true v A D r f O (λh=>by
     obtain⟨a1,a2,a3⟩:=y h;refine⟨a1,λQ b4 R x hx=>b3 _ (a2 Q b4 R x hx),λi hi c8=>?_⟩;by_cases e:i=j;·subst e;rw[c9];exact .inr (by rw[N,aj3];exact⟨J,λh=>by cases h⟩)
     exact b3 _ (a3 i hi af)) U)
   refine Ru.exitTo ?_;refine ah ?_;refine Ru.wk (ay B a d n F' o v A D r f (λh Q b4=>?_) U.tail);obtain⟨a1,a2,a3⟩:=y h;by_cases e:Q=b;·subst e;intro R x hx;rw[a1]at R;rw[(O R).2,<-a' R]at hx;obtain⟨i,hi,rfl⟩:=aka hx;have:=a3 i hi af;rw[bF hi]at this;exact this
   exact a2 Q af
  refine Ru.exitTo ?_;obtain rfl:b=g.al.length:=af;refine ah ?_;refine Ru.wk (ih _ ?_ B c aC l F p C rfl r f (λh x=>?_) U);·cases C with|true=>rw[aK rfl];exact A rfl|false=>rw[aq aB];omega
  by_cases hx:x<g.al.length;·exact y h x hx
  intro R;have:=r.lc;rw[akm,List.getElem?_eq_none af]at R;cases R
 subst ax;refine Ru.exitTo ?_;have a8:=r.lo;have a9:=f.len;refine ah ?_;refine RO.eQ U 1 ?_;refine RO.iT U 4 (λH7 U=>?_);refine ah ?_;exact Ru.lM (vs:=[_]) ⟨⟨S,0,rfl,U.agg 4⟩,trivial⟩ (h H7 P L l F c aC p r (y rfl) f (U.sub (.cons_cons _ (.cons _ (.cons_cons _ (.cons_cons _ (.cons _ (.cons _ .slnil))))))))
end
end
section
def ui(j:G.lD):List Int:=j.args++j.go.flatMap (·.args)
theorem JR(l:List G.ic):(eU l).length<=l.length:=alj (List.length_filter_le _ _) aB
section
variable{g:G.bu}{H:ai}{cs:List AV}
theorem afK(T:Tb ac){B:G.gV}(hb:kj H B cs)(hl:B.params.length<=12/\B.aD.length<=40){K:KT}(h:∀H' v,aj H H' [tS 3 1 ((gX B).map aI) (gX B).length true v]->K v H'):YN ac WC [.agg cs] H K:=by
 have E:=hb.one;obtain⟨w,i,jc,rfl,o,f,y,z,A,rfl,Q,R,S⟩:=hb;have⟨V,_,_,_⟩:=f.all;refine YF.code T.abo aB ?_;refine au ?_;refine RO.dL (aj.dc H) λH1 q U=>?_;refine ah ?_;refine RO.qS U 1 λH2 F U=>?_;have⟨W,_,_,_⟩:=(U.sl (e:=3) (size:=1) (sv:=F) (vs:=[]) (n:=0) (full:=true) 0).all;refine ah ?_;refine RO.pZ U 0 (U.gr.sl o) (λI C U=>?_) (h1:=qP _);have U:aj H I [tS 3 1 ((B.params++eU (B.aD.take 0)).map aI) (B.params++eU (B.aD.take 0)).length true C,tB dW q [w,i,aU B.aA.op,y,.str B.aA.name,z,A]]:=by rw[alm,show eU []=[]from rfl,akT];rw[akh]at U;exact U
 have⟨X,_,_,_⟩:=(U.sl (e:=3) (size:=1) (sv:=C) (full:=true) (vs:=(B.params++eU (B.aD.take 0)).map aI) (n:=(B.params++eU (B.aD.take 0)).length) 0).all;refine ah ?_;refine Ru.nm λJ L p k=>?_;refine Ru.cC k (up (P:=λj=>∀n g,aj H n [tS 3 1 ((B.params++eU (B.aD.take j)).map aI) (B.params++eU (B.aD.take j)).length true g,tB dW q [w,i,aU B.aA.op,y,.str B.aA.name,z,A]]->Ru ac _ J ([(p4,aN j),(p3,g)]++pk L [p1]) n) B.aD.length (λj hj d n g U=>?_) 0 af _ _ U);subst p;subst k;have⟨Y,_,_,r⟩:=(U.sl (e:=3) (size:=1) (sv:=g) (vs:=(B.params++eU (B.aD.take j)).map aI) (n:=(B.params++eU (B.aD.take j)).length) (full:=true) 0).all;refine Ru.loop ?_;refine ah ?_;refine Ru.cond (λc=>?_) (λc=>?_)
 .have d:=d (j+1) af af;rw[(akd c).symm,Jt,<-aj2]at d;have Z:(B.params++eU (B.aD.take j)).length<=100:=by have:=JR (B.aD.take j);rw[akF]at this;rw[aj8];omega
  generalize B.params++eU (B.aD.take j)=M at*;refine ah ?_;refine RO.cZ U.gr f (λN O c7 s b t a l=>?_) (j:=j);generalize P:B.aD[j]=x at*;obtain⟨u,rfl,m⟩:=b;refine ah ?_;refine RO.aW (v:=aI x.to) ?_ (hc:=a 1 _ rfl);refine ah ?_;refine Ru.cond (λe=>?_) (λe=>?_);·have e:0<=x.to:=e;rw[aK e]at d;refine ah ?_;refine RO.cZ U.gr f (λN O c7 s b t a l=>?_) (j:=j);rw[P]at b;obtain⟨u,rfl,m⟩:=b;refine ah ?_;refine RO.aW (v:=aI x.to) ?_ (hc:=a 1 _ rfl);refine RO.push U 0 (λw0 H9 D U=>?_) (ws:=[aI x.to]);have⟨ag,ar,av,_⟩:=(U.sl (e:=3) (size:=1) (n:=M.length+1) (full:=true) (sv:=D) 0).all;refine ah ?_;exact Ru.wk (d _ D (by rw[akE,aj8];exact U))
  have e:¬0<=x.to:=e;rw[aq e,akT]at d;refine ah ?_;exact Ru.wk (d _ g U)
 refine Ru.exitTo ?_;rw[akl af]at U r;refine ah ?_;exact Ru.aV (h _ g (U.sub (.cons_cons _ (.cons _ .slnil))))
theorem afL(T:Tb ac){j:G.lD}(hj:tw H j cs)(hl:j.args.length<=12/\j.go.length<=12)(m:∀e∈j.go,e.args.length<=12){K:KT}(h:∀H' v,aj H H' [tS 3 1 ((ui j).map aI) (ui j).length true v]->K v H'):YN ac Ww [.agg cs] H K:=by
 have y:=hj.one;obtain⟨s,t,u,rfl,n,I,c⟩:=hj;have⟨J,_,_,_⟩:=c.all;refine YF.code T.abg aB ?_;refine au ?_;refine RO.dL (aj.dc H) λH1 q U=>?_;refine ah ?_;refine RO.qS U 1 λY A U=>?_;have⟨L,_,_,_⟩:=(U.sl (e:=3) (size:=1) (sv:=A) (vs:=[]) (n:=0) (full:=true) 0).all;refine ah ?_;refine RO.pZ U 0 (U.gr.sl n) (λB w U=>?_) (h1:=qP _);have U:aj H B [tS 3 1 ((j.args++(j.go.take 0).flatMap (·.args)).map aI) (j.args++(j.go.take 0).flatMap (·.args)).length true w,tB tx q [aU j.op,s,.str j.name,t,u]]:=by rw[alm,List.flatMap_nil,akT];rw[akh]at U;exact U
 have⟨M,_,_,_⟩:=(U.sl (e:=3) (size:=1) (sv:=w) (full:=true) (vs:=(j.args++(j.go.take 0).flatMap (·.args)).map aI) (n:=(j.args++(j.go.take 0).flatMap (·.args)).length) 0).all;refine ah ?_;refine Ru.nm λC D o d=>?_;refine Ru.cC d (up (P:=λk=>∀l b,(j.args++(j.go.take k).flatMap (·.args)).length<=12+12*k->aj H l [tS 3 1 ((j.args++(j.go.take k).flatMap (·.args)).map aI) (j.args++(j.go.take k).flatMap (·.args)).length true b,tB tx q [aU j.op,s,.str j.name,t,u]]->Ru ac _ C ([(p4,aN k),(p3,b)]++pk D [p1]) l) j.go.length (λk Z i l b N U=>?_) 0 af _ _ (by simp;omega) U);subst o;subst d;have⟨O,_,_,p⟩:=(U.sl (e:=3) (size:=1) (sv:=b) (vs:=(j.args++(j.go.take k).flatMap (·.args)).map aI) (n:=(j.args++(j.go.take k).flatMap (·.args)).length) (full:=true) 0).all;refine Ru.loop ?_;refine ah ?_;refine Ru.cond (λa=>?_) (λa=>?_);·have i:=i (k+1) af af;have P:=m _ (agB a);rw[(akd a).symm,akD,akK,<-aj2]at i;generalize j.args++(j.go.take k).flatMap (·.args)=E at*;refine ah ?_;refine RO.cZ U.gr c (λq7 o7 c7 Q r R g z=>?_) (j:=k);generalize j.go[k]=e at*;obtain⟨F,rfl,f⟩:=r;have⟨S,_,_,_⟩:=f.all;refine ah ?_;refine RO.aW (v:=F) ?_ (hc:=g 1 _ rfl);refine RO.pZ U 0 (U.gr.sl f) (λH9 x U=>?_) (h1:=qP _);have⟨V,W,X,_⟩:=(U.sl (e:=3) (size:=1) (n:=E.length+e.args.length) (full:=true) (sv:=x) 0).all;refine ah ?_;exact Ru.wk (i _ x (by rw[aj8];omega) (by rw[akE,aj8];exact U))
 refine Ru.exitTo ?_;rw[akl af]at U p;refine ah ?_;exact Ru.aV (h _ b (U.sub (.cons_cons _ (.cons _ .slnil))))
structure sH(n np:Nat)(gl:List Int)(hist:List (Int×Nat)):Prop where
 len:gl.length=n
 aM:∀v:Nat,v<np->gl.getD v 0= -1
 bH:∀p∈hist,gl.getD p.1.toNat 0=(p.2:Int)
theorem sH.add{n c:Nat}{gl:List Int}{a:List (Int×Nat)}(h:sH n c gl a){v k:Nat}(i:v<n)(j:c<=v)(f:(v:Int)∉a.map (·.1))(b:∀x∈a.map (·.1),(0:Int)<=x):sH n c (gl.set v (k:Int)) (a++[((v:Int),k)]):=by
 have hl:=h.len;refine⟨by grind,λx g=>?_,λp d=>?_⟩;·rw[fu af,aq af];exact h.aM x g
 rw[fu af];rcases ahp.1 d with h2|h2;·have h3:=akp (f:=(·.1)) h2;have l:=b _ h3;rw[aq λe=>f (by grind)];exact h.bH p h2
 grind
def pd(g:G.bu)(k:Nat):List (Int×Nat):=(ake k).flatMap λi=>(gX (aH g i)).map λv=>(v,i)
theorem Fk(g:G.bu):∀k,k<=g.al.length->(pd g k).map (·.1)=(g.al.take k).flatMap gX|0,_=>rfl|k+1,h=>by rw[pd,alb,akD,akK,akE,<-pd,Fk g k af,(akd (show k<g.al.length by omega)).symm,akD,akK,alx,aH,bF af];congr 1;exact List.map_id _
theorem afM(T:Tb ac)(hg:iG H g cs)(hB:G.Sm g)(O:sD g)(V:g.bp<=6000){K:KT}(h:∀H' q gl,sH g.bp.toNat g.params.toNat gl (pd g g.al.length)->aj H H' [tS 3 1 (gl.map aI) g.bp.toNat true (.slice q 0 g.bp.toNat g.bp.toNat true)]->K (.slice q 0 g.bp.toNat g.bp.toNat true) H'):YN ac Wn [.agg cs] H K:=by
 have E:=hg.one;obtain⟨P,rfl,cA⟩:=hg;have⟨av,_,_,aw⟩:=cA.all;have ax:=hB.nb;have h0:=O.p0;have h1:=O.p1;obtain⟨n,Q⟩:∃n:Nat,g.bp=n:=⟨g.bp.toNat,af⟩;obtain⟨j,u⟩:∃n:Nat,g.params=n:=⟨g.params.toNat,af⟩;have o:=O.rg;have w:=O.nd;rw[Q,u]at h h1 o E;rw[Q]at V;simp only[aj3]at h;refine YF.code T.aa7 aB ?_;rw[Q,u];refine ah ?_;refine RO.dL (aj.dc H) λH1 q U=>?_;refine ah ?_;refine RO.oT U (n:=n) (λH2 s U=>?_) (hz:=by rw[iZ];simp);have U:aj H H2 [tS 3 1 ((ahr n (0:Int)).map aI) n true (.slice s 0 n n true),tB fI q [.str g.name,aI j,aI n,P]]:=by rw[iZ]at U;rw[alz];exact U
 refine ah ?_;refine Ru.nm λS0 M hS hM=>?_;refine Ru.cC hM (up (P:=λk=>∀c gl,sH n k gl []->aj H c [tS 3 1 (gl.map aI) n true (.slice s 0 n n true),tB fI q [.str g.name,aI j,aI n,P]]->Ru ac _ S0 ([(p4,aN k)]++pk M [p1,p3]) c) j (λk hk r c gl a U=>?_) 0 af _ _ ⟨aB,λv hv=>by omega,λp R=>by cases R⟩ U);subst hS;subst hM;have d:=a.len;refine Ru.loop ?_;refine ah ?_;refine Ru.cond (λb=>?_) (λb=>?_)
 .refine ah ?_;refine RO.lC (f:=aI) U 0 (-1) d (λH4 U=>?_) (k:=k);refine ah ?_;exact Ru.wk (r (k+1) af af H4 _ ⟨by simpa using d,λv hv=>by
   rw[fu af];by_cases e:v=k;·rw[aK e]
   rw[aq e];exact a.aM v af,λp R=>by cases R⟩ U)
 refine Ru.exitTo ?_;obtain rfl:j=k:=af;refine ah ?_;refine Ru.nm λS1 M1 W y=>?_;refine Ru.cC y (up (P:=λk=>∀c gl,sH n j gl (pd g k)->aj H c [tS 3 1 (gl.map aI) n true (.slice s 0 n n true),tB fI q [.str g.name,aI j,aI n,P]]->Ru ac _ S1 ([(p5,aN k)]++pk M1 [p1,p3]) c) g.al.length (λk hk r c gl a U=>?_) 0 af _ _ a U);subst W;subst y;have d:=a.len;refine Ru.loop ?_;refine ah ?_;refine Ru.cond (λb=>?_) (λb=>?_)
 .have X:=agB b;have ay:=hB.bl _ X;have F:=Fk g k af;have I:aH g k=g.al[k]:=by rw[aH,bF b]
  have eZ:(pd g k).map (·.1)++(gX g.al[k]++(g.al.drop (k+1)).flatMap gX)=g.al.flatMap gX:=by rw[F];conv=>rhs;rw[<-ala k g.al,akD,aj9 b,alp]
  have r:=r (k+1) af af;rw[pd,alb,akD,akK,<-pd,I]at r;refine ah ?_;refine RO.cZ U.gr cA (λq1 o1 c1 a0 A a1 hat hrd=>?_) (j:=k);have J:=A;generalize g.al[k]=B at*;have ar:=A.one;refine ah ?_;refine RO.cl (afK T (dQ.block U.gr J) ⟨af,af⟩ λH5 S hl=>?_);have U:=U.fC hl;have⟨a2,_,_,a3⟩:=(U.sl (e:=3) (size:=1) (sv:=S) (vs:=(gX B).map aI) (n:=(gX B).length) (full:=true) 0).all;have a4:(gX B).length<=100:=by have:=JR B.aD;rw[gX,aj8];omega
  generalize gX B=l at*;refine ah ?_;refine Ru.nm λS2 M2 Y C=>?_;refine Ru.cC C (up (P:=λm=>∀c gl,sH n j gl (pd g k++(l.take m).map λv=>(v,k))->aj H c [tS 3 1 (l.map aI) l.length true S,tS 3 1 (gl.map aI) n true (.slice s 0 n n true),tB fI q [.str g.name,aI j,aI n,P]]->Ru ac _ S2 ([(p7,aN m)]++pk M2 [p1,p3,p5,p6]) c) l.length (λm hm i c gl a U=>?_) 0 af _ gl (by rw[alm,ali,akT];exact a) U);subst Y;subst C;have d:=a.len;have Z:=U.sl (e:=3) (size:=1) (sv:=S) (vs:=l.map aI) (n:=l.length) (full:=true) 0;refine Ru.loop ?_;refine ah ?_;refine Ru.cond (λf=>?_) (λf=>?_)
  .have i:=i (m+1) af af;rw[(akd f).symm,akE,List.map_singleton,<-aj2]at i;have D:((l.take m).map λv=>(v,k)).map (λp:Int×Nat=>p.1)=l.take m:=by rw[alx];exact List.map_id _
   have L:l[m]∉(pd g k++(l.take m).map λv=>(v,k)).map (·.1):=by
    have h9:=eZ;rw[show l=l.take m++l[m]::l.drop (m+1)from by rw[<-aj9 f,ala]]at h9;rw[<-h9]at w;have h8:(((pd g k).map (·.1)++l.take m)++(l[m]::(l.drop (m+1)++(g.al.drop (k+1)).flatMap gX))).Nodup:=by simpa only[aj2,akV]using w
    rw[akI]at h8;intro t;rw[akE,D]at t;refine h8.2.2 l[m] ?_ l[m] (aeU ..) rfl;rcases ahp.1 t with h|h;·exact akf _ h
    exact akq _ h
   have ag:l[m]∈g.al.flatMap gX:=by rw[<-eZ];exact akq _ (akf _ (agB _))
   have hr:=o _ ag;have N:∀x∈(pd g k++(l.take m).map λv=>(v,k)).map (·.1),(0:Int)<=x:=λx t=>by
    have:x∈g.al.flatMap gX:=by
     rw[<-eZ];rw[akE,D]at t;rcases ahp.1 t with h|h;·exact akf _ h
     refine akq _ (akf _ ?_);exact List.mem_of_mem_take h
    have:=o x this;omega
   refine ah ?_;refine RO.lg (bm.refl _) Z (λq9 o9 a5 a6=>?_) (j:=m);generalize l[m]=z at*;obtain⟨v,rfl⟩:∃v:Nat,z=v:=⟨z.toNat,af⟩;refine ah ?_;refine RO.lC (f:=aI) U 1 (k:Int) d (λH9 U=>?_) (k:=v) (ho:=by omega);refine ah ?_;exact Ru.wk (i _ _ (a.add af af L N) U)
  refine Ru.exitTo ?_;rw[akl af]at a;refine ah ?_;exact Ru.wk (r _ gl a U.tail)
 refine Ru.exitTo ?_;obtain rfl:k=g.al.length:=af;refine ah ?_;exact Ru.aV (h _ s gl a (U.sub (.cons_cons _ (.cons _ .slnil))))
end
end
section
structure CZ(dm:List (List Bool))(vsl:List AV)(F:List Th):Prop where
 len:vsl.length=dm.length
 mem:∀b,b<dm.length->tR 1 ((dm.getD b []).map .bool) (dm.getD b []).length (vsl.getD b .co)∈F
theorem CZ.wY{c:List (List Bool)}{a:List AV}{F:List Th}(h:CZ c a F){l:List Bool}{v:AV}:CZ (c++[l]) (a++[v]) (tR 1 (l.map .bool) l.length v::F):=by
 have hl:=h.len;refine⟨by simp[hl],λb hb=>?_⟩;simp only[aj8,akC]at hb;by_cases e:b=c.length
 .subst e;have e1:(c++[l]).getD c.length []=l:=aB;have e2:(a++[v]).getD c.length .co=v:=by rw[<-hl];simp
  rw[e1,e2];exact aeU ..
 have e1:(c++[l]).getD b []=c.getD b []:=by simp[akw (show b<c.length by omega)]
 have e2:(a++[v]).getD b .co=a.getD b .co:=by simp[akw (show b<a.length by omega)]
 rw[e1,e2];exact aey _ (h.mem b af)
def vF(c d:List Bool)(a b:Nat):Bool:=c.getD a false&&c.getD b false&&(decide (a=b)||!d.getD b false)
structure Qh(g:G.bu)(come:List Bool)(a:Nat)(row:List Bool):Prop where
 len:row.length=g.al.length
 ex:∃ca oa ot,lw g (a:Int) ca oa/\(∀b,oF g (a:Int) ca oa ot b)/\∀b,b<g.al.length->row.getD b false=vF come ca a b
structure JS(g:G.bu)(dm:List (List Bool)):Prop where
 len:dm.length=g.al.length
 ex:∃come aC oth,lw g (-1) come aC/\(∀b,oF g (-1) come aC oth b)/\∀a,a<g.al.length->Qh g come a (dm.getD a [])
section
variable{g:G.bu}{H:ai}{cs:List AV}
theorem afN(T:Tb ac)(hg:iG H g cs)(hB:G.Sm g)(hS:mL g)(u:g.al.length<=30){K:KT}(h:∀H' v f F n,JS g n->CZ n f F->aj H H' [tZ F,tS 61 1 f g.al.length true v]->K v H'):YN ac Wm [.agg cs] H K:=by
 have a1:=hg.one;have E:=hg;obtain⟨vb,rfl,cA⟩:=hg;have⟨a3,_,_,a4⟩:=cA.all;have a5:=hS.ne;refine YF.code T.aa6 aB ?_;refine au ?_;refine RO.dL (aj.dc H) λH1 q U=>?_;refine ah ?_;refine RO.eQ U 0 ?_;refine RO.cl (JQ T (dQ.nM U.gr E) hB hS u (wo:= -1) λH2 W qs a6 Fo d aC A hI ag a8 hl=>?_);have U:=(U.fC hl).sub (.cons _ (.cons _ (.cons_cons _ (akL _))));have I:=hI.lc;refine RO.qS U 1 λH3 J U=>?_;have⟨a9,_,_,_⟩:=(U.sl (e:=61) (size:=1) (sv:=J) (vs:=[]) (n:=0) (full:=true) 0).all;refine RO.fx U λH4 q3 U=>?_;refine ah ?_;have U:=U.rl;refine Ru.nm λS0 M ar hM=>?_;refine Ru.cC hM (up (P:=λa=>∀z f F n v,n.length=a->CZ n f F->(∀x,x<a->Qh g d x (n.getD x []))->aj H z [tZ F,tB Ap q3 [.slice W 0 g.al.length g.al.length true,.slice qs 0 g.al.length g.al.length true,.bool A],tS 61 1 f a true v,tS 4 1 (d.map .bool) g.al.length true (.slice W 0 g.al.length g.al.length true),tB fI q [.str g.name,aI g.params,aI g.bp,vb]]->Ru ac _ S0 ([(p5,aN a),(p4,v)]++pk M [p1,p3]) z) g.al.length (λa ha ih z f F n v B L y U=>?_) 0 af _ [] [] [] J rfl ⟨rfl,λb hb=>absurd hb aB⟩ (λx hx=>by omega) U);subst ar;subst hM;have⟨a',ba,bb,_⟩:=(U.sl (e:=61) (size:=1) (sv:=v) (vs:=f) (n:=a) (full:=true) 2).all;refine Ru.loop ?_;refine ah ?_;refine Ru.cond (λN=>?_) (λN=>?_)
 .have ih:=ih (a+1) af af;refine ah ?_;refine RO.eQ U 4 ?_;refine ah ?_;refine RO.cl (JQ T (dQ.nM U.gr E) hB hS u (wo:=(a:Int)) λH5 qa qo bc Fa s oa ot O S a2 hl=>?_);have U:=(U.fC hl).sub (.cons _ (.cons _ (.cons_cons _ (akL _))));have av:=O.lc;refine RO.qS U 1 λH6 P U=>?_;have⟨bd,_,_,_⟩:=(U.sl (e:=4) (size:=1) (sv:=P) (vs:=[]) (n:=0) (full:=true) 0).all;refine RO.fx U λH7 q6 U=>?_;refine ah ?_;refine Ru.nm λS1 M1 aw Q=>?_;refine Ru.cC Q (up (P:=λb=>∀z(c:List Bool)w,c.length=b->(∀x,x<b->c.getD x false=vF d s a x)->aj H z [tB Ap q6 [.slice qa 0 g.al.length g.al.length true,.slice qo 0 g.al.length g.al.length true,.bool ot],tS 4 1 (c.map .bool) b true w,tS 4 1 (s.map .bool) g.al.length true (.slice qa 0 g.al.length g.al.length true),tZ F,tB Ap q3 [.slice W 0 g.al.length g.al.length true,.slice qs 0 g.al.length g.al.length true,.bool A],tS 61 1 f a true v,tS 4 1 (d.map .bool) g.al.length true (.slice W 0 g.al.length g.al.length true),tB fI q [.str g.name,aI g.params,aI g.bp,vb]]->Ru ac _ S1 ([(p8,aN b),(p7,w)]++pk M1 [p1,p3,p4,p5,p6]) z) g.al.length (λb hb o z c w i R U=>?_) 0 af _ [] P rfl (λx hx=>by omega) U);subst aw;subst Q;have V:=U.sl (e:=4) (size:=1) (sv:=w) (vs:=c.map .bool) (n:=b) (full:=true) 1;have⟨ax,bv,ay,_⟩:=V.all;refine Ru.loop ?_;refine ah ?_;refine RO.gU U 7 ?_;refine ah ?_;refine Ru.cond (λp=>?_) (λp=>?_)
  .have o:=o (b+1) af af;have C:∀(l:List Bool)(k:Nat),l.length=g.al.length->k<g.al.length->(l.map AV.bool)[0+k*1]?=some (.bool (l.getD k false)):=λl k h1 h2=>by rw[show 0+k*1=k by omega,aks,getElem?_pos l k af,bF af];rfl
   have m:∀t,t=vF d s a b->∀x,x<b+1->(c++[t]).getD x false=vF d s a x:=λt ht x hx=>by
    by_cases e:x=b;·subst e;rw[<-ht,<-i];simp
    rw[<-R x af];simp[akw (show x<c.length by omega)]
   refine ah ?_;refine RO.fD U 6 (hv:=C d a I N) ?_;refine RO.bg ?_;refine RO.tq (λD=>?_) (λD=>?_)
   .refine ah ?_;refine RO.fD U 6 (hv:=C d b I p) ?_;refine ah ?_;refine RO.tq (λX=>?_) (λX=>?_)
    .refine ah ?_;refine RO.de (λg3=>?_) (λg3=>?_);·refine ah ?_;refine RO.push U 1 (λY Z j U=>?_) (ws:=[.bool true]);have⟨r,_,_,_⟩:=(U.sl (e:=4) (size:=1) (n:=b+1) (full:=true) (sv:=j) 1).all;refine ah ?_;exact Ru.wk (o _ (c++[true]) j (by simp[i]) (m _ (by rw[vF,D,X,decide_eq_true g3];rfl)) (by rw[akE];exact U))
     refine ah ?_;refine RO.fD U 2 (hv:=C s b av p) ?_;refine ah ?_;refine RO.push U 1 (λY Z j U=>?_) (ws:=[.bool (!s.getD b false)]);have⟨r,_,_,_⟩:=(U.sl (e:=4) (size:=1) (n:=b+1) (full:=true) (sv:=j) 1).all;refine ah ?_;exact Ru.wk (o _ (c++[(!s.getD b false)]) j (by simp[i]) (m _ (by rw[vF,D,X,decide_eq_false g3];rfl)) (by rw[akE];exact U))
    refine ah ?_;refine RO.push U 1 (λY Z j U=>?_) (ws:=[.bool false]);have⟨r,_,_,_⟩:=(U.sl (e:=4) (size:=1) (n:=b+1) (full:=true) (sv:=j) 1).all;refine ah ?_;exact Ru.wk (o _ (c++[false]) j (by simp[i]) (m _ (by rw[vF,D,X];rfl)) (by rw[akE];exact U))
   refine ah ?_;refine RO.push U 1 (λY Z j U=>?_) (ws:=[.bool false]);have⟨r,_,_,_⟩:=(U.sl (e:=4) (size:=1) (n:=b+1) (full:=true) (sv:=j) 1).all;refine ah ?_;exact Ru.wk (o _ (c++[false]) j (by simp[i]) (m _ (by rw[vF,D];rfl)) (by rw[akE];exact U))
  refine Ru.exitTo ?_;obtain rfl:b=g.al.length:=af;refine ah ?_;have a0:=(((U.sub (.cons _ (.cons_cons _ (.cons _ (akL _))))).as (t':=tR 1 (c.map .bool) c.length w) 0 rfl λfp hp=>by have h9:=tS.mg hp;rw[<-i]at h9;exact h9)).lq;refine RO.push a0 2 (λY Z j U=>?_) (ws:=[w]) (hl:=kG rfl ax ay rfl rfl rfl);have⟨r,_,_,_⟩:=(U.sl (e:=61) (size:=1) (n:=a+1) (full:=true) (sv:=j) 2).all;refine ah ?_;exact Ru.wk (ih _ (f++[w]) _ (n++[c]) j (by simp[B]) L.wY (λx hx=>by
   by_cases e:x=a
   .subst e;have e1:(n++[c]).getD x []=c:=by rw[<-B];simp
    rw[e1];exact⟨i,s,oa,ot,O,S,R⟩
   have e1:(n++[c]).getD x []=n.getD x []:=by simp[akw (show x<n.length by omega)]
   rw[e1];exact y x af) U)
 refine Ru.exitTo ?_;obtain rfl:a=g.al.length:=af;refine ah ?_;exact Ru.aV (h _ v f F n ⟨B,d,aC,A,hI,ag,y⟩ L (U.sub (.cons_cons _ (.cons _ (.cons_cons _ (.cons _ (.cons _ .slnil)))))))
end
end
end
end Go.am.R
end
