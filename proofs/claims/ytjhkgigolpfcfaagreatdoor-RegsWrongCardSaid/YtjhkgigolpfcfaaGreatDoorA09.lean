/- A part of the proof. No conditions. -/
import Derived.Test.YtjhkgigolpfcfaaGreatDoorA08
set_option linter.all false
set_option maxHeartbeats 16000000
open List renaming mem_singleton->aep,mem_cons_of_mem->aey,mem_cons_self->aeU,replicate->ahr,range->ake,length_map->akg,getElem?_append_left->akw,nodup_cons->akz,length_cons->akA,length_singleton->akC,length_take->akF,nodup_append->akI,getElem?_cons_succ->ak6,range_succ->alb,pairwise_cons->alq
open Nat renaming le_of_ble_eq_true->akc,ble_eq_true_of_le->akB,ble->ak2,le_trans->alj,add_assoc->alo
open Int renaming ofNat->ak1
open List.Perm renaming cons->akO,swap->akS
open List.Pairwise renaming nil->alQ
noncomputable section
namespace Go.am.R
section
variable{ac:Nat->aG}
section
def ru(g:G.bu)(x:Int):Int:=((aH g (x.toNat/2)).aA.go.getD 2 default).block
def lu(g:G.bu)(b:Nat)(o:List Int):List (Int×List Int):=
 if(aH g b).aA.op=67 then[(((aH g b).aA.go.getD 0 default).block,o++[2*(b:Int)]),(((aH g b).aA.go.getD 1 default).block,o++[2*(b:Int)+1])]
 else if(aH g b).aA.op=68 then(if o.length=0 then[]else[(ru g (o.getD (o.length - 1) 0),o.take (o.length - 1))])
 else(aH g b).aA.go.map λe=>(e.block,o)
def wX(g:G.bu)(o:List Int):Prop:=∀x∈o,0<=x/\x.toNat/2<g.al.length/\(aH g (x.toNat/2)).aA.go.length=3
def rA(w:List (Int×List Int))(a:Nat->AV):List AV:=(ake w.length).flatMap λk=>[aI (w.getD k (0,[])).1,a k]
def afC(o:List Int)(c:AV)(w:List (Int×List Int))(a:Nat->AV)(F:List Th):Prop:=∀k,k<w.length->tR 1 ((w.getD k (0,[])).2.map aI) (w.getD k (0,[])).2.length (a k)∈F\/∀b,Sl b 1 (o.map aI) o.length c->Sl b 1 ((w.getD k (0,[])).2.map aI) (w.getD k (0,[])).2.length (a k)
theorem CY{b c:Type}{f g:b->List c}:∀{l:List b},(∀x∈l,f x=g x)->l.flatMap f=l.flatMap g|[],_=>rfl|a::l,h=>by rw[alp,alp,h a (aeU ..),CY λx d=>h x (aey _ d)]
theorem afD{w:List (Int×List Int)}{x:Int×List Int}{a:Nat->AV}:rA (w++[x]) a=rA w a++[aI x.1,a w.length]:=by
 unfold rA;rw[aj8,akC,alb,akD,akK];congr 1;·refine CY λk b=>?_;rw[ak3]at b;simp[akw b]
 simp
theorem _root_.Go.am.aj.Qg{A H:ai}{t:Th}{a:List Th}(U:aj A H (t::a)):aj A H (tZ [t]::a):=(U.rl.cM (akS t (tZ []) a)).lq
section
variable{g:G.bu}{H:ai}{cs:List AV}
theorem afE(T:Tb ac)(hg:iG H g cs)(hB:G.Sm g){b:Nat}(hb:b<g.al.length)(n:(aH g b).aA.op=67->(aH g b).aA.go.length=3){o:List Int}{a:AV}(q:fZ H o a)(cE:o.length<=1000)(hO:wX g o){K:KT}(h:∀H' wv vs F,afC o a (lu g b o) vs F->aj H H' [tZ F,tS nO 2 (rA (lu g b o) vs) (lu g b o).length true wv]->K wv H'):YN ac WN [.agg cs,aN b,a] H K:=by
 have cf:=hg.one;obtain⟨vb,rfl,cA⟩:=hg;have⟨c9,_,_,c'⟩:=cA.all;have⟨Y,dm,Z,dr⟩:=q.all;have ds:=hB.nb;have ag:=agB hb;have dv:=hB.bl _ ag;have l:aH g b=g.al[b]:=by rw[aH,bF hb]
 rw[l]at n;refine YF.code T.abB aB ?_;refine ah ?_;refine RO.dL (aj.dc H) λH1 q3 U=>?_;refine ah ?_;refine RO.cZ U.gr cA (λq1 o1 c1 ar p av hat hrd=>?_) (j:=b);unfold lu at h;rw[l]at h;generalize dx:g.al[b]=B at*;obtain⟨vp,dy,jc,rfl,dz,d0,va,vk,vg,rfl,aw,ax,c⟩:=p;have⟨d1,_,_,d2⟩:=c.all;have⟨d3,d4,_,_⟩:=aw.all;have⟨d5,d6,_,_⟩:=ax.all;have d7:=c.ee;have cn:=I' (k:=2) (m:=5) hrd bA;refine ah ?_;refine RO.qS U 2 λH2 N U=>?_;have⟨d',_,_,_⟩:=(U.sl (e:=nO) (size:=2) (sv:=N) (vs:=[]) (n:=0) (full:=true) 0).all;refine RO.fx U λH3 q7 U=>?_;have U:aj H H3 [tB tx q7 [aU B.aA.op,va,.str B.aA.name,vk,vg],tS nO 2 [] 0 true N,tB fI q3 [.str g.name,aI g.params,aI g.bp,vb]]:=U;refine ah ?_;refine Ru.cond (λE=>?_) (λE=>?_)
 .have n:=n E;rw[aK E]at h;have s:iK .mul 3 (.ofNat 2) (.ofNat b)=some (aI (2*(b:Int))):=by simp only[iK];rw[show(ak1 2*ak1 b:Int)=2*(b:Int)from rfl,pY af af]
  refine ah ?_;refine RO.qS U 1 λH4 ay U=>?_;have⟨ea,_,_,_⟩:=(U.sl (e:=3) (size:=1) (sv:=ay) (vs:=[]) (n:=0) (full:=true) 0).all;refine ah ?_;refine RO.pZ U 0 (U.gr.sl q) (λH5 a1 U=>?_) (h1:=qP _);have⟨eb,_,_,_⟩:=(U.sl (e:=3) (size:=1) (sv:=a1) (vs:=[]++o.map aI) (n:=0+o.length) (full:=true) 0).all;refine ah ?_;refine RO.arith ?_ (hv:=s);refine RO.push U 0 (λw1 H6 v9 U=>?_) (ws:=[aI (2*(b:Int))]);have⟨a2,ec,a6,_⟩:=(U.sl (e:=3) (size:=1) (n:=0+o.length+1) (full:=true) (sv:=v9) 0).all;refine ah ?_;refine RO.qS U 1 λH7 a8 U=>?_;have⟨ei,_,_,_⟩:=(U.sl (e:=3) (size:=1) (sv:=a8) (vs:=[]) (n:=0) (full:=true) 0).all;refine ah ?_;refine RO.pZ U 0 (U.gr.sl q) (λH8 a' U=>?_) (h1:=qP _);have⟨ej,_,_,_⟩:=(U.sl (e:=3) (size:=1) (sv:=a') (vs:=[]++o.map aI) (n:=0+o.length) (full:=true) 0).all;refine ah ?_;refine RO.arith ?_ (hv:=s);refine RO.add ?_ (a:=2*(b:Int)) (b:=1);refine RO.push U 0 (λw1 H9 j U=>?_) (ws:=[aI (2*(b:Int)+1)]);have⟨C,cp,D,_⟩:=(U.sl (e:=3) (size:=1) (n:=0+o.length+1) (full:=true) (sv:=j) 0).all;refine ah ?_;refine RO.cZ U.gr c (λO P c8 ba d t hat hrd=>?_) (j:=0);obtain⟨Q,rfl,_⟩:=d;refine ah ?_;refine RO.build (vs:=[aI B.aA.go[0].block,v9]) ?_ (hl:=kG rfl rfl rfl rfl rfl (kG rfl a2 a6 rfl rfl rfl));refine ah ?_;refine RO.cZ U.gr c (λO P c8 cv d t hat hrd=>?_) (j:=1);obtain⟨Q,rfl,_⟩:=d;refine ah ?_;refine RO.build (vs:=[aI B.aA.go[1].block,j]) ?_ (hl:=kG rfl rfl rfl rfl rfl (kG rfl C D rfl rfl rfl));refine RO.lf U 2 (ws:=[aI B.aA.go[0].block,v9,aI B.aA.go[1].block,j]) (n:=2) (λHA bb U=>?_) (hl:=kG rfl rfl rfl rfl rfl (kG rfl rfl rfl rfl rfl rfl));refine RO.pZ U 4 (U.sl (e:=nO) (size:=2) (n:=2) (full:=true) 0) (λR f U=>?_);have⟨bc,_,_,_⟩:=(U.sl (e:=nO) (size:=2) (n:=0+2) (full:=true) (sv:=f) 4).all;refine ah ?_;have e1:∀x:Int,[]++o.map aI++[aI x]=(o++[x]).map aI:=λx=>by simp
  have e2:∀x:Int,0+o.length+1=(o++[x]).length:=λx=>by simp
  have bd:=((U.sub (.cons _ (.cons_cons _ (.cons_cons _ (.cons _ (.cons_cons _ (.cons _ .slnil))))))).as 0 rfl λfp S=>tS.mg S).as 1 rfl λfp S=>tS.mg S;have u:=((((bd.cM (akS _ _ _)).Qg).cM (akS _ _ _)).lq);rw[e1,e1,e2 (2*(b:Int))]at u;have V:B.aA.go.getD 0 default=B.aA.go[0]:=bF af _;have bv:B.aA.go.getD 1 default=B.aA.go[1]:=bF af _;rw[V,bv]at h;refine Ru.aV (h R f (λk=>if k=0 then v9 else j) _ (λk r=>.inl ?_) u);match k,r with|0,_=>simp|1,_=>simp
 rw[aq E]at h;refine ah ?_;refine Ru.cond (λW=>?_) (λW=>?_)
 .rw[aK W]at h;refine ah ?_;refine Ru.cond (λX=>?_) (λX=>?_);·rw[aK X]at h;refine ah ?_;exact Ru.aV (h _ N (λ_=>.aS) [] (λk r=>absurd r aB) (U.sub (.cons _ (.cons_cons _ (.cons _ .slnil)))).rl)
  rw[aq X]at h;have i:o.length - 1<o.length:=af;refine ah ?_;refine RO.arith (v:=aN (o.length - 1)) ?_ (hv:=px (k:=o.length) af af);refine RO.kz U.gr q (λO P hj ek=>?_) (j:=o.length - 1);have v:=hO _ (agB i);have b0:o.getD (o.length - 1) 0=o[o.length - 1]:=bF i _;rw[b0]at h;generalize o[o.length - 1]=x at*;obtain⟨x,rfl⟩:∃y:Nat,x=y:=⟨x.toNat,af⟩;rw[ru,aj3]at h;rw[aj3]at v;obtain⟨_,b3,z⟩:=v;have hq:iK .quo 3 (x:Int) (.ofNat 2)=some (aN (x/2)):=by simp only[iK];rw[aq bA,show((x:Int).tdiv (ak1 2))=((x/2:Nat):Int)from by rw[aj5,Int.tdiv_eq_ediv_of_nonneg af];simp,pY af af];rfl
  refine ah ?_;refine RO.arith ?_ (hv:=hq);refine RO.cZ U.gr cA (λq1 o1 c1 ar p av hat hrd=>?_) (j:=x/2);rw[aH,bF b3]at z h;generalize g.al[x/2]=B2 at*;obtain⟨el,cx,er,rfl,_,_,et,ev,b4,rfl,_,_,m⟩:=p;have⟨cy,_,_,_⟩:=m.all;refine ah ?_;refine RO.aW (v:=b4) ?_ (hc:=hat 6 _ rfl);refine RO.cZ U.gr m (λO P c8 ba d t hat hrd=>?_) (j:=2);obtain⟨Q,rfl,_⟩:=d;refine ah ?_;refine RO.arith (v:=aN (o.length - 1)) ?_ (hv:=px (k:=o.length) af af);refine RO.pc (U.gr.sl q) (b:=o.length - 1) ?_;have A:=λI(hs:Sl I 1 (o.map aI) o.length a)=>CF hs (b:=o.length - 1) af;have⟨b5,_,b6,_⟩:=(A _ q).all;refine RO.build (vs:=[aI B2.aA.go[2].block,pc a (o.length - 1)]) ?_ (hl:=kG rfl rfl rfl rfl rfl (kG rfl b5 b6 rfl rfl rfl));refine RO.lf U 2 (ws:=[aI B2.aA.go[2].block,pc a (o.length - 1)]) (n:=1) (λHA bb U=>?_) (hl:=kG rfl rfl rfl rfl rfl rfl);refine RO.pZ U 2 (U.sl (e:=nO) (size:=2) (n:=1) (full:=true) 0) (λR f U=>?_);have⟨bc,_,_,_⟩:=(U.sl (e:=nO) (size:=2) (n:=0+1) (full:=true) (sv:=f) 2).all;refine ah ?_;have V:B2.aA.go.getD 2 default=B2.aA.go[2]:=bF af _;rw[V]at h;refine Ru.aV (h R f (λk=>pc a (o.length - 1)) [] (λk r=>.inr λI hs=>?_) (U.sub (.cons _ (.cons _ (.cons_cons _ (.cons _ .slnil))))).rl);have b':k=0:=by simpa using r
  subst b';have:=A I hs;rw[alt,<-List.map_take]at this;simpa using this
 rw[aq W]at h;refine ah ?_;refine Ru.nm λS0 M hS hM=>?_;refine Ru.cC hM (up (P:=λk=>∀J w,aj H J [tB tx q7 [aU B.aA.op,va,.str B.aA.name,vk,vg],tS nO 2 (rA ((B.aA.go.take k).map λe=>(e.block,o)) λ_=>a) k true w,tB fI q3 [.str g.name,aI g.params,aI g.bp,vb]]->Ru ac _ S0 ([(aY,aN k),(p8,w)]++pk M [p2,p7]) J) B.aA.go.length (λk r L J w U=>?_) 0 af _ _ U);subst hS;subst hM;have⟨ew,_,_,_⟩:=(U.sl (e:=nO) (size:=2) (sv:=w) (n:=k) (full:=true) 1).all;refine Ru.loop ?_;refine ah ?_;refine Ru.cond (λi=>?_) (λi=>?_);·have L:=L (k+1) af af;rw[(akd i).symm,akE,List.map_singleton,afD]at L;refine ah ?_;refine RO.cZ U.gr c (λq9 o9 e6 e0 ca e3 hat hrd=>?_) (j:=k);generalize B.aA.go[k]=e at*;obtain⟨Q,rfl,e4⟩:=ca;refine ah ?_;refine RO.build (vs:=[aI e.block,a]) ?_ (hl:=kG rfl rfl rfl rfl rfl (kG rfl Y Z rfl rfl rfl));refine RO.push U 1 (λw0 H5 v2 U=>?_) (ws:=[aI e.block,a]);have⟨e5,_,_,_⟩:=(U.sl (e:=nO) (size:=2) (n:=k+1) (full:=true) (sv:=v2) 1).all;refine ah ?_;exact Ru.wk (L _ v2 U)
 refine Ru.exitTo ?_;rw[akl af]at U;have cd:k=(B.aA.go.map λe=>(e.block,o)).length:=by rw[akg];omega
 refine ah ?_;refine Ru.aV (h J w (λ_=>a) [] (λx hx=>.inr λI hs=>?_) ?_)
 .have z:x<B.aA.go.length:=by simpa using hx
  have e:((B.aA.go.map λe=>(e.block,o)).getD x (0,[])).2=o:=by rw[bF hx,akN]
  rw[e];exact hs
 rw[<-cd];exact(U.sub (.cons _ (.cons_cons _ (.cons _ .slnil)))).rl
end
end
section
theorem RO.afF{A H:ai}{j:List Th}{c:Cx}{s:List SI}{L:Kn}{d:Option ab}{l:List be}{e n k cap:Nat}{b ex:Bool}{q:ab}{m:Type}{f:m->AV}{zs:List m}(U:aj A H j)(i:Nat)(z:m)(o:zs.length=n){a x:aJ}{re:List jo}(h:∀H',aj A H' (j.set i (tS e 1 ((zs.set k z).map f) n b (.slice q 0 n cap ex)))->(∀aa,Le (bC L d .alR) aa->fG aa H' re=true)/\RO ac c l s (bC L d .alR) H')(p:bf L a=.az q (0+k*1):=by exact cw)(r:bf L x=f z:=by exact cw)(hi:j[i]?=some (tS e 1 (zs.map f) n b (.slice q 0 n cap ex)):=by rfl)(t:k<zs.length:=by first|omega|assumption)(u:(f z).ee=true:=by first|rfl|assumption)(v:(f z).cells=[f z]:=by first|rfl|assumption)(hd:(f z).bB=true:=by first|rfl|assumption):RO ac c (⟨d,.store 1 a x,none,[],re⟩::l) s L H:=by subst o;obtain⟨C,w,_,hu⟩:=U.ki i hi;obtain⟨H',h1,h2,h3⟩:=NC.set (k:=k) w t z u;have:=hu (t':=tS e 1 ((zs.set k z).map f) (zs.set k z).length b (.slice q 0 (zs.set k z).length cap ex)) h2 h3;rw[ak4]at this;obtain⟨y,B⟩:=h H' this;refine RO.Ei (λ_ _ h=>by cases h) (λ_ h=>by cases h) (λaa g=>⟨H',?_,rfl⟩) y B;simp only[eV,aE,g.gv p rfl,g.gv r hd,v,akC,bq,h1]
theorem afG(T:Tb ac){H:ai}{l m:List Int}{v w:AV}(g:fZ H l v)(j:fZ H m w)(hl:l.length<=1000000){K:KT}(h1:l=m->K (.bool true) H)(h2:l≠m->K (.bool false) H):YN ac Wk [v,w] H K:=by
 have⟨s,t,u,x⟩:=g.all;have⟨y,z,A,B⟩:=j.all;refine YF.code T.aa4 aB ?_;refine ah ?_;refine Ru.cond (λa=>?_) (λa=>?_);·refine ah ?_;exact Ru.aV (h2 λe=>a (by rw[e]))
 have a:l.length=m.length:=af;refine ah ?_;refine Ru.nm λS M p n=>?_;refine Ru.cC n (up (P:=λk=>(∀i(h:i<l.length)(b:i<m.length),i<k->l[i]=m[i])->Ru ac _ S ([(p5,aN k)]++pk M [p0,p1]) H) l.length (λk C q o=>?_) 0 af (λi _ _ hi=>by omega));subst p;subst n;refine Ru.loop ?_;refine ah ?_;refine Ru.cond (λd=>?_) (λd=>?_)
 .refine ah ?_;refine RO.kz (bm.refl H) g (λr o1 hj f=>?_) (j:=k);refine ah ?_;refine RO.kz (bm.refl H) j (λr o1 hj f=>?_) (j:=k);refine ah ?_;refine Ru.cond (λc=>?_) (λc=>?_);·refine ah ?_;exact Ru.aV (h2 λe=>c (by subst e;rfl))
  refine ah ?_;refine Ru.wk (q (k+1) af af λi h b hi=>?_);by_cases e:i=k;·subst e;exact Classical.not_not.1 c
  exact o i h b af
 refine Ru.exitTo ?_;refine ah ?_;exact Ru.aV (h1 (alg a λi h b=>o i h b af))
structure mL(g:G.bu):Prop where
 ne:0<g.al.length
 t3:∀b,b<g.al.length->(aH g b).aA.op=67->(aH g b).aA.go.length=3
 rg:∀b,b<g.al.length->∀e∈(aH g b).aA.go,1<=e.block/\e.block<=(g.al.length:Int) - 1
theorem sD.sh{g:G.bu}(h:sD g):mL g:=by
 have hb:∀b,b<g.al.length->yO g (aH g b).aA:=λb hb=>by rw[aH,bF hb];exact h.CD _ (agB hb)
 refine⟨h.ne,λb c d=>?_,λb c e he=>?_⟩;·have:=(hb b c).ae;generalize(aH g b).aA.go.length=n at*;generalize(aH g b).aA.args.length=a at*;cases this<;>simp_all
 obtain⟨i,hi,rfl⟩:=aka he;have:=(hb b c).E0 i hi;exact⟨this.lo,this.hi⟩
inductive lR(g:G.bu)(wo:Int):Nat->List Int->Prop
 |zero(h:wo≠0):lR g wo 0 []
 |step{b:Nat}{o:List Int}{w:Int×List Int}(h:lR g wo b o)(hw:w∈lu g b o)(hn:w.1≠wo):lR g wo w.1.toNat w.2
section
variable{g:G.bu}{wo:Int}
theorem wX.wz{o:List Int}{x:Int}(h:wX g o)(b:0<=x/\x.toNat/2<g.al.length/\(aH g (x.toNat/2)).aA.go.length=3):wX g (o++[x]):=λy a=>by
 rcases ahp.1 a with a|a;·exact h y a
 rw[aep]at a;subst a;exact b
theorem vE(d:mL g){b:Nat}(hb:b<g.al.length){o:List Int}(c:wX g o):∀w∈lu g b o,(1<=w.1/\w.1<=(g.al.length:Int) - 1)/\wX g w.2/\w.2.length<=o.length+1:=by
 intro w a;unfold lu at a;split at a
 .rename_i f;have h3:=d.t3 b hb f;have h:=d.rg b hb;have e1:(2*(b:Int)).toNat/2=b:=af;have e2:(2*(b:Int)+1).toNat/2=b:=af;simp only[aeV,aki,or_false]at a;rcases a with rfl|rfl;·refine⟨h _ (by rw[bF af];exact agB _),c.wz ⟨af,by rw[e1];exact hb,by rw[e1];exact h3⟩,aB⟩
  refine⟨h _ (by rw[bF af];exact agB _),c.wz ⟨af,by rw[e2];exact hb,by rw[e2];exact h3⟩,aB⟩
 split at a
 .split at a;·cases a
  rename_i h0;rw[aep]at a;subst a;have i:=agB (l:=o) (n:=o.length - 1) af;obtain⟨_,h2,h3⟩:=c _ i;refine⟨?_,λx j=>c x (List.mem_of_mem_take j),by rw[akF];omega⟩;show 1<=ru g _/\_;rw[bF af,ru];exact d.rg _ h2 _ (by rw[bF af];exact agB _)
 obtain⟨e,he,rfl⟩:=akk.1 a;exact⟨d.rg b hb e he,c,aB⟩
theorem lR.ok(a:mL g){b:Nat}{o:List Int}(h:lR g wo b o):b<g.al.length/\wX g o:=by induction h with|zero _=>exact⟨a.ne,λx d=>by cases d⟩|step _ e _ c=>obtain⟨⟨h1,h2⟩,h3,_⟩:=vE a c.1 c.2 _ e;exact⟨af,h3⟩
structure lw(g:G.bu)(wo:Int)(come:List Bool)(aC:List (List Int)):Prop where
 lc:come.length=g.al.length
 lo:aC.length=g.al.length
 c0:wo≠0->come.getD 0 false=true
 JN:∀b,come.getD b false=false->aC.getD b []=[]
 snd:∀b,come.getD b false=true->lR g wo b (aC.getD b [])
 jx:∀b,come.getD b false=true->(aC.getD b []).length+lr come<g.al.length
def A3(wo:Int)(a:List Bool)(aC:List (List Int))(b:Bool)(w:Int×List Int):Prop:=w.1=wo\/a.getD w.1.toNat false=true/\(b=false->aC.getD w.1.toNat []=w.2)
def oF(g:G.bu)(wo:Int)(a:List Bool)(aC:List (List Int))(c:Bool)(b:Nat):Prop:=a.getD b false=true->∀w∈lu g b (aC.getD b []),A3 wo a aC c w
theorem lw.add(k:mL g){a:List Bool}{aC:List (List Int)}(h:lw g wo a aC){b:Nat}{w:Int×List Int}(hb:a.getD b false=true)(l:w∈lu g b (aC.getD b []))(m:w.1≠wo)(n:a.getD w.1.toNat false=false):lw g wo (a.set w.1.toNat true) (aC.set w.1.toNat w.2):=by
 have d:=h.lc;have f:=h.lo;obtain⟨j,o⟩:=(h.snd b hb).ok k;obtain⟨⟨h1,h2⟩,h3,q⟩:=vE k j o _ l;have i:w.1.toNat<g.al.length:=af;have r:=h.jx b hb;have p:=wS (by rw[d];exact i) n;refine⟨by simpa using d,by simpa using f,λh0=>?_,λx c=>?_,λx c=>?_,λx c=>?_⟩
 .rw[fu (by rw[d];exact i)];split;·rfl
  exact h.c0 h0
 .rw[fu (by rw[d];exact i)]at c;rw[fu (by rw[f];exact i)];split;·rename_i e;rw[aK e]at c;cases c
  rename_i e;rw[aq e]at c;exact h.JN x c
 .rw[fu (by rw[d];exact i)]at c;rw[fu (by rw[f];exact i)];split;·rename_i e;subst e;exact .step (h.snd b hb) l m
  rename_i e;rw[aq e]at c;exact h.snd x c
 rw[fu (by rw[d];exact i)]at c;rw[fu (by rw[f];exact i)];split;·omega
 rename_i e;rw[aq e]at c;have:=h.jx x c;omega
end
end
section
theorem _root_.Go.am.aj.afH{A H:ai}{F G:List Th}{b:List Th}(U:aj A H (tZ F::tZ G::b)):aj A H (tZ (F++G)::b):=by
 refine U.lq.as 0 rfl λd a=>⟨λu hu=>?_,a.2⟩;rcases ahp.1 hu with hu|hu;·obtain⟨f,e,c⟩:=a.1 _ (aeU ..);obtain⟨g,h,i⟩:=c.1 u hu;grind
 exact a.1 u (aey _ hu)
theorem _root_.Go.am.aj.afI{A H:ai}{F G:List Th}{b:List Th}(U:aj A H (tZ F::b))(h:∀t∈G,∃t0∈F,∀c f,t0.P c f->t.P c f):aj A H (tZ (G++F)::b):=by
 refine U.as 0 rfl λd a=>⟨λu hu=>?_,a.2⟩;rcases ahp.1 hu with hu|hu;·obtain⟨t0,h0,h1⟩:=h u hu;obtain⟨f,e,g⟩:=a.1 _ h0;grind
 exact a.1 u hu
theorem lQ.Jo{c:List (List Int)}{a:List AV}{F G:List Th}(h:lQ c a F)(hs:∀t∈F,t∈G):lQ c a G:=⟨h.len,λb hb=>hs _ (h.mem b hb)⟩
theorem lQ.set{c:List (List Int)}{a:List AV}{F:List Th}(h:lQ c a F){t:Nat}(d:t<c.length){l:List Int}{v:AV}(f:tR 1 (l.map aI) l.length v∈F):lQ (c.set t l) (a.set t v) F:=by
 have hl:=h.len;refine⟨by grind,λb hb=>?_⟩;rw[ak4]at hb;rw[fu d,fu af];by_cases e:b=t;·grind
 rw[aq e,aq e];exact h.mem b hb
theorem JP{w:List (Int×List Int)}{vs:Nat->AV}:∀n,((ake n).flatMap λk=>[aI (w.getD k (0,[])).1,vs k]).length=n*2|0=>rfl|n+1=>by rw[alb,akD,aj8,JP n];simp;omega
theorem afJ{w:List (Int×List Int)}{vs:Nat->AV}{k:Nat}(a:k<w.length):(rA w vs)[0+k*2]?=some (aI (w.getD k (0,[])).1)/\(rA w vs)[0+k*2+1]?=some (vs k):=by unfold rA;obtain⟨d,hd⟩:∃d,w.length=k+1+d:=⟨w.length - (k+1),af⟩;rw[hd,akh];clear hd a;induction d with|zero=>rw[alG,alb,akD,akK];have hl:=JP (w:=w) (vs:=vs) k;grind|succ d b=>have hl:=JP (w:=w) (vs:=vs) (k+1+d);grind[alo,alb,akw]
def yY(f h i d e:ab)(g:G.bu)(j:AV)(F:List Th)(a:List Bool)(b:List AV)(c:Bool):List Th:=[tZ F,tB Ap f [.slice d 0 g.al.length g.al.length true,.slice e 0 g.al.length g.al.length true,.bool c],tS Il 1 b g.al.length true (.slice e 0 g.al.length g.al.length true),tS 4 1 (a.map .bool) g.al.length true (.slice d 0 g.al.length g.al.length true),tB Ap h [.aS,.aS,.bool false],tB fI i [.str g.name,aI g.params,aI g.bp,j]]
section
variable{g:G.bu}{wo:Int}{H:ai}{cs:List AV}
theorem lw.zero(i:mL g):lw g wo (if wo≠0 then(ahr g.al.length false).set 0 true else ahr g.al.length false) (ahr g.al.length []):=by
 have a:=i.ne;have c:∀b,(ahr g.al.length ([]:List Int)).getD b []=[]:=λb=>by simp only[akm,ak8];split<;>rfl
 have f:∀b,(ahr g.al.length false).getD b false=false:=λb=>by simp only[akm,ak8];split<;>rfl
 by_cases h:wo≠0
 .rw[aK h];have j:∀b,((ahr g.al.length false).set 0 true).getD b false=true->b=0:=λb hb=>by
   rw[fu (by simpa using a)]at hb;by_cases e:b=0;·exact e
   rw[aq e,f]at hb;cases hb
  have d:=wS (come:=ahr g.al.length false) (k:=0) (by simpa using a) (f 0);rw[E3]at d;refine⟨aB,aB,λ_=>by grind,λb _=>c b,λb hb=>?_,λb hb=>?_⟩;·rw[c,j b hb];exact .zero h
  grind
 rw[aq h];exact⟨aB,aB,λh0=>absurd h0 h,λb _=>c b,λb hb=>(by grind),λb hb=>(by grind)⟩
theorem JQ(T:Tb ac)(hg:iG H g cs)(hB:G.Sm g)(hS:mL g)(d5:g.al.length<=30){K:KT}(h:∀H' P L l F c aC p,lw g wo c aC->(∀b,oF g wo c aC p b)->lQ aC l F->aj H H' [tZ F,tS Il 1 l g.al.length true (.slice L 0 g.al.length g.al.length true),tS 4 1 (c.map .bool) g.al.length true (.slice P 0 g.al.length g.al.length true)]->K (.agg [.slice P 0 g.al.length g.al.length true,.slice L 0 g.al.length g.al.length true,.bool p]) H'):YN ac Wv [.agg cs,aI wo] H K:=by
 have d6:=hg.one;have cn:=hg;obtain⟨vb,rfl,cA⟩:=hg;have⟨ec,_,_,ei⟩:=cA.all;have cp:=hS.ne;refine YF.code T.abf aB ?_;refine au ?_;refine RO.dL (aj.dc H) λH1 Y U=>?_;refine RO.gI U λH2 S U=>?_;refine ah ?_;refine RO.oT U (n:=g.al.length) (λH3 P U=>?_) (hz:=by rw[iZ];simp);refine ah ?_;refine RO.oT U (n:=g.al.length) (λH4 L U=>?_) (hz:=by rw[iZ];simp);refine ah ?_;refine RO.fx U λH5 V U=>?_;have U:=U.py 3 1;have U:=(U.as 0 rfl λfp hp=>tS.mg hp).Qg;rw[iZ,iZ]at U;have U:aj H H5 (yY V S Y P L g vb [tR 1 [] 0 .aS] (ahr g.al.length false) (ahr g.al.length .aS) false):=by unfold yY;rw[alz];exact U
 have f:lQ (ahr g.al.length []) (ahr g.al.length .aS) [tR 1 [] 0 .aS]:=⟨aB,λb hb=>by rw[ak9]at hb;rw[bF (by simpa using hb),bF (by simpa using hb),List.getElem_replicate,List.getElem_replicate];exact aeU ..⟩;refine RO.nil ?_;refine Ru.seq ?_;refine Ru.wP (P:=λM H'=>M=[(p1,aI wo),(p2,.az Y 0),(p4,.az S 0),(p5,aN g.al.length),(p6,.az V 0)]/\aj H H' (yY V S Y P L g vb [tR 1 [] 0 .aS] (if wo≠0 then(ahr g.al.length false).set 0 true else ahr g.al.length false) (ahr g.al.length .aS) false)) (λM H6⟨hM,U⟩=>?_) (λs' q=>?_);rotate_left
 .refine ah ?_;refine Ru.cond (λu=>?_) (λu=>?_);·have u:wo≠0:=u;rw[aK u]at q;refine ah ?_;refine RO.lC (f:=AV.bool) (zs:=ahr g.al.length false) U 3 true (n:=g.al.length) (ak9 ..) (λH6 U=>?_) (k:=0) (ho:=by simpa using cp);refine ah ?_;exact q _ _ _ ⟨rfl,U⟩ fB
  have u:¬wo≠0:=u;rw[aq u]at q;refine ah ?_;exact q _ _ _ ⟨rfl,U⟩ fB
 subst hM;have r:=lw.zero (wo:=wo) hS;generalize(if wo≠0 then(ahr g.al.length false).set 0 true else ahr g.al.length false)=d3 at*;generalize [tR 1 [] 0 .aS]=F0 at*;generalize ahr g.al.length AV.aS=d7 at*;generalize ahr g.al.length ([]:List Int)=d' at*;refine ah ?_;refine Ru.nm λS0 M cv hM=>?_;refine Ru.cC hM (dn (P:=λm=>∀B c aC l F p C,(if C=true then lr c+1 else 0)=m->lw g wo c aC->lQ aC l F->(C=false->∀b,oF g wo c aC p b)->aj H B (yY V S Y P L g vb F c l p)->Ru ac _ S0 ([(p7,.bool C)]++pk M [p1,p2,p4,p5,p6]) B) (λm ih B c aC l F p C cx r f y U=>?_) _ _ _ _ _ _ false true rfl r f (λh=>by cases h) U);subst cv;subst hM;refine Ru.loop ?_;refine ah ?_;refine Ru.kN (λax=>?_) (λax=>?_)
 .subst ax;simp only[bq]at cx;refine ah ?_;refine Ru.nm λS1 M1 cy a8=>?_;refine Ru.cC a8 (up (P:=λk=>∀B c aC l F p C,(C=true->lr c+1<m)->lr c+1<=m->lw g wo c aC->lQ aC l F->(C=false->∀b,b<k->oF g wo c aC p b)->aj H B (yY V S Y P L g vb F c l p)->Ru ac _ S1 ([(p8,aN k),(p7,.bool C)]++pk M1 [p1,p2,p4,p5,p6]) B) g.al.length (λb hb ay B c aC l F p C A D r f y U=>?_) 0 af _ c aC l F p false (λh=>by cases h) af r f (λ_ b hb=>by omega) U);subst cy;subst a8;refine Ru.loop ?_;refine ah ?_;refine Ru.cond (λa'=>?_) (λa'=>?_)
  .have ba:=r.lc;have bb:=r.lo;have bc:=f.len;refine ah ?_;refine RO.qS U 2 λH6 v9 U=>?_;have⟨ej,_,_,ek⟩:=(U.sl (e:=nO) (size:=2) (sv:=v9) (vs:=[]) (n:=0) (full:=true) 0).all;refine RO.bg ?_;refine RO.nil ?_;refine Ru.seq ?_;refine Ru.wP (P:=λM H'=>∃w vs F' W,M=[(p9,W),(p1,aI wo),(p2,.az Y 0),(p4,.az S 0),(p5,aN g.al.length),(p6,.az V 0),(p7,.bool C),(p8,aN b)]/\(c.getD b false=true->w=lu g b (aC.getD b []))/\(c.getD b false=false->w=[])/\w.length<=12/\(∀k,k<w.length->tR 1 ((w.getD k (0,[])).2.map aI) (w.getD k (0,[])).2.length (vs k)∈F')/\lQ aC l F'/\aj H H' (tS nO 2 (rA w vs) w.length true W::yY V S Y P L g vb F' c l p)) (λM H7⟨w,vs,F',W,hM,bd,cE,ea,c8,f,U⟩=>?_) (λs' q=>?_);rotate_left
   .have c9:(c.map AV.bool)[0+b*1]?=some (.bool (c.getD b false)):=by rw[show 0+b*1=b by omega,aks,getElem?_pos c b af,bF af];rfl
    refine ah ?_;refine RO.fD U 4 (hv:=c9) ?_;refine ah ?_;refine Ru.kN (λu=>?_) (λu=>?_)
    .have c':l[0+b*1]?=some (l.getD b .co):=by rw[show 0+b*1=b by omega,getElem?_pos l b af,bF af]
     have hF:=f.mem b af;obtain⟨_,bv,_,_⟩:=U.mf 1 rfl hF;have⟨el,_,_,_⟩:=bv.all;obtain⟨E,a1⟩:=(r.snd b u).ok hS;have cf:=r.jx b u;refine ah ?_;refine RO.eQ U 6 ?_;refine ah ?_;refine RO.fD U 3 (hv:=c') ?_;refine RO.cl (afE T (dQ.nM U.gr cn) hB E (hS.t3 b E) bv af a1 λH7 W vs Fw dm hl=>?_);have U:=U.fC hl;have X:=(hl.sl (e:=nO) (size:=2) (sv:=W) (full:=true) (vs:=rA (lu g b (aC.getD b [])) vs) (n:=(lu g b (aC.getD b [])).length) 1).all.1;refine ah ?_;have dr:=((U.sub (.cons_cons _ (.cons_cons _ (.cons _ (akL _))))).cM (akO _ (akS _ _ _))).afH;have ds:(lu g b (aC.getD b [])).length<=12:=by
      have:=(hB.bl _ (agB E)).2.2.2.2.1;unfold lu;split;·simp
      split;·split<;>simp
      rw[akg,aH,bF E];omega
     generalize lu g b (aC.getD b [])=w at*;have dv:=(dr.afI (G:=(ake w.length).map λk=>tR 1 ((w.getD k (0,[])).2.map aI) (w.getD k (0,[])).2.length (vs k)) λt N=>by
      obtain⟨k,hk,rfl⟩:=akk.1 N;rw[ak3]at hk;rcases dm k hk with h9|h9;·exact⟨_,akf _ h9,λ_ _ h=>h⟩
      exact⟨_,akq _ hF,λ_ _ h=>Qe h9 h⟩).cM (akS _ _ _);exact q _ _ _ ⟨w,vs,_,W,rfl,λ_=>rfl,λh=>(by rw[u]at h;cases h),ds,λk hk=>akf _ (akk.2 ⟨k,ak3.2 hk,rfl⟩),f.Jo λt N=>akq _ (akq _ N),dv⟩ fB
    refine ah ?_;exact q _ _ _ ⟨[],λ_=>.aS,F,v9,rfl,λh=>(by rw[u]at h;cases h),λ_=>rfl,aB,λk hk=>absurd hk aB,f,U⟩ fB
   subst hM;have eb:b<g.al.length:=a';refine ah ?_;have ay:=ay (b+1) af af;refine Ru.nm λS2 M2 dx b0=>?_;refine Ru.cC b0 (up (P:=λj=>∀B a d n o v,(v=true->lr a+1<m)->lr a+1<=m->lw g wo a d->lQ d n F'->(c.getD b false=true->a.getD b false=true/\d.getD b []=aC.getD b [])->(v=false->a.getD b false=c.getD b false/\(∀Q,Q<b->oF g wo a d o Q)/\∀i,i<w.length->i<j->A3 wo a d o (w.getD i (0,[])))->aj H B (tS nO 2 (rA w vs) w.length true W::yY V S Y P L g vb F' a n o)->Ru ac _ S2 ([(aO,aN j),(p7,.bool v)]++pk M2 [p1,p2,p4,p5,p6,p8,p9]) B) w.length (λj hj I B a d n o v A D r f O y U=>?_) 0 af _ c aC l p C A D r f (λh=>⟨h,rfl⟩) (λh=>⟨rfl,y h,λi _ hi=>by omega⟩) U);subst dx;subst b0;have X:=(U.sl (e:=nO) (size:=2) (sv:=W) (full:=true) (vs:=rA w vs) (n:=w.length) 0).all;have er:=X.2.2.2;have X:=X.1;have ba:=r.lc;have bb:=r.lo;have bc:=f.len;refine Ru.loop ?_;refine ah ?_;refine Ru.cond (λs=>?_) (λs=>?_)
   .have b3:c.getD b false=true:=by cases R:c.getD b false with|true=>rfl|false=>rw[cE R]at s;simp at s
    obtain⟨z,Z⟩:=O b3;have b4:w.getD j (0,[])∈lu g b (d.getD b []):=by rw[Z,<-bd b3,bF s];exact agB s
    obtain⟨E,a1⟩:=(r.snd b z).ok hS;obtain⟨⟨et,ev⟩,ew,e0⟩:=vE hS E a1 _ b4;have cf:=r.jx b z;have hF:=c8 j s;have I:=I (j+1) af af;have ag:v=false->A3 wo a d o (w.getD j (0,[]))->a.getD b false=c.getD b false/\(∀Q,Q<b->oF g wo a d o Q)/\∀i,i<w.length->i<j+1->A3 wo a d o (w.getD i (0,[])):=λh hd=>by
     obtain⟨a2,a6,a3⟩:=y h;refine⟨a2,a6,λi hi dy=>?_⟩;by_cases e:i=j;·subst e;exact hd
     exact a3 i hi af
    obtain⟨b5,b6⟩:=afJ (vs:=vs) s;generalize dz:w.getD j (0,[])=wj at*;obtain⟨t,N⟩:∃t:Nat,wj.1=t:=⟨wj.1.toNat,af⟩;rw[N]at b5;have e2:t<g.al.length:=af;obtain⟨qw,cap,ex,rfl⟩:=U.uT (e:=nO) (size:=2) (n:=w.length) (full:=true) (sv:=W) 0 rfl af;obtain⟨_,ar,_,_⟩:=U.mf 1 rfl hF;have⟨e3,e4,e5,_⟩:=ar.all;refine ah ?_;refine RO.fD U 0 (hv:=b5) ?_;refine ah ?_;refine Ru.cond (λu=>?_) (λu=>?_)
    .have u:wj.1=wo:=by rw[N];exact u
     refine ah ?_;exact Ru.wk (I _ a d n o v A D r f O (λh=>ag h (.inl u)) U)
    have u:wj.1≠wo:=by rw[N];exact u
    have d0:(a.map AV.bool)[0+t*1]?=some (.bool (a.getD t false)):=by rw[show 0+t*1=t by omega,aks,getElem?_pos a t af,bF af];rfl
    refine ah ?_;refine RO.fD U 4 (hv:=d0) ?_;refine ah ?_;refine Ru.kN (λJ=>?_) (λJ=>?_)
    .have J:a.getD t false=false:=by simpa using J
     have b':b≠t:=λe=>by rw[<-e,z]at J;cases J
     have e6:=wS af J;refine ah ?_;refine RO.fD U 0 (hv:=b6) ?_;refine ah ?_;refine RO.afF (f:=AV.bool) (zs:=a) U 4 true ba (k:=t) (λH8 U=>⟨λaa d1=>?_,?_⟩);·obtain⟨_,hp⟩:=U.get 2 rfl;exact il (i:=V) (o:=1) (v:=.slice L 0 g.al.length g.al.length true) d1 (by(conv=>lhs;whnf)<;>rfl) (by(conv=>lhs;whnf)<;>rfl) rfl (by simp[iy,gz,ab.ip]) (tB.cell hp rfl) rfl
     refine ah ?_;refine RO.yK U 3 (n:=g.al.length) (vs:=n) af (k:=t) (w:=vs j) (λH9 U=>?_);refine ah ?_;have av:=r.add hS z b4 u (by rw[N,aj3];exact J);rw[N,aj3]at av;exact Ru.wk (I _ (a.set t true) (d.set t wj.2) (n.set t (vs j)) o true (λ_=>by omega) af av (f.set af hF) (λh=>by rw[fu af,fu af,aq b',aq b'];exact⟨z,Z⟩) (λh=>by cases h) U)
    have J:a.getD t false=true:=by simpa using J
    have d2:n[0+t*1]?=some (n.getD t .co):=by rw[show 0+t*1=t by omega,getElem?_pos n t af,bF af]
    obtain⟨_,aw,_,_⟩:=U.mf 1 rfl (f.mem t af);have⟨e7,_,_,_⟩:=aw.all;have d4:=r.jx t J;refine ah ?_;refine RO.fD U 3 (hv:=d2) ?_;refine ah ?_;refine RO.fD U 0 (hv:=b6) ?_;refine RO.cl (afG T aw ar af (λg3=>?_) (λg3=>?_));·refine ah ?_;exact Ru.wk (I _ a d n o v A D r f O (λh=>ag h (.inr (by rw[N,aj3];exact⟨J,λ_=>g3⟩))) U)
    refine ah ?_;refine RO.gG U 2 (λH8 U=>?_);refine ah ?_;have ca:∀w,A3 wo a d o w->A3 wo a d true w:=λw hw=>hw.imp id λh=>⟨h.1,λh=>by cases h⟩;exact Ru.wk (I _ a d n true v A D r f O (λh=>by
     obtain⟨a2,a6,a3⟩:=y h;refine⟨a2,λQ cd R x hx=>ca _ (a6 Q cd R x hx),λi hi dy=>?_⟩;by_cases e:i=j;·subst e;rw[dz];exact .inr (by rw[N,aj3];exact⟨J,λh=>by cases h⟩)
     exact ca _ (a3 i hi af)) U)
   refine Ru.exitTo ?_;refine ah ?_;refine Ru.wk (ay B a d n F' o v A D r f (λh Q cd=>?_) U.tail);obtain⟨a2,a6,a3⟩:=y h;by_cases e:Q=b;·subst e;intro R x hx;rw[a2]at R;rw[(O R).2,<-bd R]at hx;obtain⟨i,hi,rfl⟩:=aka hx;have:=a3 i hi af;rw[bF hi]at this;exact this
   exact a6 Q af
  refine Ru.exitTo ?_;obtain rfl:b=g.al.length:=af;refine ah ?_;refine Ru.wk (ih _ ?_ B c aC l F p C rfl r f (λh x=>?_) U);·cases C with|true=>rw[aK rfl];exact A rfl|false=>rw[aq aB];omega
  by_cases hx:x<g.al.length;·exact y h x hx
  intro R;have:=r.lc;rw[akm,List.getElem?_eq_none af]at R;cases R
 subst ax;refine Ru.exitTo ?_;have bb:=r.lo;have bc:=f.len;refine ah ?_;refine RO.eQ U 1 ?_;refine RO.iT U 4 (λH7 U=>?_);refine ah ?_;exact Ru.lM (vs:=[_]) ⟨⟨S,0,rfl,U.agg 4⟩,trivial⟩ (h H7 P L l F c aC p r (y rfl) f (U.sub (.cons_cons _ (.cons _ (.cons_cons _ (.cons_cons _ (.cons _ (.cons _ .slnil))))))))
end
end
section
def ui(j:G.lD):List Int:=j.args++j.go.flatMap (·.args)
theorem JR(l:List G.ic):(eU l).length<=l.length:=alj (List.length_filter_le _ _) aB
section
variable{g:G.bu}{H:ai}{cs:List AV}
theorem afK(T:Tb ac){B:G.gV}(hb:kj H B cs)(hl:B.params.length<=12/\B.aD.length<=40){K:KT}(h:∀H' v,aj H H' [tS 3 1 ((gX B).map aI) (gX B).length true v]->K v H'):YN ac WC [.agg cs] H K:=by
 have E:=hb.one;obtain⟨w,i,jc,rfl,o,f,y,z,A,rfl,P,Q,R⟩:=hb;have⟨S,_,_,_⟩:=f.all;refine YF.code T.abo aB ?_;refine au ?_;refine RO.dL (aj.dc H) λH1 q U=>?_;refine ah ?_;refine RO.qS U 1 λH2 v5 U=>?_;have⟨V,_,_,_⟩:=(U.sl (e:=3) (size:=1) (sv:=v5) (vs:=[]) (n:=0) (full:=true) 0).all;refine ah ?_;refine RO.pZ U 0 (U.gr.sl o) (λF C U=>?_) (h1:=qP _);have U:aj H F [tS 3 1 ((B.params++eU (B.aD.take 0)).map aI) (B.params++eU (B.aD.take 0)).length true C,tB dW q [w,i,aU B.aA.op,y,.str B.aA.name,z,A]]:=by rw[alm,show eU []=[]from rfl,akT];rw[akh]at U;exact U
 have⟨W,_,_,_⟩:=(U.sl (e:=3) (size:=1) (sv:=C) (full:=true) (vs:=(B.params++eU (B.aD.take 0)).map aI) (n:=(B.params++eU (B.aD.take 0)).length) 0).all;refine ah ?_;refine Ru.nm λI J p k=>?_;refine Ru.cC k (up (P:=λj=>∀n g,aj H n [tS 3 1 ((B.params++eU (B.aD.take j)).map aI) (B.params++eU (B.aD.take j)).length true g,tB dW q [w,i,aU B.aA.op,y,.str B.aA.name,z,A]]->Ru ac _ I ([(p4,aN j),(p3,g)]++pk J [p1]) n) B.aD.length (λj hj d n g U=>?_) 0 af _ _ U);subst p;subst k;have⟨X,_,_,r⟩:=(U.sl (e:=3) (size:=1) (sv:=g) (vs:=(B.params++eU (B.aD.take j)).map aI) (n:=(B.params++eU (B.aD.take j)).length) (full:=true) 0).all;refine Ru.loop ?_;refine ah ?_;refine Ru.cond (λc=>?_) (λc=>?_)
 .have d:=d (j+1) af af;rw[(akd c).symm,Jt,<-aj2]at d;have Y:(B.params++eU (B.aD.take j)).length<=100:=by have:=JR (B.aD.take j);rw[akF]at this;rw[aj8];omega
  generalize B.params++eU (B.aD.take j)=L at*;refine ah ?_;refine RO.cZ U.gr f (λM N c7 s b t a l=>?_) (j:=j);generalize O:B.aD[j]=x at*;obtain⟨u,rfl,m⟩:=b;refine ah ?_;refine RO.aW (v:=aI x.to) ?_ (hc:=a 1 _ rfl);refine ah ?_;refine Ru.cond (λe=>?_) (λe=>?_);·have e:0<=x.to:=e;rw[aK e]at d;refine ah ?_;refine RO.cZ U.gr f (λM N c7 s b t a l=>?_) (j:=j);rw[O]at b;obtain⟨u,rfl,m⟩:=b;refine ah ?_;refine RO.aW (v:=aI x.to) ?_ (hc:=a 1 _ rfl);refine RO.push U 0 (λw0 H9 D U=>?_) (ws:=[aI x.to]);have⟨Z,ag,ar,_⟩:=(U.sl (e:=3) (size:=1) (n:=L.length+1) (full:=true) (sv:=D) 0).all;refine ah ?_;exact Ru.wk (d _ D (by rw[akE,aj8];exact U))
  have e:¬0<=x.to:=e;rw[aq e,akT]at d;refine ah ?_;exact Ru.wk (d _ g U)
 refine Ru.exitTo ?_;rw[akl af]at U r;refine ah ?_;exact Ru.aV (h _ g (U.sub (.cons_cons _ (.cons _ .slnil))))
theorem afL(T:Tb ac){j:G.lD}(hj:tw H j cs)(hl:j.args.length<=12/\j.go.length<=12)(m:∀e∈j.go,e.args.length<=12){K:KT}(h:∀H' v,aj H H' [tS 3 1 ((ui j).map aI) (ui j).length true v]->K v H'):YN ac Ww [.agg cs] H K:=by
 have y:=hj.one;obtain⟨s,t,u,rfl,n,F,c⟩:=hj;have⟨I,_,_,_⟩:=c.all;refine YF.code T.abg aB ?_;refine au ?_;refine RO.dL (aj.dc H) λH1 q U=>?_;refine ah ?_;refine RO.qS U 1 λX v5 U=>?_;have⟨J,_,_,_⟩:=(U.sl (e:=3) (size:=1) (sv:=v5) (vs:=[]) (n:=0) (full:=true) 0).all;refine ah ?_;refine RO.pZ U 0 (U.gr.sl n) (λA w U=>?_) (h1:=qP _);have U:aj H A [tS 3 1 ((j.args++(j.go.take 0).flatMap (·.args)).map aI) (j.args++(j.go.take 0).flatMap (·.args)).length true w,tB tx q [aU j.op,s,.str j.name,t,u]]:=by rw[alm,List.flatMap_nil,akT];rw[akh]at U;exact U
 have⟨L,_,_,_⟩:=(U.sl (e:=3) (size:=1) (sv:=w) (full:=true) (vs:=(j.args++(j.go.take 0).flatMap (·.args)).map aI) (n:=(j.args++(j.go.take 0).flatMap (·.args)).length) 0).all;refine ah ?_;refine Ru.nm λB C o d=>?_;refine Ru.cC d (up (P:=λk=>∀l b,(j.args++(j.go.take k).flatMap (·.args)).length<=12+12*k->aj H l [tS 3 1 ((j.args++(j.go.take k).flatMap (·.args)).map aI) (j.args++(j.go.take k).flatMap (·.args)).length true b,tB tx q [aU j.op,s,.str j.name,t,u]]->Ru ac _ B ([(p4,aN k),(p3,b)]++pk C [p1]) l) j.go.length (λk Y i l b M U=>?_) 0 af _ _ (by simp;omega) U);subst o;subst d;have⟨N,_,_,p⟩:=(U.sl (e:=3) (size:=1) (sv:=b) (vs:=(j.args++(j.go.take k).flatMap (·.args)).map aI) (n:=(j.args++(j.go.take k).flatMap (·.args)).length) (full:=true) 0).all;refine Ru.loop ?_;refine ah ?_;refine Ru.cond (λa=>?_) (λa=>?_);·have i:=i (k+1) af af;have O:=m _ (agB a);rw[(akd a).symm,akD,akK,<-aj2]at i;generalize j.args++(j.go.take k).flatMap (·.args)=D at*;refine ah ?_;refine RO.cZ U.gr c (λZ o7 c7 P r Q g z=>?_) (j:=k);generalize j.go[k]=e at*;obtain⟨E,rfl,f⟩:=r;have⟨R,_,_,_⟩:=f.all;refine ah ?_;refine RO.aW (v:=E) ?_ (hc:=g 1 _ rfl);refine RO.pZ U 0 (U.gr.sl f) (λH9 x U=>?_) (h1:=qP _);have⟨S,V,W,_⟩:=(U.sl (e:=3) (size:=1) (n:=D.length+e.args.length) (full:=true) (sv:=x) 0).all;refine ah ?_;exact Ru.wk (i _ x (by rw[aj8];omega) (by rw[akE,aj8];exact U))
 refine Ru.exitTo ?_;rw[akl af]at U p;refine ah ?_;exact Ru.aV (h _ b (U.sub (.cons_cons _ (.cons _ .slnil))))
structure sH(n np:Nat)(gl:List Int)(hist:List (Int×Nat)):Prop where
 len:gl.length=n
 aM:∀v:Nat,v<np->gl.getD v 0= -1
 bH:∀p∈hist,gl.getD p.1.toNat 0=(p.2:Int)
theorem sH.add{n c:Nat}{gl:List Int}{a:List (Int×Nat)}(h:sH n c gl a){v k:Nat}(i:v<n)(j:c<=v)(f:(v:Int)∉a.map (·.1))(b:∀x∈a.map (·.1),(0:Int)<=x):sH n c (gl.set v (k:Int)) (a++[((v:Int),k)]):=by
 have hl:=h.len;refine⟨by grind,λx g=>?_,λp d=>?_⟩;·rw[fu af,aq af];exact h.aM x g
 rw[fu af];rcases ahp.1 d with h2|h2;·have h3:=akp (f:=(·.1)) h2;have l:=b _ h3;rw[aq λe=>f (by grind)];exact h.bH p h2
 grind
def pd(g:G.bu)(k:Nat):List (Int×Nat):=(ake k).flatMap λi=>(gX (aH g i)).map λv=>(v,i)
theorem Fk(g:G.bu):∀k,k<=g.al.length->(pd g k).map (·.1)=(g.al.take k).flatMap gX|0,_=>rfl|k+1,h=>by rw[pd,alb,akD,akK,akE,<-pd,Fk g k af,(akd (show k<g.al.length by omega)).symm,akD,akK,alx,aH,bF af];congr 1;exact List.map_id _
theorem afM(T:Tb ac)(hg:iG H g cs)(hB:G.Sm g)(O:sD g)(V:g.bp<=6000){K:KT}(h:∀H' q gl,sH g.bp.toNat g.params.toNat gl (pd g g.al.length)->aj H H' [tS 3 1 (gl.map aI) g.bp.toNat true (.slice q 0 g.bp.toNat g.bp.toNat true)]->K (.slice q 0 g.bp.toNat g.bp.toNat true) H'):YN ac Wn [.agg cs] H K:=by
 have E:=hg.one;obtain⟨P,rfl,cA⟩:=hg;have⟨av,_,_,aw⟩:=cA.all;have ax:=hB.nb;have h0:=O.p0;have h1:=O.p1;obtain⟨n,Q⟩:∃n:Nat,g.bp=n:=⟨g.bp.toNat,af⟩;obtain⟨j,u⟩:∃n:Nat,g.params=n:=⟨g.params.toNat,af⟩;have o:=O.rg;have w:=O.nd;rw[Q,u]at h h1 o E;rw[Q]at V;simp only[aj3]at h;refine YF.code T.aa7 aB ?_;rw[Q,u];refine ah ?_;refine RO.dL (aj.dc H) λH1 q U=>?_;refine ah ?_;refine RO.oT U (n:=n) (λH2 s U=>?_) (hz:=by rw[iZ];simp);have U:aj H H2 [tS 3 1 ((ahr n (0:Int)).map aI) n true (.slice s 0 n n true),tB fI q [.str g.name,aI j,aI n,P]]:=by rw[iZ]at U;rw[alz];exact U
 refine ah ?_;refine Ru.nm λS0 M hS hM=>?_;refine Ru.cC hM (up (P:=λk=>∀c gl,sH n k gl []->aj H c [tS 3 1 (gl.map aI) n true (.slice s 0 n n true),tB fI q [.str g.name,aI j,aI n,P]]->Ru ac _ S0 ([(p4,aN k)]++pk M [p1,p3]) c) j (λk hk r c gl a U=>?_) 0 af _ _ ⟨aB,λv hv=>by omega,λp R=>by cases R⟩ U);subst hS;subst hM;have d:=a.len;refine Ru.loop ?_;refine ah ?_;refine Ru.cond (λb=>?_) (λb=>?_)
 .refine ah ?_;refine RO.lC (f:=aI) U 0 (-1) d (λH4 U=>?_) (k:=k);refine ah ?_;exact Ru.wk (r (k+1) af af H4 _ ⟨by simpa using d,λv hv=>by
   rw[fu af];by_cases e:v=k;·rw[aK e]
   rw[aq e];exact a.aM v af,λp R=>by cases R⟩ U)
 refine Ru.exitTo ?_;obtain rfl:j=k:=af;refine ah ?_;refine Ru.nm λS1 M1 W y=>?_;refine Ru.cC y (up (P:=λk=>∀c gl,sH n j gl (pd g k)->aj H c [tS 3 1 (gl.map aI) n true (.slice s 0 n n true),tB fI q [.str g.name,aI j,aI n,P]]->Ru ac _ S1 ([(p5,aN k)]++pk M1 [p1,p3]) c) g.al.length (λk hk r c gl a U=>?_) 0 af _ _ a U);subst W;subst y;have d:=a.len;refine Ru.loop ?_;refine ah ?_;refine Ru.cond (λb=>?_) (λb=>?_)
 .have X:=agB b;have ay:=hB.bl _ X;have F:=Fk g k af;have I:aH g k=g.al[k]:=by rw[aH,bF b]
  have eZ:(pd g k).map (·.1)++(gX g.al[k]++(g.al.drop (k+1)).flatMap gX)=g.al.flatMap gX:=by rw[F];conv=>rhs;rw[<-ala k g.al,akD,aj9 b,alp]
  have r:=r (k+1) af af;rw[pd,alb,akD,akK,<-pd,I]at r;refine ah ?_;refine RO.cZ U.gr cA (λq1 o1 c1 a1 A a2 hat hrd=>?_) (j:=k);have J:=A;generalize g.al[k]=B at*;have ar:=A.one;refine ah ?_;refine RO.cl (afK T (dQ.block U.gr J) ⟨af,af⟩ λH5 S hl=>?_);have U:=U.fC hl;have⟨a6,_,_,a8⟩:=(U.sl (e:=3) (size:=1) (sv:=S) (vs:=(gX B).map aI) (n:=(gX B).length) (full:=true) 0).all;have a':(gX B).length<=100:=by have:=JR B.aD;rw[gX,aj8];omega
  generalize gX B=l at*;refine ah ?_;refine Ru.nm λS2 M2 Y C=>?_;refine Ru.cC C (up (P:=λm=>∀c gl,sH n j gl (pd g k++(l.take m).map λv=>(v,k))->aj H c [tS 3 1 (l.map aI) l.length true S,tS 3 1 (gl.map aI) n true (.slice s 0 n n true),tB fI q [.str g.name,aI j,aI n,P]]->Ru ac _ S2 ([(p7,aN m)]++pk M2 [p1,p3,p5,p6]) c) l.length (λm hm i c gl a U=>?_) 0 af _ gl (by rw[alm,ali,akT];exact a) U);subst Y;subst C;have d:=a.len;have Z:=U.sl (e:=3) (size:=1) (sv:=S) (vs:=l.map aI) (n:=l.length) (full:=true) 0;refine Ru.loop ?_;refine ah ?_;refine Ru.cond (λf=>?_) (λf=>?_)
  .have i:=i (m+1) af af;rw[(akd f).symm,akE,List.map_singleton,<-aj2]at i;have D:((l.take m).map λv=>(v,k)).map (λp:Int×Nat=>p.1)=l.take m:=by rw[alx];exact List.map_id _
   have L:l[m]∉(pd g k++(l.take m).map λv=>(v,k)).map (·.1):=by
    have h9:=eZ;rw[show l=l.take m++l[m]::l.drop (m+1)from by rw[<-aj9 f,ala]]at h9;rw[<-h9]at w;have h8:(((pd g k).map (·.1)++l.take m)++(l[m]::(l.drop (m+1)++(g.al.drop (k+1)).flatMap gX))).Nodup:=by simpa only[aj2,akV]using w
    rw[akI]at h8;intro t;rw[akE,D]at t;refine h8.2.2 l[m] ?_ l[m] (aeU ..) rfl;rcases ahp.1 t with h|h;·exact akf _ h
    exact akq _ h
   have ag:l[m]∈g.al.flatMap gX:=by rw[<-eZ];exact akq _ (akf _ (agB _))
   have hr:=o _ ag;have N:∀x∈(pd g k++(l.take m).map λv=>(v,k)).map (·.1),(0:Int)<=x:=λx t=>by
    have:x∈g.al.flatMap gX:=by
     rw[<-eZ];rw[akE,D]at t;rcases ahp.1 t with h|h;·exact akf _ h
     refine akq _ (akf _ ?_);exact List.mem_of_mem_take h
    have:=o x this;omega
   refine ah ?_;refine RO.lg (bm.refl _) Z (λq9 o9 ba bb=>?_) (j:=m);generalize l[m]=z at*;obtain⟨v,rfl⟩:∃v:Nat,z=v:=⟨z.toNat,af⟩;refine ah ?_;refine RO.lC (f:=aI) U 1 (k:Int) d (λH9 U=>?_) (k:=v) (ho:=by omega);refine ah ?_;exact Ru.wk (i _ _ (a.add af af L N) U)
  refine Ru.exitTo ?_;rw[akl af]at a;refine ah ?_;exact Ru.wk (r _ gl a U.tail)
 refine Ru.exitTo ?_;obtain rfl:k=g.al.length:=af;refine ah ?_;exact Ru.aV (h _ s gl a (U.sub (.cons_cons _ (.cons _ .slnil))))
end
end
section
structure CZ(dm:List (List Bool))(vsl:List AV)(F:List Th):Prop where
 len:vsl.length=dm.length
 mem:∀b,b<dm.length->tR 1 ((dm.getD b []).map .bool) (dm.getD b []).length (vsl.getD b .co)∈F
theorem CZ.wY{c:List (List Bool)}{a:List AV}{F:List Th}(h:CZ c a F){l:List Bool}{v:AV}:CZ (c++[l]) (a++[v]) (tR 1 (l.map .bool) l.length v::F):=by
 have hl:=h.len;refine⟨by simp[hl],λb hb=>?_⟩;simp only[aj8,akC]at hb;by_cases e:b=c.length
 .subst e;have e1:(c++[l]).getD c.length []=l:=aB;have e2:(a++[v]).getD c.length .co=v:=by rw[<-hl];simp
  rw[e1,e2];exact aeU ..
 have e1:(c++[l]).getD b []=c.getD b []:=by simp[akw (show b<c.length by omega)]
 have e2:(a++[v]).getD b .co=a.getD b .co:=by simp[akw (show b<a.length by omega)]
 rw[e1,e2];exact aey _ (h.mem b af)
def vF(c d:List Bool)(a b:Nat):Bool:=c.getD a false&&c.getD b false&&(decide (a=b)||!d.getD b false)
structure Qh(g:G.bu)(come:List Bool)(a:Nat)(row:List Bool):Prop where
 len:row.length=g.al.length
 ex:∃ca oa ot,lw g (a:Int) ca oa/\(∀b,oF g (a:Int) ca oa ot b)/\∀b,b<g.al.length->row.getD b false=vF come ca a b
structure JS(g:G.bu)(dm:List (List Bool)):Prop where
 len:dm.length=g.al.length
 ex:∃come aC oth,lw g (-1) come aC/\(∀b,oF g (-1) come aC oth b)/\∀a,a<g.al.length->Qh g come a (dm.getD a [])
section
variable{g:G.bu}{H:ai}{cs:List AV}
theorem afN(T:Tb ac)(hg:iG H g cs)(hB:G.Sm g)(hS:mL g)(u:g.al.length<=30){K:KT}(h:∀H' v f F n,JS g n->CZ n f F->aj H H' [tZ F,tS 61 1 f g.al.length true v]->K v H'):YN ac Wm [.agg cs] H K:=by
 have a2:=hg.one;have E:=hg;obtain⟨vb,rfl,cA⟩:=hg;have⟨a8,_,_,a'⟩:=cA.all;have ba:=hS.ne;refine YF.code T.aa6 aB ?_;refine au ?_;refine RO.dL (aj.dc H) λH1 q U=>?_;refine ah ?_;refine RO.eQ U 0 ?_;refine RO.cl (JQ T (dQ.nM U.gr E) hB hS u (wo:= -1) λH2 W qs bb Fo d aC A hI ag bc hl=>?_);have U:=(U.fC hl).sub (.cons _ (.cons _ (.cons_cons _ (akL _))));have I:=hI.lc;refine RO.qS U 1 λH3 J U=>?_;have⟨bd,_,_,_⟩:=(U.sl (e:=61) (size:=1) (sv:=J) (vs:=[]) (n:=0) (full:=true) 0).all;refine RO.fx U λH4 q3 U=>?_;refine ah ?_;have U:=U.rl;refine Ru.nm λS0 M ar hM=>?_;refine Ru.cC hM (up (P:=λa=>∀z f F n v,n.length=a->CZ n f F->(∀x,x<a->Qh g d x (n.getD x []))->aj H z [tZ F,tB Ap q3 [.slice W 0 g.al.length g.al.length true,.slice qs 0 g.al.length g.al.length true,.bool A],tS 61 1 f a true v,tS 4 1 (d.map .bool) g.al.length true (.slice W 0 g.al.length g.al.length true),tB fI q [.str g.name,aI g.params,aI g.bp,vb]]->Ru ac _ S0 ([(p5,aN a),(p4,v)]++pk M [p1,p3]) z) g.al.length (λa ha ih z f F n v B L y U=>?_) 0 af _ [] [] [] J rfl ⟨rfl,λb hb=>absurd hb aB⟩ (λx hx=>by omega) U);subst ar;subst hM;have⟨bv,b0,b3,_⟩:=(U.sl (e:=61) (size:=1) (sv:=v) (vs:=f) (n:=a) (full:=true) 2).all;refine Ru.loop ?_;refine ah ?_;refine Ru.cond (λN=>?_) (λN=>?_)
 .have ih:=ih (a+1) af af;refine ah ?_;refine RO.eQ U 4 ?_;refine ah ?_;refine RO.cl (JQ T (dQ.nM U.gr E) hB hS u (wo:=(a:Int)) λH5 qa qo b4 Fa s oa ot O S a6 hl=>?_);have U:=(U.fC hl).sub (.cons _ (.cons _ (.cons_cons _ (akL _))));have av:=O.lc;refine RO.qS U 1 λH6 P U=>?_;have⟨b5,_,_,_⟩:=(U.sl (e:=4) (size:=1) (sv:=P) (vs:=[]) (n:=0) (full:=true) 0).all;refine RO.fx U λH7 q6 U=>?_;refine ah ?_;refine Ru.nm λS1 M1 aw Q=>?_;refine Ru.cC Q (up (P:=λb=>∀z(c:List Bool)w,c.length=b->(∀x,x<b->c.getD x false=vF d s a x)->aj H z [tB Ap q6 [.slice qa 0 g.al.length g.al.length true,.slice qo 0 g.al.length g.al.length true,.bool ot],tS 4 1 (c.map .bool) b true w,tS 4 1 (s.map .bool) g.al.length true (.slice qa 0 g.al.length g.al.length true),tZ F,tB Ap q3 [.slice W 0 g.al.length g.al.length true,.slice qs 0 g.al.length g.al.length true,.bool A],tS 61 1 f a true v,tS 4 1 (d.map .bool) g.al.length true (.slice W 0 g.al.length g.al.length true),tB fI q [.str g.name,aI g.params,aI g.bp,vb]]->Ru ac _ S1 ([(p8,aN b),(p7,w)]++pk M1 [p1,p3,p4,p5,p6]) z) g.al.length (λb hb o z c w i R U=>?_) 0 af _ [] P rfl (λx hx=>by omega) U);subst aw;subst Q;have V:=U.sl (e:=4) (size:=1) (sv:=w) (vs:=c.map .bool) (n:=b) (full:=true) 1;have⟨ax,b6,ay,_⟩:=V.all;refine Ru.loop ?_;refine ah ?_;refine RO.gU U 7 ?_;refine ah ?_;refine Ru.cond (λp=>?_) (λp=>?_)
  .have o:=o (b+1) af af;have C:∀(l:List Bool)(k:Nat),l.length=g.al.length->k<g.al.length->(l.map AV.bool)[0+k*1]?=some (.bool (l.getD k false)):=λl k h1 h2=>by rw[show 0+k*1=k by omega,aks,getElem?_pos l k af,bF af];rfl
   have m:∀t,t=vF d s a b->∀x,x<b+1->(c++[t]).getD x false=vF d s a x:=λt ht x hx=>by
    by_cases e:x=b;·subst e;rw[<-ht,<-i];simp
    rw[<-R x af];simp[akw (show x<c.length by omega)]
   refine ah ?_;refine RO.fD U 6 (hv:=C d a I N) ?_;refine RO.bg ?_;refine RO.tq (λD=>?_) (λD=>?_)
   .refine ah ?_;refine RO.fD U 6 (hv:=C d b I p) ?_;refine ah ?_;refine RO.tq (λX=>?_) (λX=>?_)
    .refine ah ?_;refine RO.de (λg3=>?_) (λg3=>?_);·refine ah ?_;refine RO.push U 1 (λY Z j U=>?_) (ws:=[.bool true]);have⟨r,_,_,_⟩:=(U.sl (e:=4) (size:=1) (n:=b+1) (full:=true) (sv:=j) 1).all;refine ah ?_;exact Ru.wk (o _ (c++[true]) j (by simp[i]) (m _ (by rw[vF,D,X,decide_eq_true g3];rfl)) (by rw[akE];exact U))
     refine ah ?_;refine RO.fD U 2 (hv:=C s b av p) ?_;refine ah ?_;refine RO.push U 1 (λY Z j U=>?_) (ws:=[.bool (!s.getD b false)]);have⟨r,_,_,_⟩:=(U.sl (e:=4) (size:=1) (n:=b+1) (full:=true) (sv:=j) 1).all;refine ah ?_;exact Ru.wk (o _ (c++[(!s.getD b false)]) j (by simp[i]) (m _ (by rw[vF,D,X,decide_eq_false g3];rfl)) (by rw[akE];exact U))
    refine ah ?_;refine RO.push U 1 (λY Z j U=>?_) (ws:=[.bool false]);have⟨r,_,_,_⟩:=(U.sl (e:=4) (size:=1) (n:=b+1) (full:=true) (sv:=j) 1).all;refine ah ?_;exact Ru.wk (o _ (c++[false]) j (by simp[i]) (m _ (by rw[vF,D,X];rfl)) (by rw[akE];exact U))
   refine ah ?_;refine RO.push U 1 (λY Z j U=>?_) (ws:=[.bool false]);have⟨r,_,_,_⟩:=(U.sl (e:=4) (size:=1) (n:=b+1) (full:=true) (sv:=j) 1).all;refine ah ?_;exact Ru.wk (o _ (c++[false]) j (by simp[i]) (m _ (by rw[vF,D];rfl)) (by rw[akE];exact U))
  refine Ru.exitTo ?_;obtain rfl:b=g.al.length:=af;refine ah ?_;have a1:=(((U.sub (.cons _ (.cons_cons _ (.cons _ (akL _))))).as (t':=tR 1 (c.map .bool) c.length w) 0 rfl λfp hp=>by have h9:=tS.mg hp;rw[<-i]at h9;exact h9)).lq;refine RO.push a1 2 (λY Z j U=>?_) (ws:=[w]) (hl:=kG rfl ax ay rfl rfl rfl);have⟨r,_,_,_⟩:=(U.sl (e:=61) (size:=1) (n:=a+1) (full:=true) (sv:=j) 2).all;refine ah ?_;exact Ru.wk (ih _ (f++[w]) _ (n++[c]) j (by simp[B]) L.wY (λx hx=>by
   by_cases e:x=a
   .subst e;have e1:(n++[c]).getD x []=c:=by rw[<-B];simp
    rw[e1];exact⟨i,s,oa,ot,O,S,R⟩
   have e1:(n++[c]).getD x []=n.getD x []:=by simp[akw (show x<n.length by omega)]
   rw[e1];exact y x af) U)
 refine Ru.exitTo ?_;obtain rfl:a=g.al.length:=af;refine ah ?_;exact Ru.aV (h _ v f F n ⟨B,d,aC,A,hI,ag,y⟩ L (U.sub (.cons_cons _ (.cons _ (.cons_cons _ (.cons _ (.cons _ .slnil)))))))
end
end
section
section
variable{g:G.bu}{h m av i:AV}{d:ab}{A H:ai}{f:List AV}{come:List Bool}{os:List (List bV)}{ak:List Nat}{lv:List (List Int)}
def kV(g:G.bu)(lv:List (List Int))(o:List bV):List Int:=match oD g o with
 |some t=>lv.getD t.toNat []
 |none=>[]
theorem afQ(T:Tb ac)(V:Vd g){B:ai}(c:bm B H)(o:FX g B d h m av i f come os ak lv)(I:cX g come os)(R:gP g come os lv){b:Nat}(hb:come.getD b false=true){K:KT}(dm:∀H' v,fZ B (kV g lv (os.getD b [])) v->bm H H'->K v H'):YN ac WJ [.az d 0,aN b] H K:=by
 have hB:=V.sm;have bb:=hB.nb;have bc:=I.lt hb;have⟨hO,bd⟩:=V.dO.jY (I.dO b hb);have hs:=o.op b hb;have⟨S,W,X,bv⟩:=hs.all;have s:=o.ro.lt;have Y:=o.ro.aH;have Z:=o.ro.jY;have ag:=o.c6;have⟨b0,_,_,_⟩:=o.ro.sl.all;have⟨b3,_,_,_⟩:=o.bl.all;have⟨b4,_,_,_⟩:=o.sl.all;have E:∀t,oD g (os.getD b [])=some t->0<=t/\t.toNat<lv.length:=λt O=>by obtain⟨_,_,_,_,hc,h0⟩:=vD V.dO I hb O;exact⟨h0,by rw[R.len];exact I.lt hc⟩
 refine YF.code T.abu aB ?_;refine au ?_;refine RO.dL (aj.dc H) λH1 J U=>?_;refine RO.gI U λH2 L U=>?_;refine ah ?_;refine RO.aW ?_ (v:=av) (hc:=by rw[(c.trans U.gr).bh s];exact Z);refine ah ?_;refine RO.vu (c.trans U.gr) o.ro.sl (λq8 o8 b5 _=>?_) (j:=b);refine ah ?_;refine RO.cl (Fc T.abO bA S W X λH4 q hl=>?_);have U:=U.fC hl;refine ah ?_;generalize os.getD b []=n at*;refine Ru.wk (L:=[(bi,.func Xg [] [.az q 0]),(p2,.az J 0),(p4,.az L 0)]) ?_;have U:aj H H4 ([tB Ik q [f.getD b .co]]++[tB eH L [.aS],tB iH J [.az d 0]]++[]):=U;refine Ru.pG (J:=λk ts=>ts=[tB eH L [.aS],tB iH J [.az d 0]]/\∀j(hj:n.length - 1 - j<n.length),j<k->n[n.length - 1 - j].2≠0) (Dn:=λj ts=>j=.ret/\∃t v,oD g n=some t/\fZ B (lv.getD t.toNat []) v/\ts=[tB eH L [v],tB iH J [.az d 0]]) U (Fb (R:=Qa) (agg:=true) (size:=2) (la:=n) (sv:=f.getD b .co) (e:=Ik) (nt:=19) T.ab7 bA af (λdm=>by cases dm) (λa cs dm=>by cases dm;rfl)) (λH2 hg=>pJ.r (((c.trans U.gr).trans hg).sl hs)) ⟨rfl,λj _ hj=>absurd hj af⟩ (λk args ws dm=>by obtain⟨_,_,_,_,rfl⟩:=dm;rfl) (λk ts us H' M U=>pJ.r ((c.trans U.gr).sl hs)) (λk args ws ts us l o1 o2 H' hk ar M U=>?_) (λH' aw P M U=>?_) (λj H' aw P hj hD U=>?_)
 .obtain⟨rfl,y,cs,ax,rfl⟩:=ar;obtain⟨rfl,eZ⟩:=M;have ay:=agB y;generalize u:n[n.length - 1 - k]=oo at*;obtain⟨ob,z⟩:=oo;subst ax;refine ah ?_;refine RO.fx U λH5 q7 U=>?_;refine ah ?_;refine Ru.dN (xs:=[_,_,_]) U λH6 U=>?_;refine ah ?_;refine Ru.kN (λh0=>?_) (λh0=>?_)
  .have a1:z=0:=by simpa using h0
   obtain⟨g1,g2,Q⟩:=hO.ok _ ay;simp only at g1 g2 Q;obtain⟨t,rfl⟩:∃t:Nat,ob=(t:Int):=⟨ob.toNat,af⟩;rw[aj3]at Q;have A:t<g.al.length:=af;have g4:g.al[t].aA.go.length=3:=by rw[<-Q,bF A]
   have p:=PQ (g:=g) y hk eZ (by rw[u];exact a1);rw[u]at p;simp only[aH,aj3,bF A]at p;rw[bF af]at p;obtain⟨i0,i1⟩:=E _ p;refine ah ?_;refine RO.aW ?_ (v:=i) (hc:=by rw[(c.trans U.gr).bh s];exact ag);refine ah ?_;refine RO.aW ?_ (v:=h) (hc:=by rw[(c.trans U.gr).bh s];exact Y);refine ah ?_;refine RO.cZ (c.trans U.gr) o.bl (λq9 o9 c' b6 a2 b' hat _=>?_) (j:=t);obtain⟨vp,vs,jc,rfl,_,_,va,vk,vg,rfl,_,_,C⟩:=a2;have⟨ca,_,_,_⟩:=C.all;refine ah ?_;refine RO.aW (v:=vg) ?_ (hc:=hat 6 _ rfl);refine RO.cZ (c.trans U.gr) C (λcd cf cn a6 F a8 w _=>?_) (j:=1) (hj:=by omega);obtain⟨ve,rfl,_⟩:=F;generalize g.al[t].aA.go[1].block=tt at*;obtain⟨N,rfl⟩:∃N:Nat,tt=(N:Int):=⟨tt.toNat,af⟩;rw[aj3]at i1;refine ah ?_;refine RO.aW (v:=aN N) ?_ (hc:=w 0 _ rfl);refine RO.cZ (c.trans U.gr) o.sl (λcp cv cx a' G ba x _=>?_) (j:=N);obtain⟨vl,rfl,D⟩:=G;have⟨cy,cE,c8,_⟩:=D.all;refine ah ?_;refine RO.aW (v:=vl) ?_ (hc:=x 0 _ rfl);refine RO.gG U 1 (λH7 U=>?_);refine ah ?_;have U:=U.tail (t:=tB NE q7 [aN t,.bool (z==0)]);refine Ru.OL (ts:=[_,_]) U ⟨rfl,_,vl,p,?_,rfl⟩;rw[aj3,bF i1];exact D
  refine ah ?_;refine Ru.bG (ts:=[_,_]) U.tail ⟨rfl,λj hj c9=>?_⟩;by_cases e:j=k;·subst e;rw[u];simpa using h0
  exact eZ j hj af
 .obtain⟨rfl,eZ⟩:=M;refine ah ?_;refine RO.gG U 0 (λH5 U=>?_);refine ah ?_;refine Ru.mI (M:=[P]) (ts:=[_,_]) (U.cM (akj (l₁:=[_,_]))) λH' U=>⟨[.aS],⟨⟨_,_,rfl,U.one 0⟩,trivial⟩,dm H' .aS ?_ U.gr⟩;rw[kV,PP eZ];exact .inl ⟨rfl,rfl,rfl⟩
 obtain⟨rfl,t,v,O,hv,rfl⟩:=hD;refine RJ.wp (RJ.mI (M:=[P]) (ts:=[_,_]) (.inr rfl) (U.cM (akj (l₁:=[_,_]))) λH' U=>⟨[v],⟨⟨_,_,rfl,U.one 0⟩,trivial⟩,dm H' v ?_ U.gr⟩);rw[kV,O];exact hv
end
section
variable{H:ai}{q:ab}{ks:List Int}
theorem afR(T:Tb ac)(hs:ib (H.get q) ks){es:List aT}{cc:Nat}(he:H.get q=.map es cc){K:KT}(c:∀H' b,aj H H' [tM true b λx=>x∈ks]->K (.map b) H'):YN ac WY [.map q] H K:=by
 refine YF.code T.abP aB ?_;refine au ?_;refine RO.eq (t:=false) ?_ (ht:=rfl);refine au ?_;have hg:xQ [.iface eT (.map q)] H=some (.iface eT (.map H.next),H.new (.map es cc)):=by simp only[xQ,he]
 refine RO.cl (YF.ix T.adi hg ?_);refine RO.typeAssert (u:=eT) (v:=.map H.next) rfl rfl ?_;refine au ?_;have a:ib (.map es cc) ks:=by rw[<-he];exact hs
 exact Ru.aV (c _ _ ((aj.dc H).PJ (S:=λx=>x∈ks) (ex:=true) a (λ_=>Iff.rfl) λ_=>⟨es,cc,rfl⟩))
theorem JU(T:Tb ac)(hs:ib (H.get q) ks)(he:∃es c,H.get q=.map es c){w:Int}{l:List Int}{lv:AV}(hl:fZ H l lv)(t:l.length<=1000000){K:KT}(n:∀H' b S,(∀x,S x↔x∈l\/x∈ks/\x≠w)->aj H H' [tM true b S]->K (.map b) H'):YN ac NV [.map q,aI w,lv] H K:=by
 have⟨u,_,_,v⟩:=hl.all;obtain⟨es,cc,he⟩:=he;refine YF.code T.abv aB ?_;refine au ?_;refine RO.cl (afR T hs he λH1 b U=>?_);refine au ?_;refine RO.eq (t:=false) ?_ (ht:=rfl);refine au ?_;refine RO.afa U 0 (z:=w) (λz U=>?_);refine au ?_;refine Ru.nm λo M p j=>?_;refine Ru.cC j (up (P:=λk=>∀g S,(∀x,S x↔x∈l.take k\/x∈ks/\x≠w)->aj H g [tM true b S]->Ru ac _ o ([(bJ,aN k)]++pk M [p7,aZ,br]) g) l.length (λk A r g S a U=>?_) 0 af _ _ (λx=>by simp) U);subst p;subst j;refine Ru.loop ?_;refine au ?_;refine Ru.cond (λe=>?_) (λe=>?_)
 .refine au ?_;refine RO.kz U.gr hl (λB o1 hj y=>?_) (j:=k);refine au ?_;refine RO.PK U 0 (z:=l[k]) (λs U=>?_);refine au ?_;exact Ru.wk (r (k+1) af af s _ (λx=>by
   rw[a,<-akd e,ahp,aep];constructor
   .rintro(C|C|C);·exact .inl (.inr C)
    .exact .inl (.inl C)
    exact .inr C
   rintro((C|C)|C);·exact .inr (.inl C)
   .exact .inl C
   exact .inr (.inr C)) U)
 refine Ru.exitTo ?_;rw[akl af]at a;refine au ?_;exact Ru.aV (n g b S a U)
end
end
section
section
variable{A H:ai}{ts:List Th}{q:ab}{S:Int->Prop}
theorem A4(T:Tb ac)(U:aj A H ts)(i:Nat)(hi:ts[i]?=some (tM true q S)){w:Int}{l:List Int}{e:AV}(hl:fZ H l e)(c:l.length<=1000000){K:KT}(f:∀H' a b,(∀x,b x↔x∈l\/S x/\x≠w)->aj A H' (tM true a b::ts)->K (.map a) H'):YN ac NV [.map q,aI w,e] H K:=by obtain⟨⟨ks,hs,g⟩,he,_⟩:=U.nf i hi;refine JU T hs (he rfl) hl c λH' a b h1 d=>f H' a b (λx=>?_) (U.fC d);rw[h1,g]
theorem JV:∀(l:List Int)(x:Int),x∈gj l↔x∈l
 |[],x=>by simp[gj]
 |y::l,x=>by
  have h:∀(z:Int)(l:List Int),x∈nJ z l↔x=z\/x∈l:=by
   intro z l;induction l with
   |nil=>simp[nJ]
   |cons a l b=>
    simp only[nJ];split
    .simp only[aeV,b];constructor
     .rintro(h|h|h);·exact .inr (.inl h)
      .exact .inl h
      exact .inr (.inr h)
     rintro(h|h|h);·exact .inr (.inl h)
     .exact .inl h
     exact .inr (.inr h)
    simp
  simp only[gj,h,JV l,aeV]
theorem Ql:∀l:List Int,(gj l).length=l.length
 |[]=>rfl
 |y::l=>by
  have h:∀(z:Int)(l:List Int),(nJ z l).length=l.length+1:=by intro z l;induction l with|nil=>rfl|cons a l b=>simp only[nJ];split<;>simp[b]
  simp only[gj,h,Ql l,akA]
theorem Qm:∀l:List Int,l.Nodup->(gj l).Pairwise (·<·)
 |[],_=>alQ
 |y::l,k=>by
  obtain⟨h1,h2⟩:=akz.1 k;have g:=Qm l h2;have e:y∉gj l:=by rw[JV];exact h1
  simp only[gj];generalize gj l=m at*;clear k h1 h2;induction m with
  |nil=>simp[nJ]
  |cons a m f=>
   obtain⟨i,n⟩:=alq.1 g;simp only[aeV,not_or]at e;simp only[nJ];split
   .rename_i d;rw[nG,decide_eq_true_eq]at d;refine alq.2 ⟨λb hb=>?_,f n e.2⟩;have:b=y\/b∈m:=by
     clear f g i n e d;induction m with
     |nil=>simpa[nJ]using hb
     |cons c m j=>
      simp only[nJ]at hb;split at hb
      .rcases aeV.1 hb with h|h;·exact .inr (h▸aeU ..)
       exact(j h).imp id (aey _)
      exact aeV.1 hb
    rcases this with rfl|h;·exact d
    exact i b h
   rename_i d;rw[nG,Bool.not_eq_true,decide_eq_false_iff_not]at d;refine alq.2 ⟨λb hb=>?_,g⟩;rcases aeV.1 hb with rfl|h;·have:=e.1;omega
   have:=i b h;have:=e.1;omega
theorem afS(T:Tb ac)(U:aj A H ts)(i:Nat){ex:Bool}(hi:ts[i]?=some (tM ex q S))(m:∀ks:List Int,ks.Nodup->(∀x,x∈ks↔S x)->ks.length<=1000){K:KT}(g:∀(H':ai)(v:AV)(l:List Int),(∀x,x∈l↔S x)->l.Pairwise (·<·)->aj A H' (tR 1 (l.map aI) l.length v::ts)->K v H'):YN ac N6 [.map q] H K:=by
 obtain⟨⟨ks,hs,d⟩,_,_⟩:=U.nf i hi;obtain⟨_,h⟩:=yV hs;have b:=hs.1;have f:=m ks b d;have c:∀x,x∈gj ks↔S x:=λx=>by rw[JV,d]
 cases ks with
 |nil=>
  refine YF.ix (v:=.aS) (H':=H) T.IV (by simp[xP,h]) (g H .aS [] (λx=>?_) alQ ?_);·rw[<-d]
  exact(U.py 3 1).as 0 rfl λo e=>tS.mg e
 |cons k ks=>have hb:ak2 (k::ks).length 1000=true:=akB f;have a:=Ql (k::ks);refine YF.ix (v:=.slice H.next 0 (k::ks).length (k::ks).length false) (H':=H.new (.cells (db ((gj (k::ks)).map λn=>.int 3 n)) (k::ks).length 3 true [] 0)) T.IV (by simp only[xP,ak0,akT,h,hb,bq]) (g _ _ (gj (k::ks)) c (Qm _ b) ?_);have j:=dU.new (H:=H) (e:=3) (size:=1) (n:=(k::ks).length) (vs:=(gj (k::ks)).map aI) (by rw[akg,a];simp) false true;rw[alt]at j;have:=(U.push (bm.new H _) (t:=tS 3 1 ((gj (k::ks)).map aI) (k::ks).length true (.slice H.next 0 (k::ks).length (k::ks).length false)) j (uU H)).as 0 rfl λo e=>tS.mg e;rw[a];exact this
end
def afT:bt:=(.seq (.region [O p4 (.bg (T p0)),O p5 (.j7 (T p4)),O p6 (.arith .sub 3 (T p5) (I 3 1)),O p2 (.bg (I 3 0)),O p3 (.bg (T p6))]) (.block 0 (.loop (.seq (.seq (.region [O p7 (.bg (T p2)),O p8 (.bg (T p3)),O p9 (.arith .lss 3 (T p7) (T p8))]) (.cond (T p9) .skip (.exit 0))) (.seq (.block 1 (.region [O bi (.bg (T p0)),O bk (.bg (T p2)),O bo (.bg (T p0)),O aZ (.bg (T p3)),O br (.bg (T p0)),O bJ (.bg (T p3)),O bN (.dG 1 (T br) (T bJ)),O bR (.aW (T bN)),O bO (.bg (T p0)),O bL (.bg (T p2)),O bK (.dG 1 (T bO) (T bL)),O bT (.aW (T bK)),O ch (.dG 1 (T bi) (T bk)),N (.store 1 (T ch) (T bR)),O bY (.dG 1 (T bo) (T aZ)),N (.store 1 (T bY) (T bT))])) (.region [O aO (.bg (T p2)),O aR (.arith .add 3 (T aO) (I 3 1)),O aY (.bg (T p3)),O aX (.arith .sub 3 (T aY) (I 3 1)),O p2 (.bg (T aR)),O p3 (.bg (T aX))]))))))
theorem afU{l:List AV}{i j x:Nat}{a b:AV}(hi:i<l.length)(hj:j<l.length):((l.set i a).set j b).getD x .co=if x=j then b else if x=i then a else l.getD x .co:=by rw[fu (by simpa using hj),fu hi]
theorem afV{f e:Nat}(r:ac f=.code 28 [] afT){A H:ai}{us:List Th}{l:List AV}{n cap:Nat}{q:ab}{ex:Bool}(o:l.length=n)(h0:0<n)(B:n<1000000)(hv:∀v∈l,v.ee=true/\v.cells=[v]/\v.bB=true)(U:aj A H (tS e 1 l n true (.slice q 0 n cap ex)::us)){K:KT}(s:∀H',aj A H' (tS e 1 l.reverse n true (.slice q 0 n cap ex)::us)->K (iL []) H'):YN ac f [.slice q 0 n cap ex] H K:=by
 have g:∀x,x<n->(l.getD x .co).ee=true/\(l.getD x .co).cells=[l.getD x .co]/\(l.getD x .co).bB=true:=λx d=>by rw[bF af];exact hv _ (agB _)
 refine YF.code r aB ?_;refine au ?_;refine RO.arith (v:=aN (n - 1)) ?_ (hv:=px (k:=n) af af);refine au ?_;refine Ru.nm λS M t p=>?_;refine Ru.cC p (up (P:=λk=>∀j a,a.length=n->(∀x,x<n->a.getD x .co=if x<k\/n<=x+k then l.getD (n - 1 - x) .co else l.getD x .co)->aj A j (tS e 1 a n true (.slice q 0 n cap ex)::us)->Ru ac _ S ([(p2,aN k),(p3,aN (n - 1 - k))]++pk M [p0]) j) (n - 1) (λk C u j a c d U=>?_) 0 af _ l o (λx d=>by rw[aq af]) U);subst t;subst p;refine Ru.loop ?_;refine au ?_;refine Ru.cond (λm=>?_) (λm=>?_)
 .have h:∀x,x<n->(a.getD x .co).ee=true/\(a.getD x .co).cells=[a.getD x .co]/\(a.getD x .co).bB=true:=λx b=>by
   rw[d x b];split;·exact g _ af
   exact g _ b
  have i:∀x,x<n->a[0+x*1]?=some (a.getD x .co):=λx b=>by rw[show 0+x*1=x by omega,bF af];simp
  obtain⟨D,E,a3⟩:=h k af;obtain⟨b1,b2,F⟩:=h (n - 1 - k) af;refine tn ?_;refine RO.fD U 0 (hv:=i (n - 1 - k) af) ?_;refine tn ?_;refine RO.fD U 0 (hv:=i k af) ?_;refine tn ?_;refine RO.yK U 0 c (λG U=>?_) (k:=k);refine tn ?_;refine RO.yK (vs:=a.set k (a.getD (n - 1 - k) .co)) (n:=n) U 0 (by rw[ak4];exact c) (λw U=>?_) (k:=n - 1 - k) (ho:=by rw[ak4];omega);refine tn ?_;refine RO.arith (v:=aN (n - 1 - (k+1))) ?_ (hv:=by rw[show n - 1 - (k+1)=n - 1 - k - 1 by omega];exact px (k:=n - 1 - k) af af);refine au ?_;have y:∀x,x<n->((a.set k (a.getD (n - 1 - k) .co)).set (n - 1 - k) (a.getD k .co)).getD x .co=if x<k+1\/n<=x+(k+1)then l.getD (n - 1 - x) .co else l.getD x .co:=λx b=>by
   rw[afU af af];by_cases h1:x=n - 1 - k;·rw[aK h1,aK af,d k af,aq af,h1];congr 1;omega
   rw[aq h1];by_cases h2:x=k;·rw[aK h2,aK af,d _ af,aq af,h2]
   rw[aq h2,d x b];by_cases h3:x<k\/n<=x+k;·rw[aK h3,aK af]
   rw[aq h3,aq af]
  have z:((a.set k (a.getD (n - 1 - k) .co)).set (n - 1 - k) (a.getD k .co)).length=n:=by simpa using c
  exact Ru.wk (u (k+1) af af w _ z y U)
 refine Ru.exitTo ?_;refine au ?_;have e:a=l.reverse:=by
  apply alg (by simp[c,o]);intro x h1 h2;have h3:=d x af;rw[bF h1]at h3;rw[h3,List.getElem_reverse];split;·rw[bF af];congr 1;omega
  rw[bF af];congr 1;omega
 subst e;exact Ru.aA (vs:=[]) trivial (s _ U)
end
section
def Fl(g:G.bu)(os:List (List bV))(lv:List (List Int))(b:Nat)(x:Int):Prop:=
 x∈kV g lv (os.getD b [])\/x∈(aH g b).aA.args\/(∃e∈(aH g b).aA.go,x∈e.args)\/∃w∈wW g os b,x∈lv.getD w []
def C2(sC:List Int)(after:Int->Prop)(aD:List G.ic):Nat->Int->Prop
 |0=>after
 |k+1=>λx=>x∈sC\/x∈(aD.getD (aD.length - 1 - k) default).args\/C2 sC after aD k x/\x≠(aD.getD (aD.length - 1 - k) default).to
abbrev eK(g:G.bu)(os:List (List bV))(lv:List (List Int))(b:Nat):Nat->Int->Prop:=C2 (kV g lv (os.getD b [])) (Fl g os lv b) (aH g b).aD
def A5(a:Nat->ab)(v:AV)(n:Nat)(P:Nat->Int->Prop):List Th:=tS eT 1 ((ake n).map λi=>.map (a i)) n true v::(ake n).map λi=>tM true (a i) (P i)
theorem afW{a:Nat->ab}{v:AV}{n k:Nat}{P:Nat->Int->Prop}(b:k<n):(A5 a v n P)[k+1]?=some (tM true (a k) (P k)):=by simp[b,A5,ak6,aks,List.getElem?_range,akt]
section
variable{g:G.bu}{p s av r:AV}{d:ab}{A H:ai}{h:List AV}{come:List Bool}{os:List (List bV)}{ak:List Nat}{lv:List (List Int)}
theorem Fm{B:G.gV}{i:Nat}(b:i<B.aD.length){x:Int}(a:x∈B.aD[i].args):(x,(i:Int))∈kF B:=by obtain⟨_,c,e⟩:=Px B b;rw[e];exact akq _ (akf _ (akp a))
theorem C3{B:G.gV}{x:Int}(a:x∈B.aA.args):(x,(B.aD.length:Int))∈kF B:=akq _ (akf _ (akp a))
theorem C4{B:G.gV}{e:G.Edge}(he:e∈B.aA.go){x:Int}(a:x∈e.args):(x,(B.aD.length:Int))∈kF B:=by obtain⟨i,hi,rfl⟩:=aka he;obtain⟨_,c,e2⟩:=Py B hi;rw[e2];exact akq _ (akf _ (akp a))
theorem afX(a:yT g come os){b:Nat}(hb:come.getD b false=true){x bH:Int}(e:(x,bH)∈kF (aH g b)):0<=x:=by obtain⟨t,c,_⟩:=a.rd b hb _ e;omega
theorem JW(V:Vd g)(c:cX g come os)(e:e9 g come os ak)(a:gP g come os lv){b:Nat}(hb:come.getD b false=true){x:Int}(f:x∈lv.getD b []):0<=x:=(((a.mem b hb x).1 f).CS V.dO c (V.sG come os c) V.gv e hb).1
theorem afY(V:Vd g)(c:cX g come os)(e:e9 g come os ak)(a:gP g come os lv){b:Nat}(hb:come.getD b false=true){x:Int}(j:x∈kV g lv (os.getD b [])):0<=x:=by
 unfold kV at j;split at j;·rename_i t f;obtain⟨_,_,_,_,i,_⟩:=vD V.dO c hb f;exact JW V c e a i j
 grind
theorem afZ(a:gP g come os lv)(o:List bV):(kV g lv o).length<=6000:=by
 unfold kV;split;·exact a.jx _
 simp
def w6(b e f:ab)(v0:AV)(a:Nat->ab)(c:AV)(k:Nat)(P:Nat->Int->Prop):List Th:=[tB oU b [c],tB eT e [.map (a k)],tB eH f [v0]]++A5 a c (k+1) P
def y6(d b c e f:ab)(g:List AV)(v0:AV)(a:ab)(S:Int->Prop):List Th:=[tB eT b [.map a],tM true a S,tB eH c [v0],tB dW e g,tB iH f [.az d 0]]
theorem af0(T:Tb ac)(V:Vd g)(I:FX g H d p s av r h come os ak lv)(Q:cX g come os)(hO:e9 g come os ak)(F:gP g come os lv){b:Nat}(hb:come.getD b false=true){K:KT}(h4:∀H' v c,aj H H' (A5 c v ((aH g b).aD.length+1) λi=>eK g os lv b ((aH g b).aD.length - i))->K v H'):YN ac Wq [.az d 0,aN b] H K:=by
 have hB:=V.sm;have g4:=hB.nb;have b6:=Q.lt hb;have b':=I.ro.lt;have ec:=I.ro.aH;have g5:=I.ro.jY;have ei:=I.c6;have⟨g6,_,_,_⟩:=I.ro.sl.all;have⟨g7,_,_,_⟩:=I.bl.all;have⟨ej,_,_,_⟩:=I.sl.all;have a2:=oC b6;have g8:=hB.bl _ a2;have eh:=hB.st _ a2;have ek:=hB.ed _ a2;have el:g.al[b]=aH g b:=(bF b6 _).symm;have ca:=V.sG come os Q;have C:∀{x bH:Int},(x,bH)∈kF (aH g b)->0<=x:=λh4=>afX ca hb h4;have O:∀{x:Int},x∈kV g lv (os.getD b [])->0<=x:=λh4=>afY V Q hO F hb h4;have g9:=afZ F (os.getD b []);refine YF.code T.abb aB ?_;refine au ?_;refine RO.dL (aj.dc H) λH1 R U=>?_;refine ah ?_;refine RO.aW ?_ (v:=p) (hc:=by rw[U.gr.bh b'];exact ec);refine ah ?_;refine RO.cZ U.gr I.bl (λq9 o9 hX g' a6 ha hat hrd=>?_) (j:=b);rw[el]at a6;have gg:=a6.one;obtain⟨Y,z,jc,rfl,hc,hvs,W,Z,vg,rfl,a8,_,cd⟩:=a6;have⟨er,et,ev,gi⟩:=hvs.all;have⟨ew,hf,hh,hm⟩:=a8.all;have⟨hn,_,_,hr⟩:=cd.all;refine ah ?_;refine RO.fx U λH2 L U=>?_;refine ah ?_;refine RO.cl (afQ T V U.gr I Q F hb λH3 v0 ag e0=>?_);have U:=U.cI e0;have⟨hw,hx,hy,_⟩:=ag.all;refine ah ?_;refine RO.fx (us:=[v0]) U λH4 B U=>?_;refine ah ?_;refine RO.Ff U λH5 qm U=>?_;have e3:bh H5 B 0=some v0:=by obtain⟨_,hp⟩:=U.get 1 rfl;exact tB.cell hp rfl
 have e4:B≠qm:=U.ne 1 0 rfl rfl af (λf h4=>h4.1) (λf h4=>h4.1);have e5:L≠qm:=U.ne 2 0 rfl rfl af (λf h4=>h4.1) (λf h4=>h4.1);refine RO.wO (is:=[qm]) e3 (by simpa using e4) λH6 e6 e7=>?_;have U:=U.bX e7 e6;refine ah ?_;have e8:bh H6 L 3=some W:=by obtain⟨_,hp⟩:=U.get 2 rfl;exact tB.cell hp rfl
 refine RO.wO (is:=[qm]) e8 (by simpa using e5) λH7 e' fa=>?_;have U:=U.bX fa e';refine RO.gI U λH8 u U=>?_;have cf:=U.AU (e:=eT) (q:=u) (vs:=[.cY]) 0;have ay:∀j∈ [u],j.an<H8.next.an:=λj hj=>by rw[aep]at hj;subst hj;exact cf.2
 have cn:∀(HY X:ai),bm H HY->X.next=HY.next->(∀j,j∉ [u]->X.get j=HY.get j)->bm H X:=λHY X cp h1 h2=>⟨by rw[h1];exact cp.nx,λj hj=>by rw[h2 j ?_,cp.dT j hj];simp only[aep];exact λe=>by rw[e]at hj;have:=cf.1;omega⟩;have ar:∀(HY X:ai)(q:ab),q≠u->(∀j,j∉ [u]->X.get j=HY.get j)->X.get q=HY.get q:=λHY X q hq h2=>h2 q (by simpa using hq);have cv:qm≠u:=U.ne 1 0 rfl rfl af (λf h4=>h4.1) (λf h4=>h4.1);refine RO.CH (is:=[u]) (Q:=λv ns=>∃E S',v=.map E/\(∀x,S' x↔x∈kV g lv (os.getD b []))/\ns=[tM true E S']) U ay (λX a' hs=>?_) (λrv ns HU hQ fb U=>?_);·obtain⟨⟨ks,ba,bb⟩,bc,_⟩:=U.nf 1 rfl;refine JU T (ks:=ks) (by rw[ar _ _ _ cv hs];exact ba) (by rw[ar _ _ _ cv hs];exact bc rfl) ((cn _ _ U.gr a' hs).sl ag) af λH9 E S' G hl=>⟨_,hl,E,S',rfl,λx=>?_,rfl⟩;rw[G,bb];simp
 obtain⟨qa,Sa,rfl,fd,rfl⟩:=hQ;refine⟨λaa cx=>il cx rfl rfl ew (a8.bX) (by obtain⟨_,hp⟩:=U.get 4 rfl;exact tB.cell hp rfl) rfl,?_⟩;have cy:qa≠u:=U.ne 0 1 rfl rfl af (λf h4=>h4.1) (λf h4=>h4.1);refine RO.CH (is:=[u]) (Q:=λv ns=>∃E S',v=.map E/\(∀x,S' x↔x∈kV g lv (os.getD b [])\/x∈(aH g b).aA.args)/\ns=[tM true E S']) U (λj hj=>ako (ay j hj) fb.nx) (λX a' hs=>?_) (λrv ns hz hQ gn U=>?_)
 .obtain⟨⟨ks,ba,bb⟩,bc,_⟩:=U.nf 0 rfl;refine JU T (ks:=ks) (by rw[ar _ _ _ cy hs];exact ba) (by rw[ar _ _ _ cy hs];exact bc rfl) ((cn _ _ U.gr a' hs).sl a8) af λH9 E S' G hl=>⟨_,hl,E,S',rfl,λx=>?_,rfl⟩;rw[G,bb,fd];constructor
  .rintro(h4|h4);·exact .inr h4
   exact .inl h4.1
  rintro(h4|h4);·exact .inr ⟨h4,by have:=O h4;omega⟩
  exact .inl h4
 obtain⟨qb,Sb,rfl,fe,rfl⟩:=hQ;refine⟨λaa cx=>rfl,?_⟩;refine RO.gG U 2 (λH9 U=>?_);have U:aj H H9 (y6 d u B L R [Y,z,aU (aH g b).aA.op,W,.str (aH g b).aA.name,Z,vg] v0 qb Sb):=(U.sub (.cons_cons _ (.cons _ (.cons_cons _ (.cons _ (akL _)))))).cM (akS ..);refine ah ?_;refine Ru.nm λS0 M hS hM=>?_;refine Ru.cC hM (up (P:=λk=>∀HX N S,(∀x,S x↔x∈kV g lv (os.getD b [])\/x∈(aH g b).aA.args\/∃e∈(aH g b).aA.go.take k,x∈e.args)->aj H HX (y6 d u B L R [Y,z,aU (aH g b).aA.op,W,.str (aH g b).aA.name,Z,vg] v0 N S)->Ru ac _ S0 ([(bZ,aN k)]++pk M [p1,p2,p5,p6,p7,di,cD]) HX) (aH g b).aA.go.length (λk hk ih HX N S bd U=>?_) 0 af _ qb Sb (λx=>by rw[fe];simp) U);subst hS;subst hM;refine Ru.loop ?_;refine au ?_;refine Ru.cond (λP=>?_) (λP=>?_)
 .have hA:=ek _ (agB P);refine ah ?_;refine RO.cZ U.gr cd (λhC hD hE gq d3 gx gd hrd=>?_) (j:=k);obtain⟨ve,rfl,cE⟩:=d3;have⟨fk,fl,fo,_⟩:=cE.all;refine ah ?_;refine RO.fx U λc8 q9 U=>?_;refine ah ?_;refine RO.cl (A4 T U 2 rfl (U.gr.sl cE) af λc9 E S' G U=>?_);refine RO.gG U 2 (λaw U=>?_);refine ah ?_;have U:aj H aw (y6 d u B L R [Y,z,aU (aH g b).aA.op,W,.str (aH g b).aA.name,Z,vg] v0 E S'):=(U.sub (.cons_cons _ (.cons _ (.cons_cons _ (.cons _ (akL _)))))).cM (akS ..);exact Ru.wk (ih (k+1) af af aw E S' (λx=>by
   rw[G,bd,<-akd P];constructor
   .rintro(h4|⟨h4|h4|⟨e,he,h4⟩,_⟩);·exact .inr (.inr ⟨_,akq _ (aep.2 rfl),h4⟩)
    .exact .inl h4
    .exact .inr (.inl h4)
    exact .inr (.inr ⟨e,akf _ he,h4⟩)
   rintro(h4|h4|⟨e,he,h4⟩);·exact .inr ⟨.inl h4,by have:=O h4;omega⟩
   .exact .inr ⟨.inr (.inl h4),by have:=C (C3 h4);omega⟩
   rcases ahp.1 he with he|he;·exact .inr ⟨.inr (.inr ⟨e,he,h4⟩),by have:=C (C4 (List.mem_of_mem_take he) h4);omega⟩
   rw[aep]at he;subst he;exact .inl h4) U)
 refine Ru.exitTo ?_;rw[akl af]at bd;have J:=Q.dO b hb;have fp:(g.al.getD b default).aA.op=68->os.getD b []≠ []:=λfq e=>by obtain⟨o,ho,_⟩:=ca.en b hb fq;rw[e]at ho;cases ho
 refine ah ?_;refine RO.cl (Qc T λc8 c' dr hl=>?_);have U:aj H c8 ([tB 3 dr [aN b],tB iH c' [.az d 0]]++y6 d u B L R [Y,z,aU (aH g b).aA.op,W,.str (aH g b).aA.name,Z,vg] v0 N S++[]):=by rw[akT];exact U.fC hl
 refine ah ?_;refine Ru.wk (L:=[(cJ,.func Ex [] [.az c' 0,.az dr 0]),(p2,.az R 0),(p5,.az L 0),(p6,.az B 0),(p7,.az u 0)]) ?_;refine Ru.pG (J:=λm ts=>∃N S,(∀x,S x↔x∈kV g lv (os.getD b [])\/x∈(aH g b).aA.args\/(∃e∈(aH g b).aA.go,x∈e.args)\/∃w∈(cS g b (os.getD b [])).take m,x∈lv.getD w.1.toNat [])/\ts=y6 d u B L R [Y,z,aU (aH g b).aA.op,W,.str (aH g b).aA.name,Z,vg] v0 N S) (Dn:=λ_ _=>False) U (Qd T hB I.bl (b:=b) (now:=os.getD b []) (nv:=h.getD b .co) (V.dO.aH J) (V.dO.jY J).1 (by have:=(V.dO.jY J).2;omega) fp) (λH2 hg=>⟨av,h,I.ro.cI (U.gr.trans hg),rfl,(U.gr.trans hg).sl (I.op b hb)⟩) ⟨N,S,λx=>by rw[bd];simp,rfl⟩ (λk args ws h4=>by obtain⟨_,v,rfl,_⟩:=h4;rfl) (λm ts us H' hJ U=>U.gr.sl (I.op b hb)) (λm args ws ts us l o1 o2 H' hY bv hJ U=>?_) (λH' b0 dm hJ U=>?_) (λj H' b0 dm _ h4=>h4.elim)
 .obtain⟨N,S,ax,rfl⟩:=hJ;obtain⟨ds,v,rfl,fk,fl,fo,_⟩:=bv;have U:=U.sub ((List.sublist_append_right _ _).append_right _);have dv:(cS g b (os.getD b []))[m]∈cS g b (os.getD b []):=agB ds;have fs:=(akd ds).symm;obtain⟨hF,hG⟩:=V.dO.CP J _ dv;have f0:=Q.ls hb (E9 dv);generalize(cS g b (os.getD b []))[m]=w at*;obtain⟨t,ht⟩:∃t:Nat,w.1=(t:Int):=⟨w.1.toNat,af⟩;rw[ht,aj3]at f0;have d4:t<lv.length:=by rw[F.len];omega
  have gy:=F.jx t;rw[ht];refine au ?_;refine Ru.dN (xs:=y6 d u B L R [Y,z,aU (aH g b).aA.op,W,.str (aH g b).aA.name,Z,vg] v0 N S) U λc9 U=>?_;refine ah ?_;refine RO.aW ?_ (v:=r) (hc:=by rw[U.gr.bh b'];exact ei);refine ah ?_;refine RO.cZ U.gr I.sl (λA hH hI gA d5 gH b5 _=>?_) (j:=t);obtain⟨vl,rfl,b3⟩:=d5;rw[<-bF d4 []]at b3;have⟨ej,hK,hL,_⟩:=b3.all;refine ah ?_;refine RO.aW (v:=vl) ?_ (hc:=b5 0 _ rfl);refine RO.cl (A4 T U 1 rfl (U.gr.sl b3) af λaw E S' G U=>?_);refine RO.gG U 1 (λdx U=>?_);refine ah ?_;have U:=(U.sub (.cons_cons _ (.cons_cons _ (.cons _ (akL _))))).cM (akS ..);refine Ru.bG (ts:=y6 d u B L R [Y,z,aU (aH g b).aA.op,W,.str (aH g b).aA.name,Z,vg] v0 E S') U ⟨E,S',λx=>?_,rfl⟩;rw[G,ax,fs];constructor
  .rintro(h4|⟨h4|h4|h4|⟨w2,D,h4⟩,_⟩);·exact .inr (.inr (.inr ⟨_,akq _ (aep.2 rfl),by rw[ht,aj3];exact h4⟩))
   .exact .inl h4
   .exact .inr (.inl h4)
   .exact .inr (.inr (.inl h4))
   exact .inr (.inr (.inr ⟨w2,akf _ D,h4⟩))
  rintro(h4|h4|⟨e,he,h4⟩|⟨w2,D,h4⟩);·exact .inr ⟨.inl h4,by have:=O h4;omega⟩
  .exact .inr ⟨.inr (.inl h4),by have:=C (C3 h4);omega⟩
  .exact .inr ⟨.inr (.inr (.inl ⟨e,he,h4⟩)),by have:=C (C4 he h4);omega⟩
  rcases ahp.1 D with D|D;·refine .inr ⟨.inr (.inr (.inr ⟨w2,D,h4⟩)),?_⟩;have:=JW V Q hO F (Q.ls hb (E9 (List.mem_of_mem_take D))) h4;omega
  rw[aep]at D;subst D;rw[ht,aj3]at h4;exact .inl h4
 obtain⟨N,S,ax,rfl⟩:=hJ;rw[ak7]at ax;have d6:∀k,k<=(aH g b).aD.length->∀x,eK g os lv b k x->0<=x:=by
  intro k;induction k with
  |zero=>
   rintro _ x(h4|h4|⟨e,he,h4⟩|⟨w,D,h4⟩);·exact O h4
   .exact C (C3 h4)
   .exact C (C4 he h4)
   exact JW V Q hO F (Q.ls hb D) h4
  |succ k ih=>
   rintro hk x(h4|h4|⟨h4,_⟩);·exact O h4
   .rw[bF af]at h4;exact C (Fm _ h4)
   exact ih af x h4
 have U:=U.CT (S':=eK g os lv b 0) 1 rfl λx=>by
  rw[ax];refine or_congr Iff.rfl (or_congr Iff.rfl (or_congr Iff.rfl ⟨?_,?_⟩));·rintro⟨w,D,h4⟩;exact⟨_,E9 D,h4⟩
  rintro⟨w,D,h4⟩;simp only[wW,mK,akk]at D;obtain⟨w2,f1,rfl⟩:=D;exact⟨w2,f1,h4⟩
 refine ah ?_;refine RO.lf U 1 (λc9 f2 U=>?_) (ws:=[.map N]) (n:=1);refine RO.fx U λaw A U=>?_;refine ah ?_;refine RO.gU U 5 ?_;refine RO.cl (Fc T.abw bA er et ev λdx dy hl=>?_);have U:=U.fC hl;refine ah ?_;refine Ru.wk (L:=[(fy,.func WZ [] [.az dy 0]),(p6,.az B 0),(p7,.az u 0),(aR,.az A 0)]) ?_;have U:aj H dx ([tB NG dy [z]]++w6 A u B v0 (λ_=>N) (.slice f2 0 1 1 true) 0 (eK g os lv b)++[tB dW L [Y,z,aU (aH g b).aA.op,W,.str (aH g b).aA.name,Z,vg],tB iH R [.az d 0],tX dm (.deferred false)]):=(((U.gk 5 rfl).gk 4 rfl).gk 3 rfl).gk 3 rfl;refine Ru.pG (J:=λk ts=>∃c sv,sv.bB=true/\sv.ee=true/\sv.cells=[sv]/\ts=w6 A u B v0 c sv k (eK g os lv b)) (Dn:=λ_ _=>False) U (Fb (R:=qT H) (agg:=true) (size:=6) (la:=(aH g b).aD) (sv:=z) (e:=NG) (nt:=19) T.abQ bA af (λh4=>by cases h4) (λa cs h4=>rfl)) (λH2 hg=>by obtain⟨w,h1,h2⟩:=hvs;exact⟨w,(U.gr.trans hg).sl h1,h2⟩) ⟨_,_,rfl,rfl,rfl,rfl⟩ (λk args ws h4=>by obtain⟨_,_,_,_,rfl⟩:=h4;rfl) (λk ts us H' hJ U=>by obtain⟨w,h1,h2⟩:=hvs;exact⟨w,U.gr.sl h1,h2⟩) (λk args ws ts us l o1 o2 H' hk bv hJ U=>?_) (λH' b0 b4 hJ U=>?_) (λj H' b0 dm _ h4=>h4.elim)
 .obtain⟨rfl,dz,cs,f3,rfl⟩:=bv;obtain⟨c,sv,d7,d',ea,rfl⟩:=hJ;have hN:=(eh _ (agB dz)).1;have f4:(aH g b).aD.getD ((aH g b).aD.length - 1 - k) default=(aH g b).aD[(aH g b).aD.length - 1 - k]:=bF dz _;have f5:∀{x:Int},x∈(aH g b).aD[(aH g b).aD.length - 1 - k].args->0<=x:=λh4=>C (Fm _ h4);have f6:=d6 k af;have f7:∀x,eK g os lv b (k+1) x↔x∈kV g lv (os.getD b [])\/x∈(aH g b).aD[(aH g b).aD.length - 1 - k].args\/eK g os lv b k x/\x≠(aH g b).aD[(aH g b).aD.length - 1 - k].to:=λx=>by rw[<-f4];exact Iff.rfl
  generalize(aH g b).aD[(aH g b).aD.length - 1 - k]=st at*;obtain⟨d0,rfl,a1⟩:=f3;have⟨gL,g0,g1,_⟩:=a1.all;refine ah ?_;refine RO.fx U λd1 d2 U=>?_;refine ah ?_;refine Ru.dN (xs:=tB qU d2 [aU st.op,aI st.to,d0,aI st.n,aI st.m,.str st.name]::w6 A u B v0 c sv k (eK g os lv b)) U λhP U=>?_;refine ah ?_;have hat:∀(us:List Th),(tB qU d2 [aU st.op,aI st.to,d0,aI st.n,aI st.m,.str st.name]::(w6 A u B v0 c sv k (eK g os lv b)++us))[4+(k+1)]?=some (tM true (c k) (eK g os lv b k)):=λus=>by simp only[w6,aj2];exact rr (xs:=[_,_,_,_]) (afW af)
  refine RO.EN (i:=B) (o:=0) (v:=v0) (A4 T U (4+(k+1)) (hat _) (U.gr.sl a1) af λhR q1 S1 f8 U=>⟨by obtain⟨_,hp⟩:=U.get 4 rfl;exact tB.cell hp rfl,?_⟩) (hvs:=ag.bX);refine RO.cl (A4 T U 0 rfl (U.gr.sl ag) af λhT y S2 eb U=>?_);refine RO.gG U 4 (λhU U=>?_);refine ah ?_;refine RO.push U 6 (λw0 hV v2 U=>?_) (ws:=[.map y]);have⟨f9,f',gb,_⟩:=(U.sl (e:=eT) (size:=1) (n:=k+1+1) (full:=true) (sv:=v2) 6).all;refine RO.gG U 3 (λhW U=>?_);refine ah ?_;have U:=U.CT (S':=eK g os lv b (k+1)) 0 rfl λx=>by
   rw[f7,eb,f8];constructor
   .rintro(h4|⟨h4|h4,_⟩);·exact .inl h4
    .exact .inr (.inl h4)
    exact .inr (.inr h4)
   rintro(h4|h4|h4);·exact .inl h4
   .exact .inr ⟨.inl h4,by have:=f5 h4;omega⟩
   exact .inr ⟨.inr h4,by have:=f6 x h4.1;omega⟩
  have U:=U.sub (.cons_cons _ (.cons _ (.cons _ (akL _))));have e1:w6 A u B v0 (λj=>if j=k+1 then y else c j) v2 (k+1) (eK g os lv b)=[tB oU A [v2],tB eT u [.map y],tB eH B [v0]]++((tS eT 1 ((ake (k+1)).map (λi=>AV.map (c i))++[.map y]) (k+1+1) true v2::(ake (k+1)).map λi=>tM true (c i) (eK g os lv b i))++[tM true y (eK g os lv b (k+1))]):=by
   have g2:(ake (k+1+1)).map (λi=>AV.map (if i=k+1 then y else c i))=(ake (k+1)).map (λi=>AV.map (c i))++[.map y]:=by
    rw[alb,akE];congr 1;·exact alk λi hi=>by rw[ak3]at hi;rw[aq af]
    simp
   have g3:(ake (k+1+1)).map (λi=>tM true (if i=k+1 then y else c i) (eK g os lv b i))=(ake (k+1)).map (λi=>tM true (c i) (eK g os lv b i))++[tM true y (eK g os lv b (k+1))]:=by
    rw[alb,akE];congr 1;·exact alk λi hi=>by rw[ak3]at hi;rw[aq af]
    simp
   simp only[w6,A5,g2,g3,aK,akV]
  refine Ru.bG (ts:=w6 A u B v0 (λj=>if j=k+1 then y else c j) v2 (k+1) (eK g os lv b)) ?_ ⟨_,v2,f9,f',gb,rfl⟩;rw[e1];have U:=U.cM (akj (l₁:=[tB oU A [v2],tB eT u [.map y],tB eH B [v0]]++(tS eT 1 ((ake (k+1)).map (λi=>AV.map (c i))++[.map y]) (k+1+1) true v2::(ake (k+1)).map λi=>tM true (c i) (eK g os lv b i))) (l₂:=tX l o2::us)).symm;simpa only[aj2,akV,ak0]using U
 obtain⟨c,sv,d7,d',ea,rfl⟩:=hJ;refine ah ?_;obtain⟨q,cap,ex,rfl⟩:=U.uT (e:=eT) (size:=1) (n:=(aH g b).aD.length+1) (full:=true) (sv:=sv) 3 rfl af;have U:=U.gk 3 rfl;refine RO.cl (afV T.abx (n:=(aH g b).aD.length+1) aB af af (λv hv=>by obtain⟨i,_,rfl⟩:=akk.1 hv;exact⟨rfl,rfl,rfl⟩) U λd1 U=>?_);refine ah ?_;have e1:((ake ((aH g b).aD.length+1)).map λi=>AV.map (c i)).reverse=(ake ((aH g b).aD.length+1)).map λi=>AV.map (c ((aH g b).aD.length - i)):=by apply alg aB;intro i h1 h2;simp only[List.length_reverse,akg,List.length_range]at h1;simp only[List.getElem_reverse,akg,List.length_range,akN,alA];congr 2
 have e2:((ake ((aH g b).aD.length+1)).map λi=>tM true (c i) (eK g os lv b i)).reverse=(ake ((aH g b).aD.length+1)).map λi=>tM true (c ((aH g b).aD.length - i)) (eK g os lv b ((aH g b).aD.length - i)):=by apply alg aB;intro i h1 h2;simp only[List.length_reverse,akg,List.length_range]at h1;simp only[List.getElem_reverse,akg,List.length_range,akN,alA];congr 2
 rw[e1]at U;have U:aj H d1 (tS eT 1 ((ake ((aH g b).aD.length+1)).map λi=>AV.map (c ((aH g b).aD.length - i))) ((aH g b).aD.length+1) true (.slice q 0 ((aH g b).aD.length+1) cap ex)::tB oU A [.slice q 0 ((aH g b).aD.length+1) cap ex]::tB eT u [.map (c (aH g b).aD.length)]::tB eH B [v0]::(((ake ((aH g b).aD.length+1)).map λi=>tM true (c i) (eK g os lv b i))++(tX b4 (.deferred false)::[tB dW L [Y,z,aU (aH g b).aA.op,W,.str (aH g b).aA.name,Z,vg],tB iH R [.az d 0],tX dm (.deferred false)]))):=U;have U:=U.sub (.cons_cons _ (.cons _ (.cons _ (.cons _ ((akL _).append (.cons_cons _ (.cons _ (.cons _ (akL _)))))))));have U:=U.cM ((akH (l₁:=tS eT 1 ((ake ((aH g b).aD.length+1)).map λi=>AV.map (c ((aH g b).aD.length - i))) ((aH g b).aD.length+1) true (.slice q 0 ((aH g b).aD.length+1) cap ex)::(ake ((aH g b).aD.length+1)).map λi=>tM true (c i) (eK g os lv b i)) (l₂:=[tX b4 (.deferred false),tX dm (.deferred false)])).trans (List.Perm.append_left _ (akO _ (List.reverse_perm _).symm)));rw[e2]at U;exact Ru.mI (M:=[b4,dm]) U λH' U=>⟨[.slice q 0 ((aH g b).aD.length+1) cap ex],⟨rfl,rfl,trivial⟩,h4 H' _ (λi=>c ((aH g b).aD.length - i)) U⟩
end
end
section
def JX(ac:Nat->aG)(A:ai)(y:AV)(G:(Int->Prop)->Prop)(J:List (Int->Prop)->List Th->Prop):Prop:=
 ∀b S q e us H,G S->J b e->aj A H (tM false q S::(e++us))->YF ac y [.map q] H λv H'=>v=.bool true/\∃d,J (b++[S]) d/\aj A H' (tM false q S::(d++us))
def Qn(ac:Nat->aG)(A:ai)(fv:AV)(G:(Int->Prop)->Prop)(e:List (Int->Prop))(f:List Th):Prop:=
 ∀y J d us H(K:KT),y.bB=true->y.ee=true->y.cells=[y]->JX ac A y G J->J [] d->aj A H (f++d++us)->(∀H' b v,aj A H' (b++us)->J e b->K v H')->YF ac fv [y] H K
theorem Ru.af1{A H:ai}{us:List Th}{L:Kn}{K:cP->Fr->ai->Prop}{M:List ab}{s:List SI}{f:aJ}{p:ab}{dN body:bt}{fv:AV}{G:(Int->Prop)->Prop}{P:List (Int->Prop)}{Q t:List Th}{J:List (Int->Prop)->List Th->Prop}(U:aj A H (Q++t++us))(T:Qn ac A fv G P Q)(V:J [] t)(W:∀b S q g us l o1 o2 H,G S->J b g->aj A H (tM false q S::(g++tX l o1::us))->Ru ac (EV ac l o1 o2 body (yJ A l o2 us (λe=>∃t2,e=tM false q S::t2/\J (b++[S]) t2) λ_ _=>False)) [.code dN] (AT [p] [.map q] L) H)(z:∀H' e R,J P e->aj A H' (e++tX R (.deferred false)::us)->Ru ac ⟨K,R::M,none⟩ s L H')(X:bf L f=fv:=by exact cw)(E:fv.bB=true:=by first|rfl|assumption):Ru ac ⟨K,M,none⟩ (.code (.rangeFunc f [p] dN body)::s) L H:=by
 intro aa u;have F:=U.AQ (.deferred false);have w:=F.AQ (.loop .ready .none 0 aa [p] dN body H.next);have x:=w.cM OM;generalize hl:(H.new (.deferred false)).next=l at w x;generalize I:((H.new (.deferred false)).new (.loop .ready .none 0 aa [p] dN body H.next))=Y at w x;have key:=T (.yield l) (λb e=>∃g,e=tX l (.loop .ready .none 0 aa [p] dN body H.next)::g/\J b g) _ _ Y (λ_ H'=>match H'.get l with
  |.loop st cB fn B Z aw bd d=>match st with|.busy=>False|_=>kh ac K s cB ⟨aa,H.next::M,none⟩ (H'.set l (.loop .exhausted cB fn B Z aw bd d))
  |_=>False) rfl rfl rfl ?_ ⟨t,rfl,V⟩ x ?_;·obtain⟨n,hn⟩:=key;refine⟨n+1,?_⟩;simp only[Xc,exec];rw[hl,I,u.gv X E];exact hn
 .rintro b S q _ k D hG⟨g,rfl,N⟩r;have y:aj A D ((tM false q S::g)++tX l (.loop .ready .none 0 aa [p] dN body H.next)::k):=r.cM (I9 (ws:=[_]));have i:D.get l=.loop .ready .none 0 aa [p] dN body H.next:=y.rj (tM false q S::g).length aB;have C:=W b S q g k l _ (.loop .busy .none 0 aa [p] dN body H.next) D hG N y (ph [p] [.map q] aa) u.pr;refine ON i rfl C (λH' e h1 h2=>?_) (λj H' e hj h1 h2=>h2.elim);obtain⟨t2,rfl,h2⟩:=h2;refine⟨rfl,tX l _::t2,⟨t2,rfl,h2⟩,?_⟩;have:=h1.tV (q:=l) (o:=.loop .busy .none 0 aa [p] dN body H.next) (tM false q S::t2).length aB (.loop .ready .none 0 aa [p] dN body H.next);rw[show((tM false q S::t2)++tX l (.loop .busy .none 0 aa [p] dN body H.next)::k).set (tM false q S::t2).length (tX l (.loop .ready .none 0 aa [p] dN body H.next))=(tM false q S::t2)++tX l (.loop .ready .none 0 aa [p] dN body H.next)::k by simp]at this;exact this.cM (I9 (ws:=[_])).symm
 rintro H' _ v r⟨g,rfl,O⟩;have i:=r.rj 0 rfl;simp only[i];exact z _ g _ O (r.tV 0 rfl _).tail aa u
section
variable{g:G.bu}{c h av m:AV}{a:ab}{A H:ai}{o:List AV}{come:List Bool}{os:List (List bV)}{ak:List Nat}{lv:List (List Int)}
theorem Qo(T:Tb ac){n:Nat}(x:n<=6000)(p:bh H a 1=some (aN n)){K:KT}(A:∀H' v,aj H H' [tS 3 1 ((ake n).map aN) n true v]->K v H'):YN ac WO [.az a 0] H K:=by
 refine YF.code T.abD aB ?_;refine ah ?_;refine Ru.nm λg M i e=>?_;refine Ru.cC e (up (P:=λk=>∀d v,aj H d [tS 3 1 ((ake k).map aN) k true v]->Ru ac _ g ([(p9,aN k),(p2,v)]++pk M [p8]) d) n (λk y j d v U=>?_) 0 af _ .aS ((aj.dc H).py 3 1));subst i;subst e;have⟨q,r,s,_⟩:=(U.sl (e:=3) (size:=1) (sv:=v) (vs:=(ake k).map aN) (n:=k) (full:=true) 0).all;refine Ru.loop ?_;refine au ?_;refine Ru.cond (λb=>?_) (λb=>?_);·refine au ?_;refine RO.push U 0 (λz l f U=>?_) (ws:=[aN k]);have⟨t,u,w,_⟩:=(U.sl (e:=3) (size:=1) (n:=k+1) (full:=true) (sv:=f) 0).all;refine au ?_;exact Ru.wk (j (k+1) af af l f (by rw[alb,akE];exact U))
 refine Ru.exitTo ?_;obtain rfl:k=n:=af;refine au ?_;exact Ru.aV (A _ v U)
def pK(g:G.bu)(b:Nat):List Int:=if b=0 then(ake g.params.toNat).map λ(v:Nat)=>(v:Int)else(aH g b).params
def rB(g:G.bu)(os:List (List bV))(lv:List (List Int))(b:Nat):Int->Prop:=λx=>x∈pK g b\/eK g os lv b (aH g b).aD.length x
def sI(g:G.bu)(os:List (List bV))(lv:List (List Int))(b i:Nat):List (Int->Prop):=[eK g os lv b ((aH g b).aD.length - i),λx=>x=((aH g b).aD.getD i default).to/\x≠ -1\/eK g os lv b ((aH g b).aD.length - (i+1)) x]
def rC(g:G.bu)(os:List (List bV))(lv:List (List Int))(b:Nat):List (Int->Prop):=(rB g os lv b::(ake (aH g b).aD.length).flatMap (sI g os lv b))++[eK g os lv b 0]
def gY(g:G.bu)(os:List (List bV))(lv:List (List Int))(ak:List Nat):List (Int->Prop):=ak.flatMap (rC g os lv)
def Fp(g:G.bu)(S:Int->Prop):Prop:=∀x,S x->0<=x/\x<g.bp
theorem JY(V:Vd g)(d:yT g come os){b:Nat}(hb:come.getD b false=true){x bH:Int}(i:(x,bH)∈kF (aH g b)):0<=x/\x<g.bp:=by obtain⟨t,e,f,_⟩:=d.rd b hb _ i;have:=E' V.gv.v0;simp only at e;omega
theorem Qp(V:Vd g)(e:cX g come os)(f:e9 g come os ak)(d:gP g come os lv){b:Nat}(hb:come.getD b false=true){x:Int}(i:x∈lv.getD b []):0<=x/\x<g.bp:=
 have h1:=((d.mem b hb x).1 i).CS V.dO e (V.sG come os e) V.gv f hb
 ⟨h1.1,h1.2.1⟩
theorem Qq(V:Vd g)(e:cX g come os)(f:e9 g come os ak)(d:gP g come os lv){b:Nat}(hb:come.getD b false=true){x:Int}(k:x∈kV g lv (os.getD b [])):0<=x/\x<g.bp:=by
 unfold kV at k;split at k;·rename_i t i;obtain⟨_,_,_,_,j,_⟩:=vD V.dO e hb i;exact Qp V e f d j k
 cases k
theorem af2(V:Vd g)(i:cX g come os)(j:e9 g come os ak)(d:gP g come os lv){b:Nat}(hb:come.getD b false=true):∀k,k<=(aH g b).aD.length->Fp g (eK g os lv b k):=by
 have f:=V.sG come os i;intro k;induction k with
 |zero=>
  rintro _ x(q|q|⟨e,he,q⟩|⟨w,l,q⟩);·exact Qq V i j d hb q
  .exact JY V f hb (C3 q)
  .exact JY V f hb (C4 he q)
  exact Qp V i j d (i.ls hb l) q
 |succ k n=>
  rintro p x(q|q|⟨q,_⟩);·exact Qq V i j d hb q
  .rw[bF af]at q;exact JY V f hb (Fm _ q)
  exact n af x q
theorem JZ{B:G.gV}{i:Nat}(f:i<B.aD.length)(b:B.aD[i].to≠ -1):(B.aD[i].to,(i:Int))∈dC B:=by obtain⟨d,e,_⟩:=Jv B f b;rw[<-e];exact agB d
theorem J4{B:G.gV}{x:Int}(b:x∈B.params):(x, -1)∈dC B:=akf _ (akp b)
theorem Qr(V:Vd g){b:Nat}(hb:b<g.al.length):∀x∈pK g b,0<=x/\x<g.bp:=by
 intro x d;unfold pK at d;split at d;·obtain⟨v,e,rfl⟩:=akk.1 d;rw[ak3]at e;have:=V.fm.fv.h1;have:=V.fm.fv.h0;omega
 exact V.qA _ (oC hb) _ (J4 d)
end
end
section
theorem Ru.Qs{c:Cx}{s:List SI}{x:SI}{L:Kn}{H:ai}(P:Kn->ai->Prop)(h1:∀M H',P M H'->Ru ac c s M H')(h2:(∀H' a M,P M H'->ky M a->Ru ac c s a H')->Ru ac c (x::s) L H):Ru ac c (x::s) L H:=h2 λH' a M b hl=>(h1 M H' b).rZ hl
def lx(a:Nat->ab)(P:Nat->Int->Prop)(ex:Nat->Bool)(n:Nat):List Th:=(ake n).map λj=>tM (ex j) (a j) (P j)
theorem J5{ids:Nat->ab}{P:Nat->Int->Prop}{ex:Nat->Bool}{n i:Nat}(hi:i<n):(lx ids P ex n)[i]?=some (tM (ex i) (ids i) (P i)):=by simp[hi,lx,aks,List.getElem?_range,akt]
theorem af3{a:Nat->ab}{P:Nat->Int->Prop}{ex:Nat->Bool}{n i:Nat}(hi:i<n):(lx a P ex n).set i (tM false (a i) (P i))=lx a P (λj=>if j=i then false else ex j) n:=by apply alg (by simp[lx]);intro j h1 h2;simp only[lx,List.getElem_set,akN,alA];grind
theorem J6{b:Type}:∀{l:List b}{i:Nat}(c:i<l.length),(l[i]::l.eraseIdx i).Perm l|a::l,0,_=>alM _|a::l,i+1,c=>(akS a (l[i]'(by grind)) _).trans (akO a (J6 (l:=l) (i:=i) (by grind)))
section
variable{A H:ai}{y:AV}{G:(Int->Prop)->Prop}{J:List (Int->Prop)->List Th->Prop}{X ts us:List Th}{h:List (Int->Prop)}
theorem J7(c:JX ac A y G J){S:Int->Prop}{q:ab}{b:Bool}(g:G S)(i:J h ts)(U:aj A H (tM b q S::(X++(ts++us)))):YF ac y [.map q] H λv H'=>v=.bool true/\∃a,J (h++[S]) a/\aj A H' (tM false q S::(X++(a++us))):=by have h1:=U.as (t':=tM false q S) 0 rfl λk e=>⟨e.1,e.2.1,e.2.2.1,(λl=>by cases l),e.2.2.2.2⟩;have h2:=h1.cM (akO _ (List.perm_append_comm_assoc X ts us));refine(c h S q ts (X++us) H g i h2).mono ?_;rintro v H'⟨rfl,a,h3,j⟩;exact⟨rfl,a,h3,j.cM (akO _ (List.perm_append_comm_assoc a X us))⟩
theorem J8(b:JX ac A y G J){ids:Nat->ab}{P:Nat->Int->Prop}{ex:Nat->Bool}{n i:Nat}(hi:i<n)(l:G (P i))(m:J h ts)(U:aj A H (X++(lx ids P ex n++(ts++us)))):YF ac y [.map (ids i)] H λv H'=>v=.bool true/\∃a,J (h++[P i]) a/\aj A H' (X++(lx ids P (λj=>if j=i then false else ex j) n++(a++us))):=by
 have hat:=J5 (ids:=ids) (P:=P) (ex:=ex) hi;obtain⟨c,e⟩:=akR.1 hat;have k:(X++(lx ids P ex n++(ts++us))).Perm (tM (ex i) (ids i) (P i)::((X++(lx ids P ex n).eraseIdx i)++(ts++us))):=by have h1:=(J6 c).symm;rw[e]at h1;have h2:=(h1.append_right (ts++us)).append_left X;refine h2.trans ?_;rw[aj2];exact akj
 refine(J7 b l m (U.cM k)).mono ?_;rintro v H'⟨rfl,a,h3,q⟩;refine⟨rfl,a,h3,q.cM ?_⟩;rw[<-af3 hi];have g:i<((lx ids P ex n).set i (tM false (ids i) (P i))).length:=by simpa using c
 have h1:=J6 g;rw[List.getElem_set_self,List.eraseIdx_set_eq]at h1;have h2:=(h1.append_right (a++us)).append_left X;refine List.Perm.trans ?_ h2;rw[aj2];exact akj.symm
end
theorem af4(a:Nat->ab)(v:AV)(n:Nat)(P:Nat->Int->Prop):A5 a v n P=tS eT 1 ((ake n).map λi=>.map (a i)) n true v::lx a P (λ_=>true) n:=rfl
section
variable{g:G.bu}{p o av r:AV}{f d:ab}{A H:ai}{t:List AV}{come:List Bool}{os:List (List bV)}{ak:List Nat}{lv:List (List Int)}
def w7(b d f:ab)(c:List AV)(a:Nat->ab)(v:AV)(n:Nat):List Th:=[tB dW b c,tB iH d [.az f 0],tS eT 1 ((ake n).map λi=>.map (a i)) n true v]
theorem af5(T:Tb ac)(V:Vd g)(L:FX g A f p o av r t come os ak lv)(hK:cX g come os)(hO:e9 g come os ak)(bb:gP g come os lv):Qn ac A (.func Iv [] [.az d 0]) (Fp g) (gY g os lv ak) [tB iH d [.az f 0]]:=by
 intro y J ts us H K d6 d7 d' c R U b';have hB:=V.sm;have ea:=hB.nb;have ag:=L.ro.lt;have cp:=L.ro.aH;have cv:=L.c4;have⟨eb,_,_,_⟩:=L.bl.all;have⟨ec,ei,ej,ek⟩:=L.od.all;have el:ak.length<=g.al.length:=vB _ _ hO.nd λx hx=>hK.lt ((hO.mem x).1 hx);have er:=V.sG come os hK;have et:=V.fm.fv.h2;have ev:=V.fm.fv.h0;have ew:=V.fm.fv.h1;obtain⟨np,bc⟩:∃n:Nat,g.params=(n:Int):=⟨g.params.toNat,af⟩;refine YF.code T.abC aB ?_;refine ah ?_;refine RO.aW ?_ (v:=o) (hc:=by rw[U.gr.bh ag];exact cv);refine ah ?_;have U:aj A H (tB iH d [.az f 0]::(ts++us)):=U;refine Ru.nm λS0 M hS hM=>?_;refine Ru.cC hM (up (P:=λk=>∀S ts,J ((ak.take k).flatMap (rC g os lv)) ts->aj A S (tB iH d [.az f 0]::(ts++us))->Ru ac _ S0 ([(bo,aN k)]++pk M [p0,p1,bi,bk]) S) ak.length (λk hk ih S ts R U=>?_) 0 af _ ts R U);subst hS;subst hM;refine Ru.loop ?_;refine au ?_;refine Ru.cond (λG=>?_) (λG=>?_)
 .have ar:=(hO.mem _).1 (agB G);have bd:ak.take (k+1)=ak.take k++[ak[k]]:=(akd G).symm;have ih:=ih (k+1) af af;rw[bd,akD,akK]at ih;clear bd;refine ah ?_;refine RO.lg U.gr L.od (λB o5 e0 e3=>?_) (j:=k);generalize(ak.take k).flatMap (rC g os lv)=h0 at*;generalize ak[k]=b at*;have aw:=hK.lt ar;have ax:=oC aw;have e4:=hB.bl _ ax;have eh:=hB.st _ ax;have cx:g.al[b]=aH g b:=(bF aw _).symm;refine ah ?_;refine RO.aW ?_ (v:=p) (hc:=by rw[U.gr.bh ag];exact cp);refine ah ?_;refine RO.cZ U.gr L.bl (λq9 o9 fp e5 ay e6 hat hrd=>?_) (j:=b);rw[cx]at ay;have dy:=ay.one;obtain⟨N,u,jc,rfl,bv,b0,W,X,Y,rfl,e7,_,e8⟩:=ay;have⟨e',fa,fb,dz⟩:=b0.all;have⟨fd,_,_,_⟩:=bv.all;refine ah ?_;refine RO.fx U λH2 B U=>?_;refine ah ?_;refine RO.cl (af0 T V (L.cI U.gr) hK hO bb ar λH3 v ids hl=>?_);have U:=U.fC hl;have z:=af2 V hK hO bb ar;have cy:=Qr V (b:=b) aw;obtain⟨q,cap,a,rfl⟩:=U.uT (e:=eT) (size:=1) (n:=(aH g b).aD.length+1) (full:=true) (sv:=v) 0 rfl af;rw[af4]at U;have U:aj A H3 (w7 B d f [N,u,aU (aH g b).aA.op,W,.str (aH g b).aA.name,X,Y] ids (.slice q 0 ((aH g b).aD.length+1) cap a) ((aH g b).aD.length+1)++(lx ids (λi=>eK g os lv b ((aH g b).aD.length - i)) (λ_=>true) ((aH g b).aD.length+1)++(ts++us))):=by have h9:=U.cM (List.perm_append_comm_assoc (tS eT 1 ((ake ((aH g b).aD.length+1)).map λi=>AV.map (ids i)) ((aH g b).aD.length+1) true (.slice q 0 ((aH g b).aD.length+1) cap a)::lx ids (λi=>eK g os lv b ((aH g b).aD.length - i)) (λ_=>true) ((aH g b).aD.length+1)) [tB dW B [N,u,aU (aH g b).aA.op,W,.str (aH g b).aA.name,X,Y],tB iH d [.az f 0]] (ts++us));exact h9
  have O:∀i,i<(aH g b).aD.length+1->((ake ((aH g b).aD.length+1)).map λi=>AV.map (ids i))[0+i*1]?=some (.map (ids i)):=λi hi=>by rw[show 0+i*1=i by omega,aks,List.getElem?_range hi];rfl
  refine ah ?_;refine Ru.Qs (P:=λM H'=>∃pv,fZ H' (pK g b) pv/\M=[(p7,pv),(p0,y),(p1,.az d 0),(p4,aN b),(p5,.az B 0),(p6,.slice q 0 ((aH g b).aD.length+1) cap a),(bi,o),(bk,aN ak.length),(bo,aN k)]/\aj A H' (w7 B d f [N,u,aU (aH g b).aA.op,W,.str (aH g b).aA.name,X,Y] ids (.slice q 0 ((aH g b).aD.length+1) cap a) ((aH g b).aD.length+1)++(lx ids (λi=>eK g os lv b ((aH g b).aD.length - i)) (λ_=>true) ((aH g b).aD.length+1)++(ts++us)))) (λM H' hM=>?_) (λl=>?_);rotate_left
  .refine Ru.cond (λa1=>?_) (λa1=>?_)
   .refine ah ?_;refine RO.cl (Qo T (n:=np) af (by rw[U.gr.bh ag,L.c1,bc];rfl) λH4 pv b3=>?_);have cE:=U.cI b3.gr;have C:fZ H4 (pK g b) pv:=by
     have h9:=b3.sl (e:=3) (size:=1) (sv:=pv) (vs:=(ake np).map aN) (n:=np) (full:=true) 0;have e:pK g b=(ake np).map λ(v:Nat)=>(v:Int):=by rw[pK,aK (by simpa using a1),bc,aj3]
     rw[e];have e2:((ake np).map λ(v:Nat)=>(v:Int)).map aI=(ake np).map aN:=by rw[alx];rfl
     unfold fZ;rw[e2,akg,List.length_range];exact h9
    have⟨ca,_,_,_⟩:=C.all;refine RO.bg ?_;refine RO.nil ?_;refine l _ _ _ ⟨pv,C,rfl,cE⟩ ?_;exact fB
   refine Ru.skip ?_;refine l _ _ _ ⟨N,by rw[pK,aq (by simpa using a1)];exact U.gr.sl bv,rfl,U⟩ ?_;exact fB
  obtain⟨pv,C,rfl,U⟩:=hM;have⟨ca,_,_,_⟩:=C.all;have d0:(pK g b).length<=6000:=by
   unfold pK;split;·simp;omega
   omega
  refine ah ?_;refine RO.fD U 2 (hv:=O 0 af) ?_;refine ah ?_;have c8:Fp g (rB g os lv b):=λx hx=>hx.elim (cy x) (z _ (afb _) x);refine RO.cl (A4 T U 3 (rr (i:=0) (xs:=w7 _ _ _ _ _ _ _) (J5 af)) C af λH5 q6 S6 c9 U=>?_);have U:=U.CT (S':=rB g os lv b) 0 rfl λx=>by rw[c9];exact or_congr Iff.rfl ⟨λfq=>fq.1,λfq=>⟨fq,by have:=z _ (afb _) x fq;omega⟩⟩
  have U:aj A H5 (tM true q6 (rB g os lv b)::((w7 B d f [N,u,aU (aH g b).aA.op,W,.str (aH g b).aA.name,X,Y] ids (.slice q 0 ((aH g b).aD.length+1) cap a) ((aH g b).aD.length+1)++lx ids (λi=>eK g os lv b ((aH g b).aD.length - i)) (λ_=>true) ((aH g b).aD.length+1))++(ts++us))):=by rw[aj2];exact U
  refine RO.cl ((J7 c c8 R U).mono ?_);rintro v H6⟨rfl,c',a2,U⟩;have U:=U.tail;rw[aj2]at U;refine ah ?_;refine Ru.nm λS1 M1 dm b4=>?_;have a2:J ((h0++[rB g os lv b])++(ake 0).flatMap (sI g os lv b)) c':=by simpa using a2
  refine Ru.cC b4 (up (P:=λi=>∀S ts ex,J ((h0++[rB g os lv b])++(ake i).flatMap (sI g os lv b)) ts->(∀j,i<j->ex j=true)->aj A S (w7 B d f [N,u,aU (aH g b).aA.op,W,.str (aH g b).aA.name,X,Y] ids (.slice q 0 ((aH g b).aD.length+1) cap a) ((aH g b).aD.length+1)++(lx ids (λi=>eK g os lv b ((aH g b).aD.length - i)) ex ((aH g b).aD.length+1)++(ts++us)))->Ru ac _ S1 ([(dB,aN i)]++pk M1 [p0,p1,p4,p5,p6,bi,bk,bo,dt,cJ]) S) (aH g b).aD.length (λi hi P S ts ex R a6 U=>?_) 0 af _ _ _ a2 (λ_ _=>rfl) U);subst dm;subst b4;refine Ru.loop ?_;refine au ?_;refine Ru.cond (λI=>?_) (λI=>?_)
  .refine ah ?_;refine RO.cZ U.gr b0 (λfe fk fl d1 ba d2 hat hrd=>?_) (j:=i);have dr:(aH g b).aD[i].to≠ -1->0<=(aH g b).aD[i].to/\(aH g b).aD[i].to<g.bp:=λs=>V.qA _ ax _ (JZ I s);have b5:(aH g b).aD.getD i default=(aH g b).aD[i]:=bF I _;have Z:sI g os lv b i=[eK g os lv b ((aH g b).aD.length - i),λx=>x=(aH g b).aD[i].to/\x≠ -1\/eK g os lv b ((aH g b).aD.length - (i+1)) x]:=by rw[sI,b5]
   have P:=P (i+1) af af;rw[alb,akD,akK,Z]at P;generalize(ake i).flatMap (sI g os lv b)=h1 at*;clear b5 Z;generalize(aH g b).aD[i]=st at*;obtain⟨ds,rfl,cd⟩:=ba;have⟨d3,d4,d5,_⟩:=cd.all;refine ah ?_;refine RO.gI U λH7 q9 U=>?_;refine ah ?_;refine RO.iT U 0 (λH8 U=>?_) (vs:=[am.i 4 0,am.i 3 0,AV.aS,am.i 3 0,am.i 3 0,AV.str []]) (ws:=[aU st.op,aI st.to,ds,aI st.n,aI st.m,.str st.name]);refine ah ?_;refine RO.fD U 3 (hv:=O (i+1) af) ?_;refine ah ?_;refine Ru.Qs (P:=λM H'=>∃w E,(E=[]/\w=ids (i+1)/\st.to= -1\/E=[tM true w λx=>x=st.to/\x≠ -1\/eK g os lv b ((aH g b).aD.length - (i+1)) x])/\M=[(aO,.map w),(p0,y),(p1,.az d 0),(p4,aN b),(p5,.az B 0),(p6,.slice q 0 ((aH g b).aD.length+1) cap a),(p8,aN i),(bi,o),(bk,aN ak.length),(bo,aN k),(dt,u),(cJ,aN (aH g b).aD.length),(dB,aN i)]/\aj A H' (E++(w7 B d f [N,u,aU (aH g b).aA.op,W,.str (aH g b).aA.name,X,Y] ids (.slice q 0 ((aH g b).aD.length+1) cap a) ((aH g b).aD.length+1)++(lx ids (λi=>eK g os lv b ((aH g b).aD.length - i)) ex ((aH g b).aD.length+1)++(ts++us))))) (λM H' hM=>?_) (λl=>?_);rotate_left
   .refine Ru.cond (λs=>?_) (λs=>?_)
    .have s:st.to≠ -1:=by simpa using s
     refine ah ?_;refine RO.lf U 1 (ws:=[aI st.to]) (n:=1) (λH9 qb U=>?_);have dv:fZ H9 [st.to] (.slice qb 0 1 1 true):=U.sl (e:=3) (size:=1) (n:=1) (full:=true) 0;have hat:=J5 (ids:=ids) (P:=λi=>eK g os lv b ((aH g b).aD.length - i)) (ex:=ex) (n:=(aH g b).aD.length+1) (i:=i+1) af;rw[a6 (i+1) af]at hat;refine RO.cl (A4 T U (5+(i+1)) (rr (i:=i+1) (xs:=[_,_,_,_,_]) hat) dv aB λa8 w fo cf U=>?_);have U:=U.CT (S':=λx=>x=st.to/\x≠ -1\/eK g os lv b ((aH g b).aD.length - (i+1)) x) 0 rfl λx=>by rw[cf,aep];exact or_congr ⟨λfq=>⟨fq,af⟩,λfq=>fq.1⟩ ⟨λfq=>fq.1,λfq=>⟨fq,by have:=z ((aH g b).aD.length - (i+1)) af x fq;omega⟩⟩
     refine RO.bg ?_;refine RO.nil ?_;refine l _ _ _ ⟨w,[tM true w _],.inr rfl,rfl,((U.sub (.cons_cons _ (.cons _ (.cons _ (akL _))))))⟩ ?_;exact fB
    have s:st.to= -1:=by simpa using s
    refine Ru.skip ?_;refine l _ _ _ ⟨ids (i+1),[],.inl ⟨rfl,rfl,s⟩,rfl,U.tail⟩ ?_;exact fB
   obtain⟨w,E,hE,rfl,U⟩:=hM;refine ah ?_;refine RO.fD U (E.length+2) (hi:=rr (i:=2) (m:=lx ids (λi=>eK g os lv b ((aH g b).aD.length - i)) ex ((aH g b).aD.length+1)++(ts++us)) rfl) (hv:=O i af) ?_;rw[<-aj2]at U;refine RO.cl ((J8 c (P:=λi=>eK g os lv b ((aH g b).aD.length - i)) (n:=(aH g b).aD.length+1) (i:=i) af (z _ af) R U).mono ?_);rintro v H9⟨rfl,a',Q,U⟩;refine ah ?_;have key:YF ac y [.map w] H9 λv H'=>v=.bool true/\∃b6 ex,J (h0++[rB g os lv b]++(h1++[eK g os lv b ((aH g b).aD.length - i),λx=>x=st.to/\x≠ -1\/eK g os lv b ((aH g b).aD.length - (i+1)) x])) b6/\(∀j,i+1<j->ex j=true)/\aj A H' (w7 B d f [N,u,aU (aH g b).aA.op,W,.str (aH g b).aA.name,X,Y] ids (.slice q 0 ((aH g b).aD.length+1) cap a) ((aH g b).aD.length+1)++(lx ids (λi=>eK g os lv b ((aH g b).aD.length - i)) ex ((aH g b).aD.length+1)++(b6++us))):=by
    rcases hE with⟨rfl,rfl,s⟩|rfl
    .rw[ak0]at U;refine(J8 c (P:=λi=>eK g os lv b ((aH g b).aD.length - i)) (n:=(aH g b).aD.length+1) (i:=i+1) af (z _ af) Q U).mono ?_;rintro v a8⟨rfl,D,F,U⟩;refine⟨rfl,D,_,?_,λj hj=>?_,U⟩;·have e:(λx=>x=st.to/\x≠ -1\/eK g os lv b ((aH g b).aD.length - (i+1)) x)=eK g os lv b ((aH g b).aD.length - (i+1)):=funext λx=>propext ⟨λfq=>fq.elim (λfq=>absurd (fq.1.trans s) fq.2) id,.inr⟩;rw[e];simpa only[aj2,akV,ak0]using F
     rw[aq af,aq af];exact a6 j af
    have U:aj A H9 (tM true w (λx=>x=st.to/\x≠ -1\/eK g os lv b ((aH g b).aD.length - (i+1)) x)::((w7 B d f [N,u,aU (aH g b).aA.op,W,.str (aH g b).aA.name,X,Y] ids (.slice q 0 ((aH g b).aD.length+1) cap a) ((aH g b).aD.length+1)++lx ids (λi=>eK g os lv b ((aH g b).aD.length - i)) (λj=>if j=i then false else ex j) ((aH g b).aD.length+1))++(a'++us))):=by rw[aj2];exact U
    refine(J7 c (λx hx=>hx.elim (λfq=>by rw[fq.1];exact dr (fq.1▸fq.2)) (z _ af x)) Q U).mono ?_;rintro v a8⟨rfl,D,F,U⟩;have U:=U.tail;rw[aj2]at U;refine⟨rfl,D,_,?_,λj hj=>?_,U⟩;·simpa only[aj2,akV,ak0]using F
    rw[aq af];exact a6 j af
   refine RO.cl (key.mono ?_);rintro v a8⟨rfl,D,dx,F,cn,U⟩;refine ah ?_;exact Ru.wk (P _ D dx F cn U)
  refine Ru.exitTo ?_;obtain rfl:i=(aH g b).aD.length:=af;refine ah ?_;refine RO.fD U 2 (hv:=O (aH g b).aD.length af) ?_;refine RO.cl ((J8 c (P:=λi=>eK g os lv b ((aH g b).aD.length - i)) (n:=(aH g b).aD.length+1) (i:=(aH g b).aD.length) af (z _ af) R U).mono ?_);rintro v H9⟨rfl,a',Q,U⟩;refine ah ?_;exact Ru.wk (ih _ a' (by simpa only[rC,Nat.sub_self,aj2,akV,ak0]using Q) (U.sub (.cons _ (.cons_cons _ (.cons _ (List.sublist_append_right _ _))))))
 refine Ru.exitTo ?_;rw[akl af]at R;refine ah ?_;exact Ru.aA (vs:=[]) trivial (b' S ts _ U.tail R)
end
end
end
end Go.am.R
end
