/- A part. No conditions. -/
import Derived.Test.YtjapbgcbkolgmaaGreatDoorA25
set_option linter.all false
open List renaming replicate->aeN
open Prod renaming fst->aho
noncomputable section
namespace Go.al.R
section
variable{ac:Nat->aX}{b:Type}
def adh(size:Nat)(ld:bE):bg:=(.seq (.region [O p4 (.bi (T p1)),O p5 (.iQ (T p4)),O p6 (.arith .sub 3 (T p5) (I 3 1)),O p3 (.aR (T p6))]) (.block 0 (.loop (.seq (.seq (.region [O p7 (.aR (T p3)),O p8 (.arith .geq 3 (T p7) (I 3 0))]) (.cond (T p8) .skip (.exit 0))) (.seq (.block 1 (.seq (.region [O eK (.aR (T p0)),O jy (.aR (T p3)),O m8 (.bi (T p1)),O fh (.aR (T p3)),O dR (.ch size (T m8) (T fh)),O jz ld,O iK (.call (T eK) [(T jy),(T jz)]),O jA (.unary .not (T iK))]) (.cond (T jA) .ret .skip))) (.region [O p9 (.aR (T p3)),O eP (.arith .sub 3 (T p9) (I 3 1)),O p3 (.aR (T eP))]))))))
def adi(R:b->List AV->Prop)(agg:Bool)(a:List b)(k:Nat)(args:List AV)(c:List Th):Prop:=c=[]/\∃(h:a.length - 1 - k<a.length)(cs:List AV),R a[a.length - 1 - k] cs/\args=[aN (a.length - 1 - k),qJ agg cs]
theorem Oi{A:ah}{size nt f e:Nat}{agg:Bool}{R:b->List AV->Prop}{la:List b}{sv:AV}{j:af}(x:ac f=.code nt [] (adh size (Ap size agg (al.T dR))))(G:2<=nt)(hl:la.length<=1000000)(h1:agg=false->size=1)(hd:∀a cs,R a cs->(qJ agg cs).bC=true):AB ac A (.func f [] [.aE j 0]) la.length (adi R agg la) [tB e j [sv]] (λH=>cP size (λ_=>R) H la sv) (λH=>cP size (λ_=>R) H la sv):=by
 intro y J D c us H K I L N n g i U z d;have⟨O,_,_,Q⟩:=z.all;refine YF.code x (by simp;omega) ?_;refine ai ?_;refine RO.sub (a:=(la.length:Int)) (b:=1) ?_;refine ai ?_;refine Ru.nm λS M B u=>?_;refine Ru.bT u (up (P:=λk=>∀l c,J k c->aq A l (tB e j [sv]::(c++us))->Ru ac _ S ([(p3,aI ((la.length:Int) - 1 - k))]++pk M [p0,p1]) l) la.length (λk V C l c i U=>?_) 0 ab _ c i U) (by simp;exact⟨rfl,trivial⟩);subst B;subst u;refine Ru.loop ?_;refine ai ?_;refine Ru.cond (λ(p:(0:Int)<=(la.length:Int) - 1 - k)=>?_) (λ(p:¬(0:Int)<=(la.length:Int) - 1 - k)=>?_)
 .obtain⟨t,E⟩:∃t:Nat,(la.length:Int) - 1 - k=(t:Int):=⟨la.length - 1 - k,ab⟩;have r:t=la.length - 1 - k:=ab;rw[E];have hs:=n k c (tB e j [sv]::us) l i U.Cr;refine ai ?_;refine RO.bY (aZ.refl _) hs (λq o cs hj w m hat hrd=>?_) (j:=t);have P:=hd _ _ w;refine RO.MC m h1 hat hrd ?_;subst r;refine RO.cl ((g k [aN (la.length - 1 - k),qJ agg cs] [] c _ _ ab ⟨rfl,hj,cs,w,rfl⟩ i U.Cr).mono ?_);rintro v W⟨s,U,m⟩;rcases m with⟨rfl,h⟩|⟨rfl,h⟩;·refine ai ?_;refine RO.sub (a:=((la.length - 1 - k:Nat):Int)) (b:=1) ?_;refine ai ?_;have F:(((la.length - 1 - k:Nat):Int) - 1:Int)=(la.length:Int) - 1 - (k+1:Nat):=ab;rw[F];exact Ru.wk (C (k+1) ab ab _ _ h U.rR)
  refine ai ?_;exact Ru.mW (vs:=[]) trivial (d _ s _ U.rR.tail (.inr h))
 refine Ru.exitTo ?_;refine ai ?_;refine Ru.aB (vs:=[]) trivial (d _ c _ U.tail (.inl ?_));rw[show la.length=k by omega];exact i
theorem Oj{f c e cl:Nat}{a:AV}{H:ah}(h:ac f=.code c [.tmp p2] (.seq (.region [O p1 (.box e (al.T p0)),O p2 (.aR (C .nilFunc))]) (.seq (.region [O p3 (.mK cl [] [(al.T p1)]),O p2 (.aR (al.T p3))]) .ret)))(j:1<=c)(hd:a.bC=true)(h1:a.dg=true)(d:a.cells=[a]){K:KT}(i:∀g q,aq H g [tB e q [a]]->K (.func cl [] [.aE q 0]) g):YN ac f [a] H K:=by refine YF.code h (by simp;omega) ?_;refine au ?_;refine RO.dp (aq.ct H) (λk q U=>?_) (ho:=by rw[d];exact ao h1 rfl);rw[d]at U;refine au ?_;exact Ru.aP (i _ q U)
end
end Go.al.R
namespace Go.al
section
def tM(ex:Bool)(q:af)(S:Int->Prop):Th where
 P H b:=q∈b/\(∀j∈b,j=q)/\(∃ks,e9 (H.get q) ks/\∀x,x∈ks↔S x)/\(ex=true->∃es c,H.get q=.map es c)/\q.am<H.next.am
 fr h e hg:=⟨h.1,h.2.1,by rw[hg _ h.1];exact h.2.2.1,by rw[hg _ h.1];exact h.2.2.2.1,afT h.2.2.2.2 e⟩
 lt h:=by intro j hj;rw[h.2.1 j hj];exact h.2.2.2.2
def ik(p:Int×Int):AV×AV:=(.int 3 p.1,.int 3 p.2)
def tI(q:af)(pl:List (Int×Int)):Th where
 P H b:=q∈b/\(∀j∈b,j=q)/\(∃es c,H.get q=.map es c/\es.map aT.kv=pl.map ik)/\(pl.map aho).Nodup/\q.am<H.next.am
 fr h e hg:=⟨h.1,h.2.1,by rw[hg _ h.1];exact h.2.2.1,h.2.2.2.1,afT h.2.2.2.2 e⟩
 lt h:=by intro j hj;rw[h.2.1 j hj];exact h.2.2.2.2
section
variable{A H:ah}{ts:List Th}{q:af}{S a:Int->Prop}{ex:Bool}{pl:List (Int×Int)}{z y:Int}
variable{ac:Nat->aX}{c:Cx}{s:List SI}{L:Kn}{d:Option af}{l:List bA}
theorem aq.Iy{t t':Th}(U:aq A H ts)(i:Nat)(hi:ts[i]?=some t){b:ah}(g:b.next=H.next)(hg:∀j,j≠q->b.get j=H.get j)(h1:∀f,t.P H f->q∈f)(h2:t'.P b [q]):aq A b (ts.set i t'):=by
 obtain⟨f,h,_,hu⟩:=U.iJ i hi;refine hu (fp':=[q]) ⟨Nat.le_of_eq (by rw[g]),λj hj=>?_,λj hj g=>?_⟩ h2;·rw[abx]at hj;subst hj;exact .inl (h1 _ h)
 exact hg j λe:j=q=>hj (by rw[e];exact h1 _ h)
theorem aq.A0(U:aq A H ts)(i:Nat)(hi:ts[i]?=some (tM ex q S):=by rfl):(∃b,e9 (H.get q) b/\∀x,x∈b↔S x)/\(ex=true->∃es c,H.get q=.map es c)/\q.am<H.next.am:=by obtain⟨f,e⟩:=U.get i hi;exact e.2.2
theorem aq.El(U:aq A H ts)(i:Nat)(hi:ts[i]?=some (tI q pl):=by rfl):(∃es c,H.get q=.map es c/\es.map aT.kv=pl.map ik)/\(pl.map aho).Nodup/\q.am<H.next.am:=by obtain⟨e,b⟩:=U.get i hi;exact b.2.2
theorem aq.adj(U:aq A H ts){o:bL}{S:Int->Prop}{ks:List Int}(hs:e9 o ks)(b:∀x,x∈ks↔S x)(e:ex=true->∃es c,o=.map es c):aq A (H.new o) (tM ex H.next S::ts):=U.push (fp:=[H.next]) (aZ.new H o) ⟨abx.2 rfl,λj hj=>abx.1 hj,⟨ks,by rw[ah.cz,aJ rfl];exact hs,b⟩,λh=>by rw[ah.cz,aJ rfl];exact e h,by rw[ah.lU];omega⟩ (rS H)
theorem RO.adk(U:aq A H ts)(h:∀b q,aq A b (tM true q (λ_=>False)::ts)->RO ac c l s (bq L d (.map q)) b):RO ac c (⟨d,.jo,none,[],[]⟩::l) s L H:=RO.jo (h _ _ (U.adj (ks:=[]) ⟨ag9,[],rfl,rfl⟩ (λx=>by simp) λ_=>⟨[],0,rfl⟩))
theorem RO.AZ(U:aq A H ts)(i:Nat){x y:aL}(h:∀t:Bool,(t=true↔S z)->RO ac c l s (bq L d (.bool t)) H)(hi:ts[i]?=some (tM ex q S):=by rfl)(e:aW L x=.map q:=by exact cw)(f:aW L y=.int 3 z:=by exact cw):RO ac c (⟨d,.lookup .int (.bool false) false x y,none,[],[]⟩::l) s L H:=by obtain⟨⟨g,hs,j⟩,he,k⟩:=U.A0 i hi;exact RO.op (λaa b=>Lj (b.gv e rfl) (b.gv f rfl) hs) (h (eZ z g) (by rw[pi,j]))
theorem Ol{k:Int}:∀{es:List aT}{pl:List (Int×Int)},es.map aT.kv=pl.map ik->k∉pl.map aho->∀i0,findKey .int (.int 3 k) es i0=some none
 |[],_,_,_,_=>rfl
 |e::es,[],h,_,_=>by simp at h
 |e::es,p::pl,h,b,i0=>by
  simp only[afp,afM,aT.kv,ik,abS]at h;simp only[afp,acn,not_or]at b;have g:fU k p.1=false:=by rw[eT];simpa using b.1
  have f:cQ 64 .int (.int 3 k) (.int 3 p.1)=some (fU k p.1):=by simp[cQ]
  simp only[findKey,h.1.1,f,g];exact Ol h.2 b.2 _
theorem RO.adl(U:aq A H ts)(h:∀b q,aq A b (tI q []::ts)->RO ac c l s (bq L d (.map q)) b):RO ac c (⟨d,.jo,none,[],[]⟩::l) s L H:=RO.jo (h _ _ (U.push (fp:=[H.next]) (aZ.new H _) ⟨abx.2 rfl,λj hj=>abx.1 hj,⟨[],0,by rw[ah.cz,aJ rfl],rfl⟩,ag9,by rw[ah.lU];omega⟩ (rS H)))
theorem RO.adm(U:aq A H ts)(i:Nat){x w:aL}(k:z∉pl.map aho)(h:∀m,aq A m (ts.set i (tI q (pl++[(z,y)])))->RO ac c l s (bq L d .ahp) m)(hi:ts[i]?=some (tI q pl):=by rfl)(p:aW L x=.map q:=by exact cw){n:aL}(r:aW L n=.int 3 z:=by exact cw)(t:aW L w=.int 3 y:=by exact cw):RO ac c (⟨d,.iP .int x n w,none,[],[]⟩::l) s L H:=by
 obtain⟨⟨es,cc,he,o⟩,u,g⟩:=U.El i hi;refine RO.op (λaa f=>?_) (h (H.set q (.map (es++[⟨.int 3 z,.int 3 y,cc⟩]) (cc+1))) (U.Iy (q:=q) i hi rfl (λj hj=>by rw[ah.aC,ap hj]) (λC v=>v.1) ⟨abx.2 rfl,λj hj=>abx.1 hj,⟨_,_,by rw[ah.aC,aJ rfl],by simp[o,aT.kv,ik]⟩,?_,by rw[ah.d8];exact g⟩));·simp only[aD,gG,afP,abe,bD,f.gv p rfl,f.gv r rfl,f.gv t rfl,he,Ol o k 0]
 simp only[afS,afp,agu];rw[afY];exact⟨u,aF,λD B b hb=>by simp only[abx]at hb;subst hb;exact λe=>k (e▸B)⟩
theorem Om:∀{es:List aT}{pl:List (Int×Int)},es.map aT.kv=pl.map ik->jw.go es=some pl/\il es=some (pl.map aho)|[],[],_=>⟨rfl,rfl⟩|[],_::_,h=>by simp at h|_::_,[],h=>by simp at h|e::es,p::pl,h=>by simp only[afp,afM,aT.kv,ik,abS]at h;obtain⟨h1,h2⟩:=Om h.2;simp only[jw.go,il,h.1.1,h.1.2,h1,h2,afp,and_self]
theorem aq.pI(U:aq A H ts)(i:Nat)(hi:ts[i]?=some (tI q pl):=by rfl):jw H q=some pl/\im H q=some (pl.map aho):=by obtain⟨⟨es,cc,he,b⟩,e,f⟩:=U.El i hi;obtain⟨h1,h2⟩:=Om b;unfold jw im;simp only[he,dl,h1,h2,(tp _).2 e,bf,and_self]
theorem On:∀{es:List aT}{ks:List Int},es.map aT.kv=ks.map sk->qA es=some ks/\il es=some ks|[],[],_=>⟨rfl,rfl⟩|[],_::_,h=>by simp at h|_::_,[],h=>by simp at h|e::es,p::pl,h=>by simp only[afp,afM,aT.kv,sk,abS]at h;obtain⟨h1,h2⟩:=On h.2;simp only[qA,il,h.1.1,h.1.2,h1,h2,and_self]
theorem Oo{b:List Int}(h:e9 (H.get q) b):iB H q=some b/\im H q=some b:=by obtain⟨e,es,he,f⟩:=h;obtain⟨h1,h2⟩:=On f;unfold iB im;simp only[he,h1,h2,(tp _).2 e,bf,and_self]
def A3(bO:List af):Kn->Kn->Prop
 |[],_=>True
 |(p,v)::l,m=>vU p bO=false/\lk m p=v/\A3 bO l m
theorem A3.le{bO:List af}{aa:ak AV}(e:Le L aa):∀{M:Kn},A3 bO M L->Le M (jv aa bO)|[],_=>λp v h=>.inl h.symm|(q,w)::M,h=>λp v b=>by simp only[lk]at b;cases hb:af.beq q p with|true=>rw[hb]at b;obtain rfl:=af.eS.1 hb;rw[z7,ap λf=>by have h0:=h.1;rw[(GH _ _).2 f]at h0;cases h0];exact e q v (h.2.1.trans b)|false=>rw[hb]at b;exact A3.le e h.2.2 p v b
theorem Ru.dD{t:Nat}{g:ak AV->ah->Option (ak AV×ah)}{bO:List af}{M:Kn}{H':ah}(e:ac t=.dD g)(hg:∀aa,Le L aa->g aa H=some (jv aa bO,H'))(h:Ru ac c s M H')(hl:A3 bO M L:=by repeat'(first|exact trivial|refine⟨rfl,rfl,?_⟩)):Ru ac c (.code (.dD t)::s) L H:=λaa b=>by refine⟨1,?_⟩;simp only[Xc,exec,e,hg aa b];exact h _ (hl.le b)
end
end
end Go.al
namespace Go.al.R
section
theorem Nw{op:Nat}:∀{l:List (Nat×nj)},(oI op l).w≠ []->op∈l.map (·.1)
 |[],h=>absurd rfl h
 |p::l,h=>by
  unfold oI at h;split at h;·rename_i e;rw[e];exact abL ..
  exact aco _ (Nw h)
theorem ab9{t:List Nat}(h:eQ t≠0):jB t:=by
 unfold eQ at h;split at h;·rename_i a;simp only[Au,acn,afy,or_false]at a;rcases a with rfl|rfl|rfl|rfl|rfl<;>exact⟨bo,bo,bo⟩
 split at h;·rename_i a;simp only[Av,acn,afy,or_false]at a;rcases a with rfl|rfl|rfl|rfl|rfl|rfl|rfl|rfl|rfl|rfl|rfl<;>exact⟨bo,bo,bo⟩
 split at h;·rename_i a;simp only[Aw,acn,afy,or_false]at a;subst a;exact⟨bo,bo,bo⟩
 exact absurd rfl h
structure D5(g:G.be)(x:G.d9)(r:ly):Prop where
 c:Az g x r
 gv:r.ul=decide (0<=x.to)
 lo: -1<=x.to
 hi:x.to<g.bc
section
variable{g:G.be}
theorem D6{x:G.d9}{r:ly}{f:nj}(hg:r.ul=f.to)(e:r.yM=if f.n then f.lo else 0)(i:r.yN=if f.n then f.hi else 0)(b:lB f.nm x.i7↔yO r.nm x.i7)(d:((x.op=15\/x.op=18->x.args.length<=6)/\(x.op≠15->x.op≠18->nq (AJ f x.i7) x.args.length))↔(r.Ax<=x.args.length/\x.args.length<=r.Ay)):su x g.bc f↔D5 g x r:=by
 have a:(r.yM<=x.n/\x.n<=r.yN)↔((f.n=true->f.lo<=x.n/\x.n<=f.hi)/\(f.n=false->x.n=0)):=by rw[e,i];cases f.n<;>simp<;>omega
 constructor;·intro h;exact⟨⟨d.1 ⟨h.mn,h.mo⟩,b.1 h.i7,a.2 ⟨h.num,h.M7⟩,h.lM,h.iE⟩,by rw[hg,h.to],h.t0,h.t1⟩
 intro h;obtain⟨h1,h2⟩:=a.1 h.c.num;obtain⟨h3,j⟩:=d.2 h.c.args;exact⟨by rw[<-hg,h.gv],h.lo,h.hi,h.c.iE,h1,h2,h.c.lM,b.2 h.c.i7,h3,j⟩
def yZ:List Nat:=[1,2,3,4,11,40,15,18,37,38,16,17,23,24,25,26,31,32,33,34,35,39,64,13,14]
theorem Nx{op:Nat}:∀{l:List (Nat×ly)}{i:Nat},op∉l.map (·.1)->sf op l i=none|[],_,_=>rfl|p::l,i,h=>by simp only[afp,acn,not_or]at h;rw[sf,ap h.1];exact Nx h.2
theorem aca{x:G.d9}{r:ly}(h:mF x=some r):x.op∈yZ:=by
 apply afO;intro a;have b:x.op≠14:=λe=>a (by rw[e];decide);have c:x.op≠13:=λe=>a (by rw[e];decide);rw[mF,ap b,ap c,Nx λd=>a ?_]at h;·cases h
 have:lX.map (·.1)=yZ.take 23:=rfl;rw[this]at d;exact agQ d
theorem acb{x:G.d9}(h:kz g x):x.op∈yZ:=by have a:=Nw h.w;have h1:=h.op;simp only[AI,sq,agb,agq,afp,agu,acn,afy,or_false]at a;simp only[pF,acn,afy,or_false,not_or]at h1;simp only[yZ,acn,afy,or_false];omega
theorem D7{x:G.d9}{r:ly}(c:mF x=some r)(h1:x.op∉pF)(h2:(lA x.op).w≠ [])(h:su x g.bc (lZ x.op x.m)↔D5 g x r):kz g x↔∃r,mF x=some r/\D5 g x r:=⟨λb=>⟨r,c,h.1 b.r⟩,λ⟨d,a,b⟩=>by rw[c]at a;injection a with a;subst a;exact⟨h1,h2,h.2 b⟩⟩
theorem acd{x:G.d9}(hl:x.args.length<=12):kz g x↔∃r,mF x=some r/\D5 g x r:=by
 by_cases b:x.op∈yZ;rotate_left;·exact⟨λh=>absurd (acb h) b,λ⟨r,h,_⟩=>absurd (aca h) b⟩
 obtain⟨op,to,args,n,m,i7⟩:=x;simp only[yZ,acn,afy,or_false]at b;simp only at hl;rcases b with rfl|rfl|rfl|rfl|rfl|rfl|rfl|rfl|rfl|rfl|rfl|rfl|rfl|rfl|rfl|rfl|rfl|rfl|rfl|rfl|rfl|rfl|rfl|rfl|rfl;all_goals first|exact D7 rfl (by dsimp only;decide) (by dsimp only;decide) (D6 rfl rfl rfl Iff.rfl (by simp[nq,AJ,lZ,lA,AI,sq,oI];try first|omega|(rw[<-List.length_eq_zero_iff];omega)))|skip
 .by_cases a:m=1;·subst a;refine D7 (r:=⟨true,0,6,1,0,0⟩) rfl (by dsimp only;decide) (by dsimp only;decide) (D6 rfl rfl rfl Iff.rfl ?_);simp[nq,AJ,lZ,lA,AI,sq,oI];omega
  have d:lZ 13 m=⟨[99,97,108,108],true, -2,false,0,0,0,0⟩:=by rw[lZ,ap λh=>a h.2];rfl
  refine D7 (r:=⟨true,1,7,0,0,0⟩) (by simp[mF,a]) (by dsimp only;decide) (by dsimp only;decide) ?_;show su _ g.bc (lZ 13 m)↔_;rw[d];refine D6 rfl rfl rfl Iff.rfl ?_;simp[nq,AJ];omega
 by_cases c:eQ i7=0
 .constructor;·intro h;exact absurd c h.r.i7
  rintro⟨r,e,_⟩;simp[mF,c]at e
 refine D7 (r:=⟨true,eQ i7,eQ i7,1,0,0⟩) (by simp only[mF,bf];rw[aJ ab]) (by dsimp only;decide) (by dsimp only;decide) (D6 rfl rfl rfl ⟨λ_=>ab9 c,λ_=>c⟩ ?_);show(_/\(_->_->nq (eQ i7) args.length))↔_;simp[nq];omega
theorem kT.ok{j:G.fg}{k:Nat}{e:G.Edge}(h:kT g j k e)(a:¬(j.op=67/\k=2)):kQ g e (ft j k):=⟨h.lo,by have:=h.hi;omega,h.aM a,h.iE⟩
theorem kQ.er{j:G.fg}{k:Nat}{e:G.Edge}(h:kQ g e (ft j k))(a:j.op=67->e.args=[]/\k≠2):kT g j k e:=⟨h.lo,by have:=h.hi;omega,h.iE,λb=>⟨(a b).1,λh2=>absurd h2 (a b).2⟩,λ_=>h.aM⟩
theorem HR{j:G.fg}(c:j.op≠67){a:List Nat}(f:∀k(h:k<a.length),a[k]=ft j k):lz g j.go a↔j.go.length=a.length/\∀k(h:k<j.go.length),kT g j k j.go[k]:=by
 have e:j.go.length=a.length->∀k,k<j.go.length->a.getD k 0=ft j k:=λhl k h=>by rw[bB ab,f]
 constructor;·intro h;refine⟨h.len,λk b=>?_⟩;have:=h.ok k b;rw[e h.len k b]at this;exact this.er λd=>absurd d c
 rintro⟨h1,h2⟩;refine⟨h1,λk b=>?_⟩;rw[e h1 k b];exact(h2 k b).ok λd=>c d.1
theorem Ny{j:G.fg}(b:j.op=67):uo g j.go↔j.go.length=3/\∀k(h:k<j.go.length),kT g j k j.go[k]:=by
 have i0:ft j 0=0:=by simp[ft,b]
 have i1:ft j 1=1:=by simp[ft,b]
 constructor;·intro h;obtain⟨s,t,i,he,h0,h1,⟨a0,e,d⟩,⟨b1,b2⟩,m⟩:=h.ex;rw[he];refine⟨rfl,λk n=>?_⟩;match k,n with|0,_=>exact kQ.er (by rw[i0];exact h0) λ_=>⟨a0,bo⟩|1,_=>exact kQ.er (by rw[i1];exact h1) λ_=>⟨e,bo⟩|2,_=>exact⟨b1,by show i.block<=_;omega,by show∀a∈i.args,_;rw[d];simp,λ_=>⟨d,λ_=>Nat.ne_of_gt m⟩,λo=>absurd ⟨b,rfl⟩ o⟩
 rintro⟨h3,c⟩;match f:j.go,h3 with|[p,q,r],_=>rw[f]at c;have a0:=c 0 aF;have e:=c 1 aF;have d:=c 2 aF;have l:=a0.ok ab;have b1:=e.ok ab;rw[i0]at l;rw[i1]at b1;exact⟨p,q,r,rfl,l,b1,⟨(a0.tr b).1,(e.tr b).1,(d.tr b).1⟩,⟨d.lo,by have:=d.hi;simp at this;omega⟩,Nat.pos_of_ne_zero ((d.tr b).2 rfl)⟩
theorem ace{j:G.fg}:AA g j↔l6 g j:=by
 have one:j.op≠67->ft j 0=0->(lz g j.go [0]↔j.go.length=1/\∀k(h:k<j.go.length),kT g j k j.go[k]):=λh2 h3=>HR h2 λk i=>by
  obtain rfl:k=0:=by simpa using i
  rw[h3];rfl
 have jZ:∀x,j.op≠67->ft j 0=x->ft j 1=0->(lz g j.go [x,0]↔j.go.length=2/\∀k(h:k<j.go.length),kT g j k j.go[k]):=λx h2 h3 m=>HR h2 λk i=>by match k,i with|0,_=>exact h3.symm|1,_=>exact m.symm
 have nf:j.op=66->(lz g j.go (j.bu.map oF)↔j.go.length=(j.bu.map oF).length/\∀k(h:k<j.go.length),kT g j k j.go[k]):=λn=>HR ab λk i=>by rw[afJ]at i;rw[agw,oF,ft,bB i];simp[n]
 have c:j.go.length=0->∀k(h:k<j.go.length),kT g j k j.go[k]:=λh k i=>by omega
 constructor
 .intro h;have o:j.i7≠ []->jB j.i7:=λp=>by have r:=h.i7.2 p;cases h.aB with|is _ _ a _=>exact a|_=>omega
  have f:∀{a e:Nat},AE j a e->a=j.args.length->e=j.go.length->(∀k(h:k<j.go.length),kT g j k j.go[k])->l6 g j:=λh1 h2 h3 m=>⟨by rw[<-h2,<-h3];exact h1,h.iE,h.bu,h.i7,o,m⟩;cases h.aB with
  |go h1 b he=>obtain⟨h2,h3⟩:=(one ab (by simp[ft,h1])).1 he;exact f (.go h1) b.symm h2.symm h3
  |si h1 b he=>obtain⟨h2,h3⟩:=(jZ 0 ab (by simp[ft,h1]) (by simp[ft,h1])).1 he;exact f (.si h1) b.symm h2.symm h3
  |is h1 b _ he=>obtain⟨h2,h3⟩:=(jZ 0 ab (by simp[ft,h1]) (by simp[ft,h1])).1 he;exact f (.is h1) b.symm h2.symm h3
  |dV h1 b he=>obtain⟨h2,h3⟩:=(jZ 1 ab (by simp[ft,h1]) (by simp[ft,h1])).1 he;exact f (.dV h1) b.symm h2.symm h3
  |nf h1 hs=>obtain⟨h2,h3⟩:=(nf h1).1 hs.ed;rw[afJ]at h2;exact f (.nf h1 hs.kd hs.lo hs.hi) hs.ar.symm h2.symm h3
  |sj h1 b q=>obtain⟨h2,h3⟩:=(Ny h1).1 q;exact f (.sj h1) b.symm h2.symm h3
  |oG h1 b hg=>exact f (.oG h1) ab hg.symm (c hg)
  |ret h1 b hg=>
   rcases h1 with h1|h1;·exact f (.ret h1) b.symm hg.symm (c hg)
   exact f (.sx h1) b.symm hg.symm (c hg)
  |stuck h1 b hg=>exact f (.stuck h1) b.symm hg.symm (c hg)
 intro h;have l:=h.ae;have d:=h.AL;refine⟨h.iE,h.i7,h.bu,?_⟩;generalize b:j.args.length=a at l;generalize hg:j.go.length=e at l;cases l with|go h1=>exact .go h1 b ((one ab (by simp[ft,h1])).2 ⟨hg,d⟩)|si h1=>exact .si h1 b ((jZ 0 ab (by simp[ft,h1]) (by simp[ft,h1])).2 ⟨hg,d⟩)|is h1=>exact .is h1 b (h.nm (h.i7.1 h1)) ((jZ 0 ab (by simp[ft,h1]) (by simp[ft,h1])).2 ⟨hg,d⟩)|dV h1=>exact .dV h1 b ((jZ 1 ab (by simp[ft,h1]) (by simp[ft,h1])).2 ⟨hg,d⟩)|nf h1 i h2 m=>exact .nf h1 ⟨i,h2,m,b,(nf h1).2 ⟨by rw[hg,afJ],d⟩⟩|sj h1=>exact .sj h1 b ((Ny h1).2 ⟨hg,d⟩)|oG h1=>exact .oG h1 ab hg|ret h1=>exact .ret (.inl h1) b hg|sx h1=>exact .ret (.inr h1) b hg|stuck h1=>exact .stuck h1 b hg
end
end
section
structure PI(n:Nat)(s:List Bool)(hist:List Int):Prop where
 len:s.length=n
 bz:∀v:Nat,v<n->(s.getD v false=true↔(v:Int)∈hist)
section
variable{g:G.be}{n:Nat}
theorem Eb{k:Type}{st:List Bool->k->Bool×List Bool}{f:k->List Int}{P:k->Prop}{R:Int->Prop}:∀{la:List k},(∀s c a,a∈la->PI n s c->c.Nodup->((st s a).1=true↔P a/\(c++f a).Nodup/\∀v∈f a,R v)/\((st s a).1=true->PI n (st s a).2 (c++f a)))->∀s c,PI n s c->c.Nodup->((dC st s la).1=true↔(∀a∈la,P a)/\(c++la.flatMap f).Nodup/\∀v∈la.flatMap f,R v)/\((dC st s la).1=true->PI n (dC st s la).2 (c++la.flatMap f))
 |[],_,s,c,l,m=>by simpa[dC]using⟨m,l⟩
 |a::la,h,s,c,l,m=>by
  obtain⟨h1,h2⟩:=h s c a (abL ..) l m;rw[ags,<-afu];by_cases e:(st s a).1=true
  .obtain⟨p,q,r⟩:=h1.1 e;obtain⟨t,u⟩:=Eb (λs c b hb=>h s c b (aco _ hb)) _ _ (h2 e) q;rw[dC,aJ e];refine⟨t.trans ⟨λ⟨i,j,a3⟩=>⟨λb hb=>?_,j,λv d=>?_⟩,λ⟨i,j,a3⟩=>⟨λb hb=>i b (aco _ hb),j,λv d=>a3 v (afW _ d)⟩⟩,u⟩
   .rcases acn.1 hb with rfl|hb;·exact p
    exact i b hb
   rcases ae8.1 d with d|d;·exact r v d
   exact a3 v d
  rw[dC,ap e];refine⟨⟨λo=>(by cases o),λ⟨i,j,a3⟩=>absurd (h1.2 ⟨i a (abL ..),(afY.1 j).1,λv d=>a3 v (afD _ d)⟩) e⟩,λo=>by cases o⟩
theorem NN(o:g.bc=n)(p:0<=g.i4){s:List Bool}{c:List Int}(v:Int)(d:PI n s c)(f:c.Nodup):((iD g s v).1=true↔True/\(c++[v]).Nodup/\∀u∈ [v],g.i4<=u/\u<n)/\((iD g s v).1=true->PI n (iD g s v).2 (c++[v])):=by
 have hl:=d.len;unfold iD;by_cases j:g.i4<=v/\v<=g.bc - 1
 .rw[aJ j];obtain⟨v,rfl⟩:∃k:Nat,v=k:=⟨v.toNat,ab⟩;have i:v<n:=ab;rw[afs];have hat:=d.bz v i;by_cases hs:s.getD v false=true;·rw[aJ hs];refine⟨⟨λh=>(by cases h),λ⟨_,h,_⟩=>?_⟩,λh=>by cases h⟩;exact absurd rfl ((afY.1 h).2.2 _ (hat.1 hs) _ (abx.2 rfl))
  rw[ap hs];refine⟨⟨λ_=>⟨trivial,?_,λu hu=>by rw[abx]at hu;subst hu;omega⟩,λ_=>rfl⟩,λ_=>⟨by simpa using hl,λx l=>?_⟩⟩;·rw[afY];refine⟨f,aF,λa m b hb=>?_⟩;rw[abx]at hb;subst hb;exact λe=>hs (hat.2 (e▸m))
  rw[dG ab,ae8,abx];by_cases e:x=v;·subst e;simp
  rw[ap e,d.bz x l];have:¬(x:Int)=v:=ab;simp[this]
 rw[ap j];refine⟨⟨λh=>(by cases h),λ⟨_,_,h⟩=>?_⟩,λh=>by cases h⟩;have:=h v (abx.2 rfl);omega
theorem acD(l:List Int):l.flatMap (λv=>[v])=l:=by induction l with|nil=>rfl|cons a l b=>rw[ags,b];rfl
theorem AQ:∀l:List G.d9,eN l=l.flatMap λx=>if 0<=x.to then[x.to]else[]|[]=>rfl|x::l=>by rw[ags,<-AQ l,eN,eN,afp];by_cases h:0<=x.to<;>simp[h]
theorem acE(l:g.bc=n)(m:0<=g.i4){s:List Bool}{d:List Int}{x:G.d9}(hl:x.args.length<=12)(i:PI n s d)(f:d.Nodup):((stepG g s x).1=true↔kz g x/\(d++(if 0<=x.to then[x.to]else[])).Nodup/\∀u∈(if 0<=x.to then[x.to]else[]),g.i4<=u/\u<n)/\((stepG g s x).1=true->PI n (stepG g s x).2 (d++(if 0<=x.to then[x.to]else[]))):=by
 rw[acd hl];unfold stepG;cases p:mF x with
 |none=>exact⟨⟨λh=>(by cases h),λ⟨⟨r,h,_⟩,_⟩=>by cases h⟩,λh=>by cases h⟩
 |some r=>
  simp only[aaM,exists_eq_left'];by_cases e:Az g x r;rotate_left;·rw[ap e];exact⟨⟨λh=>(by cases h),λ⟨h,_⟩=>absurd h.c e⟩,λh=>by cases h⟩
  rw[aJ e];cases hg:r.ul with
  |true=>
   rw[aJ rfl];obtain⟨j,o⟩:=NN l m x.to i f;by_cases h0:0<=x.to;·rw[aJ h0];refine⟨j.trans ⟨λ⟨_,a,b⟩=>⟨⟨e,by rw[hg,decide_eq_true h0],ab,?_⟩,a,b⟩,λ⟨_,a,b⟩=>⟨trivial,a,b⟩⟩,o⟩;have:=b x.to (abx.2 rfl);omega
   have k:¬(iD g s x.to).1=true:=λh=>by have:=(j.1 h).2.2 x.to (abx.2 rfl);omega
   refine⟨⟨λh=>absurd h k,λ⟨h,_⟩=>?_⟩,λh=>absurd h k⟩;have:=h.gv;rw[hg,decide_eq_false h0]at this;cases this
  |false=>
   rw[ap aF];simp only[decide_eq_true_eq];constructor
   .constructor;·intro h;rw[h,ap bo];exact⟨⟨e,by rw[hg,h];rfl,ab,ab⟩,by simpa using f,λu hu=>by cases hu⟩
    rintro⟨h,_⟩;have h1:=h.gv;rw[hg]at h1;have h2:=of_decide_eq_false h1.symm;have:=h.lo;omega
   intro h;rw[h,ap bo];simpa using i
theorem acF(k:G.Sm g)(i:g.bc=n)(j:0<=g.i4){b:G.dW}(hb:b∈g.aj){s:List Bool}{d:List Int}(h:PI n s d)(e:d.Nodup):((kg g s b).1=true↔((∀x∈b.aS,kz g x)/\l6 g b.aB)/\(d++eH b).Nodup/\∀u∈eH b,g.i4<=u/\u<n)/\((kg g s b).1=true->PI n (kg g s b).2 (d++eH b)):=by
 unfold eH kg;obtain⟨h1,h2⟩:=Eb (st:=iD g) (f:=λv=>[v]) (P:=λ_=>True) (R:=λv=>g.i4<=v/\v<n) (la:=b.i4) (λs d a _ h e=>NN i j a h e) s d h e;rw[acD]at h1 h2;simp only[ae9,decide_eq_true_eq,ace];rw[AQ,<-afu];by_cases f:(dC (iD g) s b.i4).1=true
 .obtain⟨q,l,a3⟩:=h1.1 f;obtain⟨h3,m⟩:=Eb (st:=stepG g) (f:=λx:G.d9=>if 0<=x.to then[x.to]else[]) (P:=kz g) (R:=λv=>g.i4<=v/\v<n) (la:=b.aS) (λs d x o h e=>acE i j (k.st b hb x o).1 h e) _ _ (h2 f) l;rw[h3];refine⟨⟨λ⟨⟨_,c1,c2,c3⟩,c4⟩=>⟨⟨c1,c4⟩,c2,λu hu=>?_⟩,λ⟨⟨c1,c4⟩,c2,c3⟩=>⟨⟨f,c1,c2,λu hu=>c3 u (afW _ hu)⟩,c4⟩⟩,λ⟨⟨_,c⟩,_⟩=>m (h3.2 c)⟩;rcases ae8.1 hu with hu|hu;·exact a3 u hu
  exact c3 u hu
 refine⟨⟨λ⟨⟨c,_⟩,_⟩=>absurd c f,λ⟨⟨c1,c4⟩,c2,c3⟩=>absurd (h1.2 ⟨λ_ _=>trivial,(afY.1 c2).1,λv p=>c3 v (afD _ p)⟩) f⟩,λ⟨⟨c,_⟩,_⟩=>absurd c f⟩
theorem acG(w:G.Sm g):sn g↔fu g:=by
 have key:∀n:Nat,g.bc=n->0<=g.i4->_:=λn e y=>Eb (n:=n) (st:=kg g) (f:=eH) (P:=λb=>(∀x∈b.aS,kz g x)/\l6 g b.aB) (R:=λv=>g.i4<=v/\v<n) (la:=g.aj) (λs u b hb c o=>acF w e y hb c o) (aeN n false) [] ⟨aF,λv i=>by simp[afz,agr,i]⟩ ag9;constructor;·intro h;have a:=h.p0;have d:=h.p1;obtain⟨n,e⟩:∃n:Nat,g.bc=n:=⟨g.bc.toNat,ab⟩;have j:g.bc.toNat=n:=ab;have f:=h.run;have q:=h.all;rw[j]at f q;obtain⟨l,m⟩:=key n e a;have c:=m f;obtain⟨r,t,a3⟩:=l.1 f;rw[agq]at t c;refine⟨h.i7,a,d,h.ne,h.first,λb hb=>(r b hb).1,λb hb=>(r b hb).2,t,λv i=>by rw[e];exact a3 v i,λv h1 h2=>?_⟩;obtain⟨v,rfl⟩:∃k:Nat,v=k:=⟨v.toNat,ab⟩;have hl:=c.len;have:=q v ab h1;rw[<-bB ab false]at this;exact(c.bz v ab).1 this
 intro h;have a:=h.p0;have d:=h.p1;obtain⟨n,e⟩:∃n:Nat,g.bc=n:=⟨g.bc.toNat,ab⟩;have j:g.bc.toNat=n:=ab;obtain⟨l,m⟩:=key n e a;have f:=l.2 ⟨λb hb=>⟨h.aS b hb,h.yY b hb⟩,by simpa using h.nd,λv i=>by have:=h.rg v i;omega⟩;have c:=m f;rw[agq]at c;have hl:=c.len;refine⟨h.i7,a,d,h.ne,h.first,by rw[j];exact f,?_⟩;rw[j];intro k z p;have:=(c.bz k ab).2 (h.all k p ab);rw[bB z]at this;exact this
theorem NO:∀(l:List G.d9)(i:Nat),(∀x∈l, -1<=x.to)->(iq l i).map (·.1)=eN l
 |[],_,_=>rfl
 |x::l,i,h=>by
  have h1:=h x (abL ..);have a:=NO l (i+1) λy b=>h y (aco _ b);rw[AQ,ags,<-AQ,iq,afS,a];by_cases e:x.to= -1;·rw[aJ e,ap ab];rfl
  rw[ap e,aJ ab];rfl
theorem NP{b:G.dW}(h:∀x∈b.aS, -1<=x.to):(cK b).map (·.1)=eH b:=by rw[cK,afS,NO _ _ h,eH,ag1];congr 1;exact ahi _
theorem Ij(h:fu g):oM g:=by
 have f:=h.p0;have o:=h.p1;have hb:∀b∈g.aj,(cK b).map (·.1)=eH b:=λb hb=>NP λx l=>(h.aS b hb x l).r.t0;have e:∀b∈g.aj,∀p∈cK b,p.1∈eH b:=λb a p d=>by rw[<-hb b a];exact afI d
 have c:=h.nd;refine⟨ab,f,λb a p d=>h.rg _ (agP.2 ⟨b,a,e b a p d⟩),λb a=>?_,λi j hi hj v p q d m=>?_,λv h0 h1=>?_⟩;·rw[hb b a];obtain⟨i,hi,rfl⟩:=afr a;rw[<-agy i g.aj,afv hi,afX,ags]at c;exact(afY.1 (afY.1 c).2.1).1
 .have h1:v∈eH g.aj[i]:=by have:=e _ (sB hi) _ d;rwa[bm,bB hi]at this
  have h2:v∈eH g.aj[j]:=by have:=e _ (sB hj) _ m;rwa[bm,bB hj]at this
  have key:∀i j(hi:i<g.aj.length)(hj:j<g.aj.length),i<j->v∈eH g.aj[i]->v∈eH g.aj[j]->False:=λi j hi hj s h1 h2=>by rw[<-agy j g.aj,afv hj,afX,ags]at c;refine(afY.1 c).2.2 v ?_ v (afD _ h2) rfl;exact agP.2 ⟨g.aj[i],by rw[List.mem_take_iff_getElem];exact⟨i,ab,rfl⟩,h1⟩
  rcases Nat.lt_trichotomy i j with h3|h3|h3;·exact(key i j hi hj h3 h1 h2).elim
  .exact h3
  exact(key j i hj hi h3 h2 h1).elim
 obtain⟨b,a,k⟩:=agP.1 (h.all v h0 h1);rw[<-hb b a]at k;obtain⟨p,d,rfl⟩:=afE.1 k;obtain⟨i,hi,rfl⟩:=afr a;exact⟨i,p.2,hi,by rw[bm,bB hi];exact d⟩
end
end
section
def cV(x:bK):Int:=2*x.1+x.2
def fx(o:List bK):List Int:=o.map cV
def l7(o:List bK):Prop:=∀x∈o,∃t:Nat,x.1=t/\(x.2=0\/x.2=1)
theorem acR{x y:bK}(c:∃t:Nat,x.1=t/\(x.2=0\/x.2=1))(d:∃t:Nat,y.1=t/\(y.2=0\/y.2=1))(h:cV x=cV y):x=y:=by obtain⟨a,s⟩:=x;obtain⟨b,r⟩:=y;obtain⟨t,h1,h2⟩:=c;obtain⟨u,h3,e⟩:=d;simp only[cV]at h h1 h2 h3 e;have:a=b/\s=r:=ab;rw[this.1,this.2]
theorem N0:∀{o p:List bK},l7 o->l7 p->fx o=fx p->o=p|[],[],_,_,_=>rfl|[],_::_,_,_,h=>by cases h|_::_,[],_,_,h=>by cases h|x::o,y::p,h1,h2,h=>by simp only[fx,afp,afM]at h;rw[acR (h1 x (abL ..)) (h2 y (abL ..)) h.1,N0 (λz a=>h1 z (aco _ a)) (λz a=>h2 z (aco _ a)) h.2]
theorem Ef{x:bK}(a:∃t:Nat,x.1=t/\(x.2=0\/x.2=1)):0<=cV x/\(cV x).toNat/2=x.1.toNat:=by obtain⟨t,h1,h2⟩:=a;unfold cV;omega
section
variable{g:G.be}
theorem y8{b:Nat}{o:List bK}(h:l7 o):(cU g b o).map (λw=>(w.1,fx w.2))=gB g b (fx o):=by
 simp only[cU,gB,bm];split;·simp[fx,cV]
 split
 .cases hl:o.getLast? with
  |none=>
   have:o=[]:=by simpa using hl
   subst this;rfl
  |some x=>
   have i:=List.mem_of_getLast? hl;have d:o≠ []:=λe=>by rw[e]at hl;cases hl
   have c:o.length≠0:=λe=>d (afQ e);have a:o[o.length - 1]'ab=x:=by rw[List.getLast?_eq_getElem?,getElem?_pos o _ ab]at hl;exact Option.some.inj hl
   have f:(fx o).length=o.length:=by simp[fx]
   have j:(fx o).getD (o.length - 1) 0=cV x:=by rw[bB (by rw[f];omega)];simp only[fx,agw,a]
   rw[f,ap c,j];simp only[afp,agu,afM,and_true,abS];refine⟨?_,by simp[fx,List.map_take]⟩;rw[nE,ip,bm,(Ef (h x i)).2]
 rw[ag1];rfl
theorem N1{b:Nat}{o:List bK}(d:l7 o):∀w∈cU g b o,l7 w.2:=by
 intro w a;have mZ:∀s,s=0\/s=1->l7 (o++[((b:Int),s)]):=λs hs x c=>by
  rcases ae8.1 c with c|c;·exact d x c
  rw[abx]at c;subst c;exact⟨b,rfl,hs⟩
 simp only[cU]at a;split at a
 .simp only[acn,afy,or_false]at a;rcases a with rfl|rfl;·exact mZ 0 (.inl rfl)
  exact mZ 1 (.inr rfl)
 split at a
 .split at a;·rw[abx]at a;subst a;exact λx c=>d x (agQ c)
  cases a
 obtain⟨e,_,rfl⟩:=afE.1 a;exact d
theorem fF.qT(a:i9 g){b:Nat}{o:List bK}(h:fF g b o):gC g (-1) b (fx o)/\l7 o:=by
 induction h with
 |zero=>exact⟨.zero bo,λx e=>by cases e⟩
 | @step b o w h c f=>
  obtain⟨h1,h2⟩:=f;obtain⟨h3,i⟩:=h1.ok a;have d:(w.1,fx w.2)∈gB g b (fx o):=by rw[<-y8 h2];exact afE.2 ⟨w,c,rfl⟩
  have:=(pJ a h3 i _ d).1;exact⟨.step h1 d (by simp only;omega),N1 h2 w c⟩
theorem gC.eh{b:Nat}{o:List Int}(h:gC g (-1) b o):∃p,fF g b p/\l7 p/\fx p=o:=by induction h with|zero _=>exact⟨[],.zero,λx c=>(by cases c),rfl⟩| @step b o w h a f d=>obtain⟨p,h1,h2,rfl⟩:=d;rw[<-y8 h2]at a;obtain⟨e,h3,rfl⟩:=afE.1 a;exact⟨e.2,.step h1 h3,N1 h2 _ h3,rfl⟩
variable{come:List Bool}{os:List (List bK)}{c1:List Bool}{o1:List (List Int)}
theorem acS(a:i9 g)(s:g.aj.length<=40)(d:jD g (-1) c1 o1)(e:∀b,ja g (-1) c1 o1 false b):fK g:=by
 refine⟨λh k=>?_,λ{b o}h w l=>?_,λ{b o}h=>?_,λ{b o}h=>?_⟩;·obtain⟨h1,h2⟩:=h.qT a;obtain⟨h3,c⟩:=k.qT a;exact N0 h2 c ((h1.comp a d e).2.symm.trans (h3.comp a d e).2)
 .obtain⟨h1,h2⟩:=h.qT a;obtain⟨h3,c⟩:=h1.ok a;have m:(w.1,fx w.2)∈gB g b (fx o):=by rw[<-y8 h2];exact afE.2 ⟨w,l,rfl⟩
  have:=(pJ a h3 c _ m).1;simp only at this;omega
 .obtain⟨h1,_⟩:=h.qT a;exact⟨(h1.ok a).1,a.t3 b (h1.ok a).1⟩
 obtain⟨h1,h2⟩:=h.qT a;obtain⟨h3,c⟩:=h1.ok a;obtain⟨n,p⟩:=h1.comp a d e;have i:=d.iM b n;rw[p]at i;simp only[fx,afJ]at i;refine⟨⟨λx f=>?_⟩,ab⟩;obtain⟨u,q⟩:=Ef (h2 x f);obtain⟨_,r,j⟩:=c (cV x) (afI f);rw[q]at r j;obtain⟨t,v,_⟩:=h2 x f;exact⟨ab,ab,j⟩
theorem Eg(a:i9 g)(e:fK g)(c:jD g (-1) c1 o1)(f:∀b,ja g (-1) c1 o1 false b)(d:dw g come os){b:Nat}:come.getD b false=true↔c1.getD b false=true:=by
 constructor;·intro h;exact(((d.eh b h).qT a).1.comp a c f).1
 intro h;obtain⟨p,h1,_,_⟩:=(c.snd b h).eh;exact(d.qR e h1).1
theorem Ip(a:i9 g)(d:jD g (-1) c1 o1)(e:∀b,ja g (-1) c1 o1 false b)(c:dw g come os){b:Nat}(h:come.getD b false=true):o1.getD b []=fx (os.getD b [])/\l7 (os.getD b []):=⟨(((c.eh b h).qT a).1.comp a d e).2,((c.eh b h).qT a).2⟩
theorem N3(e:i9 g)(i:fK g)(c:dw g come os){d b:Nat}(h:iF (wW g os) d b):come.getD b false=true/\gC g (d:Int) b (fx (os.getD b [])):=by
 induction h with
 |zero h=>refine⟨c.c0,?_⟩;have:=(c.qR i .zero).2;rw[this];exact .zero ab
 | @step a x h l p m=>
  obtain⟨h1,h2⟩:=m;obtain⟨w,j,rfl⟩:=afE.1 l;have hl:=c.eh a h1;have h3:=c.qR i (.step hl j);have f:=(hl.qT e).2;have k:(w.1,fx w.2)∈gB g a (fx (os.getD a [])):=by rw[<-y8 f];exact afE.2 ⟨w,j,rfl⟩
  obtain⟨n,o⟩:=h2.ok e;have:=(pJ e n o _ k).1;simp only at this;refine⟨h3.1,?_⟩;rw[h3.2];exact .step h2 k (by simp only;omega)
theorem acT(a:i9 g)(l:fK g)(f:jD g (-1) c1 o1)(i:∀b,ja g (-1) c1 o1 false b)(j:dw g come os){d b:Nat}{o:List Int}(h:gC g (d:Int) b o):iF (wW g os) d b:=by induction h with|zero h=>exact .zero ab| @step b o w h c m k=>have n:=(N3 a l j k).1;obtain⟨h1,h2⟩:=Ip a f i j n;have h3:=((h.mono a).comp a f i).2;obtain⟨p,q⟩:=h.ok a;have r:=(pJ a p q _ c).1;rw[<-h3,h1,<-y8 h2]at c;obtain⟨s,e,rfl⟩:=afE.1 c;simp only at r m;exact .step k (afE.2 ⟨s,e,rfl⟩) (by simp only;omega)
theorem N4(c:i9 g)(k:fK g)(d:jD g (-1) c1 o1)(e:∀b,ja g (-1) c1 o1 false b)(l:dw g come os){q:List (List Bool)}(m:pL g q){a b:Nat}(r:a<g.aj.length)(hb:b<g.aj.length):(q.getD a []).getD b false=true↔come.getD a false=true/\come.getD b false=true/\dX (wW g os) a b:=by
 obtain⟨c2,o2,v,f,n,j⟩:=m.ex;obtain⟨_,s,w,y,i,o,p⟩:=j a r;have h2:∀{x},come.getD x false=true↔c2.getD x false=true:=λ{x}=>by
  rw[Eg c k d e l];constructor;·intro h;exact(d.snd x h).y7 c d e f n
  intro h;exact((f.snd x h).comp c d e).1
 rw[p b hb,pK,h2,h2];simp only[ae9,agd,decide_eq_true_eq,af4,and_assoc];refine and_congr_right λ_=>and_congr_right λu=>?_;constructor
 .rintro(rfl|h);·exact dX.acv
  intro t;have:=(N3 c k l t).2.y7 c d e i o;rw[h]at this;cases this
 intro hd;cases h:s.getD b false with|false=>exact .inr rfl|true=>exact absurd (acT c k d e l (i.snd b h)) hd
end
end
section
variable{ac:Nat->aX}
structure Iq(g:G.be):Prop where
 iM:yU g
 Ir:jC g=false
 nF:fu g
 right:mI g
theorem AX{g:G.be}(h:yU g)(hg:jC g=false):g.aj.length<=40/\g.bc<=300:=by simp only[jC,Bool.or_eq_false_iff,decide_eq_false_iff_not]at hg;have h1:=h.nb;have h2:=h.nv;omega
section
variable{g:G.be}{H:ah}{cs:List AV}
theorem acU(T:Tb ac)(hg:gu H g cs)(c:yU g)(k:qN g){K:KT}(h1:∀a,aZ H a->Iq g->K (aI 0) a)(l:∀a,aZ H a->jC g=true->K (aI 5) a)(m:∀a,aZ H a->jC g=false->¬fu g->K (aI 4) a)(n:∀a,aZ H a->jC g=false->fu g->NY g->¬mI g->K (aI 9) a):YN ac Wg [.agg cs] H K:=by
 have j:=hg.one;have b:=hg;obtain⟨t,rfl,bW⟩:=hg;have⟨p,_,_,r⟩:=bW.all;refine YF.code T.Y3 aF ?_;refine ai ?_;refine RO.dp (aq.ct H) λu q U=>?_;refine ai ?_;refine RO.dj U 0 ?_;refine RO.cl (abD T (cY.jk U.gr b) c.sm (λd hg h=>?_) (λd hg e=>?_));rotate_left;·have U:=U.cq hg;refine ai ?_;exact Ru.aP (l _ U.gr e)
 have U:=U.cq hg;obtain⟨f,s⟩:=AX c h;refine ai ?_;refine RO.dj U 0 ?_;refine RO.cl (ab8 T (cY.jk U.gr b) c.sm k c.nm ab (λd hg i=>?_) (λd hg e=>?_));rotate_left;·have U:=U.cq hg;refine ai ?_;exact Ru.aP (m _ U.gr h e)
 have U:=U.cq hg;refine ai ?_;refine RO.dj U 0 ?_;refine RO.cl (acQ T (cY.jk U.gr b) c.sm i f ab (λd hg o=>?_) (λd hg gr e=>?_));rotate_left;·have U:=U.cq hg;refine ai ?_;exact Ru.aP (n _ U.gr h i gr e)
 have U:=U.cq hg;refine ai ?_;exact Ru.aP (h1 _ U.gr ⟨c,h,i,o⟩)
end
end
section
theorem Is{l:List Int}{n:Nat}{p:Int×Int}(h:p∈kj l n):p.1∈l/\p.2=n:=by obtain⟨x,a,rfl⟩:=afE.1 h;exact⟨a,rfl⟩
theorem N5:∀{l:List G.d9}{i:Nat}{p:Int×Int},p∈fZ l i->∃j,∃h:j<l.length,p.2=((i+j:Nat):Int)/\p.1∈l[j].args
 |s::l,i,p,h=>by
  rw[fZ]at h;rcases ae8.1 h with h|h;·obtain⟨h1,h2⟩:=Is h;exact⟨0,aF,by simpa using h2,h1⟩
  obtain⟨j,hj,h1,h2⟩:=N5 h;exact⟨j+1,by simpa using hj,by rw[h1];congr 1;omega,by simpa using h2⟩
theorem N6:∀{l:List G.Edge}{n:Nat}{p:Int×Int},p∈gY l n->p.2=n/\∃e∈l,p.1∈e.args
 |e::l,n,p,h=>by
  rw[gY]at h;rcases ae8.1 h with h|h;·obtain⟨h1,h2⟩:=Is h;exact⟨h2,e,abL ..,h1⟩
  obtain⟨h1,a,h2,h3⟩:=N6 h;exact⟨h1,a,aco _ h2,h3⟩
theorem N7{B:G.dW}{p:Int×Int}(h:p∈gw B):∃k,k<=B.aS.length/\p.2=(k:Int)/\p.1∈gP B k:=by
 rw[gw]at h;have a:p.1∈jS B.aB->p.2=(B.aS.length:Int)->∃k,k<=B.aS.length/\p.2=(k:Int)/\p.1∈gP B k:=λh1 h2=>⟨_,adv _,h2,by rw[gP,ap ab];exact h1⟩;rcases ae8.1 h with h|h;·obtain⟨j,hj,h1,h2⟩:=N5 h;exact⟨j,ab,by rw[h1];simp,by rw[gP,aJ hj,bB hj];exact h2⟩
 rcases ae8.1 h with h|h;·obtain⟨h1,h2⟩:=Is h;exact a (afD _ h1) h2
 obtain⟨h1,e,h2,h3⟩:=N6 h;exact a (afW _ (agP.2 ⟨e,h2,h3⟩)) h1
theorem acV{B:G.dW}{i:Nat}(h:i<B.aS.length)(a:B.aS[i].to≠ -1):(B.aS[i].to,(i:Int))∈cK B:=by obtain⟨b,e,_⟩:=NB B h a;rw[<-e];exact adq b
theorem acW{B:G.dW}{x:Int}(h:x∈B.i4):(x, -1)∈cK B:=afD _ (afI h)
section
variable{g:G.be}{come:List Bool}{os:List (List bK)}
theorem It(d:fu g)(j:oM g){gl:List Int}(a:jE g.bc.toNat g.i4.toNat gl (iO g g.aj.length)){v:Int}(h0:g.i4<=v)(h1:v<g.bc):∃s:Nat,s<g.aj.length/\gl.getD v.toNat 0=s/\uA g v=s:=by have e:=d.all v h0 h1;rw[<-agT (l:=g.aj),<-AT g _ (adv _)]at e;obtain⟨p,f,rfl⟩:=afE.1 e;have h2:=a.bz p f;obtain⟨i,hi,b⟩:=agP.1 f;rw[agK]at hi;obtain⟨x,h,rfl⟩:=afE.1 b;refine⟨i,hi,h2,?_⟩;have hb:=sB hi;rw[<-NP λy k=>(d.aS _ hb y k).r.t0]at h;obtain⟨q,l,c⟩:=afE.1 h;have:=j.at (v:=x) (p:=q.2) hi (by rw[<-c];exact l);simp only[uA];rw[this]
theorem N8(A:fu g)(hn:g.aj.length<=40)(h:mI g)(S:fK g)(C:oM g)(D:dw g come os):qP g come os:=by
 obtain⟨c1,o1,W,gl,B,E,H,I,J⟩:=h.ex;have j:=A.sh;have key:∀b,come.getD b false=true->b<g.aj.length/\uD g o1 W gl b/\o1.getD b []=fx (os.getD b [])/\l7 (os.getD b [])/\oN g (fx (os.getD b [])):=λb hb=>by have h1:=(Eg j S B E D).1 hb;have h2:=Ip j B E D hb;have h3:=(B.snd b h1).ok j;rw[h2.1]at h3;exact⟨h3.1,J b h3.1 h1,h2.1,h2.2,h3.2⟩
 refine⟨λb hb K=>?_,λb hb L=>?_,λb hb p X=>?_⟩
 .obtain⟨d,l,F,M,dF⟩:=key b hb;obtain⟨h1,h2⟩:=l.en K;rw[F]at h1 h2;have hl:(fx (os.getD b [])).length=(os.getD b []).length:=by simp[fx]
  rw[hl]at h1 h2;generalize os.getD b []=o at*;have f:o.length - 1<o.length:=ab;have T:=adq f;have he:(fx o).getD (o.length - 1) 0=cV o[o.length - 1]:=by rw[bB (by rw[hl];exact f)];simp only[fx,agw]
  rw[he]at h2;have m:nE g (cV o[o.length - 1])=ip g o[o.length - 1]:=by rw[nE,ip,bm,(Ef (M _ T)).2]
  obtain⟨_,Y,k3⟩:=dF (cV o[o.length - 1]) (afI T);have N:=j.rg _ Y _ (adq (l:=(bm g ((cV o[o.length - 1]).toNat/2)).aB.go) (n:=2) ab);have O:nE g (cV o[o.length - 1])=(bm g ((cV o[o.length - 1]).toNat/2)).aB.go[2].block:=by rw[nE,bB ab]
  rw[<-O,m]at N;rw[m]at h2;exact⟨o[o.length - 1],by rw[List.getLast?_eq_getElem?,getElem?_pos o _ f],ab,ab,h2.symm⟩
 .obtain⟨_,l,F,_,_⟩:=key b hb;have:=l.rt L;rw[F]at this;simpa[fx]using this
 obtain⟨d,l,_,_,_⟩:=key b hb;obtain⟨k,Z,P,a⟩:=N7 X;have hrd:=l.rd k Z p.1 a;obtain⟨x,bz⟩:=p;simp only at P a hrd;have Q:=C.v0;have ag:=Ii Q;have w:0<=x/\x<g.bc:=by
  have n:=sB d;unfold gP at a;split at a;·rename_i V;rw[bB V]at a;have:=(A.aS _ n _ (adq V)).r.iE x a;omega
  have u:=A.yY _ n;rcases ae8.1 a with a|a;·have:=u.iE x a;omega
  obtain⟨e,he,a⟩:=agP.1 a;obtain⟨y,G,rfl⟩:=afr he;have:=(u.AL y G).iE x a;omega
 obtain⟨t,rfl⟩:∃t:Nat,x=t:=⟨x.toNat,ab⟩;refine⟨t,rfl,ab,?_⟩;by_cases z:(t:Int)<g.i4;·exact .inl z
 obtain⟨s,hs,R,v⟩:=It A C I (v:=(t:Int)) ab w.2;simp only[uA,afs]at v;unfold pM at hrd;rw[R,afs]at hrd;rcases hrd with h1|⟨h1,h2⟩|h1;·omega
 .have h3:=(N4 j S B E D H hs d).1 h2;exact .inr (.inr ⟨s,v,ab,h3.1,h3.2.2⟩)
 obtain⟨q,hq,av⟩:∃q,((t:Int),q)∈cK (bm g b)/\q<(k:Int):=by
  rcases ae8.1 h1 with h1|h1;·exact⟨-1,acW h1,ab⟩
  have h2:=h1;rw[AQ]at h2;obtain⟨y,G,c⟩:=agP.1 h2;obtain⟨i,hi,rfl⟩:=afr G;rw[afH]at hi;rw[List.getElem_take]at c;split at c;·rename_i h4;rw[abx]at c;refine⟨i,?_,ab⟩;rw[c];exact acV ab ab
  cases c
 have:=C.at d hq;rw[afs]at this;exact .inr (.inl ⟨by rw[this],by rw[this];simp only;omega⟩)
theorem N9(a:fu g)(b:g.aj.length<=40)(h:mI g):fK g:=by obtain⟨c1,o1,j,gl,c,d,e,f,i⟩:=h.ex;exact acS a.sh b c d
end
end
section
variable{ac:Nat->aX}
theorem adn(T:Tb ac){H:ah}{b:af}(c:b.am<H.next.am)(hc:bx H b 6=some (.bool true)){K:KT}(h:∀a,aZ H a->K (.bool false) a):YN ac Mi [.aE b 0] H K:=by refine YF.code T.Mx aF ?_;refine au ?_;refine RO.dp (aq.ct H) λd e U=>?_;refine RO.eL U λf g U=>?_;refine ai ?_;refine RO.bi ?_ (v:=.bool true) (hc:=by rw[U.gr.bx c];exact hc);refine ai ?_;refine RO.ez U 0 (λi U=>?_);refine ai ?_;exact Ru.kS (M:=[]) (ts:=[_,_]) (by simpa[fJ]using U) λa U=>⟨[.bool false],⟨⟨_,_,rfl,U.one 0⟩,trivial⟩,h a U.gr⟩
end
end Go.al.R
end
