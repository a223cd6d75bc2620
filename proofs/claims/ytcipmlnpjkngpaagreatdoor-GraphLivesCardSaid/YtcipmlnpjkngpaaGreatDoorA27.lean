/- A part. No conditions. -/
import Derived.Test.YtcipmlnpjkngpaaGreatDoorA25
set_option linter.all false
open List renaming replicate->aeo
open Prod renaming fst->agw
noncomputable section
namespace Go.ak.R
section
variable{ac:Nat->aX}{b:Type}
def ZF(size:Nat)(ld:bC):bg:=(.seq (.region [O p4 (.bk (T p1)),O p5 (.kn (T p4)),O p6 (.arith .sub 3 (T p5) (I 3 1)),O p3 (.bw (T p6))]) (.block 0 (.loop (.seq (.seq (.region [O p7 (.bw (T p3)),O p8 (.arith .geq 3 (T p7) (I 3 0))]) (.cond (T p8) .skip (.exit 0))) (.seq (.block 1 (.seq (.region [O fJ (.bw (T p0)),O iS (.bw (T p3)),O k6 (.bk (T p1)),O k7 (.bw (T p3)),O nZ (.dO size (T k6) (T k7)),O qq ld,O n6 (.call (T fJ) [(T iS),(T qq)]),O n8 (.unary .not (T n6))]) (.cond (T n8) .ret .skip))) (.region [O p9 (.bw (T p3)),O gf (.arith .sub 3 (T p9) (I 3 1)),O p3 (.bw (T gf))]))))))
def ZG(R:b->List AV->Prop)(agg:Bool)(a:List b)(k:Nat)(args:List AV)(c:List Th):Prop:=c=[]/\∃(h:a.length - 1 - k<a.length)(cs:List AV),R a[a.length - 1 - k] cs/\args=[aN (a.length - 1 - k),qB agg cs]
theorem KZ{A:ai}{size nt f e:Nat}{agg:Bool}{R:b->List AV->Prop}{la:List b}{sv:AV}{j:af}(x:ac f=.code nt [] (ZF size (yr size agg (ak.T nZ))))(G:2<=nt)(hl:la.length<=1000000)(h1:agg=false->size=1)(hd:∀a cs,R a cs->(qB agg cs).bq=true):yG ac A (.func f [] [.aD j 0]) la.length (ZG R agg la) [tB e j [sv]] (λH=>cK size (λ_=>R) H la sv) (λH=>cK size (λ_=>R) H la sv):=by
 intro y J D c us H K I L N n g i U z d;have⟨O,_,_,Q⟩:=z.all;refine YF.code x (by simp;omega) ?_;refine ah ?_;refine RO.sub (a:=(la.length:Int)) (b:=1) ?_;refine ah ?_;refine Ru.nm λS M B u=>?_;refine Ru.bM u (up (P:=λk=>∀l c,J k c->al A l (tB e j [sv]::(c++us))->Ru ac _ S ([(p3,aI ((la.length:Int) - 1 - k))]++pk M [p0,p1]) l) la.length (λk V C l c i U=>?_) 0 ab _ c i U) (by simp;exact⟨rfl,trivial⟩);subst B;subst u;refine Ru.loop ?_;refine ah ?_;refine Ru.cond (λ(p:(0:Int)<=(la.length:Int) - 1 - k)=>?_) (λ(p:¬(0:Int)<=(la.length:Int) - 1 - k)=>?_)
 .obtain⟨t,E⟩:∃t:Nat,(la.length:Int) - 1 - k=(t:Int):=⟨la.length - 1 - k,ab⟩;have r:t=la.length - 1 - k:=ab;rw[E];have hs:=n k c (tB e j [sv]::us) l i U.AC;refine ah ?_;refine RO.bW (aZ.refl _) hs (λq o cs hj w m hat hrd=>?_) (j:=t);have P:=hd _ _ w;refine RO.JZ m h1 hat hrd ?_;subst r;refine RO.cl ((g k [aN (la.length - 1 - k),qB agg cs] [] c _ _ ab ⟨rfl,hj,cs,w,rfl⟩ i U.AC).mono ?_);rintro v W⟨s,U,m⟩;rcases m with⟨rfl,h⟩|⟨rfl,h⟩;·refine ah ?_;refine RO.sub (a:=((la.length - 1 - k:Nat):Int)) (b:=1) ?_;refine ah ?_;have F:(((la.length - 1 - k:Nat):Int) - 1:Int)=(la.length:Int) - 1 - (k+1:Nat):=ab;rw[F];exact Ru.wk (C (k+1) ab ab _ _ h U.rH)
  refine ah ?_;exact Ru.mI (vs:=[]) trivial (d _ s _ U.rH.tail (.inr h))
 refine Ru.exitTo ?_;refine ah ?_;refine Ru.aA (vs:=[]) trivial (d _ c _ U.tail (.inl ?_));rw[show la.length=k by omega];exact i
theorem K0{f c e cl:Nat}{a:AV}{H:ai}(h:ac f=.code c [.tmp p2] (.seq (.region [O p1 (.box e (ak.T p0)),O p2 (.bw (C .nilFunc))]) (.seq (.region [O p3 (.mu cl [] [(ak.T p1)]),O p2 (.bw (ak.T p3))]) .ret)))(j:1<=c)(hd:a.bq=true)(h1:a.db=true)(d:a.cells=[a]){K:KT}(i:∀g q,al H g [tB e q [a]]->K (.func cl [] [.aD q 0]) g):YN ac f [a] H K:=by refine YF.code h (by simp;omega) ?_;refine au ?_;refine RO.cG (al.bY H) (λk q U=>?_) (ho:=by rw[d];exact ao h1 rfl);rw[d]at U;refine au ?_;exact Ru.aP (i _ q U)
end
end Go.ak.R
namespace Go.ak
section
def tM(ex:Bool)(q:af)(S:Int->Prop):Th where
 P H b:=q∈b/\(∀j∈b,j=q)/\(∃ks,jG (H.get q) ks/\∀x,x∈ks↔S x)/\(ex=true->∃es c,H.get q=.map es c)/\q.az<H.next.az
 fr h e hg:=⟨h.1,h.2.1,by rw[hg _ h.1];exact h.2.2.1,by rw[hg _ h.1];exact h.2.2.2.1,ae2 h.2.2.2.2 e⟩
 lt h:=by intro j hj;rw[h.2.1 j hj];exact h.2.2.2.2
def ik(p:Int×Int):AV×AV:=(.int 3 p.1,.int 3 p.2)
def tI(q:af)(pl:List (Int×Int)):Th where
 P H b:=q∈b/\(∀j∈b,j=q)/\(∃es c,H.get q=.map es c/\es.map aV.kv=pl.map ik)/\(pl.map agw).Nodup/\q.az<H.next.az
 fr h e hg:=⟨h.1,h.2.1,by rw[hg _ h.1];exact h.2.2.1,h.2.2.2.1,ae2 h.2.2.2.2 e⟩
 lt h:=by intro j hj;rw[h.2.1 j hj];exact h.2.2.2.2
section
variable{A H:ai}{ts:List Th}{q:af}{S a:Int->Prop}{ex:Bool}{pl:List (Int×Int)}{z y:Int}
variable{ac:Nat->aX}{c:Cx}{s:List SI}{L:Kn}{d:Option af}{l:List bu}
theorem al.ER{t t':Th}(U:al A H ts)(i:Nat)(hi:ts[i]?=some t){b:ai}(g:b.next=H.next)(hg:∀j,j≠q->b.get j=H.get j)(h1:∀f,t.P H f->q∈f)(h2:t'.P b [q]):al A b (ts.set i t'):=by
 obtain⟨f,h,_,hu⟩:=U.iu i hi;refine hu (fp':=[q]) ⟨Nat.le_of_eq (by rw[g]),λj hj=>?_,λj hj g=>?_⟩ h2;·rw[aaN]at hj;subst hj;exact .inl (h1 _ h)
 exact hg j λe:j=q=>hj (by rw[e];exact h1 _ h)
theorem al.yO(U:al A H ts)(i:Nat)(hi:ts[i]?=some (tM ex q S):=by rfl):(∃b,jG (H.get q) b/\∀x,x∈b↔S x)/\(ex=true->∃es c,H.get q=.map es c)/\q.az<H.next.az:=by obtain⟨f,e⟩:=U.get i hi;exact e.2.2
theorem al.Bj(U:al A H ts)(i:Nat)(hi:ts[i]?=some (tI q pl):=by rfl):(∃es c,H.get q=.map es c/\es.map aV.kv=pl.map ik)/\(pl.map agw).Nodup/\q.az<H.next.az:=by obtain⟨e,b⟩:=U.get i hi;exact b.2.2
theorem al.ZI(U:al A H ts){o:bO}{S:Int->Prop}{ks:List Int}(hs:jG o ks)(b:∀x,x∈ks↔S x)(e:ex=true->∃es c,o=.map es c):al A (H.new o) (tM ex H.next S::ts):=U.push (fp:=[H.next]) (aZ.new H o) ⟨aaN.2 rfl,λj hj=>aaN.1 hj,⟨ks,by rw[ai.cZ,aH rfl];exact hs,b⟩,λh=>by rw[ai.cZ,aH rfl];exact e h,by rw[ai.lD];omega⟩ (rI H)
theorem RO.ZJ(U:al A H ts)(h:∀b q,al A b (tM true q (λ_=>False)::ts)->RO ac c l s (bj L d (.map q)) b):RO ac c (⟨d,.je,none,[],[]⟩::l) s L H:=RO.je (h _ _ (U.ZI (ks:=[]) ⟨List.nodup_nil,[],rfl,rfl⟩ (λx=>by simp) λ_=>⟨[],0,rfl⟩))
theorem RO.jr(U:al A H ts)(i:Nat){x y:aK}(h:∀t:Bool,(t=true↔S z)->RO ac c l s (bj L d (.bool t)) H)(hi:ts[i]?=some (tM ex q S):=by rfl)(e:aT L x=.map q:=by exact cw)(f:aT L y=.int 3 z:=by exact cw):RO ac c (⟨d,.lookup .int (.bool false) false x y,none,[],[]⟩::l) s L H:=by obtain⟨⟨g,hs,j⟩,he,k⟩:=U.yO i hi;exact RO.op (λaa b=>Iu (b.gv e rfl) (b.gv f rfl) hs) (h (fc z g) (by rw[pb,j]))
theorem K4{k:Int}:∀{es:List aV}{pl:List (Int×Int)},es.map aV.kv=pl.map ik->k∉pl.map agw->∀i0,findKey .int (.int 3 k) es i0=some none
 |[],_,_,_,_=>rfl
 |e::es,[],h,_,_=>by simp at h
 |e::es,p::pl,h,b,i0=>by
  simp only[aez,ae1,aV.kv,ik,acn]at h;simp only[aez,aer,not_or]at b;have g:gU k p.1=false:=by rw[eU];simpa using b.1
  have f:cQ 64 .int (.int 3 k) (.int 3 p.1)=some (gU k p.1):=by simp[cQ]
  simp only[findKey,h.1.1,f,g];exact K4 h.2 b.2 _
theorem RO.ZK(U:al A H ts)(h:∀b q,al A b (tI q []::ts)->RO ac c l s (bj L d (.map q)) b):RO ac c (⟨d,.je,none,[],[]⟩::l) s L H:=RO.je (h _ _ (U.push (fp:=[H.next]) (aZ.new H _) ⟨aaN.2 rfl,λj hj=>aaN.1 hj,⟨[],0,by rw[ai.cZ,aH rfl],rfl⟩,List.nodup_nil,by rw[ai.lD];omega⟩ (rI H)))
theorem RO.ZL(U:al A H ts)(i:Nat){x w:aK}(k:z∉pl.map agw)(h:∀m,al A m (ts.set i (tI q (pl++[(z,y)])))->RO ac c l s (bj L d .agx) m)(hi:ts[i]?=some (tI q pl):=by rfl)(p:aT L x=.map q:=by exact cw){n:aK}(r:aT L n=.int 3 z:=by exact cw)(t:aT L w=.int 3 y:=by exact cw):RO ac c (⟨d,.iV .int x n w,none,[],[]⟩::l) s L H:=by
 obtain⟨⟨es,cc,he,o⟩,u,g⟩:=U.Bj i hi;refine RO.op (λaa f=>?_) (h (H.set q (.map (es++[⟨.int 3 z,.int 3 y,cc⟩]) (cc+1))) (U.ER (q:=q) i hi rfl (λj hj=>by rw[ai.aJ,ap hj]) (λC v=>v.1) ⟨aaN.2 rfl,λj hj=>aaN.1 hj,⟨_,_,by rw[ai.aJ,aH rfl],by simp[o,aV.kv,ik]⟩,?_,by rw[ai.eI];exact g⟩));·simp only[aE,gB,aeY,abu,bA,f.gv p rfl,f.gv r rfl,f.gv t rfl,he,K4 o k 0]
 simp only[aeZ,aez,afC];rw[afa];exact⟨u,aC,λD B b hb=>by simp only[aaN]at hb;subst hb;exact λe=>k (e▸B)⟩
theorem K5:∀{es:List aV}{pl:List (Int×Int)},es.map aV.kv=pl.map ik->jl.go es=some pl/\iC es=some (pl.map agw)|[],[],_=>⟨rfl,rfl⟩|[],_::_,h=>by simp at h|_::_,[],h=>by simp at h|e::es,p::pl,h=>by simp only[aez,ae1,aV.kv,ik,acn]at h;obtain⟨h1,h2⟩:=K5 h.2;simp only[jl.go,iC,h.1.1,h.1.2,h1,h2,aez,and_self]
theorem al.pB(U:al A H ts)(i:Nat)(hi:ts[i]?=some (tI q pl):=by rfl):jl H q=some pl/\jk H q=some (pl.map agw):=by obtain⟨⟨es,cc,he,b⟩,e,f⟩:=U.Bj i hi;obtain⟨h1,h2⟩:=K5 b;unfold jl jk;simp only[he,dX,h1,h2,(xV _).2 e,bc,and_self]
theorem K6:∀{es:List aV}{ks:List Int},es.map aV.kv=ks.map sk->s6 es=some ks/\iC es=some ks|[],[],_=>⟨rfl,rfl⟩|[],_::_,h=>by simp at h|_::_,[],h=>by simp at h|e::es,p::pl,h=>by simp only[aez,ae1,aV.kv,sk,acn]at h;obtain⟨h1,h2⟩:=K6 h.2;simp only[s6,iC,h.1.1,h.1.2,h1,h2,and_self]
theorem K7{b:List Int}(h:jG (H.get q) b):mF H q=some b/\jk H q=some b:=by obtain⟨e,es,he,f⟩:=h;obtain⟨h1,h2⟩:=K6 f;unfold mF jk;simp only[he,h1,h2,(xV _).2 e,bc,and_self]
def yP(bV:List af):Kn->Kn->Prop
 |[],_=>True
 |(p,v)::l,m=>vI p bV=false/\lk m p=v/\yP bV l m
theorem yP.le{bV:List af}{aa:am AV}(e:Le L aa):∀{M:Kn},yP bV M L->Le M (kY aa bV)|[],_=>λp v h=>.inl h.symm|(q,w)::M,h=>λp v b=>by simp only[lk]at b;cases hb:af.beq q p with|true=>rw[hb]at b;obtain rfl:=af.fo.1 hb;rw[DH,ap λf=>by have h0:=h.1;rw[(IJ _ _).2 f]at h0;cases h0];exact e q v (h.2.1.trans b)|false=>rw[hb]at b;exact yP.le e h.2.2 p v b
theorem Ru.eF{t:Nat}{g:am AV->ai->Option (am AV×ai)}{bV:List af}{M:Kn}{H':ai}(e:ac t=.eF g)(hg:∀aa,Le L aa->g aa H=some (kY aa bV,H'))(h:Ru ac c s M H')(hl:yP bV M L:=by repeat'(first|exact trivial|refine⟨rfl,rfl,?_⟩)):Ru ac c (.code (.eF t)::s) L H:=λaa b=>by refine⟨1,?_⟩;simp only[Xc,exec,e,hg aa b];exact h _ (hl.le b)
end
end
end Go.ak
namespace Go.ak.R
section
theorem Lh{op:Nat}:∀{l:List (Nat×mW)},(oD op l).w≠ []->op∈l.map (·.1)
 |[],h=>absurd rfl h
 |p::l,h=>by
  unfold oD at h;split at h;·rename_i e;rw[e];exact acm ..
  exact aen _ (Lh h)
theorem ZW{t:List Nat}(h:eM t≠0):jo t:=by
 unfold eM at h;split at h;·rename_i a;simp only[yz,aer,aeS,or_false]at a;rcases a with rfl|rfl|rfl|rfl|rfl<;>exact⟨bK,bK,bK⟩
 split at h;·rename_i a;simp only[yA,aer,aeS,or_false]at a;rcases a with rfl|rfl|rfl|rfl|rfl|rfl|rfl|rfl|rfl|rfl|rfl<;>exact⟨bK,bK,bK⟩
 split at h;·rename_i a;simp only[yB,aer,aeS,or_false]at a;subst a;exact⟨bK,bK,bK⟩
 exact absurd rfl h
structure Bm(g:G.aY)(x:G.dI)(r:lf):Prop where
 c:yE g x r
 gv:r.tP=decide (0<=x.to)
 lo: -1<=x.to
 hi:x.to<g.aW
section
variable{g:G.aY}
theorem Bn{x:G.dI}{r:lf}{f:mW}(hg:r.tP=f.to)(e:r.wu=if f.n then f.lo else 0)(i:r.ww=if f.n then f.hi else 0)(b:lj f.nm x.i7↔wx r.nm x.i7)(d:((x.op=15\/x.op=18->x.args.length<=6)/\(x.op≠15->x.op≠18->mY (yR f x.i7) x.args.length))↔(r.yC<=x.args.length/\x.args.length<=r.yD)):sd x g.aW f↔Bm g x r:=by
 have a:(r.wu<=x.n/\x.n<=r.ww)↔((f.n=true->f.lo<=x.n/\x.n<=f.hi)/\(f.n=false->x.n=0)):=by rw[e,i];cases f.n<;>simp<;>omega
 constructor;·intro h;exact⟨⟨d.1 ⟨h.mn,h.mo⟩,b.1 h.i7,a.2 ⟨h.num,h.Lb⟩,h.lw,h.iy⟩,by rw[hg,h.to],h.t0,h.t1⟩
 intro h;obtain⟨h1,h2⟩:=a.1 h.c.num;obtain⟨h3,j⟩:=d.2 h.c.args;exact⟨by rw[<-hg,h.gv],h.lo,h.hi,h.c.iy,h1,h2,h.c.lw,b.2 h.c.i7,h3,j⟩
def wH:List Nat:=[1,2,3,4,11,40,15,18,37,38,16,17,23,24,25,26,31,32,33,34,35,39,64,13,14]
theorem Li{op:Nat}:∀{l:List (Nat×lf)}{i:Nat},op∉l.map (·.1)->rU op l i=none|[],_,_=>rfl|p::l,i,h=>by simp only[aez,aer,not_or]at h;rw[rU,ap h.1];exact Li h.2
theorem ZX{x:G.dI}{r:lf}(h:mg x=some r):x.op∈wH:=by
 apply aeW;intro a;have b:x.op≠14:=λe=>a (by rw[e];decide);have c:x.op≠13:=λe=>a (by rw[e];decide);rw[mg,ap b,ap c,Li λd=>a ?_]at h;·cases h
 have:lH.map (·.1)=wH.take 23:=rfl;rw[this]at d;exact af1 d
theorem ZY{x:G.dI}(h:kg g x):x.op∈wH:=by have a:=Lh h.w;have h1:=h.op;simp only[yQ,sc,afk,afz,aez,afC,aer,aeS,or_false]at a;simp only[pE,aer,aeS,or_false,not_or]at h1;simp only[wH,aer,aeS,or_false];omega
theorem Bo{x:G.dI}{r:lf}(c:mg x=some r)(h1:x.op∉pE)(h2:(li x.op).w≠ [])(h:sd x g.aW (lL x.op x.m)↔Bm g x r):kg g x↔∃r,mg x=some r/\Bm g x r:=⟨λb=>⟨r,c,h.1 b.r⟩,λ⟨d,a,b⟩=>by rw[c]at a;injection a with a;subst a;exact⟨h1,h2,h.2 b⟩⟩
theorem ZZ{x:G.dI}(hl:x.args.length<=12):kg g x↔∃r,mg x=some r/\Bm g x r:=by
 by_cases b:x.op∈wH;rotate_left;·exact⟨λh=>absurd (ZY h) b,λ⟨r,h,_⟩=>absurd (ZX h) b⟩
 obtain⟨op,to,args,n,m,i7⟩:=x;simp only[wH,aer,aeS,or_false]at b;simp only at hl;rcases b with rfl|rfl|rfl|rfl|rfl|rfl|rfl|rfl|rfl|rfl|rfl|rfl|rfl|rfl|rfl|rfl|rfl|rfl|rfl|rfl|rfl|rfl|rfl|rfl|rfl;all_goals first|exact Bo rfl (by dsimp only;decide) (by dsimp only;decide) (Bn rfl rfl rfl Iff.rfl (by simp[mY,yR,lL,li,yQ,sc,oD];try first|omega|(rw[<-List.length_eq_zero_iff];omega)))|skip
 .by_cases a:m=1;·subst a;refine Bo (r:=⟨true,0,6,1,0,0⟩) rfl (by dsimp only;decide) (by dsimp only;decide) (Bn rfl rfl rfl Iff.rfl ?_);simp[mY,yR,lL,li,yQ,sc,oD];omega
  have d:lL 13 m=⟨[99,97,108,108],true, -2,false,0,0,0,0⟩:=by rw[lL,ap λh=>a h.2];rfl
  refine Bo (r:=⟨true,1,7,0,0,0⟩) (by simp[mg,a]) (by dsimp only;decide) (by dsimp only;decide) ?_;show sd _ g.aW (lL 13 m)↔_;rw[d];refine Bn rfl rfl rfl Iff.rfl ?_;simp[mY,yR];omega
 by_cases c:eM i7=0
 .constructor;·intro h;exact absurd c h.r.i7
  rintro⟨r,e,_⟩;simp[mg,c]at e
 refine Bo (r:=⟨true,eM i7,eM i7,1,0,0⟩) (by simp only[mg,bc];rw[aH ab]) (by dsimp only;decide) (by dsimp only;decide) (Bn rfl rfl rfl ⟨λ_=>ZW c,λ_=>c⟩ ?_);show(_/\(_->_->mY (eM i7) args.length))↔_;simp[mY];omega
theorem kI.ok{j:G.eV}{k:Nat}{e:G.Edge}(h:kI g j k e)(a:¬(j.op=67/\k=2)):kE g e (fg j k):=⟨h.lo,by have:=h.hi;omega,h.aM a,h.iy⟩
theorem kE.er{j:G.eV}{k:Nat}{e:G.Edge}(h:kE g e (fg j k))(a:j.op=67->e.args=[]/\k≠2):kI g j k e:=⟨h.lo,by have:=h.hi;omega,h.iy,λb=>⟨(a b).1,λh2=>absurd h2 (a b).2⟩,λ_=>h.aM⟩
theorem EX{j:G.eV}(c:j.op≠67){a:List Nat}(f:∀k(h:k<a.length),a[k]=fg j k):lg g j.go a↔j.go.length=a.length/\∀k(h:k<j.go.length),kI g j k j.go[k]:=by
 have e:j.go.length=a.length->∀k,k<j.go.length->a.getD k 0=fg j k:=λhl k h=>by rw[bm ab,f]
 constructor;·intro h;refine⟨h.len,λk b=>?_⟩;have:=h.ok k b;rw[e h.len k b]at this;exact this.er λd=>absurd d c
 rintro⟨h1,h2⟩;refine⟨h1,λk b=>?_⟩;rw[e h1 k b];exact(h2 k b).ok λd=>c d.1
theorem Lj{j:G.eV}(b:j.op=67):tT g j.go↔j.go.length=3/\∀k(h:k<j.go.length),kI g j k j.go[k]:=by
 have i0:fg j 0=0:=by simp[fg,b]
 have i:fg j 1=1:=by simp[fg,b]
 constructor;·intro h;obtain⟨t,u,l,he,h0,h1,⟨a0,e,d⟩,⟨b1,b2⟩,n⟩:=h.ex;rw[he];refine⟨rfl,λk o=>?_⟩;match k,o with|0,_=>exact kE.er (by rw[i0];exact h0) λ_=>⟨a0,bK⟩|1,_=>exact kE.er (by rw[i];exact h1) λ_=>⟨e,bK⟩|2,_=>exact⟨b1,by show l.block<=_;omega,by show∀a∈l.args,_;rw[d];simp,λ_=>⟨d,λ_=>Nat.ne_of_gt n⟩,λp=>absurd ⟨b,rfl⟩ p⟩
 rintro⟨h3,c⟩;match f:j.go,h3 with|[q,r,s],_=>rw[f]at c;have a0:=c 0 aC;have e:=c 1 aC;have d:=c 2 aC;have m:=a0.ok ab;have b1:=e.ok ab;rw[i0]at m;rw[i]at b1;exact⟨q,r,s,rfl,m,b1,⟨(a0.tr b).1,(e.tr b).1,(d.tr b).1⟩,⟨d.lo,by have:=d.hi;simp at this;omega⟩,Nat.pos_of_ne_zero ((d.tr b).2 rfl)⟩
theorem Z0{j:G.eV}:yF g j↔lM g j:=by
 have one:j.op≠67->fg j 0=0->(lg g j.go [0]↔j.go.length=1/\∀k(h:k<j.go.length),kI g j k j.go[k]):=λh2 h3=>EX h2 λk i=>by
  obtain rfl:k=0:=by simpa using i
  rw[h3];rfl
 have jT:∀x,j.op≠67->fg j 0=x->fg j 1=0->(lg g j.go [x,0]↔j.go.length=2/\∀k(h:k<j.go.length),kI g j k j.go[k]):=λx h2 h3 m=>EX h2 λk i=>by match k,i with|0,_=>exact h3.symm|1,_=>exact m.symm
 have mR:j.op=66->(lg g j.go (j.bp.map og)↔j.go.length=(j.bp.map og).length/\∀k(h:k<j.go.length),kI g j k j.go[k]):=λn=>EX ab λk i=>by rw[aeR]at i;rw[afw,og,fg,bm i];simp[n]
 have c:j.go.length=0->∀k(h:k<j.go.length),kI g j k j.go[k]:=λh k i=>by omega
 constructor
 .intro h;have o:j.i7≠ []->jo j.i7:=λp=>by have r:=h.i7.2 p;cases h.aA with|is _ _ a _=>exact a|_=>omega
  have f:∀{a e:Nat},AE j a e->a=j.args.length->e=j.go.length->(∀k(h:k<j.go.length),kI g j k j.go[k])->lM g j:=λh1 h2 h3 m=>⟨by rw[<-h2,<-h3];exact h1,h.iy,h.bp,h.i7,o,m⟩;cases h.aA with
  |go h1 b he=>obtain⟨h2,h3⟩:=(one ab (by simp[fg,h1])).1 he;exact f (.go h1) b.symm h2.symm h3
  |rV h1 b he=>obtain⟨h2,h3⟩:=(jT 0 ab (by simp[fg,h1]) (by simp[fg,h1])).1 he;exact f (.rV h1) b.symm h2.symm h3
  |is h1 b _ he=>obtain⟨h2,h3⟩:=(jT 0 ab (by simp[fg,h1]) (by simp[fg,h1])).1 he;exact f (.is h1) b.symm h2.symm h3
  |eZ h1 b he=>obtain⟨h2,h3⟩:=(jT 1 ab (by simp[fg,h1]) (by simp[fg,h1])).1 he;exact f (.eZ h1) b.symm h2.symm h3
  |mR h1 hs=>obtain⟨h2,h3⟩:=(mR h1).1 hs.ed;rw[aeR]at h2;exact f (.mR h1 hs.kd hs.lo hs.hi) hs.ar.symm h2.symm h3
  |rW h1 b q=>obtain⟨h2,h3⟩:=(Lj h1).1 q;exact f (.rW h1) b.symm h2.symm h3
  |oh h1 b hg=>exact f (.oh h1) ab hg.symm (c hg)
  |ret h1 b hg=>
   rcases h1 with h1|h1;·exact f (.ret h1) b.symm hg.symm (c hg)
   exact f (.qI h1) b.symm hg.symm (c hg)
  |stuck h1 b hg=>exact f (.stuck h1) b.symm hg.symm (c hg)
 intro h;have l:=h.ae;have d:=h.yS;refine⟨h.iy,h.i7,h.bp,?_⟩;generalize b:j.args.length=a at l;generalize hg:j.go.length=e at l;cases l with|go h1=>exact .go h1 b ((one ab (by simp[fg,h1])).2 ⟨hg,d⟩)|rV h1=>exact .rV h1 b ((jT 0 ab (by simp[fg,h1]) (by simp[fg,h1])).2 ⟨hg,d⟩)|is h1=>exact .is h1 b (h.nm (h.i7.1 h1)) ((jT 0 ab (by simp[fg,h1]) (by simp[fg,h1])).2 ⟨hg,d⟩)|eZ h1=>exact .eZ h1 b ((jT 1 ab (by simp[fg,h1]) (by simp[fg,h1])).2 ⟨hg,d⟩)|mR h1 i h2 m=>exact .mR h1 ⟨i,h2,m,b,(mR h1).2 ⟨by rw[hg,aeR],d⟩⟩|rW h1=>exact .rW h1 b ((Lj h1).2 ⟨hg,d⟩)|oh h1=>exact .oh h1 ab hg|ret h1=>exact .ret (.inl h1) b hg|qI h1=>exact .ret (.inr h1) b hg|stuck h1=>exact .stuck h1 b hg
end
end
section
structure PI(n:Nat)(s:List Bool)(hist:List Int):Prop where
 len:s.length=n
 bt:∀v:Nat,v<n->(s.getD v false=true↔(v:Int)∈hist)
section
variable{g:G.aY}{n:Nat}
theorem Bp{k:Type}{st:List Bool->k->Bool×List Bool}{f:k->List Int}{P:k->Prop}{R:Int->Prop}:∀{la:List k},(∀s c a,a∈la->PI n s c->c.Nodup->((st s a).1=true↔P a/\(c++f a).Nodup/\∀v∈f a,R v)/\((st s a).1=true->PI n (st s a).2 (c++f a)))->∀s c,PI n s c->c.Nodup->((dC st s la).1=true↔(∀a∈la,P a)/\(c++la.flatMap f).Nodup/\∀v∈la.flatMap f,R v)/\((dC st s la).1=true->PI n (dC st s la).2 (c++la.flatMap f))
 |[],_,s,c,l,m=>by simpa[dC]using⟨m,l⟩
 |a::la,h,s,c,l,m=>by
  obtain⟨h1,h2⟩:=h s c a (acm ..) l m;rw[afp,<-aeC];by_cases e:(st s a).1=true
  .obtain⟨p,q,r⟩:=h1.1 e;obtain⟨t,u⟩:=Bp (λs c b hb=>h s c b (aen _ hb)) _ _ (h2 e) q;rw[dC,aH e];refine⟨t.trans ⟨λ⟨i,j,a3⟩=>⟨λb hb=>?_,j,λv d=>?_⟩,λ⟨i,j,a3⟩=>⟨λb hb=>i b (aen _ hb),j,λv d=>a3 v (aeU _ d)⟩⟩,u⟩
   .rcases aer.1 hb with rfl|hb;·exact p
    exact i b hb
   rcases aeu.1 d with d|d;·exact r v d
   exact a3 v d
  rw[dC,ap e];refine⟨⟨λo=>(by cases o),λ⟨i,j,a3⟩=>absurd (h1.2 ⟨i a (acm ..),(afa.1 j).1,λv d=>a3 v (aeN _ d)⟩) e⟩,λo=>by cases o⟩
theorem Lk(o:g.aW=n)(p:0<=g.i4){s:List Bool}{c:List Int}(v:Int)(d:PI n s c)(f:c.Nodup):((ix g s v).1=true↔True/\(c++[v]).Nodup/\∀u∈ [v],g.i4<=u/\u<n)/\((ix g s v).1=true->PI n (ix g s v).2 (c++[v])):=by
 have hl:=d.len;unfold ix;by_cases j:g.i4<=v/\v<=g.aW - 1
 .rw[aH j];obtain⟨v,rfl⟩:∃k:Nat,v=k:=⟨v.toNat,ab⟩;have i:v<n:=ab;rw[aeA];have hat:=d.bt v i;by_cases hs:s.getD v false=true;·rw[aH hs];refine⟨⟨λh=>(by cases h),λ⟨_,h,_⟩=>?_⟩,λh=>by cases h⟩;exact absurd rfl ((afa.1 h).2.2 _ (hat.1 hs) _ (aaN.2 rfl))
  rw[ap hs];refine⟨⟨λ_=>⟨trivial,?_,λu hu=>by rw[aaN]at hu;subst hu;omega⟩,λ_=>rfl⟩,λ_=>⟨by simpa using hl,λx l=>?_⟩⟩;·rw[afa];refine⟨f,aC,λa m b hb=>?_⟩;rw[aaN]at hb;subst hb;exact λe=>hs (hat.2 (e▸m))
  rw[dk ab,aeu,aaN];by_cases e:x=v;·subst e;simp
  rw[ap e,d.bt x l];have:¬(x:Int)=v:=ab;simp[this]
 rw[ap j];refine⟨⟨λh=>(by cases h),λ⟨_,_,h⟩=>?_⟩,λh=>by cases h⟩;have:=h v (aaN.2 rfl);omega
theorem Z1(l:List Int):l.flatMap (λv=>[v])=l:=by induction l with|nil=>rfl|cons a l b=>rw[afp,b];rfl
theorem sf:∀l:List G.dI,ez l=l.flatMap λx=>if 0<=x.to then[x.to]else[]|[]=>rfl|x::l=>by rw[afp,<-sf l,ez,ez,aez];by_cases h:0<=x.to<;>simp[h]
theorem Z2(l:g.aW=n)(m:0<=g.i4){s:List Bool}{d:List Int}{x:G.dI}(hl:x.args.length<=12)(i:PI n s d)(f:d.Nodup):((stepG g s x).1=true↔kg g x/\(d++(if 0<=x.to then[x.to]else[])).Nodup/\∀u∈(if 0<=x.to then[x.to]else[]),g.i4<=u/\u<n)/\((stepG g s x).1=true->PI n (stepG g s x).2 (d++(if 0<=x.to then[x.to]else[]))):=by
 rw[ZZ hl];unfold stepG;cases p:mg x with
 |none=>exact⟨⟨λh=>(by cases h),λ⟨⟨r,h,_⟩,_⟩=>by cases h⟩,λh=>by cases h⟩
 |some r=>
  simp only[aas,exists_eq_left'];by_cases e:yE g x r;rotate_left;·rw[ap e];exact⟨⟨λh=>(by cases h),λ⟨h,_⟩=>absurd h.c e⟩,λh=>by cases h⟩
  rw[aH e];cases hg:r.tP with
  |true=>
   rw[aH rfl];obtain⟨j,o⟩:=Lk l m x.to i f;by_cases h0:0<=x.to;·rw[aH h0];refine⟨j.trans ⟨λ⟨_,a,b⟩=>⟨⟨e,by rw[hg,decide_eq_true h0],ab,?_⟩,a,b⟩,λ⟨_,a,b⟩=>⟨trivial,a,b⟩⟩,o⟩;have:=b x.to (aaN.2 rfl);omega
   have k:¬(ix g s x.to).1=true:=λh=>by have:=(j.1 h).2.2 x.to (aaN.2 rfl);omega
   refine⟨⟨λh=>absurd h k,λ⟨h,_⟩=>?_⟩,λh=>absurd h k⟩;have:=h.gv;rw[hg,decide_eq_false h0]at this;cases this
  |false=>
   rw[ap aC];simp only[decide_eq_true_eq];constructor
   .constructor;·intro h;rw[h,ap bK];exact⟨⟨e,by rw[hg,h];rfl,ab,ab⟩,by simpa using f,λu hu=>by cases hu⟩
    rintro⟨h,_⟩;have h1:=h.gv;rw[hg]at h1;have h2:=of_decide_eq_false h1.symm;have:=h.lo;omega
   intro h;rw[h,ap bK];simpa using i
theorem Z3(k:G.Sm g)(i:g.aW=n)(j:0<=g.i4){b:G.dE}(hb:b∈g.aj){s:List Bool}{d:List Int}(h:PI n s d)(e:d.Nodup):((jV g s b).1=true↔((∀x∈b.aL,kg g x)/\lM g b.aA)/\(d++eD b).Nodup/\∀u∈eD b,g.i4<=u/\u<n)/\((jV g s b).1=true->PI n (jV g s b).2 (d++eD b)):=by
 unfold eD jV;obtain⟨h1,h2⟩:=Bp (st:=ix g) (f:=λv=>[v]) (P:=λ_=>True) (R:=λv=>g.i4<=v/\v<n) (la:=b.i4) (λs d a _ h e=>Lk i j a h e) s d h e;rw[Z1]at h1 h2;simp only[aew,decide_eq_true_eq,Z0];rw[sf,<-aeC];by_cases f:(dC (ix g) s b.i4).1=true
 .obtain⟨q,l,a3⟩:=h1.1 f;obtain⟨h3,m⟩:=Bp (st:=stepG g) (f:=λx:G.dI=>if 0<=x.to then[x.to]else[]) (P:=kg g) (R:=λv=>g.i4<=v/\v<n) (la:=b.aL) (λs d x o h e=>Z2 i j (k.st b hb x o).1 h e) _ _ (h2 f) l;rw[h3];refine⟨⟨λ⟨⟨_,c1,c2,c3⟩,c4⟩=>⟨⟨c1,c4⟩,c2,λu hu=>?_⟩,λ⟨⟨c1,c4⟩,c2,c3⟩=>⟨⟨f,c1,c2,λu hu=>c3 u (aeU _ hu)⟩,c4⟩⟩,λ⟨⟨_,c⟩,_⟩=>m (h3.2 c)⟩;rcases aeu.1 hu with hu|hu;·exact a3 u hu
  exact c3 u hu
 refine⟨⟨λ⟨⟨c,_⟩,_⟩=>absurd c f,λ⟨⟨c1,c4⟩,c2,c3⟩=>absurd (h1.2 ⟨λ_ _=>trivial,(afa.1 c2).1,λv p=>c3 v (aeN _ p)⟩) f⟩,λ⟨⟨c,_⟩,_⟩=>absurd c f⟩
theorem Z4(w:G.Sm g):rX g↔eE g:=by
 have key:∀n:Nat,g.aW=n->0<=g.i4->_:=λn e y=>Bp (n:=n) (st:=jV g) (f:=eD) (P:=λb=>(∀x∈b.aL,kg g x)/\lM g b.aA) (R:=λv=>g.i4<=v/\v<n) (la:=g.aj) (λs u b hb c o=>Z3 w e y hb c o) (aeo n false) [] ⟨aC,λv i=>by simp[aeD,afb,i]⟩ List.nodup_nil;constructor;·intro h;have a:=h.p0;have d:=h.p1;obtain⟨n,e⟩:∃n:Nat,g.aW=n:=⟨g.aW.toNat,ab⟩;have j:g.aW.toNat=n:=ab;have f:=h.run;have q:=h.all;rw[j]at f q;obtain⟨l,m⟩:=key n e a;have c:=m f;obtain⟨r,t,a3⟩:=l.1 f;rw[afz]at t c;refine⟨h.i7,a,d,h.ne,h.first,λb hb=>(r b hb).1,λb hb=>(r b hb).2,t,λv i=>by rw[e];exact a3 v i,λv h1 h2=>?_⟩;obtain⟨v,rfl⟩:∃k:Nat,v=k:=⟨v.toNat,ab⟩;have hl:=c.len;have:=q v ab h1;rw[<-bm ab false]at this;exact(c.bt v ab).1 this
 intro h;have a:=h.p0;have d:=h.p1;obtain⟨n,e⟩:∃n:Nat,g.aW=n:=⟨g.aW.toNat,ab⟩;have j:g.aW.toNat=n:=ab;obtain⟨l,m⟩:=key n e a;have f:=l.2 ⟨λb hb=>⟨h.aL b hb,h.wG b hb⟩,by simpa using h.nd,λv i=>by have:=h.rg v i;omega⟩;have c:=m f;rw[afz]at c;have hl:=c.len;refine⟨h.i7,a,d,h.ne,h.first,by rw[j];exact f,?_⟩;rw[j];intro k z p;have:=(c.bt k ab).2 (h.all k p ab);rw[bm z]at this;exact this
theorem Ll:∀(l:List G.dI)(i:Nat),(∀x∈l, -1<=x.to)->(fF l i).map (·.1)=ez l
 |[],_,_=>rfl
 |x::l,i,h=>by
  have h1:=h x (acm ..);have a:=Ll l (i+1) λy b=>h y (aen _ b);rw[sf,afp,<-sf,fF,aeZ,a];by_cases e:x.to= -1;·rw[aH e,ap ab];rfl
  rw[ap e,aH ab];rfl
theorem Lm{b:G.dE}(h:∀x∈b.aL, -1<=x.to):(cD b).map (·.1)=eD b:=by rw[cD,aeZ,Ll _ _ h,eD,af8];congr 1;exact List.map_id _
theorem Ln(h:eE g):ml g:=by
 have f:=h.p0;have o:=h.p1;have hb:∀b∈g.aj,(cD b).map (·.1)=eD b:=λb hb=>Lm λx l=>(h.aL b hb x l).r.t0;have e:∀b∈g.aj,∀p∈cD b,p.1∈eD b:=λb a p d=>by rw[<-hb b a];exact aeX d
 have c:=h.nd;refine⟨ab,f,λb a p d=>h.rg _ (afO.2 ⟨b,a,e b a p d⟩),λb a=>?_,λi j hi hj v p q d m=>?_,λv h0 h1=>?_⟩;·rw[hb b a];obtain⟨i,hi,rfl⟩:=aeB a;rw[<-afI i g.aj,aeE hi,ae9,afp]at c;exact(afa.1 (afa.1 c).2.1).1
 .have h1:v∈eD g.aj[i]:=by have:=e _ (qH hi) _ d;rwa[be,bm hi]at this
  have h2:v∈eD g.aj[j]:=by have:=e _ (qH hj) _ m;rwa[be,bm hj]at this
  have key:∀i j(hi:i<g.aj.length)(hj:j<g.aj.length),i<j->v∈eD g.aj[i]->v∈eD g.aj[j]->False:=λi j hi hj s h1 h2=>by rw[<-afI j g.aj,aeE hj,ae9,afp]at c;refine(afa.1 c).2.2 v ?_ v (aeN _ h2) rfl;exact afO.2 ⟨g.aj[i],by rw[List.mem_take_iff_getElem];exact⟨i,ab,rfl⟩,h1⟩
  rcases Nat.lt_trichotomy i j with h3|h3|h3;·exact(key i j hi hj h3 h1 h2).elim
  .exact h3
  exact(key j i hj hi h3 h2 h1).elim
 obtain⟨b,a,k⟩:=afO.1 (h.all v h0 h1);rw[<-hb b a]at k;obtain⟨p,d,rfl⟩:=aeK.1 k;obtain⟨i,hi,rfl⟩:=aeB a;exact⟨i,p.2,hi,by rw[be,bm hi];exact d⟩
end
end
section
def cP(x:bI):Int:=2*x.1+x.2
def eH(o:List bI):List Int:=o.map cP
def lP(o:List bI):Prop:=∀x∈o,∃t:Nat,x.1=t/\(x.2=0\/x.2=1)
theorem aaf{x y:bI}(c:∃t:Nat,x.1=t/\(x.2=0\/x.2=1))(d:∃t:Nat,y.1=t/\(y.2=0\/y.2=1))(h:cP x=cP y):x=y:=by obtain⟨a,s⟩:=x;obtain⟨b,r⟩:=y;obtain⟨t,h1,h2⟩:=c;obtain⟨u,h3,e⟩:=d;simp only[cP]at h h1 h2 h3 e;have:a=b/\s=r:=ab;rw[this.1,this.2]
theorem Lx:∀{o p:List bI},lP o->lP p->eH o=eH p->o=p|[],[],_,_,_=>rfl|[],_::_,_,_,h=>by cases h|_::_,[],_,_,h=>by cases h|x::o,y::p,h1,h2,h=>by simp only[eH,aez,ae1]at h;rw[aaf (h1 x (acm ..)) (h2 y (acm ..)) h.1,Lx (λz a=>h1 z (aen _ a)) (λz a=>h2 z (aen _ a)) h.2]
theorem yZ{x:bI}(a:∃t:Nat,x.1=t/\(x.2=0\/x.2=1)):0<=cP x/\(cP x).toNat/2=x.1.toNat:=by obtain⟨t,h1,h2⟩:=a;unfold cP;omega
section
variable{g:G.aY}
theorem wL{b:Nat}{o:List bI}(h:lP o):(cU g b o).map (λw=>(w.1,eH w.2))=gj g b (eH o):=by
 simp only[cU,gj,be];split;·simp[eH,cP]
 split
 .cases hl:o.getLast? with
  |none=>
   have:o=[]:=by simpa using hl
   subst this;rfl
  |some x=>
   have i:=List.mem_of_getLast? hl;have d:o≠ []:=λe=>by rw[e]at hl;cases hl
   have c:o.length≠0:=λe=>d (aeQ e);have a:o[o.length - 1]'ab=x:=by rw[List.getLast?_eq_getElem?,getElem?_pos o _ ab]at hl;exact Option.some.inj hl
   have f:(eH o).length=o.length:=by simp[eH]
   have j:(eH o).getD (o.length - 1) 0=cP x:=by rw[bm (by rw[f];omega)];simp only[eH,afw,a]
   rw[f,ap c,j];simp only[aez,afC,ae1,and_true,acn];refine⟨?_,by simp[eH,List.map_take]⟩;rw[lN,gG,be,(yZ (h x i)).2]
 rw[af8];rfl
theorem Ly{b:Nat}{o:List bI}(d:lP o):∀w∈cU g b o,lP w.2:=by
 intro w a;have mN:∀s,s=0\/s=1->lP (o++[((b:Int),s)]):=λs hs x c=>by
  rcases aeu.1 c with c|c;·exact d x c
  rw[aaN]at c;subst c;exact⟨b,rfl,hs⟩
 simp only[cU]at a;split at a
 .simp only[aer,aeS,or_false]at a;rcases a with rfl|rfl;·exact mN 0 (.inl rfl)
  exact mN 1 (.inr rfl)
 split at a
 .split at a;·rw[aaN]at a;subst a;exact λx c=>d x (af1 c)
  cases a
 obtain⟨e,_,rfl⟩:=aeK.1 a;exact d
theorem fy.qL(a:ja g){b:Nat}{o:List bI}(h:fy g b o):gk g (-1) b (eH o)/\lP o:=by
 induction h with
 |zero=>exact⟨.zero bK,λx e=>by cases e⟩
 | @step b o w h c f=>
  obtain⟨h1,h2⟩:=f;obtain⟨h3,i⟩:=h1.ok a;have d:(w.1,eH w.2)∈gj g b (eH o):=by rw[<-wL h2];exact aeK.2 ⟨w,c,rfl⟩
  have:=(pF a h3 i _ d).1;exact⟨.step h1 d (by simp only;omega),Ly h2 w c⟩
theorem gk.dY{b:Nat}{o:List Int}(h:gk g (-1) b o):∃p,fy g b p/\lP p/\eH p=o:=by induction h with|zero _=>exact⟨[],.zero,λx c=>(by cases c),rfl⟩| @step b o w h a f d=>obtain⟨p,h1,h2,rfl⟩:=d;rw[<-wL h2]at a;obtain⟨e,h3,rfl⟩:=aeK.1 a;exact⟨e.2,.step h1 h3,Ly h2 _ h3,rfl⟩
variable{come:List Bool}{os:List (List bI)}{c1:List Bool}{o1:List (List Int)}
theorem aag(a:ja g)(s:g.aj.length<=40)(d:jv g (-1) c1 o1)(e:∀b,iH g (-1) c1 o1 false b):ff g:=by
 refine⟨λh k=>?_,λ{b o}h w l=>?_,λ{b o}h=>?_,λ{b o}h=>?_⟩;·obtain⟨h1,h2⟩:=h.qL a;obtain⟨h3,c⟩:=k.qL a;exact Lx h2 c ((h1.comp a d e).2.symm.trans (h3.comp a d e).2)
 .obtain⟨h1,h2⟩:=h.qL a;obtain⟨h3,c⟩:=h1.ok a;have m:(w.1,eH w.2)∈gj g b (eH o):=by rw[<-wL h2];exact aeK.2 ⟨w,l,rfl⟩
  have:=(pF a h3 c _ m).1;simp only at this;omega
 .obtain⟨h1,_⟩:=h.qL a;exact⟨(h1.ok a).1,a.t3 b (h1.ok a).1⟩
 obtain⟨h1,h2⟩:=h.qL a;obtain⟨h3,c⟩:=h1.ok a;obtain⟨n,p⟩:=h1.comp a d e;have i:=d.iF b n;rw[p]at i;simp only[eH,aeR]at i;refine⟨⟨λx f=>?_⟩,ab⟩;obtain⟨u,q⟩:=yZ (h2 x f);obtain⟨_,r,j⟩:=c (cP x) (aeX f);rw[q]at r j;obtain⟨t,v,_⟩:=h2 x f;exact⟨ab,ab,j⟩
theorem y6(a:ja g)(e:ff g)(c:jv g (-1) c1 o1)(f:∀b,iH g (-1) c1 o1 false b)(d:dq g come os){b:Nat}:come.getD b false=true↔c1.getD b false=true:=by
 constructor;·intro h;exact(((d.dY b h).qL a).1.comp a c f).1
 intro h;obtain⟨p,h1,_,_⟩:=(c.snd b h).dY;exact(d.qJ e h1).1
theorem Bs(a:ja g)(d:jv g (-1) c1 o1)(e:∀b,iH g (-1) c1 o1 false b)(c:dq g come os){b:Nat}(h:come.getD b false=true):o1.getD b []=eH (os.getD b [])/\lP (os.getD b []):=⟨(((c.dY b h).qL a).1.comp a d e).2,((c.dY b h).qL a).2⟩
theorem Lz(e:ja g)(i:ff g)(c:dq g come os){d b:Nat}(h:iA (wW g os) d b):come.getD b false=true/\gk g (d:Int) b (eH (os.getD b [])):=by
 induction h with
 |zero h=>refine⟨c.c0,?_⟩;have:=(c.qJ i .zero).2;rw[this];exact .zero ab
 | @step a x h l p m=>
  obtain⟨h1,h2⟩:=m;obtain⟨w,j,rfl⟩:=aeK.1 l;have hl:=c.dY a h1;have h3:=c.qJ i (.step hl j);have f:=(hl.qL e).2;have k:(w.1,eH w.2)∈gj g a (eH (os.getD a [])):=by rw[<-wL f];exact aeK.2 ⟨w,j,rfl⟩
  obtain⟨n,o⟩:=h2.ok e;have:=(pF e n o _ k).1;simp only at this;refine⟨h3.1,?_⟩;rw[h3.2];exact .step h2 k (by simp only;omega)
theorem aah(a:ja g)(l:ff g)(f:jv g (-1) c1 o1)(i:∀b,iH g (-1) c1 o1 false b)(j:dq g come os){d b:Nat}{o:List Int}(h:gk g (d:Int) b o):iA (wW g os) d b:=by induction h with|zero h=>exact .zero ab| @step b o w h c m k=>have n:=(Lz a l j k).1;obtain⟨h1,h2⟩:=Bs a f i j n;have h3:=((h.mono a).comp a f i).2;obtain⟨p,q⟩:=h.ok a;have r:=(pF a p q _ c).1;rw[<-h3,h1,<-wL h2]at c;obtain⟨s,e,rfl⟩:=aeK.1 c;simp only at r m;exact .step k (aeK.2 ⟨s,e,rfl⟩) (by simp only;omega)
theorem LA(c:ja g)(k:ff g)(d:jv g (-1) c1 o1)(e:∀b,iH g (-1) c1 o1 false b)(l:dq g come os){q:List (List Bool)}(m:qK g q){a b:Nat}(r:a<g.aj.length)(hb:b<g.aj.length):(q.getD a []).getD b false=true↔come.getD a false=true/\come.getD b false=true/\dZ (wW g os) a b:=by
 obtain⟨c2,o2,v,f,n,j⟩:=m.ex;obtain⟨_,s,w,y,i,o,p⟩:=j a r;have h2:∀{x},come.getD x false=true↔c2.getD x false=true:=λ{x}=>by
  rw[y6 c k d e l];constructor;·intro h;exact(d.snd x h).wK c d e f n
  intro h;exact((f.snd x h).comp c d e).1
 rw[p b hb,pH,h2,h2];simp only[aew,afm,decide_eq_true_eq,afj,and_assoc];refine and_congr_right λ_=>and_congr_right λu=>?_;constructor
 .rintro(rfl|h);·exact dZ.Zx
  intro t;have:=(Lz c k l t).2.wK c d e i o;rw[h]at this;cases this
 intro hd;cases h:s.getD b false with|false=>exact .inr rfl|true=>exact absurd (aah c k d e l (i.snd b h)) hd
end
end
section
variable{ac:Nat->aX}
structure aai(g:G.aY):Prop where
 iF:oB g
 aaj:jq g=false
 qM:eE g
 right:lO g
theorem wM{g:G.aY}(h:oB g)(hg:jq g=false):g.aj.length<=40/\g.aW<=300:=by simp only[jq,Bool.or_eq_false_iff,decide_eq_false_iff_not]at hg;have h1:=h.nb;have h2:=h.nv;omega
section
variable{g:G.aY}{H:ai}{cs:List AV}
theorem LB(T:Tb ac)(hg:dS H g cs)(c:oB g)(k:mh g){K:KT}(h1:∀a,aZ H a->aai g->K (aI 0) a)(l:∀a,aZ H a->jq g=true->K (aI 5) a)(m:∀a,aZ H a->jq g=false->¬eE g->K (aI 4) a)(n:∀a,aZ H a->jq g=false->eE g->E4 g->¬lO g->K (aI 9) a):YN ac D' [.agg cs] H K:=by
 have j:=hg.one;have b:=hg;obtain⟨t,rfl,bH⟩:=hg;have⟨p,_,_,r⟩:=bH.all;refine YF.code T.VX aC ?_;refine ah ?_;refine RO.cG (al.bY H) λu q U=>?_;refine ah ?_;refine RO.cr U 0 ?_;refine RO.cl (ZN T (b8.fY U.gr b) c.sm (λd hg h=>?_) (λd hg e=>?_));rotate_left;·have U:=U.bZ hg;refine ah ?_;exact Ru.aP (l _ U.gr e)
 have U:=U.bZ hg;obtain⟨f,s⟩:=wM c h;refine ah ?_;refine RO.cr U 0 ?_;refine RO.cl (ZV T (b8.fY U.gr b) c.sm k c.nm ab (λd hg i=>?_) (λd hg e=>?_));rotate_left;·have U:=U.bZ hg;refine ah ?_;exact Ru.aP (m _ U.gr h e)
 have U:=U.bZ hg;refine ah ?_;refine RO.cr U 0 ?_;refine RO.cl (aae T (b8.fY U.gr b) c.sm i f ab (λd hg o=>?_) (λd hg gr e=>?_));rotate_left;·have U:=U.bZ hg;refine ah ?_;exact Ru.aP (n _ U.gr h i gr e)
 have U:=U.bZ hg;refine ah ?_;exact Ru.aP (h1 _ U.gr ⟨c,h,i,o⟩)
end
end
section
theorem E6{l:List Int}{n:Nat}{p:Int×Int}(h:p∈jX l n):p.1∈l/\p.2=n:=by obtain⟨x,a,rfl⟩:=aeK.1 h;exact⟨a,rfl⟩
theorem E7:∀{l:List G.dI}{i:Nat}{p:Int×Int},p∈fR l i->∃j,∃h:j<l.length,p.2=((i+j:Nat):Int)/\p.1∈l[j].args
 |s::l,i,p,h=>by
  rw[fR]at h;rcases aeu.1 h with h|h;·obtain⟨h1,h2⟩:=E6 h;exact⟨0,aC,by simpa using h2,h1⟩
  obtain⟨j,hj,h1,h2⟩:=E7 h;exact⟨j+1,by simpa using hj,by rw[h1];congr 1;omega,by simpa using h2⟩
theorem LC:∀{l:List G.Edge}{n:Nat}{p:Int×Int},p∈gT l n->p.2=n/\∃e∈l,p.1∈e.args
 |e::l,n,p,h=>by
  rw[gT]at h;rcases aeu.1 h with h|h;·obtain⟨h1,h2⟩:=E6 h;exact⟨h2,e,acm ..,h1⟩
  obtain⟨h1,a,h2,h3⟩:=LC h;exact⟨h1,a,aen _ h2,h3⟩
theorem E8{B:G.dE}{p:Int×Int}(h:p∈eO B):∃k,k<=B.aL.length/\p.2=(k:Int)/\p.1∈dJ B k:=by
 rw[eO]at h;have a:p.1∈iI B.aA->p.2=(B.aL.length:Int)->∃k,k<=B.aL.length/\p.2=(k:Int)/\p.1∈dJ B k:=λh1 h2=>⟨_,aeq _,h2,by rw[dJ,ap ab];exact h1⟩;rcases aeu.1 h with h|h;·obtain⟨j,hj,h1,h2⟩:=E7 h;exact⟨j,ab,by rw[h1];simp,by rw[dJ,aH hj,bm hj];exact h2⟩
 rcases aeu.1 h with h|h;·obtain⟨h1,h2⟩:=E6 h;exact a (aeN _ h1) h2
 obtain⟨h1,e,h2,h3⟩:=LC h;exact a (aeU _ (afO.2 ⟨e,h2,h3⟩)) h1
theorem LD{B:G.dE}{k:Nat}{x:Int}(f:k<=B.aL.length)(h:x∈dJ B k):(x,(k:Int))∈eO B:=by
 unfold dJ at h;split at h;·rename_i b;rw[bm b]at h;obtain⟨_,c,e⟩:=KP B b;rw[e];exact aeU _ (aeN _ (aeK.2 ⟨x,h,rfl⟩))
 obtain rfl:k=B.aL.length:=ab;unfold eO;refine aeU _ ?_;rcases aeu.1 h with h|h;·exact aeN _ (aeK.2 ⟨x,h,rfl⟩)
 obtain⟨e,he,d⟩:=afO.1 h;obtain⟨i,hi,rfl⟩:=aeB he;obtain⟨_,c,e⟩:=KQ B hi;have:(x,(B.aL.length:Int))∈eO B:=by rw[e];exact aeU _ (aeN _ (aeK.2 ⟨x,d,rfl⟩))
 unfold eO at this;rcases aeu.1 this with a|a;·obtain⟨j,hj,h1,_⟩:=E7 a;simp only at h1;omega
 exact a
theorem LF{B:G.dE}{i:Nat}(h:i<B.aL.length)(a:B.aL[i].to≠ -1):(B.aL[i].to,(i:Int))∈cD B:=by obtain⟨b,e,_⟩:=KL B h a;rw[<-e];exact acI b
theorem LG{B:G.dE}{x:Int}(h:x∈B.i4):(x, -1)∈cD B:=aeN _ (aeX h)
section
variable{g:G.aY}{come:List Bool}{os:List (List bI)}
theorem LH(d:eE g)(j:ml g){gl:List Int}(a:kJ g.aW.toNat g.i4.toNat gl (jK g g.aj.length)){v:Int}(h0:g.i4<=v)(h1:v<g.aW):∃s:Nat,s<g.aj.length/\gl.getD v.toNat 0=s/\ue g v=s:=by have e:=d.all v h0 h1;rw[<-af4 (l:=g.aj),<-yW g _ (aeq _)]at e;obtain⟨p,f,rfl⟩:=aeK.1 e;have h2:=a.bt p f;obtain⟨i,hi,b⟩:=afO.1 f;rw[afR]at hi;obtain⟨x,h,rfl⟩:=aeK.1 b;refine⟨i,hi,h2,?_⟩;have hb:=qH hi;rw[<-Lm λy k=>(d.aL _ hb y k).r.t0]at h;obtain⟨q,l,c⟩:=aeK.1 h;have:=j.at (v:=x) (p:=q.2) hi (by rw[<-c];exact l);simp only[ue];rw[this]
theorem aak(A:eE g)(hn:g.aj.length<=40)(h:lO g)(S:ff g)(C:ml g)(D:dq g come os):pD g come os:=by
 obtain⟨c1,o1,W,gl,B,E,H,I,J⟩:=h.ex;have j:=A.sh;have key:∀b,come.getD b false=true->b<g.aj.length/\uh g o1 W gl b/\o1.getD b []=eH (os.getD b [])/\lP (os.getD b [])/\oE g (eH (os.getD b [])):=λb hb=>by have h1:=(y6 j S B E D).1 hb;have h2:=Bs j B E D hb;have h3:=(B.snd b h1).ok j;rw[h2.1]at h3;exact⟨h3.1,J b h3.1 h1,h2.1,h2.2,h3.2⟩
 refine⟨λb hb K=>?_,λb hb L=>?_,λb hb p X=>?_⟩
 .obtain⟨d,l,F,M,dL⟩:=key b hb;obtain⟨h1,h2⟩:=l.en K;rw[F]at h1 h2;have hl:(eH (os.getD b [])).length=(os.getD b []).length:=by simp[eH]
  rw[hl]at h1 h2;generalize os.getD b []=o at*;have f:o.length - 1<o.length:=ab;have T:=acI f;have he:(eH o).getD (o.length - 1) 0=cP o[o.length - 1]:=by rw[bm (by rw[hl];exact f)];simp only[eH,afw]
  rw[he]at h2;have m:lN g (cP o[o.length - 1])=gG g o[o.length - 1]:=by rw[lN,gG,be,(yZ (M _ T)).2]
  obtain⟨_,Y,k3⟩:=dL (cP o[o.length - 1]) (aeX T);have N:=j.rg _ Y _ (acI (l:=(be g ((cP o[o.length - 1]).toNat/2)).aA.go) (n:=2) ab);have O:lN g (cP o[o.length - 1])=(be g ((cP o[o.length - 1]).toNat/2)).aA.go[2].block:=by rw[lN,bm ab]
  rw[<-O,m]at N;rw[m]at h2;exact⟨o[o.length - 1],by rw[List.getLast?_eq_getElem?,getElem?_pos o _ f],ab,ab,h2.symm⟩
 .obtain⟨_,l,F,_,_⟩:=key b hb;have:=l.rt L;rw[F]at this;simpa[eH]using this
 obtain⟨d,l,_,_,_⟩:=key b hb;obtain⟨k,Z,P,a⟩:=E8 X;have hrd:=l.rd k Z p.1 a;obtain⟨x,bt⟩:=p;simp only at P a hrd;have Q:=C.v0;have ag:=EQ Q;have w:0<=x/\x<g.aW:=by
  have n:=qH d;unfold dJ at a;split at a;·rename_i V;rw[bm V]at a;have:=(A.aL _ n _ (acI V)).r.iy x a;omega
  have u:=A.wG _ n;rcases aeu.1 a with a|a;·have:=u.iy x a;omega
  obtain⟨e,he,a⟩:=afO.1 a;obtain⟨y,G,rfl⟩:=aeB he;have:=(u.yS y G).iy x a;omega
 obtain⟨t,rfl⟩:∃t:Nat,x=t:=⟨x.toNat,ab⟩;refine⟨t,rfl,ab,?_⟩;by_cases z:(t:Int)<g.i4;·exact .inl z
 obtain⟨s,hs,R,v⟩:=LH A C I (v:=(t:Int)) ab w.2;simp only[ue,aeA]at v;unfold oF at hrd;rw[R,aeA]at hrd;rcases hrd with h1|⟨h1,h2⟩|h1;·omega
 .have h3:=(LA j S B E D H hs d).1 h2;exact .inr (.inr ⟨s,v,ab,h3.1,h3.2.2⟩)
 obtain⟨q,hq,av⟩:∃q,((t:Int),q)∈cD (be g b)/\q<(k:Int):=by
  rcases aeu.1 h1 with h1|h1;·exact⟨-1,LG h1,ab⟩
  have h2:=h1;rw[sf]at h2;obtain⟨y,G,c⟩:=afO.1 h2;obtain⟨i,hi,rfl⟩:=aeB G;rw[aeP]at hi;rw[List.getElem_take]at c;split at c;·rename_i h4;rw[aaN]at c;refine⟨i,?_,ab⟩;rw[c];exact LF ab ab
  cases c
 have:=C.at d hq;rw[aeA]at this;exact .inr (.inl ⟨by rw[this],by rw[this];simp only;omega⟩)
theorem aal(a:ml g){i:Nat}{v:Nat}(h0:g.i4<=(v:Int))(h1:(v:Int)<g.aW)(h:((fS g).getD v (-1, -1)).1=(i:Int)):((v:Int),((fS g).getD v (-1, -1)).2)∈cD (be g i):=by obtain⟨j,p,hj,b⟩:=a.all _ h0 h1;have:=a.at hj b;rw[aeA]at this;rw[this]at h⊢;simp only at h⊢;obtain rfl:j=i:=ab;exact b
theorem aam{B:G.dE}{x p:Int}{k:Nat}(h:(x,p)∈cD B)(a:p<(k:Int))(h0:0<=x):x∈B.i4++ez (B.aL.take k):=by
 rcases aeu.1 h with h|h;·obtain⟨y,d,e⟩:=aeK.1 h;injection e with e _;subst e;exact aeN _ d
 refine aeU _ ?_;have key:∀(l:List G.dI)(i k:Nat),(x,p)∈fF l i->p<(k:Int)->x∈ez (l.take (k - i)):=by
  intro l;induction l with
  |nil=>intro i k h _;cases h
  |cons s l b=>
   intro i k h a;rw[fF]at h;have hi:∀(l:List G.dI)(i:Nat),(x,p)∈fF l i->(i:Int)<=p:=by
    intro l;induction l with
    |nil=>intro i h;cases h
    |cons s l b=>
     intro i h;rw[fF]at h;rcases aeu.1 h with h|h
     .split at h;·cases h
      rw[aaN]at h;injection h with _ h;omega
     have:=b (i+1) h;omega
   rcases aeu.1 h with h|h
   .split at h;·cases h
    rw[aaN]at h;injection h with h1 h2;obtain⟨m,c⟩:∃m,k - i=m+1:=⟨k - i - 1,ab⟩;rw[c,afJ,sf,afp];refine aeN _ ?_;rw[aH ab,h1];exact aaN.2 rfl
   have h3:=hi l (i+1) h;have:=b (i+1) k h a;obtain⟨m,c⟩:∃m,k - i=m+1:=⟨k - i - 1,ab⟩;rw[c,afJ,sf,afp,<-sf];refine aeU _ ?_;rw[show m=k - (i+1)by omega];exact this
 have:=key _ 0 k h a;simpa using this
theorem aan(y:eE g)(hn:g.aj.length<=40)(q:E4 g)(z:ff g)(A:ml g)(B:dq g come os)(C:pD g come os):lO g:=by
 have v:=y.sh;obtain⟨c1,o1,F,S,gl,m,w,G⟩:=q.ex;cases c:F with
 |true=>obtain⟨b,o,o',T,V,W⟩:=m.EZ c;obtain⟨p,X,_,a3⟩:=T.dY;obtain⟨p',b1,_,Y⟩:=V.dY;exact absurd (by rw[<-a3,<-Y,z.t8 X b1]) W
 |false=>
  subst c;obtain⟨n,f⟩:=G rfl;have j:=m.toFlI;refine⟨c1,o1,S,gl,j,w,n,f,λi hi P=>?_⟩;have hb:=(y6 v z j w B).2 P;obtain⟨D,H⟩:=Bs v j w B hb;have dL:=((j.snd i P).ok v).2;rw[D]at dL;have hl:(eH (os.getD i [])).length=(os.getD i []).length:=by simp[eH]
  refine⟨λI=>?_,λJ=>?_,λk Z x Q=>?_⟩
  .obtain⟨l,h1,h2,h3,E⟩:=C.en i hb I;rw[D,hl];generalize os.getD i []=o at*;have K:o≠ []:=λe=>by rw[e]at h1;cases h1
   have r:o.length≠0:=λe=>K (aeQ e);have h:o[o.length - 1]'ab=l:=by rw[List.getLast?_eq_getElem?,getElem?_pos o _ ab]at h1;exact Option.some.inj h1
   have hm:l∈o:=List.mem_of_getLast? h1;have he:(eH o).getD (o.length - 1) 0=cP l:=by rw[bm (by rw[hl];omega)];simp only[eH,afw,h]
   have L:lN g (cP l)=gG g l:=by rw[lN,gG,be,(yZ (H _ hm)).2]
   rw[he,L];exact⟨r,E.symm⟩
  .have:=C.rt i hb J;rw[D,this];rfl
  have hrd:=C.rd i hb _ (LD Z Q);have d:=si y (qH hi) Q;obtain⟨t,R,ag,a⟩:=hrd;simp only at R a;subst R;unfold oF;by_cases u:(t:Int)<g.i4;·exact .inl (by rw[aeA,f.aM t (by have:=A.p0;omega)];decide)
  rcases a with h1|⟨h1,h2⟩|⟨s,h1,h2,h3,E⟩;·exact absurd h1 u
  .exact .inr (.inr (aam (aal A ab d.2 h1) h2 ab))
  obtain⟨s',M,N,O⟩:=LH y A f (v:=(t:Int)) ab d.2;simp only[ue,aeA]at O;obtain rfl:s'=s:=ab;refine .inr (.inl ?_);rw[N,aeA];exact⟨ab,(LA v z j w B n M hi).2 ⟨h3,hb,E⟩⟩
theorem aao(a:eE g)(b:g.aj.length<=40)(h:lO g):ff g:=by obtain⟨c1,o1,j,gl,c,d,e,f,i⟩:=h.ex;exact aag a.sh b c d
end
end
section
variable{ac:Nat->aX}
theorem aap(T:Tb ac){H:ai}{b:af}(c:b.az<H.next.az)(hc:bx H b 6=some (.bool true)){K:KT}(h:∀a,aZ H a->K (.bool false) a):YN ac JD [.aD b 0] H K:=by refine YF.code T.JU aC ?_;refine au ?_;refine RO.cG (al.bY H) λd e U=>?_;refine RO.dM U λf g U=>?_;refine ah ?_;refine RO.bk ?_ (v:=.bool true) (hc:=by rw[U.gr.bx c];exact hc);refine ah ?_;refine RO.eo U 0 (λi U=>?_);refine ah ?_;exact Ru.ke (M:=[]) (ts:=[_,_]) (by simpa[eN]using U) λa U=>⟨[.bool false],⟨⟨_,_,rfl,U.one 0⟩,trivial⟩,h a U.gr⟩
end
end Go.ak.R
end
