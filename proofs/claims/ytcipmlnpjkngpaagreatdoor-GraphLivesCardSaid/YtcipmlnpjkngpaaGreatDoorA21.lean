/- A part. No conditions. -/
import Derived.Test.YtcipmlnpjkngpaaGreatDoorA20
set_option linter.all false
set_option maxHeartbeats 16000000
open List renaming replicate->aeo
open List.Perm renaming swap->afA,cons->afL
open List.Sublist renaming cons_cons->afN
noncomputable section
namespace Go.ak.R
section
variable{ac:Nat->aX}
section
def fF:List G.dI->Nat->List (Int×Int)
 |[],_=>[]
 |s::l,i=>(if s.to= -1 then[]else[(s.to,(i:Int))])++fF l (i+1)
theorem Bf:∀(c b:List G.dI)(i:Nat),fF (c++b) i=fF c i++fF b (i+c.length)|[],b,i=>by simp[fF]|s::c,b,i=>by simp only[afk,fF,Bf c b (i+1),aeC,aeJ];rw[show i+1+c.length=i+(c.length+1)by omega]
def cD(b:G.dE):List (Int×Int):=b.i4.map (λv=>(v, -1))++fF b.aL 0
theorem KL(b:G.dE){i:Nat}(h:i<b.aL.length)(c:b.aL[i].to≠ -1):∃d:b.i4.length+(fF (b.aL.take i) 0).length<(cD b).length,(cD b)[b.i4.length+(fF (b.aL.take i) 0).length]=(b.aL[i].to,(i:Int))/\(fF (b.aL.take (i+1)) 0).length=(fF (b.aL.take i) 0).length+1:=by
 have e:b.aL=b.aL.take i++b.aL[i]::b.aL.drop (i+1):=by conv=>lhs;rw[<-afI i b.aL,aeE h]
 have f:cD b=b.i4.map (λv=>(v, -1))++(fF (b.aL.take i) 0++((b.aL[i].to,(i:Int))::fF (b.aL.drop (i+1)) (i+1))):=by
  unfold cD;congr 1;conv=>lhs;rw[e]
  rw[Bf,fF,ap c,aeP,af7 ab,aeL];rfl
 have g:(cD b)[b.i4.length+(fF (b.aL.take i) 0).length]?=some (b.aL[i].to,(i:Int)):=by rw[f,afn aC,afn aC];simp
 obtain⟨d,j⟩:=ae7.1 g;refine⟨d,j,?_⟩;rw[List.take_succ,afo h,Option.toList_some,Bf,aex];simp[fF,c]
theorem Zm(b:G.dE){i:Nat}(h:i<b.aL.length)(c:b.aL[i].to= -1):(fF (b.aL.take (i+1)) 0).length=(fF (b.aL.take i) 0).length:=by rw[List.take_succ,afo h,Option.toList_some,Bf,aex];simp[fF,c]
def EE(l:List (Int×Int))(k:Nat)(args:List AV)(c:List Th):Prop:=c=[]/\∃h:k<l.length,args=[aI l[k].1,aI l[k].2]
section
variable{A H:ai}{us:List Th}{a:af}{b:G.dE}{cs:List AV}
theorem KM(T:Tb ac)(h1:cE cs=true)(d:cs.length=7){K:KT}(e:∀c a,al H c [tB cL a cs]->K (.func AY [] [.aD a 0]) c):YN ac UU [.agg cs] H K:=by refine YF.code T.WG aC ?_;refine au ?_;refine RO.cG (al.bY H) (λf a U=>?_);refine au ?_;exact Ru.aP (e _ a U)
theorem KN(T:Tb ac)(hb:i6 A b cs)(hp:b.i4.length<=1000)(N:b.aL.length<=1000):yG ac A (.func AY [] [.aD a 0]) (cD b).length (EE (cD b)) [tB cL a cs] (λ_=>True) (λ_=>True):=by
 intro y J D d us H K O P Q R l m U hR j;obtain⟨E,vs,F,rfl,t,u,V⟩:=hb;have⟨W,_,_,X⟩:=t.all;have⟨Y,_,_,Z⟩:=u.all;have z:∀k(h:k<b.i4.length),∃h':k<(cD b).length,(cD b)[k]=(b.i4[k], -1):=λk h=>by
  have e:(cD b)[k]?=some (b.i4[k], -1):=by unfold cD;rw[aeM (by simpa using h)];simp[h]
  exact ae7.1 e
 refine YF.code T.W7 aC ?_;refine ah ?_;refine Ru.nm λS M x s=>?_;refine Ru.bM s (up (P:=λk=>∀p d,J k d->al A p (tB cL a (E::vs::F)::(d++us))->Ru ac _ S ([(gf,aN k)]++pk M [p0,p1,p8,p9]) p) b.i4.length (λk hk w p d m U=>?_) 0 ab _ d m U);subst x;subst s;refine Ru.loop ?_;refine au ?_;refine Ru.cond (λf=>?_) (λf=>?_)
 .obtain⟨g,he⟩:=z k f;refine ah ?_;refine RO.kZ U.gr t (λq o hj B=>?_);refine RO.bk ?_ (hc:=B);refine ah ?_;refine RO.cl ((l k [aI b.i4[k],aI (-1)] [] d _ _ g ⟨rfl,g,by rw[he]⟩ m (al.eC (xs:=[_]) U)).mono ?_);rintro v L⟨r,U,hc⟩;rcases hc with⟨rfl,h⟩|⟨rfl,h⟩;·refine ah ?_;exact Ru.wk (w (k+1) ab ab _ _ h (al.jU (xs:=[_]) U))
  refine ah ?_;exact Ru.mI (vs:=[]) trivial (j _ r _ (al.jU (xs:=[_]) U).tail (.inr h))
 refine Ru.exitTo ?_;refine ah ?_;refine Ru.nm λS M x s=>?_;refine Ru.bM s (up (P:=λi=>∀p d,J (b.i4.length+(fF (b.aL.take i) 0).length) d->al A p (tB cL a (E::vs::F)::(d++us))->Ru ac _ S ([(rN,aN i)]++pk M [p0,p1,tw,tx]) p) b.aL.length (λi hi w p d m U=>?_) 0 ab _ d (by rw[show b.i4.length=k by omega];exact m) U);subst x;subst s;refine Ru.loop ?_;refine au ?_;refine Ru.cond (λf=>?_) (λf=>?_)
 .refine au ?_;refine RO.bW U.gr u (λq o c hj G _ hat hrd=>?_);have I:=G.one;obtain⟨va,rfl,ag⟩:=G;refine ah ?_;refine RO.dM U λH4 q6 U=>?_;refine ah ?_;refine RO.eQ U 0 (λH5 U=>?_);refine ah ?_;by_cases n:b.aL[i].to= -1;·refine RO.bT (λh=>absurd n h) (λ_=>?_);refine ah ?_;rw[<-Zm b f n]at m;exact Ru.wk (w (i+1) ab ab _ d m U.tail)
  obtain⟨g,he,C⟩:=KL b f n;refine RO.bT (λ_=>?_) (λh=>absurd n h);refine ah ?_;refine RO.cl ((l _ [aI b.aL[i].to,aI (i:Int)] [] d _ _ g ⟨rfl,g,by rw[he]⟩ m (al.eC (xs:=[_,_]) U)).mono ?_);rintro v L⟨r,U,hc⟩;rcases hc with⟨rfl,h⟩|⟨rfl,h⟩;·refine ah ?_;rw[afU,<-C]at h;exact Ru.wk (w (i+1) ab ab _ _ h (al.jU (xs:=[_,_]) U).tail)
  refine ah ?_;exact Ru.mI (vs:=[]) trivial (j _ r _ (al.jU (xs:=[_,_]) U).tail.tail (.inr h))
 refine Ru.exitTo ?_;refine ah ?_;refine Ru.aA (vs:=[]) trivial (j _ d _ U.tail (.inl ?_));have e:(cD b).length=b.i4.length+(fF (b.aL.take i) 0).length:=by rw[aeI ab];simp[cD]
 rw[e];exact m
end
end
section
section
variable{A H:ai}{us ts:List Th}{la:List Int}{sv fv:AV}{J:Nat->List Th->Prop}{D:List Th->Prop}
def KO(ac:Nat->aX)(A:ai)(fv:AV)(la:List Int)(J:Nat->List Th->Prop)(D:List Th->Prop):Prop:=
 ∀k ts us H(h:k<la.length),J k ts->al A H (ts++us)->YF ac fv [aI la[k]] H λv e=>∃d,al A e (d++us)/\(v=.bool false/\J (k+1) d\/v=.bool true/\D d)
theorem Zn(T:Tb ac)(j:∀{k H ts},J k ts->al A H (ts++us)->fx H la sv)(hl:la.length<=1000000)(u:fv.bq=true)(r:KO ac A fv la J D)(e:J 0 ts)(U:al A H (ts++us)){K:KT}(m:∀n d z,al A n (d++us)->(z<0/\J la.length d\/0<=z/\D d)->K (aI z) n):YN ac Vc [sv,fv] H K:=by
 have⟨hd,_,_,w⟩:=(j e U).all;refine YF.code T.Eh aC ?_;refine au ?_;refine Ru.nm λS M s p=>?_;refine Ru.bM p (up (P:=λk=>∀g ts,J k ts->al A g (ts++us)->Ru ac _ S ([(p8,aN k)]++pk M [p0,p1,p7]) g) la.length (λk x t g ts e U=>?_) 0 ab _ ts e U);subst s;subst p;refine Ru.loop ?_;refine au ?_;refine Ru.cond (λf=>?_) (λf=>?_)
 .refine au ?_;refine RO.kZ (aZ.refl _) (j e U) (λq o hj i=>?_);refine RO.bk ?_ (hc:=i);refine RO.cl ((r k ts us g f e U).mono ?_);rintro v y⟨d,U,hc⟩;rcases hc with⟨rfl,h⟩|⟨rfl,h⟩;·refine au ?_;exact Ru.wk (t (k+1) ab ab _ _ h U)
  refine au ?_;exact Ru.aP (m _ d (.ofNat k) U (.inr ⟨aC,h⟩))
 refine Ru.exitTo ?_;refine au ?_;exact Ru.aP (m _ ts (-1) U (.inl ⟨ab,by rw[show la.length=k by omega];exact e⟩))
theorem Zo(T:Tb ac)(g:∀{k H ts},J k ts->al A H (ts++us)->fx H la sv)(hl:la.length<=1000000)(f:fv.bq=true)(i:KO ac A fv la J D)(h:J 0 ts)(U:al A H (ts++us)){K:KT}(j:∀e d t,al A e (d++us)->(t=false/\J la.length d\/t=true/\D d)->K (.bool t) e):YN ac UY [sv,fv] H K:=by
 have⟨hd,_,_,n⟩:=(g h U).all;refine YF.code T.Eg aC ?_;refine au ?_;refine RO.cl (Zn T g hl f i h U λe d z U m=>?_);refine au ?_;refine Ru.aP (j _ d _ U ?_);rcases m with⟨h1,h2⟩|⟨h1,h2⟩;·exact .inl ⟨by simp;omega,h2⟩
 exact .inr ⟨by simp;omega,h2⟩
end
section
variable{A H:ai}{us ts:List Th}{c a:af}{b:G.dE}{cs:List AV}{l:List (Int×Int)}
theorem EF(T:Tb ac){y:AV}{J:Nat->List Th->Prop}{D:List Th->Prop}(r:y.bq=true)(f:Body ac A y l.length (EE l) J D){p bt:Nat}{la:List Int}{sv:AV}(n:fx A la sv)(hl:la.length<=1000000)(q:∀k(h:k<la.length),∃g:p+k<l.length,l[p+k]=(la[k],(bt:Int)))(i:J p ts)(U:al A H (tB tq a [y]::(ts++us))){K:KT}(o:∀j d t,al A j (tB tq a [y]::(d++us))->(t=true/\J (p+la.length) d\/t=false/\D d)->K (.bool t) j):YF ac (.func UX [] [.aD a 0]) [aN bt,sv] H K:=by
 have⟨hd,_,_,s⟩:=n.all;refine YF.code T.WM aC ?_;refine au ?_;refine RO.cG U (λu m U=>?_);refine au ?_;refine RO.cl (Zo T (us:=us) (ts:=tB 3 m [aN bt]::tB tq a [y]::ts) (λ_ h=>h.gr.sl n) hl rfl (J:=λk d=>∃t0,d=tB 3 m [aN bt]::tB tq a [y]::t0/\J (p+k) t0) (D:=λd=>∃t0,d=tB 3 m [aN bt]::tB tq a [y]::t0/\D t0) ?_ ⟨ts,rfl,i⟩ U λj d t U e=>?_)
 .rintro k _ us H h⟨t0,rfl,i⟩U;obtain⟨g,he⟩:=q k h;refine YF.code T.WN aC ?_;refine ah ?_;refine RO.cl ((f (p+k) [aI la[k],aN bt] [] t0 _ _ g ⟨rfl,g,by rw[he];rfl⟩ i (al.eC (xs:=[_,_]) U)).mono ?_);rintro v w⟨d,U,e⟩;have U:=al.jU (xs:=[_,_]) U;rcases e with⟨rfl,h⟩|⟨rfl,h⟩;·refine ah ?_;exact Ru.aP ⟨_,U,.inl ⟨rfl,d,rfl,h⟩⟩
  refine ah ?_;exact Ru.aP ⟨_,U,.inr ⟨rfl,d,rfl,h⟩⟩
 rcases e with⟨rfl,t0,rfl,h⟩|⟨rfl,t0,rfl,h⟩;·refine ah ?_;exact Ru.aP (o _ t0 true U.tail (.inl ⟨rfl,h⟩))
 refine ah ?_;exact Ru.aP (o _ t0 false U.tail (.inr ⟨rfl,h⟩))
end
end
section
def jX(c:List Int)(n:Nat):List (Int×Int):=c.map λv=>(v,(n:Int))
def fR:List G.dI->Nat->List (Int×Int)
 |[],_=>[]
 |s::l,i=>jX s.args i++fR l (i+1)
def gT:List G.Edge->Nat->List (Int×Int)
 |[],_=>[]
 |e::l,n=>jX e.args n++gT l n
def eO(b:G.dE):List (Int×Int):=fR b.aL 0++(jX b.aA.args b.aL.length++gT b.aA.go b.aL.length)
theorem EG:∀(c b:List G.dI)(i:Nat),fR (c++b) i=fR c i++fR b (i+c.length)|[],b,i=>by simp[fR]|s::c,b,i=>by simp only[afk,fR,EG c b (i+1),aeC,aeJ];rw[show i+1+c.length=i+(c.length+1)by omega]
theorem EH:∀(c b:List G.Edge)(n:Nat),gT (c++b) n=gT c n++gT b n|[],b,n=>by simp[gT]|s::c,b,n=>by simp only[afk,gT,EH c b n,aeC]
theorem EI{l i c:List (Int×Int)}{d:List Int}{n:Nat}(h:l=i++(jX d n++c))(k:Nat)(f:k<d.length):∃g:i.length+k<l.length,l[i.length+k]=(d[k],(n:Int)):=by
 have e:l[i.length+k]?=some (d[k],(n:Int)):=by rw[h,afn ab,aeM (by simp[jX];omega)];simp[jX,f]
 exact ae7.1 e
theorem Bg(c:List Int)(n:Nat):(jX c n).length=c.length:=by simp[jX]
theorem KP(b:G.dE){i:Nat}(h:i<b.aL.length):(fR (b.aL.take (i+1)) 0).length=(fR (b.aL.take i) 0).length+b.aL[i].args.length/\∃c,eO b=fR (b.aL.take i) 0++(jX b.aL[i].args i++c):=by
 have d:b.aL=b.aL.take i++b.aL[i]::b.aL.drop (i+1):=by conv=>lhs;rw[<-afI i b.aL,aeE h]
 refine⟨by rw[List.take_succ,afo h,Option.toList_some,EG,aex];simp[fR,Bg,af7 (Nat.le_of_lt h)],fR (b.aL.drop (i+1)) (i+1)++(jX b.aA.args b.aL.length++gT b.aA.go b.aL.length),?_⟩;have e:fR b.aL 0=fR (b.aL.take i) 0++(jX b.aL[i].args i++fR (b.aL.drop (i+1)) (i+1)):=by
  conv=>lhs;rw[d]
  rw[EG,fR,aeP,af7 ab,aeL]
 unfold eO;rw[e,aeC,aeC]
theorem KQ(b:G.dE){i:Nat}(h:i<b.aA.go.length):(gT (b.aA.go.take (i+1)) b.aL.length).length=(gT (b.aA.go.take i) b.aL.length).length+b.aA.go[i].args.length/\∃c,eO b=(fR b.aL 0++(jX b.aA.args b.aL.length++gT (b.aA.go.take i) b.aL.length))++(jX b.aA.go[i].args b.aL.length++c):=by
 have d:b.aA.go=b.aA.go.take i++b.aA.go[i]::b.aA.go.drop (i+1):=by conv=>lhs;rw[<-afI i b.aA.go,aeE h]
 refine⟨by rw[List.take_succ,afo h,Option.toList_some,EH,aex];simp[gT,Bg],gT (b.aA.go.drop (i+1)) b.aL.length,?_⟩;have e:gT b.aA.go b.aL.length=gT (b.aA.go.take i) b.aL.length++(jX b.aA.go[i].args b.aL.length++gT (b.aA.go.drop (i+1)) b.aL.length):=by
  conv=>lhs;rw[d]
  rw[EH,gT]
 unfold eO;rw[e];simp only[aeC]
section
variable{A H:ai}{us:List Th}{a:af}{b:G.dE}{cs:List AV}
theorem EJ(T:Tb ac)(h1:cE cs=true){K:KT}(d:∀c a,al H c [tB cL a cs]->K (.func yq [] [.aD a 0]) c):YN ac UA [.agg cs] H K:=by refine YF.code T.Wl aC ?_;refine au ?_;refine RO.cG (al.bY H) (λe a U=>?_);refine au ?_;exact Ru.aP (d _ a U)
theorem EK(T:Tb ac)(hb:i6 A b cs)(ag:b.aL.length<=1000)(cz:∀s∈b.aL,s.args.length<=1000)(av:b.aA.args.length<=1000)(aw:b.aA.go.length<=1000)(O:∀e∈b.aA.go,e.args.length<=1000):yG ac A (.func yq [] [.aD a 0]) (eO b).length (EE (eO b)) [tB cL a cs] (λ_=>True) (λ_=>True):=by
 intro y J D m us H K u P z ax f n U hR g;obtain⟨vp,vs,jc,rfl,ay,B,Q⟩:=hb;obtain⟨va,vk,vg,rfl,C,a1,E⟩:=Q;have⟨a2,_,_,a6⟩:=B.all;have⟨a8,_,_,a'⟩:=C.all;have⟨ba,_,_,bb⟩:=E.all;refine YF.code T.WL aC ?_;refine ah ?_;refine RO.cG U (v:=y) (λH1 W U=>?_) (ho:=by rw[z];simp[cE,P]);rw[z]at U;refine ah ?_;refine Ru.nm λS M I w=>?_;refine Ru.bM w (up (P:=λi=>∀r m,J (fR (b.aL.take i) 0).length m->al A r (tB tq W [y]::tB cL a _::(m++us))->Ru ac _ S ([(k6,aN i)]++pk M [p1,p3,fJ,iS]) r) b.aL.length (λi hi L r m n U=>?_) 0 ab _ m n U);subst I;subst w;refine Ru.loop ?_;refine au ?_;refine Ru.cond (λd=>?_) (λd=>?_)
 .obtain⟨v,c,N⟩:=KP b d;refine au ?_;refine RO.bW U.gr B (λq o c hj x _ hat hrd=>?_);have F:=x.one;obtain⟨R,rfl,k⟩:=x;have⟨G,_,_,_⟩:=k.all;refine ah ?_;refine RO.dM U λH4 Y U=>?_;refine ah ?_;refine RO.eQ U 0 (λZ U=>?_);refine ah ?_;refine RO.cl (EF T u f (p:=(fR (b.aL.take i) 0).length) (bt:=i) k (by have:=cz _ (acI d);omega) (EI N) n ((U.cH (afA ..)).cH (afL _ (tY (xs:=[_,_])))) λX j t U l=>?_);have U:=(U.cH (afL _ (tY (xs:=[_,_])).symm)).sub (afN _ (List.Sublist.cons _ (afG _)));rcases l with⟨rfl,h⟩|⟨rfl,h⟩;·refine ah ?_;rw[<-v]at h;exact Ru.wk (L (i+1) ab ab _ _ h U)
  refine ah ?_;exact Ru.mI (vs:=[]) trivial (g _ j _ U.tail.tail (.inr h))
 refine Ru.exitTo ?_;rw[aeI ab]at n;refine ah ?_;refine RO.cl (EF T u f (p:=(fR b.aL 0).length) (bt:=b.aL.length) C ab (EI (l:=eO b) rfl) n (U.cH (afL _ (tY (xs:=[_])))) λX j t U l=>?_);have U:=U.cH (afL _ (tY (xs:=[_])).symm);rcases l with⟨rfl,h⟩|⟨rfl,h⟩
 .refine ah ?_;refine Ru.nm λS M I w=>?_;refine Ru.bM w (up (P:=λi=>∀r m,J ((fR b.aL 0).length+(b.aA.args.length+(gT (b.aA.go.take i) b.aL.length).length)) m->al A r (tB tq W [y]::tB cL a _::(m++us))->Ru ac _ S ([(tE,aN i)]++pk M [p3,p6,tD,rP]) r) b.aA.go.length (λi hi L r m n U=>?_) 0 ab _ j h U);subst I;subst w;refine Ru.loop ?_;refine au ?_;refine Ru.cond (λd=>?_) (λd=>?_)
  .obtain⟨v,c,N⟩:=KQ b d;refine au ?_;refine RO.bW U.gr E (λq o c hj x _ hat hrd=>?_);have F:=x.one;obtain⟨R,rfl,k⟩:=x;have⟨G,_,_,_⟩:=k.all;refine ah ?_;refine RO.eR U λZ Y U=>?_;refine ah ?_;have V:(fR b.aL 0++(jX b.aA.args b.aL.length++gT (b.aA.go.take i) b.aL.length)).length=(fR b.aL 0).length+(b.aA.args.length+(gT (b.aA.go.take i) b.aL.length).length):=by simp only[aex,Bg]
   have p:=EI N;rw[V]at p;refine RO.cl (EF T u f (p:=(fR b.aL 0).length+(b.aA.args.length+(gT (b.aA.go.take i) b.aL.length).length)) (bt:=b.aL.length) k (by have:=O _ (acI d);omega) p n ((U.cH (afA ..)).cH (afL _ (tY (xs:=[_,_])))) λX j t U l=>?_);have U:=(U.cH (afL _ (tY (xs:=[_,_])).symm)).sub (afN _ (List.Sublist.cons _ (afG _)));rcases l with⟨rfl,h⟩|⟨rfl,h⟩;·refine ah ?_;rw[afU,afU,<-v]at h;exact Ru.wk (L (i+1) ab ab _ _ h U)
   refine ah ?_;exact Ru.mI (vs:=[]) trivial (g _ j _ U.tail.tail (.inr h))
  refine Ru.exitTo ?_;refine ah ?_;refine Ru.aA (vs:=[]) trivial (g _ m _ U.tail.tail (.inl ?_));have e:(eO b).length=(fR b.aL 0).length+(b.aA.args.length+(gT (b.aA.go.take i) b.aL.length).length):=by rw[aeI ab];simp[eO,Bg]
  rw[e];exact n
 refine ah ?_;exact Ru.mI (vs:=[]) trivial (g _ j _ U.tail.tail (.inr h))
end
end
end
end Go.ak.R
namespace Go.ak
section
variable{ac:Nat->aX}{c:Cx}{s:List SI}{L:Kn}{A H:ai}{d:Option af}{l:List bu}{ts:List Th}{q:af}{e n k i cap:Nat}{full ex:Bool}{a:List (Int×Int)}
def gi:List (Int×Int)->List AV
 |[]=>[]
 |w::l=>aI w.1::aI w.2::gi l
theorem EL:∀l,(gi l).length=l.length*2|[]=>rfl|w::l=>by simp only[gi,aeJ,EL l];omega
theorem KR:∀{l:List (Int×Int)}{k:Nat}(h:k<l.length),((gi l).drop (k*2)).take 2=[aI l[k].1,aI l[k].2]|w::l,0,_=>rfl|w::l,k+1,h=>by have:=KR (l:=l) (k:=k) (by simpa using h);rw[show(k+1)*2=k*2+2 by omega];simpa[gi]using this
theorem KS:∀{l:List (Int×Int)}{k:Nat}(_:k<l.length)(w:Int×Int)(j:Nat),(gi (l.set k w))[j]?=if k*2<=j/\j<k*2+2 then[aI w.1,aI w.2][j - k*2]? else(gi l)[j]?
 |v::l,0,_,w,j=>by match j with|0=>simp[gi]|1=>simp[gi]|j+2=>simp[gi];omega
 |v::l,k+1,h,w,j=>by
  match j with
   |0=>simp[gi]
   |1=>simp[gi];omega
   |j+2=>
    have:=KS (l:=l) (k:=k) (by simpa using h) w j;simp only[List.set_cons_succ,gi,afh,this];by_cases h1:k*2<=j/\j<k*2+2;·rw[aH h1,aH ab];congr 1;omega
    rw[ap h1,ap ab]
theorem KU(w:Int×Int):∀n,w.1=w.2->aeo (n*2) (aI w.1)=gi (aeo n w)|0,_=>rfl|n+1,h=>by rw[show(n+1)*2=n*2+1+1 by omega,List.replicate_succ,List.replicate_succ,KU w n h,List.replicate_succ,gi,<-h]
def Zp:ai->Int×Int->List AV->Prop:=λ_ w cs=>cs=[aI w.1,aI w.2]
theorem Zq.r{b:AV}(h:Sl H 2 (gi a) a.length b):cK 2 Zp H a b:=⟨_,h,λk f=>KR f⟩
theorem RO.Zr(U:al A H ts)(i:Nat)(w:Int×Int)(o:a.length=n){C x:aK}(h:∀b,al A b (ts.set i (tS e 2 (gi (a.set k w)) n full (.slice q 0 n cap ex)))->RO ac c l s (bj L d .agx) b)(hi:ts[i]?=some (tS e 2 (gi a) n full (.slice q 0 n cap ex)):=by rfl)(p:k<a.length:=by omega)(r:aT L C=.aD q (0+k*2):=by exact cw)(t:aT L x=.agg [aI w.1,aI w.2]:=by exact cw):RO ac c (⟨d,.store 2 C x,none,[],[]⟩::l) s L H:=by
 subst o;obtain⟨v,f,_,hu⟩:=U.iu i hi;have g:a.length<=cap:=by
  rcases f with⟨_,_,_,h⟩|⟨y,z,aM,m,u,rfl,h2,_,B,_⟩;·cases h
  injection h2 with _ _ _ h2;omega
 obtain⟨b,h1,h2,h3⟩:=cI.qn f (o:=0+k*2) (ws:=[aI w.1,aI w.2]) (us:=gi (a.set k w)) (by simp;omega) rfl (by rw[EL,EL,afQ]) λj hj=>by rw[KS p,aeL];rfl
 exact RO.store (v:=.agg [aI w.1,aI w.2]) h1 (h b (hu h2 h3)) r t rfl rfl
end
end Go.ak
namespace Go.ak.R
section
variable{ac:Nat->aX}
def mj(k:Nat)(f:List (Int×Int))(l:List (Int×Int)):List (Int×Int):=l.foldl (λa p=>a.set p.1.toNat ((k:Int),p.2)) f
def jJ(g:G.aY)(n:Nat):Nat->List (Int×Int)
 |0=>aeo n (-1, -1)
 |k+1=>mj k (jJ g n k) (cD (g.aj.getD k default))
def fS(g:G.aY):List (Int×Int):=jJ g g.aW.toNat g.aj.length
theorem EM(k:Nat):∀(l a:List (Int×Int)),(mj k a l).length=a.length|[],a=>rfl|p::l,a=>by show(mj k (a.set p.1.toNat ((k:Int),p.2)) l).length=_;rw[EM k l,afQ]
theorem Bh(g:G.aY)(n:Nat):∀k,(jJ g n k).length=n|0=>by simp[jJ]|k+1=>by rw[jJ,EM,Bh g n k]
section
variable{g:G.aY}{b d:AV}{c:af}{H:ai}{come:List Bool}{os:List (List bI)}{e:List AV}
theorem Zs(T:Tb ac)(V:G.Sm g)(r:GX g H c b d come os e)(ag:0<=g.aW)(av:g.aW<=6000)(hG:∀a6∈g.aj,∀p∈cD a6,0<=p.1/\p.1<g.aW){K:KT}(h:∀f v,al H f [tS nY 2 (gi (fS g)) (fS g).length true v]->K v f):YN ac U' [.aD c 0] H K:=by
 have aw:=V.nb;have⟨hd,_,_,hn⟩:=r.bl.all;have F:=r.iz.be;have I:=r.c2;have a:=r.iz.lt;obtain⟨n,s⟩:∃n:Nat,g.aW=(n:Int):=⟨g.aW.toNat,ab⟩;have u:∀k,(jJ g n k).length=n:=Bh g n;have x:fS g=jJ g n g.aj.length:=by rw[fS,s];rfl
 refine YF.code T.W3 aC ?_;refine au ?_;refine RO.j9 (al.bY H) 2 (λH1 qx U=>?_) (n:=1) (ws:=[aI (-1),aI (-1)]);refine ah ?_;refine RO.bk ?_ (v:=aN n) (hc:=by rw[U.gr.bx a,I,s];rfl);refine RO.cl (Zg T (n:=n) (u:=aI (-1)) (xv:=.slice qx 0 1 1 true) rfl (U.sl 0 rfl) ab λH2 q hl=>?_);have U:=U.eK hl;refine RO.eR U λW m U=>?_;refine ah ?_;refine RO.bk ?_ (v:=b) (hc:=by rw[U.gr.bx a];exact F);refine ah ?_;have U:al H W (tS nY 2 (gi (jJ g n 0)) n true (.slice q 0 n n true)::tB tp m [.slice q 0 n n true]::[]):=by have:=(U.eL 1 rfl).sub (afN _ (afN _ (agi _)));rw[KU (-1, -1) n rfl]at this;exact this
 refine Ru.nm λS M hS X=>?_;refine Ru.bM X (up (P:=λk=>∀C i,al H C (tS nY 2 (gi (jJ g n k)) n true (.slice q 0 n n true)::tB tp m [.slice q 0 n n true]::eN i)->Ru ac ⟨l9 [.tmp p2] K,i,none⟩ S ([(rN,aN k)]++pk M [p3,tw,tx]) C) g.aj.length (λk hk ih C i U=>?_) 0 ab _ [] U);subst hS;subst X;refine Ru.loop ?_;refine au ?_;refine Ru.cond (λa=>?_) (λa=>?_)
 .have y:=acI a;have ax:=V.bl _ y;have J:=hG _ y;refine ah ?_;refine RO.bW U.gr r.bl (λq5 o5 c5 hj o ay hat hrd=>?_);have z:=o.one;have L:=o;obtain⟨Y,Z,jc,rfl,_,_,N⟩:=o;obtain⟨va,vk,vg,rfl,_,_,_⟩:=N;refine ah ?_;refine RO.dM U λH4 B U=>?_;refine RO.dM U λH5 q6 U=>?_;refine RO.eo U 1 (λH6 U=>?_);refine RO.eQ U 0 (λH7 U=>?_);refine ah ?_;refine RO.cr U 0 ?_;have U:al H H7 (tS nY 2 (gi (jJ g n k)) n true (.slice q 0 n n true)::tB tp m [.slice q 0 n n true]::tB 3 B [aN k]::eN i):=(U.tail.eL 2 rfl).eL 2 rfl;refine RO.cl (KM T (cs:=[Y,Z,aU (g.aj[k]).aA.op,va,.str (g.aj[k]).aA.i7,vk,vg]) z rfl λH8 q1 hl=>?_);have U:al H H8 ([tB cL q1 [Y,Z,aU (g.aj[k]).aA.op,va,.str (g.aj[k]).aA.i7,vk,vg]]++[tS nY 2 (gi (jJ g n k)) n true (.slice q 0 n n true),tB tp m [.slice q 0 n n true],tB 3 B [aN k]]++eN i):=U.eK hl;refine ah ?_;refine Ru.wk (L:=[(yl,.func AY [] [.aD q1 0]),(p3,.aD m 0),(p4,.aD B 0),(tw,b),(tx,aN g.aj.length),(rN,aN k)]) ?_;refine Ru.qF (J:=λj ts=>ts=[tS nY 2 (gi (mj k (jJ g n k) ((cD g.aj[k]).take j))) n true (.slice q 0 n n true),tB tp m [.slice q 0 n n true],tB 3 B [aN k]]) (Dn:=λ_ _=>False) U (KN T L ab ab) (λ_ _=>trivial) rfl (λk args ws h=>by obtain⟨_,_,rfl⟩:=h;rfl) (λ_ _ _ _ _ _=>trivial) (λj args ws ts us l o1 o2 f hj O D U=>?_) (λf P E D U=>?_) (λj f P E _ h=>h.elim)
  .obtain⟨rfl,Q,rfl⟩:=O;subst D;obtain⟨h0,h1⟩:=J _ (acI Q);have R:(cD g.aj[k]).take (j+1)=(cD g.aj[k]).take j++[(cD g.aj[k])[j]]:=by rw[aeO]
   generalize(cD g.aj[k])[j]=w at*;obtain⟨w1,w2⟩:=w;obtain⟨t,rfl⟩:∃t:Nat,w1=(t:Int):=⟨w1.toNat,by simp only at h0;omega⟩;have a1:t<n:=by simp only at h1;omega
   have A:(mj k (jJ g n k) ((cD g.aj[k]).take j)).length=n:=by rw[EM,u]
   refine au ?_;refine Ru.dN U λH2 U=>?_;refine ah ?_;refine RO.Zr U 0 ((k:Int),w2) A (λW U=>?_) (k:=t);refine ah ?_;refine Ru.bB (ts:=[_,_,_]) U ?_;rw[R,mj,mj,List.foldl_append];rfl
  subst D;rw[af4]at U;refine ah ?_;have U:al H f (tS nY 2 (gi (jJ g n (k+1))) n true (.slice q 0 n n true)::tB tp m [.slice q 0 n n true]::eN (E::i)):=by
   have a2:jJ g n (k+1)=mj k (jJ g n k) (cD g.aj[k]):=by rw[jJ,bm a]
   rw[a2];exact U.sub (afN _ (afN _ (List.Sublist.cons _ (afG _))))
  exact Ru.wk (ih (k+1) ab ab f (E::i) U)
 refine Ru.exitTo ?_;refine ah ?_;have a2:k=g.aj.length:=ab;subst a2;rw[<-x]at U;refine Ru.ke (M:=i) (ts:=[_,_]) (U.cH (ae4 (l₁:=[_,_]) (l₂:=eN i))) λf U=>⟨[.slice q 0 n n true],⟨rfl,rfl,trivial⟩,h f _ ?_⟩;have e2:(fS g).length=n:=by rw[x,u]
 rw[e2];exact U.sub (afN _ (agi _))
end
end
end Go.ak.R
end
