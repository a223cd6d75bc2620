/- A part. No conditions. -/
import Derived.Test.YtpplokbfajnjhaaGreatDoorA18
set_option linter.all false
set_option maxHeartbeats 16000000
open List renaming replicate->acJ
open List.Sublist renaming cons_cons->ajk
open List.Perm renaming swap->aiK,cons->aiP
noncomputable section
namespace Go.al.R
section
variable{ab:Nat->aV}
section
def gC:List G.ee->Nat->List (Int×Int)
 |[],_=>[]
 |s::l,i=>(if s.to= -1 then[]else[(s.to,(i:Int))])++gC l (i+1)
theorem Cg:∀(a b:List G.ee)(i:Nat),gC (a++b) i=gC a i++gC b (i+a.length)|[],b,i=>by rfl|s::a,b,i=>by simp only[aiR,gC,Cg a b (i+1),ahD,air];grind
def cD(b:G.dK):List (Int×Int):=b.params.map (λv=>(v, -1))++gC b.aA 0
theorem Mt(b:G.dK){i:Nat}(h:i<b.aA.length)(a:b.aA[i].to≠ -1):∃c:b.params.length+(gC (b.aA.take i) 0).length<(cD b).length,(cD b)[b.params.length+(gC (b.aA.take i) 0).length]=(b.aA[i].to,(i:Int))/\(gC (b.aA.take (i+1)) 0).length=(gC (b.aA.take i) 0).length+1:=by
 have e1:b.aA=b.aA.take i++b.aA[i]::b.aA.drop (i+1):=by conv=>lhs;rw[<-ai1 i b.aA,ah6 h]
 have e2:cD b=b.params.map (λv=>(v, -1))++(gC (b.aA.take i) 0++((b.aA[i].to,(i:Int))::gC (b.aA.drop (i+1)) (i+1))):=by
  unfold cD;congr 1;conv=>lhs;rw[e1]
  rw[Cg,gC,an a,aiA,ajz aa,aif];rfl
 have e:(cD b)[b.params.length+(gC (b.aA.take i) 0).length]?=some (b.aA[i].to,(i:Int)):=by rw[e2,ajb aC,ajb aC];simp
 have⟨c,f⟩:=aiF.1 e;refine⟨c,f,?_⟩;rw[List.take_succ,aiQ h,Option.toList_some,Cg,ahY];simp[gC,a]
theorem acE(b:G.dK){i:Nat}(h:i<b.aA.length)(a:b.aA[i].to= -1):(gC (b.aA.take (i+1)) 0).length=(gC (b.aA.take i) 0).length:=by rw[List.take_succ,aiQ h,Option.toList_some,Cg,ahY];simp[gC,a]
def FY(l:List (Int×Int))(k:Nat)(args:List AV)(a:List Th):Prop:=a=[]/\∃h:k<l.length,args=[aI l[k].1,aI l[k].2]
section
variable{A H:ai}{us:List Th}{d:ah}{b:G.dK}{cs:List AV}
theorem Mu(T:Tb ab)(h1:cU cs=true)(a:cs.length=7){K:KT}(b:∀H' d,ak H H' [tB cH d cs]->K (.func BZ [] [.aD d 0]) H'):YN ab XW [.agg cs] H K:=by refine YF.code T.aab aC (au ?_);refine RO.ct (ak.bN H) (λH1 d U=>au ?_);exact Ru.aL (b _ d U)
theorem Mv(T:Tb ab)(hb:iP A b cs)(hp:b.params.length<=1000)(N:b.aA.length<=1000):xG ab A (.func BZ [] [.aD d 0]) (cD b).length (FY (cD b)) [tB cH d cs] (λ_=>True) (λ_=>True):=by
 intro y J D a us H K O P Q R l m U hR j;obtain⟨E,vs,F,rfl,t,u,V⟩:=hb;have⟨W,_,_,X⟩:=t.all;have⟨Y,_,_,Z⟩:=u.all;have z:∀k(h:k<b.params.length),∃h':k<(cD b).length,(cD b)[k]=(b.params[k], -1):=λk h=>by
  have e:(cD b)[k]?=some (b.params[k], -1):=by unfold cD;rw[aij (by simpa using h)];simp[h]
  exact aiF.1 e
 refine YF.code T.aav aC (af ?_);refine Ru.nm λS M x s=>Ru.bI s (up (P:=λk=>∀p a,J k a->ak A p (tB cH d (E::vs::F)::(a++us))->Ru ab _ S ([(eM,aN k)]++pk M [p0,p1,p8,p9]) p) b.params.length (λk hk w p a m U=>?_) 0 aC _ a m U);subst x;subst s;refine Ru.loop (au ?_);refine Ru.cond (λf=>?_) (λf=>?_)
 .obtain⟨g,he⟩:=z k f;refine af ?_;refine RO.jk U.gr t (λq o hj B=>RO.be (af ?_) (hc:=B));refine RO.cl ((l k [aI b.params[k],aI (-1)] [] a _ _ g ⟨rfl,g,by rw[he]⟩ m (ak.dR (xs:=[_]) U)).mono ?_);rintro v L⟨r,U,hc⟩;rcases hc with⟨rfl,h⟩|⟨rfl,h⟩;·refine af ?_;exact Ru.wk (w (k+1) aa aa _ _ h (ak.jP (xs:=[_]) U))
  refine af ?_;exact Ru.kJ (vs:=[]) trivial (j _ r _ (ak.jP (xs:=[_]) U).tail (.inr h))
 refine Ru.exitTo ?_;refine af ?_;refine Ru.nm λS M x s=>?_;refine Ru.bI s (up (P:=λi=>∀p a,J (b.params.length+(gC (b.aA.take i) 0).length) a->ak A p (tB cH d (E::vs::F)::(a++us))->Ru ab _ S ([(qq,aN i)]++pk M [p0,p1,rJ,rL]) p) b.aA.length (λi hi w p a m U=>?_) 0 aa _ a (by rw[show b.params.length=k by omega];exact m) U);subst x;subst s;refine Ru.loop ?_;refine au ?_;refine Ru.cond (λf=>?_) (λf=>?_)
 .refine au ?_;refine RO.bO U.gr u (λq o c hj G _ hat hrd=>?_);have I:=G.one;obtain⟨va,rfl,ag⟩:=G;refine af ?_;refine RO.dN U λH4 q6 U=>af ?_;refine RO.eY U 0 (λH5 U=>?_);refine af ?_;by_cases n:b.aA[i].to= -1;·refine RO.bW (λh=>absurd n h) (λ_=>?_);refine af ?_;rw[<-acE b f n]at m;exact Ru.wk (w (i+1) aa aa _ a m U.tail)
  obtain⟨g,he,C⟩:=Mt b f n;refine RO.bW (λ_=>?_) (λh=>absurd n h);refine af ?_;refine RO.cl ((l _ [aI b.aA[i].to,aI (i:Int)] [] a _ _ g ⟨rfl,g,by rw[he]⟩ m (ak.dR (xs:=[_,_]) U)).mono ?_);rintro v L⟨r,U,hc⟩;rcases hc with⟨rfl,h⟩|⟨rfl,h⟩;·refine af ?_;rw[ajn,<-C]at h;exact Ru.wk (w (i+1) aa aa _ _ h (ak.jP (xs:=[_,_]) U).tail)
  refine af ?_;exact Ru.kJ (vs:=[]) trivial (j _ r _ (ak.jP (xs:=[_,_]) U).tail.tail (.inr h))
 refine Ru.exitTo (af ?_);refine Ru.aq (vs:=[]) trivial (j _ a _ U.tail (.inl ?_));have e:(cD b).length=b.params.length+(gC (b.aA.take i) 0).length:=by rw[aic aa];simp[cD]
 rw[e];exact m
end
end
section
section
variable{A H:ai}{us ts:List Th}{la:List Int}{sv fv:AV}{J:Nat->List Th->Prop}{D:List Th->Prop}
def Mw(ab:Nat->aV)(A:ai)(fv:AV)(la:List Int)(J:Nat->List Th->Prop)(D:List Th->Prop):Prop:=
 ∀k ts us H(h:k<la.length),J k ts->ak A H (ts++us)->YF ab fv [aI la[k]] H λv H'=>∃b,ak A H' (b++us)/\(v=.bool false/\J (k+1) b\/v=.bool true/\D b)
theorem acF(T:Tb ab)(i:∀{k H ts},J k ts->ak A H (ts++us)->eE H la sv)(hl:la.length<=1000000)(r:fv.br=true)(m:Mw ab A fv la J D)(d:J 0 ts)(U:ak A H (ts++us)){K:KT}(j:∀H' b z,ak A H' (b++us)->(z<0/\J la.length b\/0<=z/\D b)->K (aI z) H'):YN ab Xm [sv,fv] H K:=by
 have⟨hd,_,_,s⟩:=(i d U).all;refine YF.code T.Fj aC (au ?_);refine Ru.nm λS M n l=>Ru.bI l (up (P:=λk=>∀f ts,J k ts->ak A f (ts++us)->Ru ab _ S ([(p8,aN k)]++pk M [p0,p1,p7]) f) la.length (λk t p f ts d U=>?_) 0 aC _ ts d U);subst n;subst l;refine Ru.loop (au ?_);refine Ru.cond (λe=>?_) (λe=>?_)
 .refine au ?_;refine RO.jk (aS.refl _) (i d U) (λq o hj g=>RO.be (RO.cl ((m k ts us f e d U).mono ?_)) (hc:=g));rintro v u⟨b,U,hc⟩;rcases hc with⟨rfl,h⟩|⟨rfl,h⟩;·refine au ?_;exact Ru.wk (p (k+1) aa aa _ _ h U)
  refine au ?_;exact Ru.aL (j _ b (.ofNat k) U (.inr ⟨aC,h⟩))
 refine Ru.exitTo ?_;refine au ?_;exact Ru.aL (j _ ts (-1) U (.inl ⟨aa,by rw[show la.length=k by omega];exact d⟩))
theorem acG(T:Tb ab)(e:∀{k H ts},J k ts->ak A H (ts++us)->eE H la sv)(hl:la.length<=1000000)(d:fv.br=true)(g:Mw ab A fv la J D)(f:J 0 ts)(U:ak A H (ts++us)){K:KT}(h:∀H' b t,ak A H' (b++us)->(t=false/\J la.length b\/t=true/\D b)->K (.bool t) H'):YN ab W3 [sv,fv] H K:=by
 have⟨hd,_,_,j⟩:=(e f U).all;refine YF.code T.Fi aC (au ?_);refine RO.cl (acF T e hl d g f U λH' b z U i=>au ?_);refine Ru.aL (h _ b _ U ?_);rcases i with⟨h1,h2⟩|⟨h1,h2⟩;·exact .inl ⟨by simp;omega,h2⟩
 exact .inr ⟨by simp;omega,h2⟩
end
section
variable{A H:ai}{us ts:List Th}{c a:ah}{b:G.dK}{cs:List AV}{l:List (Int×Int)}
theorem FZ(T:Tb ab){y:AV}{J:Nat->List Th->Prop}{D:List Th->Prop}(o:y.br=true)(e:Body ab A y l.length (FY l) J D){p bu:Nat}{la:List Int}{sv:AV}(j:eE A la sv)(hl:la.length<=1000000)(n:∀k(h:k<la.length),∃f:p+k<l.length,l[p+k]=(la[k],(bu:Int)))(g:J p ts)(U:ak A H (tB uI a [y]::(ts++us))){K:KT}(m:∀H' b t,ak A H' (tB uI a [y]::(b++us))->(t=true/\J (p+la.length) b\/t=false/\D b)->K (.bool t) H'):YF ab (.func Yf [] [.aD a 0]) [aN bu,sv] H K:=by
 have⟨hd,_,_,q⟩:=j.all;refine YF.code T.aax aC (au ?_);refine RO.ct U (λH1 i U=>au ?_);refine RO.cl (acG T (us:=us) (ts:=tB 3 i [aN bu]::tB uI a [y]::ts) (λ_ h=>h.gr.sl j) hl rfl (J:=λk b=>∃t0,b=tB 3 i [aN bu]::tB uI a [y]::t0/\J (p+k) t0) (D:=λb=>∃t0,b=tB 3 i [aN bu]::tB uI a [y]::t0/\D t0) ?_ ⟨ts,rfl,g⟩ U λH' b t U d=>?_)
 .rintro k _ us H h⟨t0,rfl,g⟩U;have⟨f,he⟩:=n k h;refine YF.code T.aay aC (af ?_);refine RO.cl ((e (p+k) [aI la[k],aN bu] [] t0 _ _ f ⟨rfl,f,by rw[he];rfl⟩ g (ak.dR (xs:=[_,_]) U)).mono ?_);rintro v r⟨b,U,d⟩;have U:=ak.jP (xs:=[_,_]) U;rcases d with⟨rfl,h⟩|⟨rfl,h⟩;·refine af ?_;exact Ru.aL ⟨_,U,.inl ⟨rfl,b,rfl,h⟩⟩
  refine af ?_;exact Ru.aL ⟨_,U,.inr ⟨rfl,b,rfl,h⟩⟩
 rcases d with⟨rfl,t0,rfl,h⟩|⟨rfl,t0,rfl,h⟩;·refine af ?_;exact Ru.aL (m _ t0 true U.tail (.inl ⟨rfl,h⟩))
 refine af ?_;exact Ru.aL (m _ t0 false U.tail (.inr ⟨rfl,h⟩))
end
end
section
def lA(a:List Int)(n:Nat):List (Int×Int):=a.map λv=>(v,(n:Int))
def ir:List G.ee->Nat->List (Int×Int)
 |[],_=>[]
 |s::l,i=>lA s.args i++ir l (i+1)
def ja:List G.Edge->Nat->List (Int×Int)
 |[],_=>[]
 |e::l,n=>lA e.args n++ja l n
def fD(b:G.dK):List (Int×Int):=ir b.aA 0++(lA b.aq.args b.aA.length++ja b.aq.go b.aA.length)
theorem F1:∀(a b:List G.ee)(i:Nat),ir (a++b) i=ir a i++ir b (i+a.length)|[],b,i=>by simp[ir]|s::a,b,i=>by simp only[aiR,ir,F1 a b (i+1),ahD,air];rw[show i+1+a.length=i+(a.length+1)by omega]
theorem F4:∀(a b:List G.Edge)(n:Nat),ja (a++b) n=ja a n++ja b n|[],b,n=>by simp[ja]|s::a,b,n=>by simp only[aiR,ja,F4 a b n,ahD]
theorem F5{l a c:List (Int×Int)}{b:List Int}{n:Nat}(h:l=a++(lA b n++c))(k:Nat)(f:k<b.length):∃g:a.length+k<l.length,l[a.length+k]=(b[k],(n:Int)):=by
 have e:l[a.length+k]?=some (b[k],(n:Int)):=by rw[h,ajb aa,aij (by simp[lA];omega)];simp[lA,f]
 exact aiF.1 e
theorem Ci(a:List Int)(n:Nat):(lA a n).length=a.length:=by simp[lA]
theorem F6(b:G.dK){i:Nat}(h:i<b.aA.length):(ir (b.aA.take (i+1)) 0).length=(ir (b.aA.take i) 0).length+b.aA[i].args.length/\∃c,fD b=ir (b.aA.take i) 0++(lA b.aA[i].args i++c):=by
 have e1:b.aA=b.aA.take i++b.aA[i]::b.aA.drop (i+1):=by conv=>lhs;rw[<-ai1 i b.aA,ah6 h]
 refine⟨by rw[List.take_succ,aiQ h,Option.toList_some,F1,ahY];simp[ir,Ci,ajz (Nat.le_of_lt h)],ir (b.aA.drop (i+1)) (i+1)++(lA b.aq.args b.aA.length++ja b.aq.go b.aA.length),?_⟩;have e2:ir b.aA 0=ir (b.aA.take i) 0++(lA b.aA[i].args i++ir (b.aA.drop (i+1)) (i+1)):=by
  conv=>lhs;rw[e1]
  rw[F1,ir,aiA,ajz aa,aif]
 unfold fD;rw[e2,ahD,ahD]
theorem F7(b:G.dK){i:Nat}(h:i<b.aq.go.length):(ja (b.aq.go.take (i+1)) b.aA.length).length=(ja (b.aq.go.take i) b.aA.length).length+b.aq.go[i].args.length/\∃c,fD b=(ir b.aA 0++(lA b.aq.args b.aA.length++ja (b.aq.go.take i) b.aA.length))++(lA b.aq.go[i].args b.aA.length++c):=by
 have e1:b.aq.go=b.aq.go.take i++b.aq.go[i]::b.aq.go.drop (i+1):=by conv=>lhs;rw[<-ai1 i b.aq.go,ah6 h]
 refine⟨by rw[List.take_succ,aiQ h,Option.toList_some,F4,ahY];simp[ja,Ci],ja (b.aq.go.drop (i+1)) b.aA.length,?_⟩;have e2:ja b.aq.go b.aA.length=ja (b.aq.go.take i) b.aA.length++(lA b.aq.go[i].args b.aA.length++ja (b.aq.go.drop (i+1)) b.aA.length):=by
  conv=>lhs;rw[e1]
  rw[F4,ja]
 unfold fD;rw[e2];simp only[ahD]
section
variable{A H:ai}{us:List Th}{d:ah}{b:G.dK}{cs:List AV}
theorem Mx(T:Tb ab)(h1:cU cs=true){K:KT}(a:∀H' d,ak H H' [tB cH d cs]->K (.func B0 [] [.aD d 0]) H'):YN ab XX [.agg cs] H K:=by refine YF.code T.aae aC (au ?_);refine RO.ct (ak.bN H) (λH1 d U=>au ?_);exact Ru.aL (a _ d U)
theorem My(T:Tb ab)(hb:iP A b cs)(ag:b.aA.length<=1000)(de:∀s∈b.aA,s.args.length<=1000)(av:b.aq.args.length<=1000)(aw:b.aq.go.length<=1000)(O:∀e∈b.aq.go,e.args.length<=1000):xG ab A (.func B0 [] [.aD d 0]) (fD b).length (FY (fD b)) [tB cH d cs] (λ_=>True) (λ_=>True):=by
 intro y J D m us H K u P z ax f n U hR g;obtain⟨vp,vs,jc,rfl,ay,B,Q⟩:=hb;obtain⟨va,vk,vg,rfl,C,a1,E⟩:=Q;have⟨a2,_,_,a6⟩:=B.all;have⟨a8,_,_,a'⟩:=C.all;have⟨ba,_,_,bb⟩:=E.all;refine YF.code T.aaw aC (af ?_);refine RO.ct U (v:=y) (λH1 W U=>?_) (ho:=by rw[z];simp[cU,P]);rw[z]at U;refine af ?_;refine Ru.nm λS M I w=>Ru.bI w (up (P:=λi=>∀r m,J (ir (b.aA.take i) 0).length m->ak A r (tB uI W [y]::tB cH d _::(m++us))->Ru ab _ S ([(jA,aN i)]++pk M [p1,p3,eS,ib]) r) b.aA.length (λi hi L r m n U=>?_) 0 aa _ m n U);subst I;subst w;refine Ru.loop (au ?_);refine Ru.cond (λa=>?_) (λa=>?_)
 .obtain⟨v,c,N⟩:=F6 b a;refine au ?_;refine RO.bO U.gr B (λq o c hj x _ hat hrd=>?_);have F:=x.one;obtain⟨R,rfl,k⟩:=x;have⟨G,_,_,_⟩:=k.all;refine af ?_;refine RO.dN U λH4 Y U=>af ?_;refine RO.eY U 0 (λZ U=>?_);refine af ?_;refine RO.cl (FZ T u f (p:=(ir (b.aA.take i) 0).length) (bu:=i) k (by have:=de _ (acm a);omega) (F5 N) n ((U.bV (aiK ..)).bV (aiP _ (rV (xs:=[_,_])))) λX j t U l=>?_);have U:=(U.bV (aiP _ (rV (xs:=[_,_])).symm)).sub (ajk _ (List.Sublist.cons _ (aiE _)));rcases l with⟨rfl,h⟩|⟨rfl,h⟩;·refine af ?_;rw[<-v]at h;exact Ru.wk (L (i+1) aa aa _ _ h U)
  refine af ?_;exact Ru.kJ (vs:=[]) trivial (g _ j _ U.tail.tail (.inr h))
 refine Ru.exitTo ?_;rw[aic aa]at n;refine af ?_;refine RO.cl (FZ T u f (p:=(ir b.aA 0).length) (bu:=b.aA.length) C aa (F5 (l:=fD b) rfl) n (U.bV (aiP _ (rV (xs:=[_])))) λX j t U l=>?_);have U:=U.bV (aiP _ (rV (xs:=[_])).symm);rcases l with⟨rfl,h⟩|⟨rfl,h⟩
 .refine af ?_;refine Ru.nm λS M I w=>Ru.bI w (up (P:=λi=>∀r m,J ((ir b.aA 0).length+(b.aq.args.length+(ja (b.aq.go.take i) b.aA.length).length)) m->ak A r (tB uI W [y]::tB cH d _::(m++us))->Ru ab _ S ([(uK,aN i)]++pk M [p3,p6,rP,tf]) r) b.aq.go.length (λi hi L r m n U=>?_) 0 aa _ j h U);subst I;subst w;refine Ru.loop (au ?_);refine Ru.cond (λa=>?_) (λa=>?_)
  .obtain⟨v,c,N⟩:=F7 b a;refine au ?_;refine RO.bO U.gr E (λq o c hj x _ hat hrd=>?_);have F:=x.one;obtain⟨R,rfl,k⟩:=x;have⟨G,_,_,_⟩:=k.all;refine af ?_;refine RO.dS U λZ Y U=>?_;refine af ?_;have V:(ir b.aA 0++(lA b.aq.args b.aA.length++ja (b.aq.go.take i) b.aA.length)).length=(ir b.aA 0).length+(b.aq.args.length+(ja (b.aq.go.take i) b.aA.length).length):=by simp only[ahY,Ci]
   have p:=F5 N;rw[V]at p;refine RO.cl (FZ T u f (p:=(ir b.aA 0).length+(b.aq.args.length+(ja (b.aq.go.take i) b.aA.length).length)) (bu:=b.aA.length) k (by have:=O _ (acm a);omega) p n ((U.bV (aiK ..)).bV (aiP _ (rV (xs:=[_,_])))) λX j t U l=>?_);have U:=(U.bV (aiP _ (rV (xs:=[_,_])).symm)).sub (ajk _ (List.Sublist.cons _ (aiE _)));rcases l with⟨rfl,h⟩|⟨rfl,h⟩;·refine af ?_;rw[ajn,ajn,<-v]at h;exact Ru.wk (L (i+1) aa aa _ _ h U)
   refine af ?_;exact Ru.kJ (vs:=[]) trivial (g _ j _ U.tail.tail (.inr h))
  refine Ru.exitTo (af ?_);refine Ru.aq (vs:=[]) trivial (g _ m _ U.tail.tail (.inl ?_));have e:(fD b).length=(ir b.aA 0).length+(b.aq.args.length+(ja (b.aq.go.take i) b.aA.length).length):=by rw[aic aa];simp[fD,Ci]
  rw[e];exact n
 refine af ?_;exact Ru.kJ (vs:=[]) trivial (g _ j _ U.tail.tail (.inr h))
end
end
end
end Go.al.R
namespace Go.al
section
variable{ab:Nat->aV}{c:Cx}{s:List SI}{L:Kn}{A H:ai}{d:Option ah}{l:List bD}{ts:List Th}{q:ah}{e n k i cap:Nat}{full ex:Bool}{b:List (Int×Int)}
def gD:List (Int×Int)->List AV
 |[]=>[]
 |w::l=>aI w.1::aI w.2::gD l
theorem Mz:∀l,(gD l).length=l.length*2|[]=>rfl|w::l=>by simp only[gD,air,Mz l];omega
theorem MA:∀{l:List (Int×Int)}{k:Nat}(h:k<l.length),((gD l).drop (k*2)).take 2=[aI l[k].1,aI l[k].2]|w::l,0,_=>rfl|w::l,k+1,h=>by have:=MA (l:=l) (k:=k) (by simpa using h);grind[gD]
theorem MB:∀{l:List (Int×Int)}{k:Nat}(_:k<l.length)(w:Int×Int)(j:Nat),(gD (l.set k w))[j]?=if k*2<=j/\j<k*2+2 then[aI w.1,aI w.2][j - k*2]? else(gD l)[j]?
 |v::l,0,_,w,j=>by match j with|0=>simp[gD]|1=>simp[gD]|j+2=>simp[gD];omega
 |v::l,k+1,h,w,j=>by
  match j with
   |0=>simp[gD]
   |1=>simp[gD];omega
   |j+2=>
    have:=MB (l:=l) (k:=k) (by simpa using h) w j;simp only[List.set_cons_succ,gD,ai5,this];by_cases h1:k*2<=j/\j<k*2+2;·rw[aG h1,aG aa];congr 1;omega
    rw[an h1,an aa]
theorem MC(w:Int×Int):∀n,w.1=w.2->acJ (n*2) (aI w.1)=gD (acJ n w)|0,_=>rfl|n+1,h=>by rw[show(n+1)*2=n*2+1+1 by omega,List.replicate_succ,List.replicate_succ,MC w n h,List.replicate_succ,gD,<-h]
def acH:ai->Int×Int->List AV->Prop:=λ_ w cs=>cs=[aI w.1,aI w.2]
theorem SlD.r{a:AV}(h:Sl H 2 (gD b) b.length a):cQ 2 acH H b a:=⟨_,h,λk c=>MA c⟩
theorem RO.stD(U:ak A H ts)(i:Nat)(w:Int×Int)(u:b.length=n){a x:aJ}(h:∀H',ak A H' (ts.set i (tS e 2 (gD (b.set k w)) n full (.slice q 0 n cap ex)))->RO ab c l s (bq L d .ajS) H')(hi:ts[i]?=some (tS e 2 (gD b) n full (.slice q 0 n cap ex)):=by rfl)(o:k<b.length:=by omega)(p:aT L a=.aD q (0+k*2):=by exact cw)(r:aT L x=.agg [aI w.1,aI w.2]:=by exact cw):RO ab c (⟨d,.store 2 a x,none,[],[]⟩::l) s L H:=by
 have⟨v,f,_,hu⟩:=U.iO i hi;have g:b.length<=cap:=by
  rcases f with⟨_,_,_,h⟩|⟨y,z,aK,m,t,rfl,h2,_,B,_⟩;·cases h
  injection h2 with _ _ _ h2;omega
 obtain⟨H',h1,h2,h3⟩:=cP.sX f (o:=0+k*2) (ws:=[aI w.1,aI w.2]) (us:=gD (b.set k w)) (by grind) rfl (by simp[Mz,aja]) λj hj=>by simp[o,MB,aif]
 exact RO.store (v:=.agg [aI w.1,aI w.2]) h1 (h H' (hu h2 h3)) p r rfl rfl
end
end Go.al
namespace Go.al.R
section
variable{ab:Nat->aV}
def nu(k:Nat)(b:List (Int×Int))(l:List (Int×Int)):List (Int×Int):=l.foldl (λa p=>a.set p.1.toNat ((k:Int),p.2)) b
def kp(g:G.aP)(n:Nat):Nat->List (Int×Int)
 |0=>acJ n (-1, -1)
 |k+1=>nu k (kp g n k) (cD (g.aj.getD k default))
def fK(g:G.aP):List (Int×Int):=kp g g.aQ.toNat g.aj.length
theorem F8(k:Nat):∀(l a:List (Int×Int)),(nu k a l).length=a.length|[],a=>rfl|p::l,a=>by show(nu k (a.set p.1.toNat ((k:Int),p.2)) l).length=_;rw[F8 k l,aja]
theorem Cj(g:G.aP)(n:Nat):∀k,(kp g n k).length=n|0=>by simp[kp]|k+1=>by rw[kp,F8,Cj g n k]
section
variable{g:G.aP}{c f:AV}{d:ah}{H:ai}{come:List Bool}{os:List (List bt)}{h:List AV}
theorem acK(T:Tb ab)(V:G.Sm g)(r:GX g H d c f come os h)(ag:0<=g.aQ)(av:g.aQ<=6000)(hG:∀b∈g.aj,∀p∈cD b,0<=p.1/\p.1<g.aQ){K:KT}(a2:∀H' v,ak H H' [tS lu 2 (gD (fK g)) (fK g).length true v]->K v H'):YN ab Yb [.aD d 0] H K:=by
 have aw:=V.nb;have⟨hd,_,_,hn⟩:=r.bl.all;have F:=r.jn.aE;have I:=r.c2;have a:=r.jn.lt;obtain⟨n,s⟩:∃n:Nat,g.aQ=(n:Int):=⟨g.aQ.toNat,aa⟩;have u:∀k,(kp g n k).length=n:=Cj g n;have x:fK g=kp g n g.aj.length:=by rw[fK,s];rfl
 refine YF.code T.aaq aC (au ?_);refine RO.i6 (ak.bN H) 2 (λH1 qx U=>af ?_) (n:=1) (ws:=[aI (-1),aI (-1)]);refine RO.be ?_ (v:=aN n) (hc:=by rw[U.gr.aY a,I,s];rfl);refine RO.cl (acx T (n:=n) (u:=aI (-1)) (xv:=.slice qx 0 1 1 true) rfl (U.sl (e:=lu) (size:=2) (n:=1) (full:=true) 0) aa λH2 q hl=>?_);have U:=U.dq hl;refine RO.dS U λW m U=>af ?_;refine RO.be ?_ (v:=c) (hc:=by rw[U.gr.aY a];exact F);refine af ?_;have U:ak H W (tS lu 2 (gD (kp g n 0)) n true (.slice q 0 n n true)::tB s9 m [.slice q 0 n n true]::[]):=by have:=(U.eh 1 rfl).sub (ajk _ (ajk _ (ajr _)));rw[MC (-1, -1) n rfl]at this;exact this
 refine Ru.nm λS M hS X=>Ru.bI X (up (P:=λk=>∀C i,ak H C (tS lu 2 (gD (kp g n k)) n true (.slice q 0 n n true)::tB s9 m [.slice q 0 n n true]::fC i)->Ru ab ⟨mZ [.tmp p2] K,i,none⟩ S ([(qq,aN k)]++pk M [p3,rJ,rL]) C) g.aj.length (λk hk ih C i U=>?_) 0 aa _ [] U);subst hS;subst X;refine Ru.loop (au ?_);refine Ru.cond (λa=>?_) (λa=>?_)
 .have y:=acm a;have ax:=V.bl _ y;have J:=hG _ y;refine af ?_;refine RO.bO U.gr r.bl (λq5 o5 c5 hj o ay hat hrd=>?_);have z:=o.one;have L:=o;obtain⟨Y,Z,jc,rfl,_,_,N⟩:=o;obtain⟨va,vk,vg,rfl,_,_,_⟩:=N;refine af ?_;refine RO.dN U λH4 B U=>RO.dN U λH5 q6 U=>RO.dJ U 1 (λH6 U=>RO.eY U 0 (λH7 U=>af ?_));refine RO.co U 0 ?_;have U:ak H H7 (tS lu 2 (gD (kp g n k)) n true (.slice q 0 n n true)::tB s9 m [.slice q 0 n n true]::tB 3 B [aN k]::fC i):=(U.tail.eh 2 rfl).eh 2 rfl;refine RO.cl (Mu T (cs:=[Y,Z,aU (g.aj[k]).aq.op,va,.str (g.aj[k]).aq.name,vk,vg]) z rfl λH8 q1 hl=>?_);have U:ak H H8 ([tB cH q1 [Y,Z,aU (g.aj[k]).aq.op,va,.str (g.aj[k]).aq.name,vk,vg]]++[tS lu 2 (gD (kp g n k)) n true (.slice q 0 n n true),tB s9 m [.slice q 0 n n true],tB 3 B [aN k]]++fC i):=U.dq hl;refine af ?_;refine Ru.wk (L:=[(xi,.func BZ [] [.aD q1 0]),(p3,.aD m 0),(p4,.aD B 0),(rJ,c),(rL,aN g.aj.length),(qq,aN k)]) ?_;refine Ru.oh (J:=λj ts=>ts=[tS lu 2 (gD (nu k (kp g n k) ((cD g.aj[k]).take j))) n true (.slice q 0 n n true),tB s9 m [.slice q 0 n n true],tB 3 B [aN k]]) (Dn:=λ_ _=>False) U (Mv T L aa aa) (λ_ _=>trivial) rfl (λk args ws a2=>by obtain⟨_,_,rfl⟩:=a2;rfl) (λ_ _ _ _ _ _=>trivial) (λj args ws ts us l o1 o2 H' hj O D U=>?_) (λH' P E D U=>?_) (λj H' P E _ a2=>a2.elim)
  .obtain⟨rfl,Q,rfl⟩:=O;subst D;obtain⟨h0,h1⟩:=J _ (acm Q);have R:(cD g.aj[k]).take (j+1)=(cD g.aj[k]).take j++[(cD g.aj[k])[j]]:=by rw[ah9]
   generalize(cD g.aj[k])[j]=w at*;obtain⟨w1,w2⟩:=w;obtain⟨t,rfl⟩:∃t:Nat,w1=(t:Int):=⟨w1.toNat,by simp only at h0;omega⟩;have a1:t<n:=by simp only at h1;omega
   have A:(nu k (kp g n k) ((cD g.aj[k]).take j)).length=n:=by rw[F8,u]
   refine au ?_;refine Ru.cY U λH2 U=>af ?_;refine RO.stD U 0 ((k:Int),w2) A (λW U=>af ?_) (k:=t);refine Ru.bz (ts:=[_,_,_]) U ?_;rw[R,nu,nu,List.foldl_append];rfl
  subst D;rw[ajg]at U;refine af ?_;have U:ak H H' (tS lu 2 (gD (kp g n (k+1))) n true (.slice q 0 n n true)::tB s9 m [.slice q 0 n n true]::fC (E::i)):=by
   have e:kp g n (k+1)=nu k (kp g n k) (cD g.aj[k]):=by rw[kp,bf a]
   rw[e];exact U.sub (ajk _ (ajk _ (List.Sublist.cons _ (aiE _))))
  exact Ru.wk (ih (k+1) aa aa H' (E::i) U)
 refine Ru.exitTo ?_;refine af ?_;have e:k=g.aj.length:=aa;subst e;rw[<-x]at U;refine Ru.jl (M:=i) (ts:=[_,_]) (U.bV (aiq (l₁:=[_,_]) (l₂:=fC i))) λH' U=>⟨[.slice q 0 n n true],⟨rfl,rfl,trivial⟩,a2 H' _ ?_⟩;have e2:(fK g).length=n:=by rw[x,u]
 rw[e2];exact U.sub (ajk _ (ajr _))
end
end
end Go.al.R
end
