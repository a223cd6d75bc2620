/- A part. No conditions. -/
import Derived.Test.YtodnahjlheaolaaGreatDoorA18
set_option linter.all false
set_option maxHeartbeats 16000000
open List renaming replicate->ab7
open List.Sublist renaming cons_cons->aiy
open List.Perm renaming swap->ah5,cons->ah6
noncomputable section
namespace Go.al.R
section
variable{ac:Nat->aX}
end
variable{k p:Nat}{E H X:ai}{F ts:List Th}{S:ah}{V:KT}{Z:G.dI}{A B:List (Int×Int)}{D L:List Th->Prop}{Q la:List Int}{W Y:AV}
section
variable{ac:Nat->aX}
def fF:List G.dY->Nat->List (Int×Int)
 |[],_=>[]
 |s::l,i=>(if s.to= -1 then[]else[(s.to,(i:Int))])++fF l (i+1)
theorem Cd:∀(c b:List G.dY)(i:Nat),fF (c++b) i=fF c i++fF b (i+c.length)|[],b,i=>by rfl|s::c,b,i=>by simp only[ah4,fF,Cd c b (i+1),ae0,ahK];grind
def cB(b:G.dI):List (Int×Int):=b.i4.map (λv=>(v, -1))++fF b.aB 0
theorem FT(b:G.dI)(h:k<b.aB.length)(c:b.aB[k].to≠ -1):∃d:b.i4.length+(fF (b.aB.take k) 0).length<(cB b).length,(cB b)[b.i4.length+(fF (b.aB.take k) 0).length]=(b.aB[k].to,(k:Int))/\(fF (b.aB.take (k+1)) 0).length=(fF (b.aB.take k) 0).length+1:=by
 have e:b.aB=b.aB.take k++b.aB[k]::b.aB.drop (k+1):=by conv=>lhs;rw[<-aig k b.aB,ahp h]
 have f:cB b=b.i4.map (λv=>(v, -1))++(fF (b.aB.take k) 0++((b.aB[k].to,(k:Int))::fF (b.aB.drop (k+1)) (k+1))):=by
  unfold cB;congr 1;conv=>lhs;rw[e]
  rw[Cd,fF,an c,ahU,aiQ aa,ahw];rfl
 have g:(cB b)[b.i4.length+(fF (b.aB.take k) 0).length]?=some (b.aB[k].to,(k:Int)):=by rw[f,ais aC,ais aC];simp
 have⟨d,j⟩:=ahY.1 g;refine⟨d,j,?_⟩;rw[List.take_succ,ah7 h,Option.toList_some,Cd,ae8];simp[fF,c]
theorem LX(b:G.dI)(h:k<b.aB.length)(c:b.aB[k].to= -1):(fF (b.aB.take (k+1)) 0).length=(fF (b.aB.take k) 0).length:=by rw[List.take_succ,ah7 h,Option.toList_some,Cd,ae8];simp[fF,c]
def FU(l:List (Int×Int))(k:Nat)(args:List AV)(c:List Th):Prop:=c=[]/\∃h:k<l.length,args=[aI l[k].1,aI l[k].2]
section
variable{cs:List AV}
theorem LY(T:Tb ac)(h1:cU cs=true)(d:cs.length=7)(e:∀c S,ak E c [tB cS S cs]->V (.func BX [] [.aD S 0]) c):YN ac Xh [.agg cs] E V:=by refine YF.code T.ZL aC (au ?_);refine RO.bZ (ak.bM E) (λf S U=>au ?_);exact Ru.aL (e _ S U)
theorem LZ(T:Tb ac)(hb:iR E Z cs)(hp:Z.i4.length<=1000)(P:Z.aB.length<=1000):vm ac E (.func BX [] [.aD S 0]) (cB Z).length (FU (cB Z)) [tB cS S cs] (λ_=>True) (λ_=>True):=by
 intro y J D d F X K Q R V W l m U hR j;obtain⟨G,vs,I,rfl,t,u,Y⟩:=hb;have⟨ag,_,_,av⟩:=t.all;have⟨aw,_,_,ax⟩:=u.all;have z:∀k(h:k<Z.i4.length),∃h':k<(cB Z).length,(cB Z)[k]=(Z.i4[k], -1):=λk h=>by
  have e:(cB Z)[k]?=some (Z.i4[k], -1):=by unfold cB;rw[ahE (by simpa using h)];simp[h]
  exact ahY.1 e
 refine YF.code T.Z8 aC (ab ?_);refine Ru.nm λa1 M x s=>Ru.bH s (up (P:=λk=>∀p d,J k d->ak E p (tB cS S (G::vs::I)::(d++F))->Ru ac _ a1 ([(dS,aN k)]++pk M [p0,p1,p8,p9]) p) Z.i4.length (λk hk w p d m U=>?_) 0 aC _ d m U);subst x;subst s;refine Ru.loop (au ?_);refine Ru.cond (λf=>?_) (λf=>?_)
 .obtain⟨g,he⟩:=z k f;refine ab ?_;refine RO.fA U.gr t (λq o hj B=>RO.aW (ab ?_) (hc:=B));refine RO.cl ((l k [aI Z.i4[k],aI (-1)] [] d _ _ g ⟨rfl,g,by rw[he]⟩ m (ak.dK (xs:=[_]) U)).mono ?_);rintro v O⟨r,U,hc⟩;rcases hc with⟨rfl,h⟩|⟨rfl,h⟩;·refine ab ?_;exact Ru.wk (w (k+1) aa aa _ _ h (ak.jd (xs:=[_]) U))
  refine ab ?_;exact Ru.jo (vs:=[]) trivial (j _ r _ (ak.jd (xs:=[_]) U).tail (.inr h))
 refine Ru.exitTo ?_;refine ab ?_;refine Ru.nm λa1 M x s=>?_;refine Ru.bH s (up (P:=λi=>∀p d,J (Z.i4.length+(fF (Z.aB.take i) 0).length) d->ak E p (tB cS S (G::vs::I)::(d++F))->Ru ac _ a1 ([(pI,aN i)]++pk M [p0,p1,rT,rU]) p) Z.aB.length (λi hi w p d m U=>?_) 0 aa _ d (by rw[show Z.i4.length=k by omega];exact m) U);subst x;subst s;refine Ru.loop ?_;refine au ?_;refine Ru.cond (λf=>?_) (λf=>?_)
 .refine au ?_;refine RO.bL U.gr u (λq o c hj L _ hat hrd=>?_);have N:=L.one;obtain⟨va,rfl,ay⟩:=L;refine ab ?_;refine RO.dL U λH4 q6 U=>ab ?_;refine RO.eT U 0 (λH5 U=>?_);refine ab ?_;by_cases n:Z.aB[i].to= -1;·refine RO.bP (λh=>absurd n h) (λ_=>?_);refine ab ?_;rw[<-LX Z f n]at m;exact Ru.wk (w (i+1) aa aa _ d m U.tail)
  obtain⟨g,he,C⟩:=FT Z f n;refine RO.bP (λ_=>?_) (λh=>absurd n h);refine ab ?_;refine RO.cl ((l _ [aI Z.aB[i].to,aI (i:Int)] [] d _ _ g ⟨rfl,g,by rw[he]⟩ m (ak.dK (xs:=[_,_]) U)).mono ?_);rintro v O⟨r,U,hc⟩;rcases hc with⟨rfl,h⟩|⟨rfl,h⟩;·refine ab ?_;rw[aiD,<-C]at h;exact Ru.wk (w (i+1) aa aa _ _ h (ak.jd (xs:=[_,_]) U).tail)
  refine ab ?_;exact Ru.jo (vs:=[]) trivial (j _ r _ (ak.jd (xs:=[_,_]) U).tail.tail (.inr h))
 refine Ru.exitTo (ab ?_);refine Ru.aq (vs:=[]) trivial (j _ d _ U.tail (.inl ?_));have e:(cB Z).length=Z.i4.length+(fF (Z.aB.take i) 0).length:=by rw[aho aa];simp[cB]
 rw[e];exact m
end
end
section
variable{ac:Nat->aX}
section
section
variable{A:ai}{us:List Th}{fv:AV}{J:Nat->List Th->Prop}
def L0(ac:Nat->aX)(A:ai)(fv:AV)(Q:List Int)(J:Nat->List Th->Prop)(D:List Th->Prop):Prop:=
 ∀k F us H(h:k<Q.length),J k F->ak A H (F++us)->YF ac fv [aI Q[k]] H λv H'=>∃d,ak A H' (d++us)/\(v=.bool false/\J (k+1) d\/v=.bool true/\D d)
theorem ab5(T:Tb ac)(j:∀{k E F},J k F->ak A E (F++us)->dh E Q W)(hl:Q.length<=1000000)(u:fv.bk=true)(r:L0 ac A fv Q J L)(e:J 0 F)(U:ak A E (F++us))(m:∀n d z,ak A n (d++us)->(z<0/\J Q.length d\/0<=z/\L d)->V (aI z) n):YN ac WJ [W,fv] E V:=by
 have⟨hd,_,_,w⟩:=(j e U).all;refine YF.code T.Fm aC (au ?_);refine Ru.nm λS M s p=>Ru.bH p (up (P:=λk=>∀g F,J k F->ak A g (F++us)->Ru ac _ S ([(p8,aN k)]++pk M [p0,p1,p7]) g) Q.length (λk x t g F e U=>?_) 0 aC _ F e U);subst s;subst p;refine Ru.loop (au ?_);refine Ru.cond (λf=>?_) (λf=>?_)
 .refine au ?_;refine RO.fA (aR.refl _) (j e U) (λq o hj i=>RO.aW (RO.cl ((r k F us g f e U).mono ?_)) (hc:=i));rintro v y⟨d,U,hc⟩;rcases hc with⟨rfl,h⟩|⟨rfl,h⟩;·refine au ?_;exact Ru.wk (t (k+1) aa aa _ _ h U)
  refine au ?_;exact Ru.aL (m _ d (.ofNat k) U (.inr ⟨aC,h⟩))
 refine Ru.exitTo ?_;refine au ?_;exact Ru.aL (m _ F (-1) U (.inl ⟨aa,by rw[show Q.length=k by omega];exact e⟩))
theorem FW(T:Tb ac)(g:∀{k E ts},J k ts->ak A E (ts++us)->dh E la W)(hl:la.length<=1000000)(f:fv.bk=true)(i:L0 ac A fv la J D)(h:J 0 ts)(U:ak A E (ts++us))(j:∀e d t,ak A e (d++us)->(t=false/\J la.length d\/t=true/\D d)->V (.bool t) e):YN ac Wt [W,fv] E V:=by
 have⟨hd,_,_,n⟩:=(g h U).all;refine YF.code T.Fl aC (au ?_);refine RO.cl (ab5 T g hl f i h U λe d z U m=>au ?_);refine Ru.aL (j _ d _ U ?_);rcases m with⟨h1,h2⟩|⟨h1,h2⟩;·exact .inl ⟨by simp;omega,h2⟩
 exact .inr ⟨by simp;omega,h2⟩
end
section
variable{A:ai}{us:List Th}
theorem FY(T:Tb ac){J:Nat->List Th->Prop}(r:W.bk=true)(f:Body ac A W B.length (FU B) J D){bq:Nat}(n:dh A Q Y)(hl:Q.length<=1000000)(q:∀k(h:k<Q.length),∃g:p+k<B.length,B[p+k]=(Q[k],(bq:Int)))(i:J p ts)(U:ak A E (tB uL S [W]::(ts++us)))(o:∀j d t,ak A j (tB uL S [W]::(d++us))->(t=true/\J (p+Q.length) d\/t=false/\D d)->V (.bool t) j):YF ac (.func Xx [] [.aD S 0]) [aN bq,Y] E V:=by
 have⟨hd,_,_,s⟩:=n.all;refine YF.code T.Z' aC (au ?_);refine RO.bZ U (λu m U=>au ?_);refine RO.cl (FW T (us:=us) (ts:=tB 3 m [aN bq]::tB uL S [W]::ts) (λ_ h=>h.gr.sl n) hl rfl (J:=λk d=>∃t0,d=tB 3 m [aN bq]::tB uL S [W]::t0/\J (p+k) t0) (D:=λd=>∃t0,d=tB 3 m [aN bq]::tB uL S [W]::t0/\D t0) ?_ ⟨ts,rfl,i⟩ U λj d t U e=>?_)
 .rintro k _ us E h⟨t0,rfl,i⟩U;have⟨g,he⟩:=q k h;refine YF.code T.aaa aC (ab ?_);refine RO.cl ((f (p+k) [aI Q[k],aN bq] [] t0 _ _ g ⟨rfl,g,by rw[he];rfl⟩ i (ak.dK (xs:=[_,_]) U)).mono ?_);rintro v w⟨d,U,e⟩;have U:=ak.jd (xs:=[_,_]) U;rcases e with⟨rfl,h⟩|⟨rfl,h⟩;·refine ab ?_;exact Ru.aL ⟨_,U,.inl ⟨rfl,d,rfl,h⟩⟩
  refine ab ?_;exact Ru.aL ⟨_,U,.inr ⟨rfl,d,rfl,h⟩⟩
 rcases e with⟨rfl,t0,rfl,h⟩|⟨rfl,t0,rfl,h⟩;·refine ab ?_;exact Ru.aL (o _ t0 true U.tail (.inl ⟨rfl,h⟩))
 refine ab ?_;exact Ru.aL (o _ t0 false U.tail (.inr ⟨rfl,h⟩))
end
end
section
def lx(c:List Int)(n:Nat):List (Int×Int):=c.map λv=>(v,(n:Int))
def ix:List G.dY->Nat->List (Int×Int)
 |[],_=>[]
 |s::l,i=>lx s.args i++ix l (i+1)
def jg:List G.Edge->Nat->List (Int×Int)
 |[],_=>[]
 |e::l,n=>lx e.args n++jg l n
def fL(b:G.dI):List (Int×Int):=ix b.aB 0++(lx b.aq.args b.aB.length++jg b.aq.go b.aB.length)
theorem FZ:∀(c b:List G.dY)(i:Nat),ix (c++b) i=ix c i++ix b (i+c.length)|[],b,i=>by simp[ix]|s::c,b,i=>by simp only[ah4,ix,FZ c b (i+1),ae0,ahK];rw[show i+1+c.length=i+(c.length+1)by omega]
theorem F4:∀(c b:List G.Edge)(n:Nat),jg (c++b) n=jg c n++jg b n|[],b,n=>by simp[jg]|s::c,b,n=>by simp only[ah4,jg,F4 c b n,ae0]
theorem F5{l:List (Int×Int)}(h:l=B++(lx Q k++A))(f:Nat)(c:f<Q.length):∃d:B.length+f<l.length,l[B.length+f]=(Q[f],(k:Int)):=by
 have e:l[B.length+f]?=some (Q[f],(k:Int)):=by rw[h,ais aa,ahE (by simp[lx];omega)];simp[lx,c]
 exact ahY.1 e
theorem Ce(c:List Int)(n:Nat):(lx c n).length=c.length:=by simp[lx]
theorem F6(b:G.dI)(h:k<b.aB.length):(ix (b.aB.take (k+1)) 0).length=(ix (b.aB.take k) 0).length+b.aB[k].args.length/\∃c,fL b=ix (b.aB.take k) 0++(lx b.aB[k].args k++c):=by
 have d:b.aB=b.aB.take k++b.aB[k]::b.aB.drop (k+1):=by conv=>lhs;rw[<-aig k b.aB,ahp h]
 refine⟨by rw[List.take_succ,ah7 h,Option.toList_some,FZ,ae8];simp[ix,Ce,aiQ (Nat.le_of_lt h)],ix (b.aB.drop (k+1)) (k+1)++(lx b.aq.args b.aB.length++jg b.aq.go b.aB.length),?_⟩;have e:ix b.aB 0=ix (b.aB.take k) 0++(lx b.aB[k].args k++ix (b.aB.drop (k+1)) (k+1)):=by
  conv=>lhs;rw[d]
  rw[FZ,ix,ahU,aiQ aa,ahw]
 unfold fL;rw[e,ae0,ae0]
theorem F7(b:G.dI)(h:k<b.aq.go.length):(jg (b.aq.go.take (k+1)) b.aB.length).length=(jg (b.aq.go.take k) b.aB.length).length+b.aq.go[k].args.length/\∃c,fL b=(ix b.aB 0++(lx b.aq.args b.aB.length++jg (b.aq.go.take k) b.aB.length))++(lx b.aq.go[k].args b.aB.length++c):=by
 have d:b.aq.go=b.aq.go.take k++b.aq.go[k]::b.aq.go.drop (k+1):=by conv=>lhs;rw[<-aig k b.aq.go,ahp h]
 refine⟨by rw[List.take_succ,ah7 h,Option.toList_some,F4,ae8];simp[jg,Ce],jg (b.aq.go.drop (k+1)) b.aB.length,?_⟩;have e:jg b.aq.go b.aB.length=jg (b.aq.go.take k) b.aB.length++(lx b.aq.go[k].args b.aB.length++jg (b.aq.go.drop (k+1)) b.aB.length):=by
  conv=>lhs;rw[d]
  rw[F4,jg]
 unfold fL;rw[e];simp only[ae0]
section
variable{cs:List AV}
theorem L3(T:Tb ac)(h1:cU cs=true)(d:∀c S,ak E c [tB cS S cs]->V (.func BY [] [.aD S 0]) c):YN ac Xi [.agg cs] E V:=by refine YF.code T.ZO aC (au ?_);refine RO.bZ (ak.bM E) (λe S U=>au ?_);exact Ru.aL (d _ S U)
theorem L4(T:Tb ac)(hb:iR E Z cs)(ag:Z.aB.length<=1000)(dg:∀s∈Z.aB,s.args.length<=1000)(av:Z.aq.args.length<=1000)(aw:Z.aq.go.length<=1000)(Q:∀e∈Z.aq.go,e.args.length<=1000):vm ac E (.func BY [] [.aD S 0]) (fL Z).length (FU (fL Z)) [tB cS S cs] (λ_=>True) (λ_=>True):=by
 intro y J D m F X K u R z ax f n U hR g;obtain⟨vp,vs,jc,rfl,ay,B,V⟩:=hb;obtain⟨va,vk,vg,rfl,C,a1,G⟩:=V;have⟨a2,_,_,a6⟩:=B.all;have⟨a8,_,_,a'⟩:=C.all;have⟨ba,_,_,bb⟩:=G.all;refine YF.code T.Z9 aC (ab ?_);refine RO.bZ U (v:=y) (λH1 q2 U=>?_) (ho:=by rw[z];simp[cU,R]);rw[z]at U;refine ab ?_;refine Ru.nm λbc M N w=>Ru.bH w (up (P:=λi=>∀r m,J (ix (Z.aB.take i) 0).length m->ak E r (tB uL q2 [y]::tB cS S _::(m++F))->Ru ac _ bc ([(iS,aN i)]++pk M [p1,p3,eD,gQ]) r) Z.aB.length (λi hi O r m n U=>?_) 0 aa _ m n U);subst N;subst w;refine Ru.loop (au ?_);refine Ru.cond (λd=>?_) (λd=>?_)
 .obtain⟨v,c,P⟩:=F6 Z d;refine au ?_;refine RO.bL U.gr B (λq o c hj x _ hat hrd=>?_);have I:=x.one;obtain⟨W,rfl,k⟩:=x;have⟨L,_,_,_⟩:=k.all;refine ab ?_;refine RO.dL U λH4 q6 U=>ab ?_;refine RO.eT U 0 (λH5 U=>?_);refine ab ?_;refine RO.cl (FY T u f (p:=(ix (Z.aB.take i) 0).length) (bq:=i) k (by have:=dg _ (abO d);omega) (F5 P) n ((U.bO (ah5 ..)).bO (ah6 _ (sj (xs:=[_,_])))) λH6 j t U l=>?_);have U:=(U.bO (ah6 _ (sj (xs:=[_,_])).symm)).sub (aiy _ (List.Sublist.cons _ (ahM _)));rcases l with⟨rfl,h⟩|⟨rfl,h⟩;·refine ab ?_;rw[<-v]at h;exact Ru.wk (O (i+1) aa aa _ _ h U)
  refine ab ?_;exact Ru.jo (vs:=[]) trivial (g _ j _ U.tail.tail (.inr h))
 refine Ru.exitTo ?_;rw[aho aa]at n;refine ab ?_;refine RO.cl (FY T u f (p:=(ix Z.aB 0).length) (bq:=Z.aB.length) C aa (F5 (l:=fL Z) rfl) n (U.bO (ah6 _ (sj (xs:=[_])))) λH6 j t U l=>?_);have U:=U.bO (ah6 _ (sj (xs:=[_])).symm);rcases l with⟨rfl,h⟩|⟨rfl,h⟩
 .refine ab ?_;refine Ru.nm λbc M N w=>Ru.bH w (up (P:=λi=>∀r m,J ((ix Z.aB 0).length+(Z.aq.args.length+(jg (Z.aq.go.take i) Z.aB.length).length)) m->ak E r (tB uL q2 [y]::tB cS S _::(m++F))->Ru ac _ bc ([(uN,aN i)]++pk M [p3,p6,rY,tx]) r) Z.aq.go.length (λi hi O r m n U=>?_) 0 aa _ j h U);subst N;subst w;refine Ru.loop (au ?_);refine Ru.cond (λd=>?_) (λd=>?_)
  .obtain⟨v,c,P⟩:=F7 Z d;refine au ?_;refine RO.bL U.gr G (λq o c hj x _ hat hrd=>?_);have I:=x.one;obtain⟨W,rfl,k⟩:=x;have⟨L,_,_,_⟩:=k.all;refine ab ?_;refine RO.dD U λH5 q6 U=>?_;refine ab ?_;have Y:(ix Z.aB 0++(lx Z.aq.args Z.aB.length++jg (Z.aq.go.take i) Z.aB.length)).length=(ix Z.aB 0).length+(Z.aq.args.length+(jg (Z.aq.go.take i) Z.aB.length).length):=by simp only[ae8,Ce]
   have p:=F5 P;rw[Y]at p;refine RO.cl (FY T u f (p:=(ix Z.aB 0).length+(Z.aq.args.length+(jg (Z.aq.go.take i) Z.aB.length).length)) (bq:=Z.aB.length) k (by have:=Q _ (abO d);omega) p n ((U.bO (ah5 ..)).bO (ah6 _ (sj (xs:=[_,_])))) λH6 j t U l=>?_);have U:=(U.bO (ah6 _ (sj (xs:=[_,_])).symm)).sub (aiy _ (List.Sublist.cons _ (ahM _)));rcases l with⟨rfl,h⟩|⟨rfl,h⟩;·refine ab ?_;rw[aiD,aiD,<-v]at h;exact Ru.wk (O (i+1) aa aa _ _ h U)
   refine ab ?_;exact Ru.jo (vs:=[]) trivial (g _ j _ U.tail.tail (.inr h))
  refine Ru.exitTo (ab ?_);refine Ru.aq (vs:=[]) trivial (g _ m _ U.tail.tail (.inl ?_));have e:(fL Z).length=(ix Z.aB 0).length+(Z.aq.args.length+(jg (Z.aq.go.take i) Z.aB.length).length):=by rw[aho aa];simp[fL,Ce]
  rw[e];exact n
 refine ab ?_;exact Ru.jo (vs:=[]) trivial (g _ j _ U.tail.tail (.inr h))
end
end
end
end Go.al.R
namespace Go.al
variable{f g k p:Nat}{B:List (Int×Int)}{E X:ai}{F:List Th}{S:ah}{P l:List bD}{W:AV}
section
variable{ac:Nat->aX}{c:Cx}{s:List SI}{L:Kn}{d:Option ah}{b ex:Bool}
def gS:List (Int×Int)->List AV
 |[]=>[]
 |w::l=>aI w.1::aI w.2::gS l
theorem L5:∀P,(gS P).length=P.length*2|[]=>rfl|w::P=>by simp only[gS,ahK,L5 P];omega
theorem L6:∀{l:List (Int×Int)}{k:Nat}(h:k<l.length),((gS l).drop (k*2)).take 2=[aI l[k].1,aI l[k].2]|w::l,0,_=>rfl|w::l,k+1,h=>by have:=L6 (l:=l) (k:=k) (by simpa using h);grind[gS]
theorem L7:∀{l:List (Int×Int)}{k:Nat}(_:k<l.length)(w:Int×Int)(j:Nat),(gS (l.set k w))[j]?=if k*2<=j/\j<k*2+2 then[aI w.1,aI w.2][j - k*2]? else(gS l)[j]?
 |v::l,0,_,w,j=>by match j with|0=>simp[gS]|1=>simp[gS]|j+2=>simp[gS];omega
 |v::l,k+1,h,w,j=>by
  match j with
   |0=>simp[gS]
   |1=>simp[gS];omega
   |j+2=>
    have:=L7 (l:=l) (k:=k) (by simpa using h) w j;simp only[List.set_cons_succ,gS,ail,this];by_cases h1:k*2<=j/\j<k*2+2;·rw[aF h1,aF aa];congr 1;omega
    rw[an h1,an aa]
theorem L8(w:Int×Int):∀k,w.1=w.2->ab7 (k*2) (aI w.1)=gS (ab7 k w)|0,_=>rfl|k+1,h=>by rw[show(k+1)*2=k*2+1+1 by omega,List.replicate_succ,List.replicate_succ,L8 w k h,List.replicate_succ,gS,<-h]
def ab6:ai->Int×Int->List AV->Prop:=λ_ w cs=>cs=[aI w.1,aI w.2]
theorem SlD.r(h:Sl E 2 (gS B) B.length W):cQ 2 ab6 E B W:=⟨_,h,λp f=>L6 f⟩
theorem RO.stD(U:ak E X F)(i:Nat)(w:Int×Int)(C:B.length=p){K x:aJ}(h:∀m,ak E m (F.set i (tS g 2 (gS (B.set k w)) p b (.slice S 0 p f ex)))->RO ac c P s (bo L d .ai8) m)(hi:F[i]?=some (tS g 2 (gS B) p b (.slice S 0 p f ex)):=by rfl)(u:k<B.length:=by omega)(v:aT L K=.aD S (0+k*2):=by exact cw)(y:aT L x=.agg [aI w.1,aI w.2]:=by exact cw):RO ac c (⟨d,.store 2 K x,none,[],[]⟩::P) s L X:=by
 have⟨D,o,_,hu⟩:=U.iQ i hi;have r:B.length<=f:=by
  rcases o with⟨_,_,_,h⟩|⟨G,I,aK,t,z,rfl,h2,_,J,_⟩;·cases h
  injection h2 with _ _ _ h2;omega
 obtain⟨m,h1,h2,h3⟩:=cO.tp o (o:=0+k*2) (ws:=[aI w.1,aI w.2]) (us:=gS (B.set k w)) (by grind) rfl (by simp[L5,air]) λj hj=>by simp[u,L7,ahw]
 exact RO.store (v:=.agg [aI w.1,aI w.2]) h1 (h m (hu h2 h3)) v y rfl rfl
end
end Go.al
namespace Go.al.R
variable{E:ai}{S:ah}{V:KT}{W Y:AV}
section
variable{ac:Nat->aX}
def nk(k:Nat)(f:List (Int×Int))(l:List (Int×Int)):List (Int×Int):=l.foldl (λa p=>a.set p.1.toNat ((k:Int),p.2)) f
def kp(g:G.aM)(n:Nat):Nat->List (Int×Int)
 |0=>ab7 n (-1, -1)
 |k+1=>nk k (kp g n k) (cB (g.aj.getD k default))
def gM(g:G.aM):List (Int×Int):=kp g g.aO.toNat g.aj.length
theorem F8(k:Nat):∀(l a:List (Int×Int)),(nk k a l).length=a.length|[],a=>rfl|p::l,a=>by show(nk k (a.set p.1.toNat ((k:Int),p.2)) l).length=_;rw[F8 k l,air]
theorem Cf(g:G.aM)(n:Nat):∀k,(kp g n k).length=n|0=>by simp[kp]|k+1=>by rw[kp,F8,Cf g n k]
section
variable{g:G.aM}{come:List Bool}{os:List (List bp)}{e:List AV}
theorem ab9(T:Tb ac)(Z:G.Sm g)(r:GX g E S W Y come os e)(ag:0<=g.aO)(av:g.aO<=6000)(hG:∀a6∈g.aj,∀p∈cB a6,0<=p.1/\p.1<g.aO)(h:∀f v,ak E f [tS pF 2 (gS (gM g)) (gM g).length true v]->V v f):YN ac Xt [.aD S 0] E V:=by
 have aw:=Z.nb;have⟨hd,_,_,hn⟩:=r.bl.all;have I:=r.ju.aE;have J:=r.c2;have a:=r.ju.lt;obtain⟨n,s⟩:∃n:Nat,g.aO=(n:Int):=⟨g.aO.toNat,aa⟩;have u:∀k,(kp g n k).length=n:=Cf g n;have x:gM g=kp g n g.aj.length:=by rw[gM,s];rfl
 refine YF.code T.Z3 aC (au ?_);refine RO.iE (ak.bM E) 2 (λH1 qx U=>ab ?_) (n:=1) (ws:=[aI (-1),aI (-1)]);refine RO.aW ?_ (v:=aN n) (hc:=by rw[U.gr.aY a,J,s];rfl);refine RO.cl (abZ T (n:=n) (u:=aI (-1)) (xv:=.slice qx 0 1 1 true) rfl (U.sl 0 rfl) aa λH2 q hl=>?_);have U:=U.cH hl;refine RO.dD U λH3 m U=>ab ?_;refine RO.aW ?_ (v:=W) (hc:=by rw[U.gr.aY a];exact I);refine ab ?_;have U:ak E H3 (tS pF 2 (gS (kp g n 0)) n true (.slice q 0 n n true)::tB uK m [.slice q 0 n n true]::[]):=by have:=(U.ep 1 rfl).sub (aiy _ (aiy _ (aiC _)));rw[L8 (-1, -1) n rfl]at this;exact this
 refine Ru.nm λa8 M hS hM=>Ru.bH hM (up (P:=λk=>∀C i,ak E C (tS pF 2 (gS (kp g n k)) n true (.slice q 0 n n true)::tB uK m [.slice q 0 n n true]::fK i)->Ru ac ⟨mc [.tmp p2] V,i,none⟩ a8 ([(pI,aN k)]++pk M [p3,rT,rU]) C) g.aj.length (λk hk ih C i U=>?_) 0 aa _ [] U);subst hS;subst hM;refine Ru.loop (au ?_);refine Ru.cond (λa=>?_) (λa=>?_)
 .have y:=abO a;have ax:=Z.bl _ y;have L:=hG _ y;refine ab ?_;refine RO.bL U.gr r.bl (λq5 o5 c5 hj o ay hat hrd=>?_);have z:=o.one;have N:=o;obtain⟨vp,vs,jc,rfl,_,_,O⟩:=o;obtain⟨va,vk,vg,rfl,_,_,_⟩:=O;refine ab ?_;refine RO.dL U λH4 B U=>RO.dL U λH5 q6 U=>RO.dO U 1 (λH6 U=>RO.eT U 0 (λH7 U=>ab ?_));refine RO.bT U 0 ?_;have U:ak E H7 (tS pF 2 (gS (kp g n k)) n true (.slice q 0 n n true)::tB uK m [.slice q 0 n n true]::tB 3 B [aN k]::fK i):=(U.tail.ep 2 rfl).ep 2 rfl;refine RO.cl (LY T (cs:=[vp,vs,aU (g.aj[k]).aq.op,va,.str (g.aj[k]).aq.i7,vk,vg]) z rfl λH8 q1 hl=>?_);have U:ak E H8 ([tB cS q1 [vp,vs,aU (g.aj[k]).aq.op,va,.str (g.aj[k]).aq.i7,vk,vg]]++[tS pF 2 (gS (kp g n k)) n true (.slice q 0 n n true),tB uK m [.slice q 0 n n true],tB 3 B [aN k]]++fK i):=U.cH hl;refine ab ?_;refine Ru.wk (L:=[(uM,.func BX [] [.aD q1 0]),(p3,.aD m 0),(p4,.aD B 0),(rT,W),(rU,aN g.aj.length),(pI,aN k)]) ?_;refine Ru.mq (J:=λj ts=>ts=[tS pF 2 (gS (nk k (kp g n k) ((cB g.aj[k]).take j))) n true (.slice q 0 n n true),tB uK m [.slice q 0 n n true],tB 3 B [aN k]]) (Dn:=λ_ _=>False) U (LZ T N aa aa) (λ_ _=>trivial) rfl (λk args ws h=>by obtain⟨_,_,rfl⟩:=h;rfl) (λ_ _ _ _ _ _=>trivial) (λj args ws ts us l o1 o2 f hj P D U=>?_) (λf Q F D U=>?_) (λj f Q F _ h=>h.elim)
  .obtain⟨rfl,R,rfl⟩:=P;subst D;obtain⟨h0,h1⟩:=L _ (abO R);have X:(cB g.aj[k]).take (j+1)=(cB g.aj[k]).take j++[(cB g.aj[k])[j]]:=by rw[ahb]
   generalize(cB g.aj[k])[j]=w at*;obtain⟨w1,w2⟩:=w;obtain⟨t,rfl⟩:∃t:Nat,w1=(t:Int):=⟨w1.toNat,by simp only at h0;omega⟩;have a1:t<n:=by simp only at h1;omega
   have A:(nk k (kp g n k) ((cB g.aj[k]).take j)).length=n:=by rw[F8,u]
   refine au ?_;refine Ru.cX U λH2 U=>ab ?_;refine RO.stD U 0 ((k:Int),w2) A (λH3 U=>ab ?_) (k:=t);refine Ru.bx (ts:=[_,_,_]) U ?_;rw[X,nk,nk,List.foldl_append];rfl
  subst D;rw[aid]at U;refine ab ?_;have U:ak E f (tS pF 2 (gS (kp g n (k+1))) n true (.slice q 0 n n true)::tB uK m [.slice q 0 n n true]::fK (F::i)):=by
   have a2:kp g n (k+1)=nk k (kp g n k) (cB g.aj[k]):=by rw[kp,aZ a]
   rw[a2];exact U.sub (aiy _ (aiy _ (List.Sublist.cons _ (ahM _))))
  exact Ru.wk (ih (k+1) aa aa f (F::i) U)
 refine Ru.exitTo ?_;refine ab ?_;have a2:k=g.aj.length:=aa;subst a2;rw[<-x]at U;refine Ru.jf (M:=i) (ts:=[_,_]) (U.bO (ahA (l₁:=[_,_]) (l₂:=fK i))) λf U=>⟨[.slice q 0 n n true],⟨rfl,rfl,trivial⟩,h f _ ?_⟩;have e2:(gM g).length=n:=by rw[x,u]
 rw[e2];exact U.sub (aiy _ (aiC _))
end
end
end Go.al.R
end
