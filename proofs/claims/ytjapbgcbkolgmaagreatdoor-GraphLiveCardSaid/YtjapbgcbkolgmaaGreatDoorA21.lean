/- A part. No conditions. -/
import Derived.Test.YtjapbgcbkolgmaaGreatDoorA20
set_option linter.all false
set_option maxHeartbeats 16000000
open List renaming replicate->aeN
open List.Perm renaming swap->agm,cons->agz
open List.Sublist renaming cons_cons->agL
noncomputable section
namespace Go.al.R
section
variable{ac:Nat->aX}
section
def iq:List G.d9->Nat->List (Int×Int)
 |[],_=>[]
 |s::l,i=>(if s.to= -1 then[]else[(s.to,(i:Int))])++iq l (i+1)
theorem D8:∀(a b:List G.d9)(i:Nat),iq (a++b) i=iq a i++iq b (i+a.length)|[],b,i=>by simp[iq]|s::a,b,i=>by simp only[agb,iq,D8 a b (i+1),afu,afB];rw[show i+1+a.length=i+(a.length+1)by omega]
def cK(b:G.dW):List (Int×Int):=b.i4.map (λv=>(v, -1))++iq b.aS 0
theorem NB(b:G.dW){i:Nat}(h:i<b.aS.length)(a:b.aS[i].to≠ -1):∃c:b.i4.length+(iq (b.aS.take i) 0).length<(cK b).length,(cK b)[b.i4.length+(iq (b.aS.take i) 0).length]=(b.aS[i].to,(i:Int))/\(iq (b.aS.take (i+1)) 0).length=(iq (b.aS.take i) 0).length+1:=by
 have d:b.aS=b.aS.take i++b.aS[i]::b.aS.drop (i+1):=by conv=>lhs;rw[<-agy i b.aS,afv h]
 have e:cK b=b.i4.map (λv=>(v, -1))++(iq (b.aS.take i) 0++((b.aS[i].to,(i:Int))::iq (b.aS.drop (i+1)) (i+1))):=by
  unfold cK;congr 1;conv=>lhs;rw[d]
  rw[D8,iq,ap a,afH,agZ ab,afC];rfl
 have f:(cK b)[b.i4.length+(iq (b.aS.take i) 0).length]?=some (b.aS[i].to,(i:Int)):=by rw[e,agl aF,agl aF];simp
 obtain⟨c,g⟩:=af3.1 f;refine⟨c,g,?_⟩;rw[List.take_succ,agi h,Option.toList_some,D8,afq];simp[iq,a]
theorem ach(b:G.dW){i:Nat}(h:i<b.aS.length)(a:b.aS[i].to= -1):(iq (b.aS.take (i+1)) 0).length=(iq (b.aS.take i) 0).length:=by rw[List.take_succ,agi h,Option.toList_some,D8,afq];simp[iq,a]
def HS(l:List (Int×Int))(k:Nat)(args:List AV)(a:List Th):Prop:=a=[]/\∃h:k<l.length,args=[aI l[k].1,aI l[k].2]
section
variable{A H:ah}{us:List Th}{q1:af}{b:G.dW}{cs:List AV}
theorem NC(T:Tb ac)(h1:cL cs=true)(c:cs.length=7){K:KT}(d:∀a q1,aq H a [tB de q1 cs]->K (.func DO [] [.aE q1 0]) a):YN ac WK [.agg cs] H K:=by refine YF.code T.Zy aF ?_;refine au ?_;refine RO.dp (aq.ct H) (λe q1 U=>?_);refine au ?_;exact Ru.aP (d _ q1 U)
theorem ND(T:Tb ac)(hb:ji A b cs)(hp:b.i4.length<=1000)(L:b.aS.length<=1000):AB ac A (.func DO [] [.aE q1 0]) (cK b).length (HS (cK b)) [tB de q1 cs] (λ_=>True) (λ_=>True):=by
 intro y J D a us H K N O P Q j l U hR g;obtain⟨C,vs,E,rfl,s,t,R⟩:=hb;have⟨V,_,_,W⟩:=s.all;have⟨X,_,_,Y⟩:=t.all;have x:∀k(h:k<b.i4.length),∃h':k<(cK b).length,(cK b)[k]=(b.i4[k], -1):=λk h=>by
  have e:(cK b)[k]?=some (b.i4[k], -1):=by unfold cK;rw[afG (by simpa using h)];simp[h]
  exact af3.1 e
 refine YF.code T.ZY aF ?_;refine ai ?_;refine Ru.nm λS M w r=>?_;refine Ru.bT r (up (P:=λk=>∀n a,J k a->aq A n (tB de q1 (C::vs::E)::(a++us))->Ru ac _ S ([(eP,aN k)]++pk M [p0,p1,p8,p9]) n) b.i4.length (λk hk u n a l U=>?_) 0 ab _ a l U);subst w;subst r;refine Ru.loop ?_;refine au ?_;refine Ru.cond (λd=>?_) (λd=>?_)
 .obtain⟨f,he⟩:=x k d;refine ai ?_;refine RO.mD U.gr s (λq o hj z=>?_);refine RO.bi ?_ (hc:=z);refine ai ?_;refine RO.cl ((j k [aI b.i4[k],aI (-1)] [] a _ _ f ⟨rfl,f,by rw[he]⟩ l (aq.eG (xs:=[_]) U)).mono ?_);rintro v I⟨p,U,hc⟩;rcases hc with⟨rfl,h⟩|⟨rfl,h⟩;·refine ai ?_;exact Ru.wk (u (k+1) ab ab _ _ h (aq.j5 (xs:=[_]) U))
  refine ai ?_;exact Ru.mW (vs:=[]) trivial (g _ p _ (aq.j5 (xs:=[_]) U).tail (.inr h))
 refine Ru.exitTo ?_;refine ai ?_;refine Ru.nm λS M w r=>?_;refine Ru.bT r (up (P:=λi=>∀n a,J (b.i4.length+(iq (b.aS.take i) 0).length) a->aq A n (tB de q1 (C::vs::E)::(a++us))->Ru ac _ S ([(rW,aN i)]++pk M [p0,p1,tT,tV]) n) b.aS.length (λi hi u n a l U=>?_) 0 ab _ a (by rw[show b.i4.length=k by omega];exact l) U);subst w;subst r;refine Ru.loop ?_;refine au ?_;refine Ru.cond (λd=>?_) (λd=>?_)
 .refine au ?_;refine RO.bY U.gr t (λq o c hj F _ hat hrd=>?_);have G:=F.one;obtain⟨va,rfl,Z⟩:=F;refine ai ?_;refine RO.eL U λH4 q6 U=>?_;refine ai ?_;refine RO.fc U 0 (λH5 U=>?_);refine ai ?_;by_cases m:b.aS[i].to= -1;·refine RO.bR (λh=>absurd m h) (λ_=>?_);refine ai ?_;rw[<-ach b d m]at l;exact Ru.wk (u (i+1) ab ab _ a l U.tail)
  obtain⟨f,he,B⟩:=NB b d m;refine RO.bR (λ_=>?_) (λh=>absurd m h);refine ai ?_;refine RO.cl ((j _ [aI b.aS[i].to,aI (i:Int)] [] a _ _ f ⟨rfl,f,by rw[he]⟩ l (aq.eG (xs:=[_,_]) U)).mono ?_);rintro v I⟨p,U,hc⟩;rcases hc with⟨rfl,h⟩|⟨rfl,h⟩;·refine ai ?_;rw[agM,<-B]at h;exact Ru.wk (u (i+1) ab ab _ _ h (aq.j5 (xs:=[_,_]) U).tail)
  refine ai ?_;exact Ru.mW (vs:=[]) trivial (g _ p _ (aq.j5 (xs:=[_,_]) U).tail.tail (.inr h))
 refine Ru.exitTo ?_;refine ai ?_;refine Ru.aB (vs:=[]) trivial (g _ a _ U.tail (.inl ?_));have e:(cK b).length=b.i4.length+(iq (b.aS.take i) 0).length:=by rw[afF ab];simp[cK]
 rw[e];exact l
end
end
section
section
variable{A H:ah}{us ts:List Th}{la:List Int}{sv fv:AV}{J:Nat->List Th->Prop}{D:List Th->Prop}
def NE(ac:Nat->aX)(A:ah)(fv:AV)(la:List Int)(J:Nat->List Th->Prop)(D:List Th->Prop):Prop:=
 ∀k ts us H(h:k<la.length),J k ts->aq A H (ts++us)->YF ac fv [aI la[k]] H λv d=>∃c,aq A d (c++us)/\(v=.bool false/\J (k+1) c\/v=.bool true/\D c)
theorem aci(T:Tb ac)(i:∀{k H ts},J k ts->aq A H (ts++us)->eU H la sv)(hl:la.length<=1000000)(t:fv.bC=true)(p:NE ac A fv la J D)(d:J 0 ts)(U:aq A H (ts++us)){K:KT}(j:∀m c z,aq A m (c++us)->(z<0/\J la.length c\/0<=z/\D c)->K (aI z) m):YN ac W4 [sv,fv] H K:=by
 have⟨hd,_,_,u⟩:=(i d U).all;refine YF.code T.Hh aF ?_;refine au ?_;refine Ru.nm λS M r n=>?_;refine Ru.bT n (up (P:=λk=>∀f ts,J k ts->aq A f (ts++us)->Ru ac _ S ([(p8,aN k)]++pk M [p0,p1,p7]) f) la.length (λk w s f ts d U=>?_) 0 ab _ ts d U);subst r;subst n;refine Ru.loop ?_;refine au ?_;refine Ru.cond (λe=>?_) (λe=>?_)
 .refine au ?_;refine RO.mD (aZ.refl _) (i d U) (λq o hj g=>?_);refine RO.bi ?_ (hc:=g);refine RO.cl ((p k ts us f e d U).mono ?_);rintro v x⟨c,U,hc⟩;rcases hc with⟨rfl,h⟩|⟨rfl,h⟩;·refine au ?_;exact Ru.wk (s (k+1) ab ab _ _ h U)
  refine au ?_;exact Ru.aP (j _ c (.ofNat k) U (.inr ⟨aF,h⟩))
 refine Ru.exitTo ?_;refine au ?_;exact Ru.aP (j _ ts (-1) U (.inl ⟨ab,by rw[show la.length=k by omega];exact d⟩))
theorem acj(T:Tb ac)(f:∀{k H ts},J k ts->aq A H (ts++us)->eU H la sv)(hl:la.length<=1000000)(e:fv.bC=true)(h:NE ac A fv la J D)(g:J 0 ts)(U:aq A H (ts++us)){K:KT}(i:∀d c t,aq A d (c++us)->(t=false/\J la.length c\/t=true/\D c)->K (.bool t) d):YN ac WV [sv,fv] H K:=by
 have⟨hd,_,_,m⟩:=(f g U).all;refine YF.code T.Hg aF ?_;refine au ?_;refine RO.cl (aci T f hl e h g U λd c z U j=>?_);refine au ?_;refine Ru.aP (i _ c _ U ?_);rcases j with⟨h1,h2⟩|⟨h1,h2⟩;·exact .inl ⟨by simp;omega,h2⟩
 exact .inr ⟨by simp;omega,h2⟩
end
section
variable{A H:ah}{us ts:List Th}{q1 a:af}{b:G.dW}{cs:List AV}{l:List (Int×Int)}
theorem HT(T:Tb ac){y:AV}{J:Nat->List Th->Prop}{D:List Th->Prop}(q:y.bC=true)(e:Body ac A y l.length (HS l) J D){p bz:Nat}{la:List Int}{sv:AV}(m:eU A la sv)(hl:la.length<=1000000)(o:∀k(h:k<la.length),∃f:p+k<l.length,l[p+k]=(la[k],(bz:Int)))(g:J p ts)(U:aq A H (tB tQ a [y]::(ts++us))){K:KT}(n:∀i c t,aq A i (tB tQ a [y]::(c++us))->(t=true/\J (p+la.length) c\/t=false/\D c)->K (.bool t) i):YF ac (.func WU [] [.aE a 0]) [aN bz,sv] H K:=by
 have⟨hd,_,_,r⟩:=m.all;refine YF.code T.ZL aF ?_;refine au ?_;refine RO.dp U (λs j U=>?_);refine au ?_;refine RO.cl (acj T (us:=us) (ts:=tB 3 j [aN bz]::tB tQ a [y]::ts) (λ_ h=>h.gr.sl m) hl rfl (J:=λk c=>∃t0,c=tB 3 j [aN bz]::tB tQ a [y]::t0/\J (p+k) t0) (D:=λc=>∃t0,c=tB 3 j [aN bz]::tB tQ a [y]::t0/\D t0) ?_ ⟨ts,rfl,g⟩ U λi c t U d=>?_)
 .rintro k _ us H h⟨t0,rfl,g⟩U;obtain⟨f,he⟩:=o k h;refine YF.code T.ZM aF ?_;refine ai ?_;refine RO.cl ((e (p+k) [aI la[k],aN bz] [] t0 _ _ f ⟨rfl,f,by rw[he];rfl⟩ g (aq.eG (xs:=[_,_]) U)).mono ?_);rintro v u⟨c,U,d⟩;have U:=aq.j5 (xs:=[_,_]) U;rcases d with⟨rfl,h⟩|⟨rfl,h⟩;·refine ai ?_;exact Ru.aP ⟨_,U,.inl ⟨rfl,c,rfl,h⟩⟩
  refine ai ?_;exact Ru.aP ⟨_,U,.inr ⟨rfl,c,rfl,h⟩⟩
 rcases d with⟨rfl,t0,rfl,h⟩|⟨rfl,t0,rfl,h⟩;·refine ai ?_;exact Ru.aP (n _ t0 true U.tail (.inl ⟨rfl,h⟩))
 refine ai ?_;exact Ru.aP (n _ t0 false U.tail (.inr ⟨rfl,h⟩))
end
end
section
def kj(a:List Int)(n:Nat):List (Int×Int):=a.map λv=>(v,(n:Int))
def fZ:List G.d9->Nat->List (Int×Int)
 |[],_=>[]
 |s::l,i=>kj s.args i++fZ l (i+1)
def gY:List G.Edge->Nat->List (Int×Int)
 |[],_=>[]
 |e::l,n=>kj e.args n++gY l n
def gw(b:G.dW):List (Int×Int):=fZ b.aS 0++(kj b.aB.args b.aS.length++gY b.aB.go b.aS.length)
theorem HW:∀(a b:List G.d9)(i:Nat),fZ (a++b) i=fZ a i++fZ b (i+a.length)|[],b,i=>by simp[fZ]|s::a,b,i=>by simp only[agb,fZ,HW a b (i+1),afu,afB];rw[show i+1+a.length=i+(a.length+1)by omega]
theorem HZ:∀(a b:List G.Edge)(n:Nat),gY (a++b) n=gY a n++gY b n|[],b,n=>by simp[gY]|s::a,b,n=>by simp only[agb,gY,HZ a b n,afu]
theorem Ic{l a c:List (Int×Int)}{d:List Int}{n:Nat}(h:l=a++(kj d n++c))(k:Nat)(f:k<d.length):∃g:a.length+k<l.length,l[a.length+k]=(d[k],(n:Int)):=by
 have e:l[a.length+k]?=some (d[k],(n:Int)):=by rw[h,agl ab,afG (by simp[kj];omega)];simp[kj,f]
 exact af3.1 e
theorem D9(a:List Int)(n:Nat):(kj a n).length=a.length:=by simp[kj]
theorem ack(b:G.dW){i:Nat}(h:i<b.aS.length):(fZ (b.aS.take (i+1)) 0).length=(fZ (b.aS.take i) 0).length+b.aS[i].args.length/\∃c,gw b=fZ (b.aS.take i) 0++(kj b.aS[i].args i++c):=by
 have a:b.aS=b.aS.take i++b.aS[i]::b.aS.drop (i+1):=by conv=>lhs;rw[<-agy i b.aS,afv h]
 refine⟨by rw[List.take_succ,agi h,Option.toList_some,HW,afq];simp[fZ,D9,agZ (Nat.le_of_lt h)],fZ (b.aS.drop (i+1)) (i+1)++(kj b.aB.args b.aS.length++gY b.aB.go b.aS.length),?_⟩;have d:fZ b.aS 0=fZ (b.aS.take i) 0++(kj b.aS[i].args i++fZ (b.aS.drop (i+1)) (i+1)):=by
  conv=>lhs;rw[a]
  rw[HW,fZ,afH,agZ ab,afC]
 unfold gw;rw[d,afu,afu]
theorem acl(b:G.dW){i:Nat}(h:i<b.aB.go.length):(gY (b.aB.go.take (i+1)) b.aS.length).length=(gY (b.aB.go.take i) b.aS.length).length+b.aB.go[i].args.length/\∃c,gw b=(fZ b.aS 0++(kj b.aB.args b.aS.length++gY (b.aB.go.take i) b.aS.length))++(kj b.aB.go[i].args b.aS.length++c):=by
 have a:b.aB.go=b.aB.go.take i++b.aB.go[i]::b.aB.go.drop (i+1):=by conv=>lhs;rw[<-agy i b.aB.go,afv h]
 refine⟨by rw[List.take_succ,agi h,Option.toList_some,HZ,afq];simp[gY,D9],gY (b.aB.go.drop (i+1)) b.aS.length,?_⟩;have d:gY b.aB.go b.aS.length=gY (b.aB.go.take i) b.aS.length++(kj b.aB.go[i].args b.aS.length++gY (b.aB.go.drop (i+1)) b.aS.length):=by
  conv=>lhs;rw[a]
  rw[HZ,gY]
 unfold gw;rw[d];simp only[afu]
section
variable{A H:ah}{us:List Th}{q1:af}{b:G.dW}{cs:List AV}
theorem NF(T:Tb ac)(h1:cL cs=true){K:KT}(c:∀a q1,aq H a [tB de q1 cs]->K (.func DM [] [.aE q1 0]) a):YN ac WH [.agg cs] H K:=by refine YF.code T.Zu aF ?_;refine au ?_;refine RO.dp (aq.ct H) (λd q1 U=>?_);refine au ?_;exact Ru.aP (c _ q1 U)
theorem NG(T:Tb ac)(hb:ji A b cs)(Z:b.aS.length<=1000)(cD:∀s∈b.aS,s.args.length<=1000)(ag:b.aB.args.length<=1000)(av:b.aB.go.length<=1000)(N:∀e∈b.aB.go,e.args.length<=1000):AB ac A (.func DM [] [.aE q1 0]) (gw b).length (HS (gw b)) [tB de q1 cs] (λ_=>True) (λ_=>True):=by
 intro y J D l us H K r O x aw d m U hR f;obtain⟨vp,vs,jc,rfl,ax,z,P⟩:=hb;obtain⟨va,vk,vg,rfl,B,ay,C⟩:=P;have⟨a1,_,_,a2⟩:=z.all;have⟨a6,_,_,a8⟩:=B.all;have⟨a',_,_,ba⟩:=C.all;refine YF.code T.ZK aF ?_;refine ai ?_;refine RO.dp U (v:=y) (λH1 V U=>?_) (ho:=by rw[x];simp[cL,O]);rw[x]at U;refine ai ?_;refine Ru.nm λS M G v=>?_;refine Ru.bT v (up (P:=λi=>∀p l,J (fZ (b.aS.take i) 0).length l->aq A p (tB tQ V [y]::tB de q1 _::(l++us))->Ru ac _ S ([(m8,aN i)]++pk M [p1,p3,eK,jy]) p) b.aS.length (λi hi I p l m U=>?_) 0 ab _ l m U);subst G;subst v;refine Ru.loop ?_;refine au ?_;refine Ru.cond (λa=>?_) (λa=>?_)
 .obtain⟨u,c,L⟩:=ack b a;refine au ?_;refine RO.bY U.gr z (λq o c hj w _ hat hrd=>?_);have E:=w.one;obtain⟨Q,rfl,j⟩:=w;have⟨F,_,_,_⟩:=j.all;refine ai ?_;refine RO.eL U λH4 X U=>?_;refine ai ?_;refine RO.fc U 0 (λY U=>?_);refine ai ?_;refine RO.cl (HT T r d (p:=(fZ (b.aS.take i) 0).length) (bz:=i) j (by have:=cD _ (adq a);omega) (Ic L) m ((U.cJ (agm ..)).cJ (agz _ (ur (xs:=[_,_])))) λW g t U k=>?_);have U:=(U.cJ (agz _ (ur (xs:=[_,_])).symm)).sub (agL _ (List.Sublist.cons _ (agt _)));rcases k with⟨rfl,h⟩|⟨rfl,h⟩;·refine ai ?_;rw[<-u]at h;exact Ru.wk (I (i+1) ab ab _ _ h U)
  refine ai ?_;exact Ru.mW (vs:=[]) trivial (f _ g _ U.tail.tail (.inr h))
 refine Ru.exitTo ?_;rw[afF ab]at m;refine ai ?_;refine RO.cl (HT T r d (p:=(fZ b.aS 0).length) (bz:=b.aS.length) B ab (Ic (l:=gw b) rfl) m (U.cJ (agz _ (ur (xs:=[_])))) λW g t U k=>?_);have U:=U.cJ (agz _ (ur (xs:=[_])).symm);rcases k with⟨rfl,h⟩|⟨rfl,h⟩
 .refine ai ?_;refine Ru.nm λS M G v=>?_;refine Ru.bT v (up (P:=λi=>∀p l,J ((fZ b.aS 0).length+(b.aB.args.length+(gY (b.aB.go.take i) b.aS.length).length)) l->aq A p (tB tQ V [y]::tB de q1 _::(l++us))->Ru ac _ S ([(m9,aN i)]++pk M [p3,p6,ua,rY]) p) b.aB.go.length (λi hi I p l m U=>?_) 0 ab _ g h U);subst G;subst v;refine Ru.loop ?_;refine au ?_;refine Ru.cond (λa=>?_) (λa=>?_)
  .obtain⟨u,c,L⟩:=acl b a;refine au ?_;refine RO.bY U.gr C (λq o c hj w _ hat hrd=>?_);have E:=w.one;obtain⟨Q,rfl,j⟩:=w;have⟨F,_,_,_⟩:=j.all;refine ai ?_;refine RO.ff U λY X U=>?_;refine ai ?_;have R:(fZ b.aS 0++(kj b.aB.args b.aS.length++gY (b.aB.go.take i) b.aS.length)).length=(fZ b.aS 0).length+(b.aB.args.length+(gY (b.aB.go.take i) b.aS.length).length):=by simp only[afq,D9]
   have n:=Ic L;rw[R]at n;refine RO.cl (HT T r d (p:=(fZ b.aS 0).length+(b.aB.args.length+(gY (b.aB.go.take i) b.aS.length).length)) (bz:=b.aS.length) j (by have:=N _ (adq a);omega) n m ((U.cJ (agm ..)).cJ (agz _ (ur (xs:=[_,_])))) λW g t U k=>?_);have U:=(U.cJ (agz _ (ur (xs:=[_,_])).symm)).sub (agL _ (List.Sublist.cons _ (agt _)));rcases k with⟨rfl,h⟩|⟨rfl,h⟩;·refine ai ?_;rw[agM,agM,<-u]at h;exact Ru.wk (I (i+1) ab ab _ _ h U)
   refine ai ?_;exact Ru.mW (vs:=[]) trivial (f _ g _ U.tail.tail (.inr h))
  refine Ru.exitTo ?_;refine ai ?_;refine Ru.aB (vs:=[]) trivial (f _ l _ U.tail.tail (.inl ?_));have e:(gw b).length=(fZ b.aS 0).length+(b.aB.args.length+(gY (b.aB.go.take i) b.aS.length).length):=by rw[afF ab];simp[gw,D9]
  rw[e];exact m
 refine ai ?_;exact Ru.mW (vs:=[]) trivial (f _ g _ U.tail.tail (.inr h))
end
end
end
end Go.al.R
namespace Go.al
section
variable{ac:Nat->aX}{c:Cx}{s:List SI}{L:Kn}{A H:ah}{d:Option af}{l:List bA}{ts:List Th}{q:af}{e n k i cap:Nat}{full ex:Bool}{a:List (Int×Int)}
def gz:List (Int×Int)->List AV
 |[]=>[]
 |w::l=>aI w.1::aI w.2::gz l
theorem Ie:∀l,(gz l).length=l.length*2|[]=>rfl|w::l=>by simp only[gz,afB,Ie l];omega
theorem NH:∀{l:List (Int×Int)}{k:Nat}(h:k<l.length),((gz l).drop (k*2)).take 2=[aI l[k].1,aI l[k].2]|w::l,0,_=>rfl|w::l,k+1,h=>by have:=NH (l:=l) (k:=k) (by simpa using h);rw[show(k+1)*2=k*2+2 by omega];simpa[gz]using this
theorem NI:∀{l:List (Int×Int)}{k:Nat}(_:k<l.length)(w:Int×Int)(j:Nat),(gz (l.set k w))[j]?=if k*2<=j/\j<k*2+2 then[aI w.1,aI w.2][j - k*2]? else(gz l)[j]?
 |v::l,0,_,w,j=>by match j with|0=>simp[gz]|1=>simp[gz]|j+2=>simp[gz];omega
 |v::l,k+1,h,w,j=>by
  match j with
   |0=>simp[gz]
   |1=>simp[gz];omega
   |j+2=>
    have:=NI (l:=l) (k:=k) (by simpa using h) w j;simp only[List.set_cons_succ,gz,af9,this];by_cases h1:k*2<=j/\j<k*2+2;·rw[aJ h1,aJ ab];congr 1;omega
    rw[ap h1,ap ab]
theorem NJ(w:Int×Int):∀n,w.1=w.2->aeN (n*2) (aI w.1)=gz (aeN n w)|0,_=>rfl|n+1,h=>by rw[show(n+1)*2=n*2+1+1 by omega,List.replicate_succ,List.replicate_succ,NJ w n h,List.replicate_succ,gz,<-h]
def acm:ah->Int×Int->List AV->Prop:=λ_ w cs=>cs=[aI w.1,aI w.2]
theorem SlD.r{b:AV}(h:Sl H 2 (gz a) a.length b):cP 2 acm H a b:=⟨_,h,λk f=>NH f⟩
theorem RO.stD(U:aq A H ts)(i:Nat)(w:Int×Int)(o:a.length=n){C x:aL}(h:∀b,aq A b (ts.set i (tS e 2 (gz (a.set k w)) n full (.slice q 0 n cap ex)))->RO ac c l s (bq L d .ahp) b)(hi:ts[i]?=some (tS e 2 (gz a) n full (.slice q 0 n cap ex)):=by rfl)(p:k<a.length:=by omega)(r:aW L C=.aE q (0+k*2):=by exact cw)(t:aW L x=.agg [aI w.1,aI w.2]:=by exact cw):RO ac c (⟨d,.store 2 C x,none,[],[]⟩::l) s L H:=by
 subst o;obtain⟨v,f,_,hu⟩:=U.iJ i hi;have g:a.length<=cap:=by
  rcases f with⟨_,_,_,h⟩|⟨y,z,aM,m,u,rfl,h2,_,B,_⟩;·cases h
  injection h2 with _ _ _ h2;omega
 obtain⟨b,h1,h2,h3⟩:=cM.rP f (o:=0+k*2) (ws:=[aI w.1,aI w.2]) (us:=gz (a.set k w)) (by simp;omega) rfl (by rw[Ie,Ie,agC]) λj hj=>by rw[NI p,afC];rfl
 exact RO.store (v:=.agg [aI w.1,aI w.2]) h1 (h b (hu h2 h3)) r t rfl rfl
end
end Go.al
namespace Go.al.R
section
variable{ac:Nat->aX}
def mG(k:Nat)(f:List (Int×Int))(l:List (Int×Int)):List (Int×Int):=l.foldl (λa p=>a.set p.1.toNat ((k:Int),p.2)) f
def jR(g:G.be)(n:Nat):Nat->List (Int×Int)
 |0=>aeN n (-1, -1)
 |k+1=>mG k (jR g n k) (cK (g.aj.getD k default))
def gO(g:G.be):List (Int×Int):=jR g g.bc.toNat g.aj.length
theorem If(k:Nat):∀(l a:List (Int×Int)),(mG k a l).length=a.length|[],a=>rfl|p::l,a=>by show(mG k (a.set p.1.toNat ((k:Int),p.2)) l).length=_;rw[If k l,agC]
theorem D'(g:G.be)(n:Nat):∀k,(jR g n k).length=n|0=>by simp[jR]|k+1=>by rw[jR,If,D' g n k]
section
variable{g:G.be}{b d:AV}{c:af}{H:ah}{come:List Bool}{os:List (List bK)}{e:List AV}
theorem acp(T:Tb ac)(V:G.Sm g)(r:GX g H c b d come os e)(ag:0<=g.bc)(av:g.bc<=6000)(hG:∀a6∈g.aj,∀p∈cK a6,0<=p.1/\p.1<g.bc){K:KT}(h:∀f v,aq H f [tS oC 2 (gz (gO g)) (gO g).length true v]->K v f):YN ac WZ [.aE c 0] H K:=by
 have aw:=V.nb;have⟨hd,_,_,hn⟩:=r.bl.all;have F:=r.iZ.bm;have I:=r.c2;have a:=r.iZ.lt;obtain⟨n,s⟩:∃n:Nat,g.bc=(n:Int):=⟨g.bc.toNat,ab⟩;have u:∀k,(jR g n k).length=n:=D' g n;have x:gO g=jR g n g.aj.length:=by rw[gO,s];rfl
 refine YF.code T.ZU aF ?_;refine au ?_;refine RO.kr (aq.ct H) 2 (λH1 qx U=>?_) (n:=1) (ws:=[aI (-1),aI (-1)]);refine ai ?_;refine RO.bi ?_ (v:=aN n) (hc:=by rw[U.gr.bx a,I,s];rfl);refine RO.cl (ab3 T (n:=n) (u:=aI (-1)) (xv:=.slice qx 0 1 1 true) rfl (U.sl 0 rfl) ab λH2 q hl=>?_);have U:=U.eO hl;refine RO.ff U λW m U=>?_;refine ai ?_;refine RO.bi ?_ (v:=b) (hc:=by rw[U.gr.bx a];exact F);refine ai ?_;have U:aq H W (tS oC 2 (gz (jR g n 0)) n true (.slice q 0 n n true)::tB tP m [.slice q 0 n n true]::[]):=by have:=(U.fI 1 rfl).sub (agL _ (agL _ (List.nil_sublist _)));rw[NJ (-1, -1) n rfl]at this;exact this
 refine Ru.nm λS M hS X=>?_;refine Ru.bT X (up (P:=λk=>∀C i,aq H C (tS oC 2 (gz (jR g n k)) n true (.slice q 0 n n true)::tB tP m [.slice q 0 n n true]::fJ i)->Ru ac ⟨mV [.tmp p2] K,i,none⟩ S ([(rW,aN k)]++pk M [p3,tT,tV]) C) g.aj.length (λk hk ih C i U=>?_) 0 ab _ [] U);subst hS;subst X;refine Ru.loop ?_;refine au ?_;refine Ru.cond (λa=>?_) (λa=>?_)
 .have y:=adq a;have ax:=V.bl _ y;have J:=hG _ y;refine ai ?_;refine RO.bY U.gr r.bl (λq5 o5 c5 hj o ay hat hrd=>?_);have z:=o.one;have L:=o;obtain⟨Y,Z,jc,rfl,_,_,N⟩:=o;obtain⟨va,vk,vg,rfl,_,_,_⟩:=N;refine ai ?_;refine RO.eL U λH4 B U=>?_;refine RO.eL U λH5 q6 U=>?_;refine RO.ez U 1 (λH6 U=>?_);refine RO.fc U 0 (λH7 U=>?_);refine ai ?_;refine RO.dj U 0 ?_;have U:aq H H7 (tS oC 2 (gz (jR g n k)) n true (.slice q 0 n n true)::tB tP m [.slice q 0 n n true]::tB 3 B [aN k]::fJ i):=(U.tail.fI 2 rfl).fI 2 rfl;refine RO.cl (NC T (cs:=[Y,Z,aU (g.aj[k]).aB.op,va,.str (g.aj[k]).aB.i7,vk,vg]) z rfl λH8 q1 hl=>?_);have U:aq H H8 ([tB de q1 [Y,Z,aU (g.aj[k]).aB.op,va,.str (g.aj[k]).aB.i7,vk,vg]]++[tS oC 2 (gz (jR g n k)) n true (.slice q 0 n n true),tB tP m [.slice q 0 n n true],tB 3 B [aN k]]++fJ i):=U.eO hl;refine ai ?_;refine Ru.wk (L:=[(Ai,.func DO [] [.aE q1 0]),(p3,.aE m 0),(p4,.aE B 0),(tT,b),(tV,aN g.aj.length),(rW,aN k)]) ?_;refine Ru.so (J:=λj ts=>ts=[tS oC 2 (gz (mG k (jR g n k) ((cK g.aj[k]).take j))) n true (.slice q 0 n n true),tB tP m [.slice q 0 n n true],tB 3 B [aN k]]) (Dn:=λ_ _=>False) U (ND T L ab ab) (λ_ _=>trivial) rfl (λk args ws h=>by obtain⟨_,_,rfl⟩:=h;rfl) (λ_ _ _ _ _ _=>trivial) (λj args ws ts us l o1 o2 f hj O D U=>?_) (λf P E D U=>?_) (λj f P E _ h=>h.elim)
  .obtain⟨rfl,Q,rfl⟩:=O;subst D;obtain⟨h0,h1⟩:=J _ (adq Q);have R:(cK g.aj[k]).take (j+1)=(cK g.aj[k]).take j++[(cK g.aj[k])[j]]:=by rw[afK]
   generalize(cK g.aj[k])[j]=w at*;obtain⟨w1,w2⟩:=w;obtain⟨t,rfl⟩:∃t:Nat,w1=(t:Int):=⟨w1.toNat,by simp only at h0;omega⟩;have a1:t<n:=by simp only at h1;omega
   have A:(mG k (jR g n k) ((cK g.aj[k]).take j)).length=n:=by rw[If,u]
   refine au ?_;refine Ru.dS U λH2 U=>?_;refine ai ?_;refine RO.stD U 0 ((k:Int),w2) A (λW U=>?_) (k:=t);refine ai ?_;refine Ru.bw (ts:=[_,_,_]) U ?_;rw[R,mG,mG,List.foldl_append];rfl
  subst D;rw[agT]at U;refine ai ?_;have U:aq H f (tS oC 2 (gz (jR g n (k+1))) n true (.slice q 0 n n true)::tB tP m [.slice q 0 n n true]::fJ (E::i)):=by
   have a2:jR g n (k+1)=mG k (jR g n k) (cK g.aj[k]):=by rw[jR,bB a]
   rw[a2];exact U.sub (agL _ (agL _ (List.Sublist.cons _ (agt _))))
  exact Ru.wk (ih (k+1) ab ab f (E::i) U)
 refine Ru.exitTo ?_;refine ai ?_;have a2:k=g.aj.length:=ab;subst a2;rw[<-x]at U;refine Ru.kS (M:=i) (ts:=[_,_]) (U.cJ (afV (l₁:=[_,_]) (l₂:=fJ i))) λf U=>⟨[.slice q 0 n n true],⟨rfl,rfl,trivial⟩,h f _ ?_⟩;have e2:(gO g).length=n:=by rw[x,u]
 rw[e2];exact U.sub (agL _ (List.nil_sublist _))
end
end
end Go.al.R
end
