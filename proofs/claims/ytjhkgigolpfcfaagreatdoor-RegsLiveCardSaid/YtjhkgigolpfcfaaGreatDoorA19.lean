/- A part of the proof. No conditions. -/
import Derived.Test.YtjhkgigolpfcfaaGreatDoorA18
set_option linter.all false
set_option maxHeartbeats 16000000
open List renaming replicate->ahr,getElem?_append_left->akw,length_cons->akA,length_take->akF,getElem?_cons_succ->ak6
open Nat renaming le_of_ble_eq_true->akc,add_assoc->alo,min_eq_left->aly
open List.Sublist renaming cons_cons->alh
open List.Perm renaming cons->akO,swap->akS
noncomputable section
namespace Go.am.R
section
variable{ac:Nat->aG}
section
def ja:List G.ic->Nat->List (Int×Int)
 |[],_=>[]
 |s::l,i=>(if s.to= -1 then[]else[(s.to,(i:Int))])++ja l (i+1)
theorem E6:∀(a b:List G.ic)(i:Nat),ja (a++b) i=ja a i++ja b (i+a.length)|[],b,i=>by rfl|s::a,b,i=>by simp only[akV,ja,E6 a b (i+1),aj2,akA];grind
def dC(b:G.gV):List (Int×Int):=b.params.map (λv=>(v, -1))++ja b.aD 0
theorem Jv(b:G.gV){i:Nat}(h:i<b.aD.length)(a:b.aD[i].to≠ -1):∃c:b.params.length+(ja (b.aD.take i) 0).length<(dC b).length,(dC b)[b.params.length+(ja (b.aD.take i) 0).length]=(b.aD[i].to,(i:Int))/\(ja (b.aD.take (i+1)) 0).length=(ja (b.aD.take i) 0).length+1:=by
 have e1:b.aD=b.aD.take i++b.aD[i]::b.aD.drop (i+1):=by conv=>lhs;rw[<-ala i b.aD,aj9 h]
 have e2:dC b=b.params.map (λv=>(v, -1))++(ja (b.aD.take i) 0++((b.aD[i].to,(i:Int))::ja (b.aD.drop (i+1)) (i+1))):=by
  unfold dC;congr 1;conv=>lhs;rw[e1]
  rw[E6,ja,aq a,akF,aly af,akh];rfl
 have e:(dC b)[b.params.length+(ja (b.aD.take i) 0).length]?=some (b.aD[i].to,(i:Int)):=by rw[e2,List.getElem?_append_right aB,List.getElem?_append_right aB];simp
 obtain⟨c,f⟩:=akR.1 e;refine⟨c,f,?_⟩;rw[List.take_succ,akP h,Option.toList_some,E6,aj8];simp[ja,a]
theorem Pt(b:G.gV){i:Nat}(h:i<b.aD.length)(a:b.aD[i].to= -1):(ja (b.aD.take (i+1)) 0).length=(ja (b.aD.take i) 0).length:=by rw[List.take_succ,akP h,Option.toList_some,E6,aj8];simp[ja,a]
def Jw(l:List (Int×Int))(k:Nat)(args:List AV)(a:List Th):Prop:=a=[]/\∃h:k<l.length,args=[aI l[k].1,aI l[k].2]
section
variable{A H:ai}{us:List Th}{d:ab}{b:G.gV}{cs:List AV}
theorem Pu(T:Tb ac)(h1:dS cs=true)(b:cs.length=7){K:KT}(c:∀a d,aj H a [tB dW d cs]->K (.func EA [] [.az d 0]) a):YN ac Xp [.agg cs] H K:=by refine YF.code T.ach aB ?_;refine au ?_;refine RO.dL (aj.dc H) (λH1 d U=>?_);refine au ?_;exact Ru.aV (c _ d U)
theorem Pv(T:Tb ac)(hb:kj A b cs)(hp:b.params.length<=1000)(N:b.aD.length<=1000):yI ac A (.func EA [] [.az d 0]) (dC b).length (Jw (dC b)) [tB dW d cs] (λ_=>True) (λ_=>True):=by
 intro y J D a us H K O P Q R l m U hR j;obtain⟨E,vs,F,rfl,t,u,V⟩:=hb;have⟨W,_,_,X⟩:=t.all;have⟨Y,_,_,Z⟩:=u.all;have z:∀k(h:k<b.params.length),∃h':k<(dC b).length,(dC b)[k]=(b.params[k], -1):=λk h=>by
  have e:(dC b)[k]?=some (b.params[k], -1):=by unfold dC;rw[akw (by simpa using h)];simp[h]
  exact akR.1 e
 refine YF.code T.acC aB ?_;refine ah ?_;refine Ru.nm λS M x s=>?_;refine Ru.cC s (up (P:=λk=>∀p a,J k a->aj A p (tB dW d (E::vs::F)::(a++us))->Ru ac _ S ([(aO,aN k)]++pk M [p0,p1,p8,p9]) p) b.params.length (λk hk w p a m U=>?_) 0 aB _ a m U);subst x;subst s;refine Ru.loop ?_;refine au ?_;refine Ru.cond (λf=>?_) (λf=>?_)
 .obtain⟨g,he⟩:=z k f;refine ah ?_;refine RO.kz U.gr t (λq o hj B=>?_);refine RO.aW ?_ (hc:=B);refine ah ?_;refine RO.cl ((l k [aI b.params[k],aI (-1)] [] a _ _ g ⟨rfl,g,by rw[he]⟩ m (aj.gF (xs:=[_]) U)).mono ?_);rintro v L⟨r,U,hc⟩;rcases hc with⟨rfl,h⟩|⟨rfl,h⟩;·refine ah ?_;exact Ru.wk (w (k+1) af af _ _ h (aj.kO (xs:=[_]) U))
  refine ah ?_;exact Ru.mD (vs:=[]) trivial (j _ r _ (aj.kO (xs:=[_]) U).tail (.inr h))
 refine Ru.exitTo ?_;refine ah ?_;refine Ru.nm λS M x s=>?_;refine Ru.cC s (up (P:=λi=>∀p a,J (b.params.length+(ja (b.aD.take i) 0).length) a->aj A p (tB dW d (E::vs::F)::(a++us))->Ru ac _ S ([(bO,aN i)]++pk M [p0,p1,bN,bR]) p) b.aD.length (λi hi w p a m U=>?_) 0 af _ a (by rw[show b.params.length=k by omega];exact m) U);subst x;subst s;refine Ru.loop ?_;refine au ?_;refine Ru.cond (λf=>?_) (λf=>?_)
 .refine au ?_;refine RO.cZ U.gr u (λq o c hj G _ hat hrd=>?_);have I:=G.one;obtain⟨va,rfl,ag⟩:=G;refine ah ?_;refine RO.gI U λH4 q6 U=>?_;refine ah ?_;refine RO.iT U 0 (λH5 U=>?_);refine ah ?_;by_cases n:b.aD[i].to= -1;·refine RO.de (λh=>absurd n h) (λ_=>?_);refine ah ?_;rw[<-Pt b f n]at m;exact Ru.wk (w (i+1) af af _ a m U.tail)
  obtain⟨g,he,C⟩:=Jv b f n;refine RO.de (λ_=>?_) (λh=>absurd n h);refine ah ?_;refine RO.cl ((l _ [aI b.aD[i].to,aI (i:Int)] [] a _ _ g ⟨rfl,g,by rw[he]⟩ m (aj.gF (xs:=[_,_]) U)).mono ?_);rintro v L⟨r,U,hc⟩;rcases hc with⟨rfl,h⟩|⟨rfl,h⟩;·refine ah ?_;rw[alo,<-C]at h;exact Ru.wk (w (i+1) af af _ _ h (aj.kO (xs:=[_,_]) U).tail)
  refine ah ?_;exact Ru.mD (vs:=[]) trivial (j _ r _ (aj.kO (xs:=[_,_]) U).tail.tail (.inr h))
 refine Ru.exitTo ?_;refine ah ?_;refine Ru.aA (vs:=[]) trivial (j _ a _ U.tail (.inl ?_));have e:(dC b).length=b.params.length+(ja (b.aD.take i) 0).length:=by rw[akl af];simp[dC]
 rw[e];exact m
end
end
section
section
variable{A H:ai}{us ts:List Th}{la:List Int}{sv fv:AV}{J:Nat->List Th->Prop}{D:List Th->Prop}
def Pw(ac:Nat->aG)(A:ai)(fv:AV)(la:List Int)(J:Nat->List Th->Prop)(D:List Th->Prop):Prop:=
 ∀k ts us H(h:k<la.length),J k ts->aj A H (ts++us)->YF ac fv [aI la[k]] H λv d=>∃b,aj A d (b++us)/\(v=.bool false/\J (k+1) b\/v=.bool true/\D b)
theorem aeS(T:Tb ac)(i:∀{k H ts},J k ts->aj A H (ts++us)->fZ H la sv)(hl:la.length<=1000000)(s:fv.bB=true)(n:Pw ac A fv la J D)(d:J 0 ts)(U:aj A H (ts++us)){K:KT}(j:∀l b z,aj A l (b++us)->(z<0/\J la.length b\/0<=z/\D b)->K (aI z) l):YN ac WR [sv,fv] H K:=by
 have⟨hd,_,_,t⟩:=(i d U).all;refine YF.code T.IU aB ?_;refine au ?_;refine Ru.nm λS M p m=>?_;refine Ru.cC m (up (P:=λk=>∀f ts,J k ts->aj A f (ts++us)->Ru ac _ S ([(p8,aN k)]++pk M [p0,p1,p7]) f) la.length (λk u r f ts d U=>?_) 0 aB _ ts d U);subst p;subst m;refine Ru.loop ?_;refine au ?_;refine Ru.cond (λe=>?_) (λe=>?_)
 .refine au ?_;refine RO.kz (bm.refl _) (i d U) (λq o hj g=>?_);refine RO.aW ?_ (hc:=g);refine RO.cl ((n k ts us f e d U).mono ?_);rintro v w⟨b,U,hc⟩;rcases hc with⟨rfl,h⟩|⟨rfl,h⟩;·refine au ?_;exact Ru.wk (r (k+1) af af _ _ h U)
  refine au ?_;exact Ru.aV (j _ b (.ofNat k) U (.inr ⟨aB,h⟩))
 refine Ru.exitTo ?_;refine au ?_;exact Ru.aV (j _ ts (-1) U (.inl ⟨af,by rw[show la.length=k by omega];exact d⟩))
theorem Jx(T:Tb ac)(f:∀{k H ts},J k ts->aj A H (ts++us)->fZ H la sv)(hl:la.length<=1000000)(e:fv.bB=true)(h:Pw ac A fv la J D)(g:J 0 ts)(U:aj A H (ts++us)){K:KT}(i:∀d b t,aj A d (b++us)->(t=false/\J la.length b\/t=true/\D b)->K (.bool t) d):YN ac WF [sv,fv] H K:=by
 have⟨hd,_,_,l⟩:=(f g U).all;refine YF.code T.IT aB ?_;refine au ?_;refine RO.cl (aeS T f hl e h g U λd b z U j=>?_);refine au ?_;refine Ru.aV (i _ b _ U ?_);rcases j with⟨h1,h2⟩|⟨h1,h2⟩;·exact .inl ⟨by simp;omega,h2⟩
 exact .inr ⟨by simp;omega,h2⟩
end
section
variable{A H:ai}{us ts:List Th}{c a:ab}{b:G.gV}{cs:List AV}{l:List (Int×Int)}
theorem Jy(T:Tb ac){y:AV}{J:Nat->List Th->Prop}{D:List Th->Prop}(q:y.bB=true)(e:Body ac A y l.length (Jw l) J D){p bH:Nat}{la:List Int}{sv:AV}(m:fZ A la sv)(hl:la.length<=1000000)(o:∀k(h:k<la.length),∃f:p+k<l.length,l[p+k]=(la[k],(bH:Int)))(g:J p ts)(U:aj A H (tB yi a [y]::(ts++us))){K:KT}(n:∀i b t,aj A i (tB yi a [y]::(b++us))->(t=true/\J (p+la.length) b\/t=false/\D b)->K (.bool t) i):YF ac (.func XB [] [.az a 0]) [aN bH,sv] H K:=by
 have⟨hd,_,_,r⟩:=m.all;refine YF.code T.acE aB ?_;refine au ?_;refine RO.dL U (λH1 j U=>?_);refine au ?_;refine RO.cl (Jx T (us:=us) (ts:=tB 3 j [aN bH]::tB yi a [y]::ts) (λ_ h=>h.gr.sl m) hl rfl (J:=λk b=>∃t0,b=tB 3 j [aN bH]::tB yi a [y]::t0/\J (p+k) t0) (D:=λb=>∃t0,b=tB 3 j [aN bH]::tB yi a [y]::t0/\D t0) ?_ ⟨ts,rfl,g⟩ U λi b t U d=>?_)
 .rintro k _ us H h⟨t0,rfl,g⟩U;obtain⟨f,he⟩:=o k h;refine YF.code T.acF aB ?_;refine ah ?_;refine RO.cl ((e (p+k) [aI la[k],aN bH] [] t0 _ _ f ⟨rfl,f,by rw[he];rfl⟩ g (aj.gF (xs:=[_,_]) U)).mono ?_);rintro v s⟨b,U,d⟩;have U:=aj.kO (xs:=[_,_]) U;rcases d with⟨rfl,h⟩|⟨rfl,h⟩;·refine ah ?_;exact Ru.aV ⟨_,U,.inl ⟨rfl,b,rfl,h⟩⟩
  refine ah ?_;exact Ru.aV ⟨_,U,.inr ⟨rfl,b,rfl,h⟩⟩
 rcases d with⟨rfl,t0,rfl,h⟩|⟨rfl,t0,rfl,h⟩;·refine ah ?_;exact Ru.aV (n _ t0 true U.tail (.inl ⟨rfl,h⟩))
 refine ah ?_;exact Ru.aV (n _ t0 false U.tail (.inr ⟨rfl,h⟩))
end
end
section
def oB(a:List Int)(n:Nat):List (Int×Int):=a.map λv=>(v,(n:Int))
def jI:List G.ic->Nat->List (Int×Int)
 |[],_=>[]
 |s::l,i=>oB s.args i++jI l (i+1)
def kE:List G.Edge->Nat->List (Int×Int)
 |[],_=>[]
 |e::l,n=>oB e.args n++kE l n
def kF(b:G.gV):List (Int×Int):=jI b.aD 0++(oB b.aA.args b.aD.length++kE b.aA.go b.aD.length)
theorem Jz:∀(a b:List G.ic)(i:Nat),jI (a++b) i=jI a i++jI b (i+a.length)|[],b,i=>by simp[jI]|s::a,b,i=>by simp only[akV,jI,Jz a b (i+1),aj2,akA];rw[show i+1+a.length=i+(a.length+1)by omega]
theorem JA:∀(a b:List G.Edge)(n:Nat),kE (a++b) n=kE a n++kE b n|[],b,n=>by simp[kE]|s::a,b,n=>by simp only[akV,kE,JA a b n,aj2]
theorem JB{l a c:List (Int×Int)}{b:List Int}{n:Nat}(h:l=a++(oB b n++c))(k:Nat)(f:k<b.length):∃g:a.length+k<l.length,l[a.length+k]=(b[k],(n:Int)):=by
 have e:l[a.length+k]?=some (b[k],(n:Int)):=by rw[h,List.getElem?_append_right af,akw (by simp[oB];omega)];simp[oB,f]
 exact akR.1 e
theorem E7(a:List Int)(n:Nat):(oB a n).length=a.length:=by simp[oB]
theorem Px(b:G.gV){i:Nat}(h:i<b.aD.length):(jI (b.aD.take (i+1)) 0).length=(jI (b.aD.take i) 0).length+b.aD[i].args.length/\∃c,kF b=jI (b.aD.take i) 0++(oB b.aD[i].args i++c):=by
 have e1:b.aD=b.aD.take i++b.aD[i]::b.aD.drop (i+1):=by conv=>lhs;rw[<-ala i b.aD,aj9 h]
 refine⟨by rw[List.take_succ,akP h,Option.toList_some,Jz,aj8];simp[jI,E7,aly (Nat.le_of_lt h)],jI (b.aD.drop (i+1)) (i+1)++(oB b.aA.args b.aD.length++kE b.aA.go b.aD.length),?_⟩;have e2:jI b.aD 0=jI (b.aD.take i) 0++(oB b.aD[i].args i++jI (b.aD.drop (i+1)) (i+1)):=by
  conv=>lhs;rw[e1]
  rw[Jz,jI,akF,aly af,akh]
 unfold kF;rw[e2,aj2,aj2]
theorem Py(b:G.gV){i:Nat}(h:i<b.aA.go.length):(kE (b.aA.go.take (i+1)) b.aD.length).length=(kE (b.aA.go.take i) b.aD.length).length+b.aA.go[i].args.length/\∃c,kF b=(jI b.aD 0++(oB b.aA.args b.aD.length++kE (b.aA.go.take i) b.aD.length))++(oB b.aA.go[i].args b.aD.length++c):=by
 have e1:b.aA.go=b.aA.go.take i++b.aA.go[i]::b.aA.go.drop (i+1):=by conv=>lhs;rw[<-ala i b.aA.go,aj9 h]
 refine⟨by rw[List.take_succ,akP h,Option.toList_some,JA,aj8];simp[kE,E7],kE (b.aA.go.drop (i+1)) b.aD.length,?_⟩;have e2:kE b.aA.go b.aD.length=kE (b.aA.go.take i) b.aD.length++(oB b.aA.go[i].args b.aD.length++kE (b.aA.go.drop (i+1)) b.aD.length):=by
  conv=>lhs;rw[e1]
  rw[JA,kE]
 unfold kF;rw[e2];simp only[aj2]
section
variable{A H:ai}{us:List Th}{d:ab}{b:G.gV}{cs:List AV}
theorem Pz(T:Tb ac)(h1:dS cs=true){K:KT}(b:∀a d,aj H a [tB dW d cs]->K (.func EB [] [.az d 0]) a):YN ac Xq [.agg cs] H K:=by refine YF.code T.ack aB ?_;refine au ?_;refine RO.dL (aj.dc H) (λH1 d U=>?_);refine au ?_;exact Ru.aV (b _ d U)
theorem PA(T:Tb ac)(hb:kj A b cs)(ag:b.aD.length<=1000)(eh:∀s∈b.aD,s.args.length<=1000)(av:b.aA.args.length<=1000)(aw:b.aA.go.length<=1000)(O:∀e∈b.aA.go,e.args.length<=1000):yI ac A (.func EB [] [.az d 0]) (kF b).length (Jw (kF b)) [tB dW d cs] (λ_=>True) (λ_=>True):=by
 intro y J D m us H K u P z ax f n U hR g;obtain⟨vp,vs,jc,rfl,ay,B,Q⟩:=hb;obtain⟨va,vk,vg,rfl,C,a0,E⟩:=Q;have⟨a1,_,_,a2⟩:=B.all;have⟨a3,_,_,a4⟩:=C.all;have⟨a5,_,_,a6⟩:=E.all;refine YF.code T.acD aB ?_;refine ah ?_;refine RO.dL U (v:=y) (λH1 W U=>?_) (ho:=by rw[z];simp[dS,P]);rw[z]at U;refine ah ?_;refine Ru.nm λS M I w=>?_;refine Ru.cC w (up (P:=λi=>∀r m,J (jI (b.aD.take i) 0).length m->aj A r (tB yi W [y]::tB dW d _::(m++us))->Ru ac _ S ([(aX,aN i)]++pk M [p1,p3,aR,aY]) r) b.aD.length (λi hi L r m n U=>?_) 0 af _ m n U);subst I;subst w;refine Ru.loop ?_;refine au ?_;refine Ru.cond (λa=>?_) (λa=>?_)
 .obtain⟨v,c,N⟩:=Px b a;refine au ?_;refine RO.cZ U.gr B (λq o c hj x _ hat hrd=>?_);have F:=x.one;obtain⟨R,rfl,k⟩:=x;have⟨G,_,_,_⟩:=k.all;refine ah ?_;refine RO.gI U λH4 Y U=>?_;refine ah ?_;refine RO.iT U 0 (λZ U=>?_);refine ah ?_;refine RO.cl (Jy T u f (p:=(jI (b.aD.take i) 0).length) (bH:=i) k (by have:=eh _ (agB a);omega) (JB N) n ((U.cM (akS ..)).cM (akO _ (vt (xs:=[_,_])))) λX j t U l=>?_);have U:=(U.cM (akO _ (vt (xs:=[_,_])).symm)).sub (alh _ (List.Sublist.cons _ (akL _)));rcases l with⟨rfl,h⟩|⟨rfl,h⟩;·refine ah ?_;rw[<-v]at h;exact Ru.wk (L (i+1) af af _ _ h U)
  refine ah ?_;exact Ru.mD (vs:=[]) trivial (g _ j _ U.tail.tail (.inr h))
 refine Ru.exitTo ?_;rw[akl af]at n;refine ah ?_;refine RO.cl (Jy T u f (p:=(jI b.aD 0).length) (bH:=b.aD.length) C af (JB (l:=kF b) rfl) n (U.cM (akO _ (vt (xs:=[_])))) λX j t U l=>?_);have U:=U.cM (akO _ (vt (xs:=[_])).symm);rcases l with⟨rfl,h⟩|⟨rfl,h⟩
 .refine ah ?_;refine Ru.nm λS M I w=>?_;refine Ru.cC w (up (P:=λi=>∀r m,J ((jI b.aD 0).length+(b.aA.args.length+(kE (b.aA.go.take i) b.aD.length).length)) m->aj A r (tB yi W [y]::tB dW d _::(m++us))->Ru ac _ S ([(du,aN i)]++pk M [p3,p6,dl,dh]) r) b.aA.go.length (λi hi L r m n U=>?_) 0 af _ j h U);subst I;subst w;refine Ru.loop ?_;refine au ?_;refine Ru.cond (λa=>?_) (λa=>?_)
  .obtain⟨v,c,N⟩:=Py b a;refine au ?_;refine RO.cZ U.gr E (λq o c hj x _ hat hrd=>?_);have F:=x.one;obtain⟨R,rfl,k⟩:=x;have⟨G,_,_,_⟩:=k.all;refine ah ?_;refine RO.fx U λZ Y U=>?_;refine ah ?_;have V:(jI b.aD 0++(oB b.aA.args b.aD.length++kE (b.aA.go.take i) b.aD.length)).length=(jI b.aD 0).length+(b.aA.args.length+(kE (b.aA.go.take i) b.aD.length).length):=by simp only[aj8,E7]
   have p:=JB N;rw[V]at p;refine RO.cl (Jy T u f (p:=(jI b.aD 0).length+(b.aA.args.length+(kE (b.aA.go.take i) b.aD.length).length)) (bH:=b.aD.length) k (by have:=O _ (agB a);omega) p n ((U.cM (akS ..)).cM (akO _ (vt (xs:=[_,_])))) λX j t U l=>?_);have U:=(U.cM (akO _ (vt (xs:=[_,_])).symm)).sub (alh _ (List.Sublist.cons _ (akL _)));rcases l with⟨rfl,h⟩|⟨rfl,h⟩;·refine ah ?_;rw[alo,alo,<-v]at h;exact Ru.wk (L (i+1) af af _ _ h U)
   refine ah ?_;exact Ru.mD (vs:=[]) trivial (g _ j _ U.tail.tail (.inr h))
  refine Ru.exitTo ?_;refine ah ?_;refine Ru.aA (vs:=[]) trivial (g _ m _ U.tail.tail (.inl ?_));have e:(kF b).length=(jI b.aD 0).length+(b.aA.args.length+(kE (b.aA.go.take i) b.aD.length).length):=by rw[akl af];simp[kF,E7]
  rw[e];exact n
 refine ah ?_;exact Ru.mD (vs:=[]) trivial (g _ j _ U.tail.tail (.inr h))
end
end
end
end Go.am.R
namespace Go.am
section
variable{ac:Nat->aG}{c:Cx}{s:List SI}{L:Kn}{A H:ai}{d:Option ab}{l:List be}{ts:List Th}{q:ab}{e n k i cap:Nat}{full ex:Bool}{b:List (Int×Int)}
def iV:List (Int×Int)->List AV
 |[]=>[]
 |w::l=>aI w.1::aI w.2::iV l
theorem PB:∀l,(iV l).length=l.length*2|[]=>rfl|w::l=>by simp only[iV,akA,PB l];omega
theorem PC:∀{l:List (Int×Int)}{k:Nat}(h:k<l.length),((iV l).drop (k*2)).take 2=[aI l[k].1,aI l[k].2]|w::l,0,_=>rfl|w::l,k+1,h=>by have:=PC (l:=l) (k:=k) (by simpa using h);grind[iV]
theorem PD:∀{l:List (Int×Int)}{k:Nat}(_:k<l.length)(w:Int×Int)(j:Nat),(iV (l.set k w))[j]?=if k*2<=j/\j<k*2+2 then[aI w.1,aI w.2][j - k*2]? else(iV l)[j]?
 |v::l,0,_,w,j=>by match j with|0=>simp[iV]|1=>simp[iV]|j+2=>simp[iV];omega
 |v::l,k+1,h,w,j=>by
  match j with
   |0=>simp[iV]
   |1=>simp[iV];omega
   |j+2=>
    have:=PD (l:=l) (k:=k) (by simpa using h) w j;simp only[List.set_cons_succ,iV,ak6,this];by_cases h1:k*2<=j/\j<k*2+2;·rw[aK h1,aK af];congr 1;omega
    rw[aq h1,aq af]
theorem PE(w:Int×Int):∀n,w.1=w.2->ahr (n*2) (aI w.1)=iV (ahr n w)|0,_=>rfl|n+1,h=>by rw[show(n+1)*2=n*2+1+1 by omega,List.replicate_succ,List.replicate_succ,PE w n h,List.replicate_succ,iV,<-h]
def aeT:ai->Int×Int->List AV->Prop:=λ_ w cs=>cs=[aI w.1,aI w.2]
theorem SlD.r{a:AV}(h:Sl H 2 (iV b) b.length a):dV 2 aeT H b a:=⟨_,h,λk c=>PC c⟩
theorem RO.stD(U:aj A H ts)(i:Nat)(w:Int×Int)(v:b.length=n){a x:aJ}(h:∀f,aj A f (ts.set i (tS e 2 (iV (b.set k w)) n full (.slice q 0 n cap ex)))->RO ac c l s (bC L d .alR) f)(hi:ts[i]?=some (tS e 2 (iV b) n full (.slice q 0 n cap ex)):=by rfl)(p:k<b.length:=by omega)(r:bf L a=.az q (0+k*2):=by exact cw)(t:bf L x=.agg [aI w.1,aI w.2]:=by exact cw):RO ac c (⟨d,.store 2 a x,none,[],[]⟩::l) s L H:=by
 obtain⟨y,g,_,hu⟩:=U.ki i hi;have m:b.length<=cap:=by
  rcases g with⟨_,_,_,h⟩|⟨z,B,aM,o,u,rfl,h2,_,C,_⟩;·cases h
  injection h2 with _ _ _ h2;omega
 obtain⟨f,h1,h2,h3⟩:=dU.wx g (o:=0+k*2) (ws:=[aI w.1,aI w.2]) (us:=iV (b.set k w)) (by grind) rfl (by simp[PB,ak4]) λj hj=>by simp[p,PD,akh]
 exact RO.store (v:=.agg [aI w.1,aI w.2]) h1 (h f (hu h2 h3)) r t rfl rfl
end
end Go.am
namespace Go.am.R
section
variable{ac:Nat->aG}
def qz(k:Nat)(b:List (Int×Int))(l:List (Int×Int)):List (Int×Int):=l.foldl (λa p=>a.set p.1.toNat ((k:Int),p.2)) b
def mj(g:G.bu)(n:Nat):Nat->List (Int×Int)
 |0=>ahr n (-1, -1)
 |k+1=>qz k (mj g n k) (dC (g.al.getD k default))
def jZ(g:G.bu):List (Int×Int):=mj g g.bp.toNat g.al.length
theorem JC(k:Nat):∀(l a:List (Int×Int)),(qz k a l).length=a.length|[],a=>rfl|p::l,a=>by show(qz k (a.set p.1.toNat ((k:Int),p.2)) l).length=_;rw[JC k l,ak4]
theorem E8(g:G.bu)(n:Nat):∀k,(mj g n k).length=n|0=>by simp[mj]|k+1=>by rw[mj,JC,E8 g n k]
section
variable{g:G.bu}{c f:AV}{d:ab}{H:ai}{come:List Bool}{os:List (List bV)}{h:List AV}
theorem aeW(T:Tb ac)(W:G.Sm g)(s:GX g H d c f come os h)(ag:0<=g.bp)(av:g.bp<=6000)(hG:∀b∈g.al,∀p∈dC b,0<=p.1/\p.1<g.bp){K:KT}(a1:∀i v,aj H i [tS nN 2 (iV (jZ g)) (jZ g).length true v]->K v i):YN ac Xx [.az d 0] H K:=by
 have aw:=W.nb;have⟨hd,_,_,hn⟩:=s.bl.all;have I:=s.kS.aH;have J:=s.c2;have a:=s.kS.lt;obtain⟨n,u⟩:∃n:Nat,g.bp=(n:Int):=⟨g.bp.toNat,af⟩;have x:∀k,(mj g n k).length=n:=E8 g n;have y:jZ g=mj g n g.al.length:=by rw[jZ,u];rfl
 refine YF.code T.acx aB ?_;refine au ?_;refine RO.lf (aj.dc H) 2 (λH1 qx U=>?_) (n:=1) (ws:=[aI (-1),aI (-1)]);refine ah ?_;refine RO.aW ?_ (v:=aN n) (hc:=by rw[U.gr.bh a,J,u];rfl);refine RO.cl (aeH T (n:=n) (u:=aI (-1)) (xv:=.slice qx 0 1 1 true) rfl (U.sl (e:=nN) (size:=2) (n:=1) (full:=true) 0) af λH2 q hl=>?_);have U:=U.fC hl;refine RO.fx U λX o U=>?_;refine ah ?_;refine RO.aW ?_ (v:=c) (hc:=by rw[U.gr.bh a];exact I);refine ah ?_;have U:aj H X (tS nN 2 (iV (mj g n 0)) n true (.slice q 0 n n true)::tB wA o [.slice q 0 n n true]::[]):=by have:=(U.gk 1 rfl).sub (alh _ (alh _ (List.nil_sublist _)));rw[PE (-1, -1) n rfl]at this;exact this
 refine Ru.nm λS M hS Y=>?_;refine Ru.cC Y (up (P:=λk=>∀D m,aj H D (tS nN 2 (iV (mj g n k)) n true (.slice q 0 n n true)::tB wA o [.slice q 0 n n true]::i9 m)->Ru ac ⟨pu [.tmp p2] K,m,none⟩ S ([(bO,aN k)]++pk M [p3,bN,bR]) D) g.al.length (λk hk ih D m U=>?_) 0 af _ [] U);subst hS;subst Y;refine Ru.loop ?_;refine au ?_;refine Ru.cond (λa=>?_) (λa=>?_)
 .have z:=agB a;have ax:=W.bl _ z;have L:=hG _ z;refine ah ?_;refine RO.cZ U.gr s.bl (λq5 o5 c5 hj r ay hat hrd=>?_);have A:=r.one;have N:=r;obtain⟨Z,vs,jc,rfl,_,_,O⟩:=r;obtain⟨va,vk,vg,rfl,_,_,_⟩:=O;refine ah ?_;refine RO.gI U λH4 C U=>?_;refine RO.gI U λH5 q6 U=>?_;refine RO.gG U 1 (λH6 U=>?_);refine RO.iT U 0 (λH7 U=>?_);refine ah ?_;refine RO.eQ U 0 ?_;have U:aj H H7 (tS nN 2 (iV (mj g n k)) n true (.slice q 0 n n true)::tB wA o [.slice q 0 n n true]::tB 3 C [aN k]::i9 m):=(U.tail.gk 2 rfl).gk 2 rfl;refine RO.cl (Pu T (cs:=[Z,vs,aU (g.al[k]).aA.op,va,.str (g.al[k]).aA.name,vk,vg]) A rfl λH8 q1 hl=>?_);have U:aj H H8 ([tB dW q1 [Z,vs,aU (g.al[k]).aA.op,va,.str (g.al[k]).aA.name,vk,vg]]++[tS nN 2 (iV (mj g n k)) n true (.slice q 0 n n true),tB wA o [.slice q 0 n n true],tB 3 C [aN k]]++i9 m):=U.fC hl;refine ah ?_;refine Ru.wk (L:=[(ct,.func EA [] [.az q1 0]),(p3,.az o 0),(p4,.az C 0),(bN,c),(bR,aN g.al.length),(bO,aN k)]) ?_;refine Ru.pG (J:=λj ts=>ts=[tS nN 2 (iV (qz k (mj g n k) ((dC g.al[k]).take j))) n true (.slice q 0 n n true),tB wA o [.slice q 0 n n true],tB 3 C [aN k]]) (Dn:=λ_ _=>False) U (Pv T N af af) (λ_ _=>trivial) rfl (λk args ws a1=>by obtain⟨_,_,rfl⟩:=a1;rfl) (λ_ _ _ _ _ _=>trivial) (λj args ws ts us l o1 o2 i hj P E U=>?_) (λi Q F E U=>?_) (λj i Q F _ a1=>a1.elim)
  .obtain⟨rfl,R,rfl⟩:=P;subst E;obtain⟨h0,h1⟩:=L _ (agB R);have V:(dC g.al[k]).take (j+1)=(dC g.al[k]).take j++[(dC g.al[k])[j]]:=by rw[akd]
   generalize(dC g.al[k])[j]=w at*;obtain⟨w1,w2⟩:=w;obtain⟨t,rfl⟩:∃t:Nat,w1=(t:Int):=⟨w1.toNat,by simp only at h0;omega⟩;have a0:t<n:=by simp only at h1;omega
   have B:(qz k (mj g n k) ((dC g.al[k]).take j)).length=n:=by rw[JC,x]
   refine au ?_;refine Ru.dN U λH2 U=>?_;refine ah ?_;refine RO.stD U 0 ((k:Int),w2) B (λX U=>?_) (k:=t);refine ah ?_;refine Ru.bG (ts:=[_,_,_]) U ?_;rw[V,qz,qz,List.foldl_append];rfl
  subst E;rw[ak7]at U;refine ah ?_;have U:aj H i (tS nN 2 (iV (mj g n (k+1))) n true (.slice q 0 n n true)::tB wA o [.slice q 0 n n true]::i9 (F::m)):=by
   have e:mj g n (k+1)=qz k (mj g n k) (dC g.al[k]):=by rw[mj,bF a]
   rw[e];exact U.sub (alh _ (alh _ (List.Sublist.cons _ (akL _))))
  exact Ru.wk (ih (k+1) af af i (F::m) U)
 refine Ru.exitTo ?_;refine ah ?_;have e:k=g.al.length:=af;subst e;rw[<-y]at U;refine Ru.mI (M:=m) (ts:=[_,_]) (U.cM (akH (l₁:=[_,_]) (l₂:=i9 m))) λi U=>⟨[.slice q 0 n n true],⟨rfl,rfl,trivial⟩,a1 i _ ?_⟩;have e2:(jZ g).length=n:=by rw[y,x]
 rw[e2];exact U.sub (alh _ (List.nil_sublist _))
end
end
end Go.am.R
end
