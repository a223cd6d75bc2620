/- A part of the proof. No conditions. -/
import Derived.Test.YtjhkgigolpfcfaaGreatDoorA18
set_option linter.all false
set_option maxHeartbeats 16000000
open List renaming mem_singleton->aep,mem_cons_of_mem->aey,mem_cons_self->aeU,replicate->ahr,range->ake,length_map->akg,getElem?_append_left->akw,nodup_cons->akz,length_singleton->akC,nodup_append->akI,nodup_nil->alD
open Nat renaming le_of_ble_eq_true->akc,ble_eq_true_of_le->akB,blt_eq->akY,le_trans->alj
open Int renaming ofNat->ak1
open Eq renaming mpr->alN
open Prod renaming fst->alO
open List.Pairwise renaming nil->alQ
noncomputable section
namespace Go.am.R
section
variable{ac:Nat->aG}
section
def tN:Th where
 P _ c:=c=[]
 fr h _ _:=h
 lt h:=λj hj=>by rw[h]at hj;cases hj
def tO(D:Bool)(q:ab)(S:Int->Prop):Th:=if D then tM false q S else tN
def gQ(n:Nat)(D:Nat->Bool)(ids:Nat->ab)(S:Nat->Int->Prop):List Th:=(ake n).map λv=>tO (D v) (ids v) (S v)
def jJ(D:Nat->Bool)(ids:Nat->ab)(v:Nat):AV:=if D v then .map (ids v)else .cY
def iw(n:Nat)(D:Nat->Bool)(ids:Nat->ab):List AV:=(ake n).map (jJ D ids)
section
variable{n:Nat}{D a:Nat->Bool}{ids b:Nat->ab}{S S':Nat->Int->Prop}{f d m:ab}{us:List Th}{A H:ai}
theorem Fu:(iw n D ids).length=n:=by simp[iw]
theorem agp:(gQ n D ids S).length=n:=by simp[gQ]
theorem Fv{v:Nat}(c:v<n):(gQ n D ids S)[v]?=some (tO (D v) (ids v) (S v)):=by simp[c,gQ,aks,List.getElem?_range,akt]
theorem agq{v:Nat}(c:v<n){q:ab}{P:Int->Prop}:(gQ n D ids S).set v (tM false q P)=gQ n (λx=>if x=v then true else D x) (λx=>if x=v then q else ids x) (fh S v P):=by
 apply alg (by simp[gQ]);intro j h1 h2;simp only[gQ,List.getElem_set,akN,alA,fh];by_cases e:v=j;·simp[e,tO]
 grind
theorem QC{v y:Int}{l:List Int}:y∈iF v l↔y∈l/\y≠v:=uS v y l
theorem QD{A H0:ai}{c:ap AV}{ks:List Int}{t1 t2 t3:Th}(C:ks.Nodup)(E:∀j,j<n->D j=true->∃t0:List Int,jS H0 (ids j)=some t0/\t0.Nodup/\(∀x,x∈t0↔S j x)/\ids j≠m)(M:∀j,j<n->c.bw .alR (0+j)=jJ D ids j)(N:∀j,j<n->D j=false->∀x,¬S j x):∀(l:List Int)(B:ap AV)(H':ai)(a:Nat->Bool)(b:Nat->ab)(S':Nat->Int->Prop),l.Nodup->(∀k∈l,0<=k/\k<n)->(∀j,j<n->(j:Int)∈l->a j=D j/\b j=ids j/\S' j=S j)->(∀j,j<n->B.bw .alR (0+j)=jJ a b j)->aj A H' (t1::t2::t3::(gQ n a b S'++us))->∃u v r g w,vZ c 0 n m ks H0 l B H'=some (u,v)/\aj A v (t1::t2::t3::(gQ n r g w++us))/\(∀j,j<n->u.bw .alR (0+j)=jJ r g j)/\(∀j,j<n->(r j=true↔a j=true\/(j:Int)∈l))/\∀j,j<n->∀x,w j x↔S' j x\/(j:Int)∈l/\x∈ks/\x≠j
 |[],B,H',a,b,S',_,_,_,H,U=>⟨B,H',a,b,S',rfl,U,H,λj _=>by simp,λj _ x=>by simp⟩
 |k::l,B,H',a,b,S',s,F,h3,H,U=>by
  rw[akz]at s;obtain⟨ag,ar⟩:=F k (aeU ..);obtain⟨j,rfl⟩:∃j:Nat,k=(j:Int):=⟨k.toNat,af⟩;have o:j<n:=af;obtain⟨e1,e2,O⟩:=h3 j o (aeU ..);have hat:(t1::t2::t3::(gQ n a b S'++us))[3+j]?=some (tO (a j) (b j) (S' j)):=rr (xs:=[_,_,_]) (Fv o);have t:∀{q:ab}{P:Int->Prop},(t1::t2::t3::(gQ n a b S'++us)).set (3+j) (tM false q P)=t1::t2::t3::(gQ n (λx=>if x=j then true else a x) (λx=>if x=j then q else b x) (fh S' j P)++us):=λ{q P}=>by refine(PW (xs:=[t1,t2,t3]) (l:=gQ n a b S') (by rw[agp];exact o)).trans ?_;rw[agq o];rfl
  have z:∀i,i<n->(i:Int)∈l->i≠j:=λi _ hi e=>s.1 (e▸hi);have aA:∀{q:ab}{P:Int->Prop}{c2:ap AV}{I:ai},aj A I (t1::t2::t3::(gQ n (λx=>if x=j then true else a x) (λx=>if x=j then q else b x) (fh S' j P)++us))->(∀i,i<n->c2.bw .alR (0+i)=jJ (λx=>if x=j then true else a x) (λx=>if x=j then q else b x) i)->(∀x,P x↔S' j x\/x∈ks/\x≠(j:Int))->∃u v r g w,vZ c 0 n m ks H0 l c2 I=some (u,v)/\aj A v (t1::t2::t3::(gQ n r g w++us))/\(∀j,j<n->u.bw .alR (0+j)=jJ r g j)/\(∀i,i<n->(r i=true↔a i=true\/(i:Int)∈(j:Int)::l))/\∀i,i<n->∀x,w i x↔S' i x\/(i:Int)∈(j:Int)::l/\x∈ks/\x≠i:=by
   intro q P c2 I p K R;obtain⟨u,v,r,g,w,T,V,W,X,Y⟩:=QD C E M N l c2 I _ _ _ s.2 (λk Z=>F k (aey _ Z)) (λi hi Q=>by have:=z i hi Q;obtain⟨a1,a2,a3⟩:=h3 i hi (aey _ Q);simp only[aq this,fh];exact⟨a1,a2,a3⟩) K p;refine⟨u,v,r,g,w,T,V,W,λi hi=>?_,λi hi x=>?_⟩
   .rw[X i hi,aeV];by_cases e:i=j;·subst e;simp
    rw[aq e];have:¬((i:Int)=(j:Int)):=af;simp[this]
   rw[Y i hi,aeV];by_cases e:i=j;·subst e;simp only[fh,bq,R,true_or,true_and];have:=s.1;simp[this]
   have h9:¬((i:Int)=(j:Int)):=af;simp only[fh,aq e,h9,false_or]
  simp only[vZ];simp only[alN akY o,bq,M j o];cases y:D j with
  |false=>
   simp only[jJ,y,aes,bP];obtain⟨fp,J,_,hu⟩:=U.ki (3+j) hat;rw[e1,y]at J;have L:(iF (ak1 j) ks).Nodup:=D3 C;have p:=hu (H':=H'.new (.dI (eG (iF (ak1 j) ks)))) (fp':=[H'.next]) (t':=tM false H'.next λx=>x∈ks/\x≠(j:Int)) ⟨by rw[ai.nK];exact qoz,λi hi=>by rw[aep]at hi;exact .inr (by rw[hi];exact afb _),λi _ hi=>by rw[ai.dJ,aq (λe=>by rw[e]at hi;exact qoz)]⟩ ⟨aep.2 rfl,λj hj=>aep.1 hj,⟨_,by rw[ai.dJ,aK rfl];exact wc L,λx=>QC⟩,(λh=>by cases h),by rw[ai.nK];exact qoz⟩;rw[t]at p;refine aA p (λi hi=>?_) (λx=>?_)
   .rw[nD];simp only[akC,jJ];by_cases e:i=j;·subst e;simp
    rw[aq af,aq e,aq e,H i hi,jJ]
   rw[O];have:=N j o y x;simp[this]
  |true=>
   obtain⟨t0,q1,q2,d,q4⟩:=E j o y;simp only[jJ,y,bq,wU q4,aes,bP,q1];rw[e1,y,e2]at hat;obtain⟨_,_,G⟩:=U.nf _ hat;have p:=U.uh (H':=H'.set (ids j) (.dI (eG (gT (iF (ak1 j) ks) t0)))) (q:=ids j) _ hat (t':=tM false (ids j) λx=>S' j x\/x∈ks/\x≠(j:Int)) rfl (λi hi=>by rw[ai.aF,aq hi]) (λfp J=>J.1) ⟨aep.2 rfl,λj hj=>aep.1 hj,⟨_,by rw[ai.aF,aK rfl];exact wc (qK _ q2),λx=>by rw[oQ,QC,d,O,or_comm];rfl⟩,(λh=>by cases h),G⟩;rw[t]at p;refine aA p (λi hi=>?_) (λx=>Iff.rfl);rw[H i hi];simp only[jJ];by_cases e:i=j;·subst e;simp[e1,y,e2]
   rw[aq e,aq e]
end
end
section
section
variable{n:Nat}{D:Nat->Bool}{ids:Nat->ab}{S:Nat->Int->Prop}{a b m:ab}{us:List Th}{A H:ai}{M:Int->Prop}
theorem agr(U:aj A H (tM false m M::tB oU b [.slice a 0 n n true]::tB eT a (iw n D ids)::(gQ n D ids S++us)))(W:∀x,M x->0<=x/\x<n)(X:∀j,j<n->D j=false->∀x,¬S j x):∃H' s d C,(∀aa:ap AV,aa.get .alR (sl 4)=.map m->aa.get .alR (sl 3)=.az b 0->xN aa H=some (kL aa qL,H'))/\(∀j,j<n->(s j=true↔D j=true\/M j))/\(∀j,j<n->∀x,C j x↔S j x\/M j/\M x/\x≠j)/\aj A H' (tM false m M::tB oU b [.slice a 0 n n true]::tB eT a (iw n s d)::(gQ n s d C++us)):=by
 obtain⟨⟨ks,p,w⟩,_,T⟩:=U.nf 0 rfl;obtain⟨k1,u⟩:=yV p;have hat:∀{j},j<n->D j=true->(tM false m M::tB oU b [.slice a 0 n n true]::tB eT a (iw n D ids)::(gQ n D ids S++us))[3+j]?=some (tM false (ids j) (S j)):=λ{j}hj hd=>by have:=rr (xs:=[tM false m M,tB oU b [.slice a 0 n n true],tB eT a (iw n D ids)]) (m:=us) (Fv (D:=D) (ids:=ids) (S:=S) hj);rw[hd]at this;exact this
 obtain⟨f2,K⟩:=U.get 2 rfl;obtain⟨c,Y,Z,V⟩:=tB.JH K;rw[Fu]at Y;have q:∀j,j<n->c.bw .alR (0+j)=jJ D ids j:=λj hj=>by rw[akh,Z j (by rw[Fu];exact hj)];simp[iw]
 have ag:bh H b 0=some (.slice a 0 n n true):=by obtain⟨_,r⟩:=U.get 1 rfl;exact tB.cell r rfl
 have ar:b≠a:=U.ne 1 2 rfl rfl af (λf h=>h.1) (λf h=>h.1);have gE:∀{l:List Int},l.Nodup->(∀k∈l,0<=k/\k<n)->(lb c 0 l).Nodup:=by
  intro l;induction l with
  |nil=>intro _ _;exact alD
  |cons k l E=>
   intro G g;rw[akz]at G;have E:=E G.2 λk I=>g k (aey _ I);simp only[lb];split
   .rename_i N t;rw[akz];refine⟨λL=>?_,E⟩;obtain⟨u,y,o⟩:=wg.1 L;have h1:=g k (aeU ..);have h2:=g u (aey _ y);have z:k.toNat<n:=af;have B:u.toNat<n:=af;rw[q _ z,jJ]at t;rw[q _ B,jJ]at o;split at t
    .rename_i d1;split at o;·rename_i d2;injection t with t;injection o with o;have av:k.toNat≠u.toNat:=λe=>G.1 (by rw[show k=u by exact qoz];exact y);exact U.ne _ _ (hat z d1) (hat B d2) af (λf h=>h.1) (λf h=>h.1) (t.trans o.symm)
     cases o
    cases t
   exact E
 have g:∀k∈ks,0<=k/\k<n:=λk I=>W k ((w k).1 I);obtain⟨F,v,s,d,C,g1,J,g3,g4,g5⟩:=QD (m:=m) (H0:=H) p.1 (λj hj hd=>by obtain⟨⟨t0,R,O⟩,_,_⟩:=U.nf _ (hat hj hd);exact⟨t0,(yV R).1,R.1,O,U.ne _ 0 (hat hj hd) rfl aB (λf h=>h.1) (λf h=>h.1)⟩) q X ks c H D ids S p.1 g (λ_ _ _=>⟨rfl,rfl,rfl⟩) q U;have P:a.an<v.next.an:=by obtain⟨_,r⟩:=J.get 2 rfl;obtain⟨_,_,_,_,_,h⟩:=r;exact h
 have Q:m.an<v.next.an:=(J.nf 0 rfl).2.2;have L1:=J.uh (H':=v.set a (.cells F n eT true [] 0)) (q:=a) 2 rfl (t':=tB eT a (iw n s d)) rfl (λi hi=>by rw[ai.aF,aq hi]) (λfp r=>r.1) ⟨aep.2 rfl,λj hj=>aep.1 hj,F,by rw[ai.aF,aK rfl,Fu],λj hj=>by rw[Fu]at hj;have:=g3 j hj;rw[akh]at this;rw[this];simp[iw],P⟩;have L2:=L1.uh (H':=(v.set a (.cells F n eT true [] 0)).set m (.dI (eG ks))) (q:=m) 0 rfl (t':=tM false m M) rfl (λi hi=>by rw[ai.aF,aq hi]) (λfp r=>r.1) ⟨aep.2 rfl,λj hj=>aep.1 hj,⟨ks,by rw[ai.aF,aK rfl];exact wc p.1,w⟩,(λh=>by cases h),Q⟩;refine⟨((v.set a (.cells F n eT true [] 0)).set m (.dI (eG ks))).skip,s,d,C,λaa e4 e3=>?_,λj hj=>?_,λj hj x=>?_,?_⟩;·unfold xN;rw[e4,e3];have ho:=(HJ _).2 (gE p.1 g);simp_all[wU,akh,akB,afb,Bool.not_false,alK,bq]
 .simp_all
 .simp_all
 exact L2.cI ⟨by show _<=(ab.succ _).an;simp[ab.gK],λj _=>rfl⟩
end
end
section
theorem RO.ags{A H:ai}{j:List Th}{c:Cx}{s:List SI}{L:Kn}{d:Option ab}{l:List be}{e bytes size n:Nat}(U:aj A H j){g:List AV}{x y:aJ}(r:∀H' q,aj A H' (tB e q (fO g n)::j)->RO ac c l s (bC L d (.slice q 0 n n true)) H')(m:bf L x=.int 3 (.ofNat n):=by exact cw)(o:bf L y=.int 3 (.ofNat n):=by exact cw)(hz:(fO g n).length=n*size)(hb:n*bytes<=70368744177664:=by exact qoz)(p:n<=70368744177664:=by exact qoz):RO ac c (⟨d,.jL e bytes size g x y,none,[],[]⟩::l) s L H:=by have:=U.Ic e (fO g n);grind[RO.jL]
section
variable{g:G.bu}{f h av i:AV}{a b:ab}{A H:ai}{k:List AV}{come:List Bool}{os:List (List bV)}{ak:List Nat}{lv:List (List Int)}
theorem _root_.Go.am.aj.QE{A H:ai}{c:List Th}(U:aj A H c):∀n,aj A H (c++ahr n tN)
 |0=>by grind
 |n+1=>by
  have:=(U.QE n).push (bm.refl H) (t:=tN) (fp:=[]) rfl λj hj=>by cases hj
  exact this.cM akj.symm
theorem agt(T:Tb ac){K:KT}(c:∀H' q,aj H H' [tB iH q [.az a 0]]->K (.func Iv [] [.az q 0]) H'):YN ac Wx [.az a 0] H K:=by refine YF.code T.abh aB ?_;refine au ?_;refine RO.dL (aj.dc H) λH1 q U=>?_;refine ah ?_;exact Ru.aV (c _ _ U)
def QF(c:List (Int->Prop))(n:Nat)(D:Nat->Bool)(S:Nat->Int->Prop):Prop:=(∀j,j<n->(D j=true↔∃C∈c,C j))/\∀j,j<n->∀x,S j x↔∃C∈c,C j/\C x/\x≠j
theorem Ki(T:Tb ac)(V:Vd g)(E:FX g A a f h av i k come os ak lv)(G:cX g come os)(I:e9 g come os ak)(w:gP g come os lv){n:Nat}(J:g.bp=n){K:KT}(ag:∀H' d D c S,QF (gY g os lv ak) n D S->aj A H' (tB eT d (iw n D c)::gQ n D c S)->K (.slice d 0 n n true) H'):YN ac Wz [.az a 0] A K:=by
 have y:=E.c2;rw[J]at y;have W:=V.fm.fv.h2;refine YF.code T.abk aB ?_;refine ah ?_;refine RO.ags (aj.dc A) (n:=n) (λY d U=>?_) (hz:=by rw[iZ];simp);refine RO.fx U λZ r U=>?_;refine ah ?_;refine RO.cl (agt T λL b hl=>?_);have U:=U.fC hl;refine ah ?_;refine Ru.wk (L:=[(bi,.func Iv [] [.az b 0]),(p3,.az r 0)]) ?_;have z:fO [AV.cY] n=iw n (λ_=>false) (λ_=>d):=by rw[iZ];apply alg (by simp[iw]);intro j h1 h2;simp[iw,jJ]
 rw[z]at U;have U:=U.QE n;have U:aj A L ([tB iH b [.az a 0]]++(tB oU r [.slice d 0 n n true]::tB eT d (iw n (λ_=>false) λ_=>d)::gQ n (λ_=>false) (λ_=>d) λ_ _=>False)++[]):=by
  have e:gQ n (λ_=>false) (λ_=>d) (λ_ _=>False)=ahr n tN:=by apply alg (by simp[gQ]);intro j h1 h2;simp[gQ,tO]
  rw[e,akT];exact U
 refine Ru.af1 (J:=λp ts=>∃D c S,QF p n D S/\ts=tB oU r [.slice d 0 n n true]::tB eT d (iw n D c)::gQ n D c S) U (af5 T V E G I w) ⟨_,_,_,⟨λj hj=>by simp,λj hj x=>by simp⟩,rfl⟩ (λp C q ts us l o1 o2 H M t U=>?_) λH' X N t U=>?_
 .obtain⟨D,c,S,m,rfl⟩:=t;refine ah ?_;refine Ru.dN (xs:=tM false q C::tB oU r [.slice d 0 n n true]::tB eT d (iw n D c)::gQ n D c S) U λH6 U=>?_;obtain⟨O,u,o,F,hg,P,Q,U⟩:=agr U (λx v=>by have:=M x v;exact qoz) (λj hj hd x v=>by obtain⟨R,B,h1,_⟩:=(m.2 j hj x).1 v;rw[(m.1 j hj).2 ⟨R,B,h1⟩]at hd;cases hd);refine ah ?_;refine Ru.ez (cQ:=qL) (H':=O) T.adj (M:=[(p3,.az r 0)]) (λaa s=>hg aa (s.get (p:=sl 4) rfl rfl) (s.get (p:=sl 3) rfl rfl)) ?_;refine ah ?_;refine Ru.bG (ts:=tM false q C::tB oU r [.slice d 0 n n true]::tB eT d (iw n u o)::gQ n u o F) U ⟨_,rfl,u,o,F,⟨λj hj=>?_,λj hj x=>?_⟩,rfl⟩;·rw[P j hj,m.1 j hj];simp only[ahp,aep,or_and_right,exists_or,exists_eq_left]
  rw[Q j hj,m.2 j hj];simp only[ahp,aep,or_and_right,exists_or,exists_eq_left]
 obtain⟨D,c,S,m,rfl⟩:=t;refine ah ?_;have U:=U.tail;refine Ru.mI (M:=[N]) (U.cM (akj (l₁:=tB eT d (iw n D c)::gQ n D c S) (l₂:=[]))) λH' U=>⟨[.slice d 0 n n true],⟨rfl,rfl,trivial⟩,ag H' d D c S m ((akT (gQ n D c S))▸U)⟩
end
end
section
section
variable{g:G.bu}{come:List Bool}{os:List (List bV)}{ak:List Nat}{lv:List (List Int)}
theorem Kj(V:Vd g)(c:yT g come os){b:Nat}(hb:come.getD b false=true){x bH:Int}(h:(x,bH)∈kF (aH g b)):yU g come os b x:=by
 obtain⟨t,d,f,a⟩:=c.rd b hb _ h;subst d;have:=E' V.gv.v0;refine⟨aB,af,?_⟩;rcases a with a|⟨h1,_⟩|⟨s,h1,_,h3,e⟩;·exact qoz
 .exact .inr ⟨b,by grind,hb,.JE⟩
 exact .inr ⟨s,by grind,h3,e⟩
theorem QG(V:Vd g)(a:cX g come os)(f:e9 g come os ak)(c:gP g come os lv){b w:Nat}(hb:come.getD b false=true)(d:w∈wW g os b){x:Int}(h:x∈lv.getD w []):yU g come os b x:=by have e:=a.ls hb d;obtain⟨h0,h1,h2⟩:=((c.mem w e x).1 h).CS V.dO a (V.sG come os a) V.gv f e;exact⟨h0,h1,h2.imp id λ⟨s,h3,i,j,k⟩=>⟨s,h3,j,k.cO d i⟩⟩
theorem QH(V:Vd g)(a:cX g come os)(f:e9 g come os ak)(c:gP g come os lv){b:Nat}(hb:come.getD b false=true){x:Int}(h:x∈kV g lv (os.getD b [])):yU g come os b x:=by
 unfold kV at h;split at h;·rename_i t i;obtain⟨u,hu,d,e,l,_⟩:=vD V.dO a hb i;obtain⟨h0,h1,h2⟩:=QG V a f c d e h;exact⟨h0,h1,h2.imp id λ⟨s,h3,j,k⟩=>⟨s,h3,j,k.trans (PH V.dO a hu)⟩⟩
 grind
theorem agu(V:Vd g)(c:cX g come os)(f:e9 g come os ak)(d:gP g come os lv){b:Nat}(hb:come.getD b false=true):∀k,k<=(aH g b).aD.length->∀x,eK g os lv b k x->yU g come os b x:=by
 have a:=V.sG come os c;intro k;induction k with
 |zero=>
  rintro _ x(h|h|⟨e,he,h⟩|⟨w,i,h⟩);·grind[QH]
  .exact Kj V a hb (C3 h)
  .exact Kj V a hb (C4 he h)
  grind[QG]
 |succ k j=>
  rintro l x(h|h|⟨h,_⟩);·grind[QH]
  .rw[bF af]at h;exact Kj V a hb (Fm _ h)
  grind
theorem QI(V:Vd g)(a:cX g come os){b:Nat}(hb:come.getD b false=true){x p:Int}(h:(x,p)∈dC (aH g b)):yU g come os b x:=by have h1:=V.qA _ (oC (a.lt hb)) _ h;exact⟨h1.1,h1.2,.inr ⟨b,by rw[AY,V.gv.at (a.lt hb) h],hb,.JE⟩⟩
theorem agv(V:Vd g)(a:cX g come os){b:Nat}(hb:come.getD b false=true){x:Int}(h:x∈pK g b):yU g come os b x:=by
 have c:=Qr V (a.lt hb) x h;unfold pK at h;split at h;·obtain⟨v,d,rfl⟩:=akk.1 h;rw[ak3]at d;exact⟨c.1,c.2,.inl af⟩
 exact QI V a hb (J4 h)
theorem QJ(V:Vd g)(d:cX g come os)(f:e9 g come os ak)(e:gP g come os lv){C:Int->Prop}(c:C∈gY g os lv ak):∃b,come.getD b false=true/\∀x,C x->yU g come os b x:=by
 obtain⟨b,hb,c⟩:=akZ.1 c;have a:=(f.mem b).1 hb;refine⟨b,a,λx h=>?_⟩;have j:=agu V d f e a;simp only[rC,ahp,aeV,akZ,ak3,sI,aki,or_false]at c;rcases c with(rfl|⟨i,hi,rfl|rfl⟩)|rfl;·exact h.elim (agv V d a) (j _ (afb _) x)
 .grind
 .refine h.elim (λ⟨h1,h2⟩=>?_) (j _ aB x);rw[bF hi]at h1;subst h1;exact QI V d a (JZ hi h2)
 grind
theorem C7(V:Vd g)(d:cX g come os)(e:e9 g come os ak)(a:gP g come os lv){C:Int->Prop}(f:C∈gY g os lv ak):Fp g C:=λx c=>by obtain⟨b,_,h⟩:=QJ V d e a f;exact⟨(h x c).1,(h x c).2.1⟩
end
end
section
def QK(l:List Int)(k:Nat)(args:List AV)(b:List Th):Prop:=b=[]/\∃e:k<l.length,args=[aI l[k]]
def gB(g:G.bu)(b:Nat):List Int:=(dC (aH g b)).map alO
def pL(g:G.bu):List Int:=(ake g.params.toNat).map λ(v:Nat)=>(v:Int)
def eY(g:G.bu)(ak:List Nat):List Int:=pL g++ak.flatMap (gB g)
theorem QL(g:G.bu)(b:Nat):gB g b=(aH g b).params++(ja (aH g b).aD 0).map alO:=by simp[gB,dC,Function.comp_def]
section
variable{A H:ai}{us ts X:List Th}{a:ab}{y sv:AV}{J:Nat->List Th->Prop}{D:List Th->Prop}{l cO la post:List Int}
theorem QM(T:Tb ac)(s:y.bB=true)(i:Body ac A y l.length (QK l) J D)(hl:l=cO++(la++post))(n:∀{H ts},aj A H (tB tz a [y]::X++ts++us)->fZ H la sv)(r:la.length<=1000000)(j:J cO.length ts)(U:aj A H (tB tz a [y]::X++ts++us)){K:KT}(p:∀H' b t,aj A H' (tB tz a [y]::X++b++us)->(t=true/\J (cO.length+la.length) b\/t=false/\D b)->K (.bool t) H'):YF ac (.func W7 [] [.az a 0]) [sv] H K:=by
 have⟨hd,_,_,_⟩:=(n U).all;refine YF.code T.abZ aB ?_;refine au ?_;refine RO.cl (Jx T (us:=us) (ts:=tB tz a [y]::X++ts) (J:=λk b=>∃t0,b=tB tz a [y]::X++t0/\J (cO.length+k) t0) (D:=λb=>∃t0,b=tB tz a [y]::X++t0/\D t0) (λ⟨_,e,_⟩x=>n (e▸x)) r rfl ?_ ⟨ts,rfl,j⟩ U λH' b t U g=>?_)
 .rintro k _ u H x⟨t0,rfl,j⟩U;have q:cO.length+k<l.length:=by rw[hl];simp;exact qoz
  have he:l[cO.length+k]=la[k]:=by subst hl;simp[List.getElem_append_left x]
  refine YF.code T.ab0 aB ?_;refine ah ?_;refine RO.cl ((i _ [aI la[k]] [] t0 _ _ q ⟨rfl,q,by rw[he]⟩ j (aj.gF U)).mono ?_);rintro v w⟨b,U,g⟩;have U:=aj.kO U;rcases g with⟨rfl,x⟩|⟨rfl,x⟩;·refine ah ?_;exact Ru.aV ⟨_,U,.inl ⟨rfl,b,rfl,x⟩⟩
  refine ah ?_;exact Ru.aV ⟨_,U,.inr ⟨rfl,b,rfl,x⟩⟩
 rcases g with⟨rfl,t0,rfl,x⟩|⟨rfl,t0,rfl,x⟩;·refine ah ?_;exact Ru.aV (p _ t0 true U (.inl ⟨rfl,x⟩))
 refine ah ?_;exact Ru.aV (p _ t0 false U (.inr ⟨rfl,x⟩))
end
section
variable{g:G.bu}{f h av m:AV}{c d:ab}{A H:ai}{o:List AV}{come:List Bool}{os:List (List bV)}{ak:List Nat}{lv:List (List Int)}
theorem QN(T:Tb ac){K:KT}(b:∀H' q,aj H H' [tB iH q [.az c 0]]->K (.func Ey [] [.az q 0]) H'):YN ac WQ [.az c 0] H K:=by refine YF.code T.abF aB ?_;refine au ?_;refine RO.dL (aj.dc H) λH1 q U=>?_;refine ah ?_;exact Ru.aV (b _ _ U)
theorem QO(T:Tb ac)(V:Vd g)(z:FX g A c f h av m o come os ak lv)(hK:cX g come os)(hO:e9 g come os ak):yI ac A (.func Ey [] [.az d 0]) (eY g ak).length (QK (eY g ak)) [tB iH d [.az c 0]] (λ_=>True) (λ_=>True):=by
 intro y J D ts us H K N ax O bS e l U hR p;have hB:=V.sm;have b0:=hB.nb;have B:=z.ro.lt;have P:=z.ro.aH;have ay:=z.c4;have⟨b3,_,_,_⟩:=z.bl.all;have⟨b4,b5,b6,b'⟩:=z.od.all;have ca:ak.length<=g.al.length:=vB _ _ hO.nd λx hx=>hK.lt ((hO.mem x).1 hx);have cd:=V.fm.fv.h2;have cf:=V.fm.fv.h0;have cn:=V.fm.fv.h1;obtain⟨F,Q⟩:∃n:Nat,g.params=(n:Int):=⟨g.params.toNat,af⟩;have G:pL g=(ake F).map λ(v:Nat)=>(v:Int):=by rw[pL,Q,aj3]
 refine YF.code T.abY aB ?_;refine ah ?_;refine RO.dL U (λH1 a U=>?_) (ho:=by rw[O];exact ao ax rfl);rw[O]at U;refine ah ?_;refine RO.cl (Qo T (n:=F) af (by rw[U.gr.bh B,z.c1,Q];rfl) λH4 pv a0=>?_);have U:=(U.fC a0).cM (.swap ..);have R:∀{H ts},aj A H (tB tz a [y]::[tS 3 1 ((ake F).map aN) F true pv,tB iH d [.az c 0]]++ts++us)->fZ H (pL g) pv:=λc'=>by
  have h9:=c'.sl (e:=3) (size:=1) (sv:=pv) (vs:=(ake F).map aN) (n:=F) (full:=true) 1;have e2:(pL g).map aI=(ake F).map aN:=by rw[G,alx];rfl
  unfold fZ;rw[e2,G,akg,List.length_range];exact h9
 have⟨a',_,_,_⟩:=(R U).all;refine ah ?_;refine RO.cl (QM T N e (cO:=[]) rfl R (by rw[G];simp;exact qoz) l U λH5 ts t U hc=>?_);rcases hc with⟨rfl,l⟩|⟨rfl,hD⟩;rotate_left;·refine ah ?_;exact Ru.mD (vs:=[]) trivial (p _ ts _ U.tail.tail.tail (.inr hD))
 have U:aj A H5 (tB tz a [y]::tB iH d [.az c 0]::(ts++us)):=U.sub (.cons_cons _ (.cons _ (akL _)));refine ah ?_;refine RO.aW ?_ (v:=h) (hc:=by rw[U.gr.bh B];exact ay);refine ah ?_;refine Ru.nm λS0 M hS hM=>?_;refine Ru.cC hM (up (P:=λk=>∀E ts,J (pL g++(ak.take k).flatMap (gB g)).length ts->aj A E (tB tz a [y]::tB iH d [.az c 0]::(ts++us))->Ru ac _ S0 ([(bJ,aN k)]++pk M [p0,p1,p2,p3,aZ,br]) E) ak.length (λk hk ih E ts l U=>?_) 0 af _ ts (by simpa using l) U);subst hS;subst hM;refine Ru.loop ?_;refine au ?_;refine Ru.cond (λq=>?_) (λq=>?_)
 .have a1:=(hO.mem _).1 (agB q);have S:ak.take (k+1)=ak.take k++[ak[k]]:=(akd q).symm;have ih:=ih (k+1) af af;rw[S,akD,akK,<-aj2]at ih;have hl:eY g ak=(pL g++(ak.take k).flatMap (gB g))++(gB g ak[k]++(ak.drop (k+1)).flatMap (gB g)):=by conv=>lhs;rw[eY,<-ala k ak,aj9 q,akD,alp,<-aj2]
  clear S;refine ah ?_;refine RO.lg U.gr z.od (λq5 o5 cp cv=>?_) (j:=k);generalize pL g++(ak.take k).flatMap (gB g)=cO at*;generalize(ak.drop (k+1)).flatMap (gB g)=post at*;generalize ak[k]=b at*;have W:=hK.lt a1;have X:=oC W;have cx:=hB.bl _ X;have eh:=hB.st _ X;have Y:g.al[b]=aH g b:=(bF W _).symm;have aw:∀j(c':j<(dC (aH g b)).length),∃h':cO.length+j<(eY g ak).length,(eY g ak)[cO.length+j]=(dC (aH g b))[j].1:=λj c'=>by rw[hl];exact⟨by rw[aj8,aj8,gB,akg];exact qoz,by rw[List.getElem_append_right af];simp only[Nat.add_sub_cancel_left];rw[List.getElem_append_left (by rw[gB,akg];exact c')];simp only[gB,akN]⟩
  refine ah ?_;refine RO.aW ?_ (v:=f) (hc:=by rw[U.gr.bh B];exact P);refine ah ?_;refine RO.cZ U.gr z.bl (λq9 o9 c9 a2 s a3 hat hrd=>?_) (j:=b);rw[Y]at s;obtain⟨vp,a4,jc,rfl,I,L,_⟩:=s;have⟨cy,_,_,_⟩:=I.all;refine ah ?_;refine RO.cl (QM T N e (X:=[tB iH d [.az c 0]]) (cO:=cO) (la:=(aH g b).params) (post:=(ja (aH g b).aD 0).map alO++post) (by rw[hl,QL,aj2]) (λc'=>c'.gr.sl I) af l U λH5 ts t U hc=>?_);rcases hc with⟨rfl,l⟩|⟨rfl,hD⟩;rotate_left;·refine ah ?_;exact Ru.mD (vs:=[]) trivial (p _ ts _ U.tail.tail (.inr hD))
  refine ah ?_;refine RO.aW ?_ (v:=f) (hc:=by rw[U.gr.bh B];exact P);refine ah ?_;refine RO.cZ U.gr z.bl (λq9 o9 c9 a2 s a3 hat hrd=>?_) (j:=b);rw[Y]at s;obtain⟨vp,a4,jc,rfl,I,L,_⟩:=s;have⟨cE,_,_,ba⟩:=L.all;refine ah ?_;refine Ru.nm λS1 M1 a5 Z=>?_;refine Ru.cC Z (up (P:=λi=>∀E ts,J (cO.length+((aH g b).params.length+(ja ((aH g b).aD.take i) 0).length)) ts->aj A E (tB tz a [y]::tB iH d [.az c 0]::(ts++us))->Ru ac _ S1 ([(dA,aN i)]++pk M1 [p0,p1,p2,p3,aZ,br,bJ,dj,dq]) E) (aH g b).aD.length (λi hi r E ts l U=>?_) 0 af _ ts l U);subst a5;subst Z;refine Ru.loop ?_;refine au ?_;refine Ru.cond (λu=>?_) (λu=>?_)
  .have r:=r (i+1) af af;refine ah ?_;refine RO.cZ U.gr L (λcK c3 c5 bb w bc hat hrd=>?_) (j:=i);have bd:=w.one;obtain⟨c8,rfl,bv⟩:=w;refine ah ?_;refine RO.gI U λH7 q9 U=>?_;refine ah ?_;refine RO.iT U 0 (λH8 U=>?_);refine ah ?_;by_cases C:(aH g b).aD[i].to= -1;·refine RO.de (λc'=>absurd C c') (λ_=>?_);refine ah ?_;rw[Pt _ u C]at r;exact Ru.wk (r _ ts l U.tail)
   obtain⟨a6,he,a8⟩:=Jv _ u C;obtain⟨ag,a9⟩:=aw _ a6;refine RO.de (λ_=>?_) (λc'=>absurd C c');refine ah ?_;refine RO.cl ((e _ [aI (aH g b).aD[i].to] [] ts _ _ ag ⟨rfl,ag,by rw[a9,he]⟩ l (aj.gF (xs:=[_,_,_]) U)).mono ?_);rintro v H3⟨ar,U,hc⟩;rcases hc with⟨rfl,c'⟩|⟨rfl,c'⟩;·refine ah ?_;rw[a8]at r;exact Ru.wk (r _ ar c' (aj.kO (xs:=[_,_,_]) U).tail)
   refine ah ?_;exact Ru.mD (vs:=[]) trivial (p _ ar _ (aj.kO (xs:=[_,_,_]) U).tail.tail.tail (.inr c'))
  refine Ru.exitTo ?_;obtain rfl:i=(aH g b).aD.length:=af;refine ah ?_;refine Ru.wk (ih _ ts ?_ U);rw[ak7]at l;simpa[QL]using l
 refine Ru.exitTo ?_;rw[akl af]at l;refine ah ?_;exact Ru.aA (vs:=[]) trivial (p E ts _ U.tail.tail (.inl l))
end
end
section
def ng(a:List (Int->Prop))(v w:Int):Prop:=∃C∈a,C v/\C w/\w≠v
theorem ng.symm{a:List (Int->Prop)}{v w:Int}:ng a v w->ng a w v:=λ⟨C,h,h1,h2,h3⟩=>⟨C,h,h2,h1,h3.symm⟩
inductive rD(np:Int)(CL:List (Int->Prop))(n:Nat):List Int->List Int->Prop
 |nil:rD np CL n [] (ahr n (-1))
 |wY{h R:List Int}{v r:Int}:rD np CL n h R->(v<np->r=v)->(¬v<np->0<=r/\(∀w,ng CL v w->R.getD w.toNat 0≠r)/\∀k:Nat,(k:Int)<r->∃w,ng CL v w/\R.getD w.toNat 0=k)->rD np CL n (h++[v]) (R.set v.toNat r)
theorem rD.len{a:Int}{b:List (Int->Prop)}{n:Nat}{h R:List Int}(c:rD a b n h R):R.length=n:=by induction c with|nil=>simp|wY _ _ _ d=>simpa using d
theorem QP{R:List Int}{m:Nat}(h:∀k:Nat,k<m->(k:Int)∈R):m<=R.length:=by have:=vB R.length ((ake m).map λk:Nat=>R.idxOf (k:Int)) (List.pairwise_map.2 (List.nodup_range.imp_of_mem λ{a b}d hb c e=>c (by have h1:=List.getElem_idxOf (List.idxOf_lt_length_of_mem (h a (ak3.1 d)));have h2:=List.getElem_idxOf (List.idxOf_lt_length_of_mem (h b (ak3.1 hb)));simp only[e]at h1;exact qoz))) (λx f=>by obtain⟨k,g,rfl⟩:=akk.1 f;exact List.idxOf_lt_length_of_mem (h k (ak3.1 g)));simpa using this
theorem QQ{R:List Int}{w:Int}(h0:0<=w)(h1:w<R.length):R.getD w.toNat 0∈R:=by rw[bF af];exact agB _
section
variable{g:G.bu}{come:List Bool}{os:List (List bV)}{ak:List Nat}{lv:List (List Int)}
theorem C8{x:Int}:x∈pL g↔0<=x/\x<g.params:=by
 simp only[pL,akk,ak3];constructor;·rintro⟨a,h,rfl⟩;exact qoz
 intro h;exact⟨x.toNat,af,af⟩
theorem C9{b:Nat}{x:Int}:x∈gB g b↔∃p,(x,p)∈dC (aH g b):=by simp[gB]
theorem QR:∀{l:List G.ic}{i:Nat}{x p:Int},(x,p)∈ja l i->∃(j:Nat)(hj:j<l.length),p=i+j/\l[j].to≠ -1/\l[j].to=x
 |[],_,_,_,h=>by cases h
 |s::l,i,x,p,h=>by
  simp only[ja,ahp]at h;rcases h with h|h
  .split at h;·cases h
   rename_i a;simp only[aep,aj1]at h;exact⟨0,aB,af,a,h.1.symm⟩
  obtain⟨j,hj,h0,h1⟩:=QR h;exact⟨j+1,by simpa using hj,af,by simpa using h1⟩
theorem y7{x:Int}:x∈eY g ak↔(0<=x/\x<g.params)\/∃b∈ak,∃p,(x,p)∈dC (aH g b):=by simp only[eY,ahp,C8,akZ,C9]
theorem Fx(V:Vd g)(a:cX g come os)(c:e9 g come os ak){x:Int}(h:x∈eY g ak):0<=x/\x<g.bp:=by
 have:=V.fm.fv.h1;rcases y7.1 h with h|⟨b,hb,p,d⟩;·exact qoz
 exact V.qA _ (oC (a.lt ((c.mem b).1 hb))) _ d
theorem agw(V:Vd g)(k:cX g come os)(j:e9 g come os ak):(eY g ak).Nodup:=by
 have hb:∀b∈ak,b<g.al.length:=λb h=>k.lt ((j.mem b).1 h);refine akI.2 ⟨List.pairwise_map.2 (List.nodup_range.imp λh e=>h af),List.pairwise_flatMap.2 ⟨λb h=>V.gv.nd _ (oC (hb b h)),?_⟩,λx c y d e=>?_⟩;·refine List.Pairwise.imp_of_mem (λ{a b}l f i x c y d e=>?_) j.nd;subst e;obtain⟨p,h1⟩:=C9.1 c;obtain⟨q,h2⟩:=C9.1 d;exact i (V.gv.one a b (hb a l) (hb b f) _ _ _ h1 h2)
 subst e;obtain⟨b,h1,h2⟩:=akZ.1 d;obtain⟨p,h2⟩:=C9.1 h2;have:=(V.gv.qA _ (oC (hb b h1)) _ h2).1;have:=(C8.1 c).2;simp only at*;exact qoz
theorem agx(V:Vd g)(d:cX g come os)(e:e9 g come os ak){x:Int}(h:x∈eY g ak):∃C∈gY g os lv ak,C x:=by
 have key:∀b∈ak,∀C∈rC g os lv b,C x->∃C∈gY g os lv ak,C x:=λb hb C f j=>⟨C,akZ.2 ⟨b,hb,f⟩,j⟩;rcases y7.1 h with h|⟨b,hb,p,a⟩;·refine key 0 ((e.mem 0).2 d.c0) (rB g os lv 0) (by simp[rC]) (.inl ?_);rw[pK,aK rfl];exact C8.2 h
 simp only[dC,ahp,akk,aj1]at a;rcases a with⟨y,c,rfl,_⟩|a
 .refine key b hb (rB g os lv b) (by simp[rC]) (.inl ?_);rw[pK,aq];·exact c
  rintro rfl;rw[aH,V.fm.first]at c;cases c
 obtain⟨i,hi,_,k,he⟩:=QR a;refine key b hb (λx=>x=((aH g b).aD.getD i default).to/\x≠ -1\/eK g os lv b ((aH g b).aD.length - (i+1)) x) ?_ (.inl ⟨by rw[bF hi,he],by rw[<-he];exact k⟩);simp only[rC,ahp,aeV,akZ,ak3];exact .inl (.inr ⟨i,hi,by simp[sI]⟩)
theorem QS(V:Vd g)(f:cX g come os)(c:e9 g come os ak)(a:gP g come os lv){C:Int->Prop}(j:C∈gY g os lv ak){x:Int}(k:C x):x∈eY g ak:=by
 obtain⟨b,_,h⟩:=QJ V f c a j;obtain⟨h0,h1,h2⟩:=h x k;by_cases d:x<g.params;·exact y7.2 (.inl ⟨h0,d⟩)
 obtain⟨s,e,hs,_⟩:=h2.resolve_left d;obtain⟨i,p,hi,l,he⟩:=V.gv.kq af h1;rw[AY,he]at e;obtain rfl:i=s:=Int.ofNat.inj e;exact y7.2 (.inr ⟨i,(c.mem i).2 hs,p,l⟩)
theorem ng.QT(V:Vd g)(b:cX g come os)(c:e9 g come os ak)(a:gP g come os lv){v w:Int}:ng (gY g os lv ak) v w->v∈eY g ak/\w∈eY g ak:=λ⟨_,d,h1,h2,_⟩=>⟨QS V b c a d h1,QS V b c a d h2⟩
structure Kk(np:Int)(CL:List (Int->Prop))(n:Nat)(h R:List Int):Prop where
 len:R.length=n
 no:∀v:Int,0<=v->v<n->v∉h->R.getD v.toNat 0= -1
 is:∀v∈h,0<=R.getD v.toNat 0/\R.getD v.toNat 0<=n
 aM:∀v∈h,v<np->R.getD v.toNat 0=v
 mC:∀v∈h,∀w∈h,ng CL v w->R.getD v.toNat 0≠R.getD w.toNat 0
theorem rD.right{m:Int}{y:List (Int->Prop)}{n:Nat}{h R:List Int}(o:rD m y n h R):h.Nodup->(∀x∈h,0<=x/\x<n)->(∀v w,ng y v w->0<=w/\w<n)->h.Pairwise (λa b=>b<m->a<m)->Kk m y n h R:=by
 induction o with
 |nil=>intro _ _ _ _;exact⟨aB,λv h0 h1 _=>by rw[bF (by simp;exact qoz)];simp,aB,aB,aB⟩
 | @wY h R v r o h1 h2 j=>
  intro B z p C;obtain⟨q,_,s⟩:=akI.1 B;obtain⟨t,_,u⟩:=List.pairwise_append.1 C;have j:=j q (λx A=>z x (akf _ A)) p t;have I:=z v aB;have D:v∉h:=λA=>s v A v aB rfl;have hl:=j.len;have d:∀w∈h,(R.set v.toNat r).getD w.toNat 0=R.getD w.toNat 0:=λw c=>by rw[fu af,aq];intro e;have:=z w (akf _ c);exact D (by rwa[show v=w by exact qoz])
  have hat:(R.set v.toNat r).getD v.toNat 0=r:=by rw[fu af,aK rfl]
  have E:0<=r/\r<=n:=by
   by_cases i:v<m;·rw[h1 i];exact qoz
   obtain⟨G,J,H⟩:=h2 i;refine⟨G,?_⟩;have:=QP (R:=R) (m:=r.toNat) λk K=>by obtain⟨w,c,e⟩:=H k af;have:=p _ _ c;rw[<-e];exact QQ this.1 af
   exact qoz
  have l:∀w∈h,ng y v w->r≠R.getD w.toNat 0:=λw c o=>by
   by_cases i:v<m;·rw[j.aM w c (u w c v aB i),h1 i];obtain⟨_,_,_,_,h⟩:=o;exact h.symm
   exact((h2 i).2.1 w o).symm
  refine⟨by simpa using hl,λw h0 h1 F=>?_,λw c=>?_,λw c i=>?_,λa g b hb f=>?_⟩;·rw[ahp,aep,not_or]at F;rw[fu af,aq af];exact j.no w h0 h1 F.1
  .rcases ahp.1 c with c|c;·rw[d w c];exact j.is w c
   rw[aep]at c;rw[c,hat];exact E
  .rcases ahp.1 c with c|c;·rw[d w c];exact j.aM w c i
   rw[aep]at c;rw[c]at i⊢;rw[hat];exact h1 i
  rcases ahp.1 g with g|g<;>rcases ahp.1 hb with hb|hb;·rw[d a g,d b hb];exact j.mC a g b hb f
  .rw[aep]at hb;rw[hb]at f⊢;rw[d a g,hat];exact(l a g f.symm).symm
  .rw[aep]at g;rw[g]at f⊢;rw[d b hb,hat];exact l b hb f
  rw[aep]at g hb;obtain⟨_,_,_,_,h⟩:=f;exact absurd (hb.trans g.symm) h
theorem agy(V:Vd g)(e:cX g come os)(f:e9 g come os ak):(eY g ak).Pairwise (λa b=>b<g.params->a<g.params):=by refine List.pairwise_append.2 ⟨List.Pairwise.imp_of_mem (R:=λ_ _=>True) (λd _ _ _=>(C8.1 d).2) (List.pairwise_of_forall λ_ _=>trivial),?_,λa d _ _ _=>(C8.1 d).2⟩;refine List.Pairwise.imp_of_mem (R:=λ_ _=>True) (λ{a b}_ hb _ h=>?_) (List.pairwise_of_forall λ_ _=>trivial);obtain⟨c,h1,h2⟩:=akZ.1 hb;obtain⟨p,h2⟩:=C9.1 h2;have:=(V.gv.qA _ (oC (e.lt ((f.mem c).1 h1))) _ h2).1;simp only at*;exact qoz
end
end
section
theorem QU{H:ai}{s:AV}:∀{ks:List Int},(∀k∈ks,∃r,l6 H s k=some (.int 3 r))->∃e,uO H s ks=some e|[],_=>⟨[],rfl⟩|k::ks,f=>by obtain⟨r,h1⟩:=f k (aeU ..);obtain⟨e,h2⟩:=QU (s:=s) λj hj=>f j (aey _ hj);exact⟨r::e,by simp only[uO,h1,h2]⟩
def vH(b g f:ab)(a:ab)(n:Nat)(D:Nat->Bool)(e:Nat->ab)(S:Nat->Int->Prop):List Th:=tB iH b [.az a 0]::tB oU g [.slice f 0 n n true]::tB eT f (iw n D e)::gQ n D e S
theorem agz{A H:ai}{N b r s g m a:ab}{us:List Th}{n k:Nat}{D:Nat->Bool}{ids:Nat->ab}{S:Nat->Int->Prop}{R:List Int}{ex:Bool}(U:aj A H (tM ex N (λ_=>False)::tB eH s [.slice g 0 n n true]::tS 3 1 (R.map aI) n true (.slice g 0 n n true)::(vH b r m a n D ids S++us)))(z:k<n)(hd:D k=true)(O:∀x,S k x->0<=x/\x<n)(Y:R.length=n):∃H',(∀aa:ap AV,aa.get .alR (sl 3)=.az r 0->aa.get .alR (sl 5)=aN k->aa.get .alR (sl 4)=.az s 0->aa.get .alR (sl 6)=.map N->xM aa H=some (kL aa zX,H'))/\aj A H' (tM false N (λx=>∃w,S k w/\R.getD w.toNat 0=x)::tB eH s [.slice g 0 n n true]::tS 3 1 (R.map aI) n true (.slice g 0 n n true)::(vH b r m a n D ids S++us)):=by
 have hat:(tM ex N (λ_=>False)::tB eH s [.slice g 0 n n true]::tS 3 1 (R.map aI) n true (.slice g 0 n n true)::(vH b r m a n D ids S++us))[6+k]?=some (tM false (ids k) (S k)):=by have:=rr (xs:=[tM ex N (λ_=>False),tB eH s [.slice g 0 n n true],tS 3 1 (R.map aI) n true (.slice g 0 n n true),tB iH b [.az a 0],tB oU r [.slice m 0 n n true],tB eT m (iw n D ids)]) (m:=us) (Fv (D:=D) (ids:=ids) (S:=S) z);rw[hd]at this;exact this
 obtain⟨⟨ks,C,l⟩,_,_⟩:=U.nf _ hat;obtain⟨⟨t0,E,F⟩,_,G⟩:=U.nf 0 rfl;obtain rfl:t0=[]:=List.eq_nil_iff_forall_not_mem.2 λx t=>(F x).1 t;have P:=(yV C).2;have Q:=(yV E).1;have I:ids k≠N:=U.ne _ 0 hat rfl af (λf ag=>ag.1) (λf ag=>ag.1);have J:bh H r 0=some (.slice m 0 n n true):=by obtain⟨_,p⟩:=U.get 4 rfl;exact tB.cell p rfl
 have K:bh H s 0=some (.slice g 0 n n true):=by obtain⟨_,p⟩:=U.get 1 rfl;exact tB.cell p rfl
 have L:bh H m (0+k)=some (.map (ids k)):=by obtain⟨_,p⟩:=U.get 5 rfl;exact tB.cell p (by simp[iw,aks,List.getElem?_range z,jJ,hd])
 have M:=U.sl (e:=3) (size:=1) (sv:=.slice g 0 n n true) (vs:=R.map aI) (n:=n) (full:=true) 2;have q:∀x,S k x->l6 H (.slice g 0 n n true) x=some (.int 3 (R.getD x.toNat 0)):=λx t=>by obtain⟨h0,h1⟩:=O x t;have:=JG (j:=x.toNat) (v:=aI (R.getD x.toNat 0)) M af (by rw[bF (by simp;exact qoz),bF af];simp);rw[<-this];congr 1;simp only[aj5];exact qoz
 obtain⟨B,v⟩:=QU (s:=.slice g 0 n n true) (H:=H) (ks:=ks) λx t=>⟨_,q x ((l x).1 t)⟩;have y:=U.uh (H':=H.set N (.dI (eG (gT B [])))) (q:=N) 0 rfl (t':=tM false N λx=>∃w,S k w/\R.getD w.toNat 0=x) rfl (λi hi=>by rw[ai.aF,aq hi]) (λZ p=>p.1) ⟨aep.2 rfl,λj hj=>aep.1 hj,⟨_,by rw[ai.aF,aK rfl];exact wc (qK B alD),λx=>?_⟩,(λag=>by cases ag),G⟩;·refine⟨(H.set N (.dI (eG (gT B [])))).skip,λaa T V W X=>?_,y.cI ⟨by show _<=(ab.succ _).an;rw[ab.gK];exact qoz,λj _=>rfl⟩⟩;unfold xM;rw[T,V,W,X];simp only[pq,J,K,l6,alN akY z,bq,L,wU I,aes,bP,P,Q,v]
 rw[oQ,Hy v];simp only[aki,or_false];constructor;·rintro⟨w,u,e⟩;rw[q w ((l w).1 u)]at e;injection e with e;injection e with _ e;exact⟨w,(l w).1 u,e⟩
 rintro⟨w,u,rfl⟩;exact⟨w,(l w).2 u,q w u⟩
section
variable{g:G.bu}{c d av h:AV}{a b:ab}{A H:ai}{o:List AV}{come:List Bool}{os:List (List bV)}{ak:List Nat}{lv:List (List Int)}
theorem agA(T:Tb ac)(V:Vd g)(G:FX g A a c d av h o come os ak lv)(H:cX g come os)(I:e9 g come os ak)(L:gP g come os lv){n:Nat}(hn:g.bp=n){K:KT}(a5:∀H' R v,rD g.params (gY g os lv ak) n (eY g ak) R->bm A H'->fZ H' R v->K v H'):YN ac WA [.az a 0] A K:=by
 have O:=G.ro.lt;have P:=G.c2;have ag:=G.c1;rw[hn]at P;have a2:=V.fm.fv.h2;have ar:=λ{x}=>Fx (x:=x) V H I;have aw:=λ{x}=>agx (x:=x) (lv:=lv) V H I;refine YF.code T.abm aB ?_;refine ah ?_;refine RO.dL (aj.dc A) λH1 b U=>?_;refine ah ?_;refine RO.cl (Ki T V (G.cI U.gr) H I L hn λH2 y D f S Q hl=>?_);have U:=(U.fC hl).cM akH;refine ah ?_;refine RO.fx U λH3 z U=>?_;refine ah ?_;refine RO.lf U 1 (ws:=[aI (-1)]) (n:=1) (λH4 qb U=>?_);refine ah ?_;refine RO.aW ?_ (v:=aN n) (hc:=by rw[U.gr.bh O];exact P);refine ah ?_;refine RO.cl (Pn T (u:=aI (-1)) (n:=n) rfl (U.sl 0) af λH5 i hl=>?_);have U:=U.fC hl;refine ah ?_;refine RO.fx U λH6 s U=>?_;refine ah ?_;refine RO.cl (QN T λH7 q6 hl=>?_);have U:=U.fC hl;refine ah ?_;have U:aj A H7 ([tB iH q6 [.az a 0]]++(tB eH s [.slice i 0 n n true]::tS 3 1 ((ahr n (-1)).map aI) n true (.slice i 0 n n true)::vH b z y a n D f S)++[]):=by have e:ahr (n*1) (aI (-1))=(ahr n (-1)).map aI:=aB;rw[e]at U;have h9:=U.sub (us:=tB iH q6 [.az a 0]::tB eH s [.slice i 0 n n true]::tS 3 1 ((ahr n (-1)).map aI) n true (.slice i 0 n n true)::tB oU z [.slice y 0 n n true]::tB iH b [.az a 0]::tB eT y (iw n D f)::gQ n D f S) (.cons_cons _ (.cons_cons _ (.cons_cons _ (.cons _ (akL _)))));rw[akT];exact h9.cM (.cons _ (.cons _ (.cons _ (.swap ..))))
 refine Ru.wk (L:=[(bJ,.func Ey [] [.az q6 0]),(p1,.az b 0),(p3,.az z 0),(p4,.az s 0)]) ?_;refine Ru.pG (J:=λm ts=>∃R,rD g.params (gY g os lv ak) n ((eY g ak).take m) R/\ts=tB eH s [.slice i 0 n n true]::tS 3 1 (R.map aI) n true (.slice i 0 n n true)::vH b z y a n D f S) (Dn:=λ_ _=>False) U (QO T V G H I) (λ_ _=>trivial) ⟨_,.nil,rfl⟩ (λk args ws a5=>by obtain⟨_,_,rfl⟩:=a5;rfl) (λ_ _ _ _ _ _=>trivial) (λm args ws ts us l o1 o2 H' hm ax hJ U=>?_) (λH' ay dm hJ U=>?_) (λj H' ay dm _ a5=>a5.elim)
 .obtain⟨rfl,_,rfl⟩:=ax;obtain⟨R,p,rfl⟩:=hJ;have q:=p.len;have hx:=ar (agB hm);have a0:=aw (agB hm);have W:(eY g ak).take (m+1)=(eY g ak).take m++[(eY g ak)[m]]:=(akd hm).symm;rw[W];clear W;generalize(eY g ak)[m]=x at*;obtain⟨k,rfl⟩:∃k:Nat,x=k:=⟨x.toNat,af⟩;have B:k<n:=af;refine ah ?_;refine Ru.dN (xs:=tB eH s [.slice i 0 n n true]::tS 3 1 (R.map aI) n true (.slice i 0 n n true)::vH b z y a n D f S) U λH8 U=>?_;have U:aj A H8 (tB eH s [.slice i 0 n n true]::tS 3 1 (R.map aI) n true (.slice i 0 n n true)::(vH b z y a n D f S++tX l o2::us)):=U;refine ah ?_;refine RO.aW ?_ (v:=aI g.params) (hc:=by rw[U.gr.bh O];exact ag);refine ah ?_;refine Ru.cond (λE=>?_) (λE=>?_);·refine ah ?_;refine RO.lC U 1 (k:Int) q (λH9 U=>?_);refine ah ?_;refine Ru.exitTo ?_;refine Ru.bG (ts:=tB eH s [.slice i 0 n n true]::tS 3 1 ((R.set k (k:Int)).map aI) n true (.slice i 0 n n true)::vH b z y a n D f S) U ⟨_,p.wY (v:=(k:Int)) (r:=k) (λ_=>rfl) (λa5=>absurd E a5),rfl⟩
  have a1:D k=true:=(Q.1 k B).2 a0;have F:=Q.2 k B;have X:∀x,S k x->0<=x/\x<n:=λx hx=>by obtain⟨C,hC,_,h1,_⟩:=(F x).1 hx;have:=C7 V H I L hC x h1;exact qoz
  refine ah ?_;refine RO.Ff U λH9 N U=>?_;obtain⟨Y,hg,U⟩:=agz U B a1 X q;refine ah ?_;refine Ru.ez (cQ:=zX) (H':=Y) T.adk (M:=[(p4,.az s 0),(p5,aN k),(p6,.map N)]) (λaa u=>hg aa (u.get (p:=sl 3) rfl rfl) (u.get (p:=sl 5) rfl rfl) (u.get (p:=sl 4) rfl rfl) (u.get (p:=sl 6) rfl rfl)) ?_;refine ah ?_;refine Ru.nm λS0 M hS hM=>?_;refine Ru.cC hM (up (P:=λr=>(∀j,j<r->∃w,S k w/\R.getD w.toNat 0=(j:Int))->Ru ac _ S0 ([(p8,aN r)]++pk M [p4,p5,p6]) Y) n (λr a3 ih hT=>?_) 0 af (λj hj=>by exact qoz));subst hS;subst hM;refine Ru.loop ?_;refine ah ?_;refine RO.CU U 0 (z:=r) λt ht=>?_;refine ah ?_;refine Ru.kN (λh1=>?_) (λh1=>?_)
  .have Z:∀j,j<r+1->∃w,S k w/\R.getD w.toNat 0=(j:Int):=λj hj=>by
    by_cases e:j=r;·rw[e];exact ht.1 h1
    exact hT j af
   have hp:=QP (R:=R) (m:=r+1) λj hj=>by obtain⟨w,J,e⟩:=Z j hj;have:=X w J;rw[<-e];exact QQ this.1 af
   refine ah ?_;exact Ru.wk (ih (r+1) af af Z)
  refine Ru.exitTo ?_;refine ah ?_;have U:=U.tail;refine RO.lC U 1 (r:Int) q (λa4 U=>?_) (k:=k);refine ah ?_;refine Ru.bG (ts:=tB eH s [.slice i 0 n n true]::tS 3 1 ((R.set k (r:Int)).map aI) n true (.slice i 0 n n true)::vH b z y a n D f S) U ⟨_,p.wY (v:=(k:Int)) (r:=r) (λa5=>absurd a5 E) (λ_=>⟨af,λw J e=>?_,λj hj=>?_⟩),rfl⟩;·have:=ht.2 ⟨w,(F w).2 J,e⟩;rw[h1]at this;cases this
  obtain⟨w,J,e⟩:=hT j af;exact⟨w,(F w).1 J,e⟩
 obtain⟨R,p,rfl⟩:=hJ;rw[ak7]at p;have q:=p.len;refine ah ?_;refine Ru.mI (M:=[dm]) (U.cM akj) λH' U=>⟨[.slice i 0 n n true],⟨rfl,rfl,trivial⟩,a5 H' R _ p U.gr ?_⟩;have:=U.sl (e:=3) (size:=1) (sv:=.slice i 0 n n true) (vs:=R.map aI) (n:=n) (full:=true) 1;unfold fZ;rw[q];exact this
end
end
section
structure QV(CL:List (Int->Prop))(n:Nat)(cl:List (List Int)):Prop where
 len:cl.length=n
 asc:∀j,j<n->(cl.getD j []).Pairwise (·<·)
 mem:∀j,j<n->∀x,x∈cl.getD j []↔∃C∈CL,C j/\C x/\x≠j
theorem Kl{n:Nat}{l:List Int}(g:l.Nodup)(hl:∀x∈l,0<=x/\x<n):l.length<=n:=by have:=vB n (l.map Int.toNat) (List.pairwise_map.2 (List.Pairwise.imp_of_mem (λ{x y}a b f e=>f (by have:=hl x a;have:=hl y b;exact qoz)) g)) (λx a=>by obtain⟨y,b,rfl⟩:=akk.1 a;have:=hl y b;exact qoz);simpa using this
theorem lQ.wY{lv:List (List Int)}{a:List AV}{F:List Th}(f:lQ lv a F){l:List Int}{v:AV}:lQ (lv++[l]) (a++[v]) (tR 1 (l.map aI) l.length v::F):=by
 have hl:=f.len;refine⟨by simp[hl],λb hb=>?_⟩;simp only[aj8,akC]at hb;by_cases e:b=lv.length
 .subst e;have e1:(lv++[l]).getD lv.length []=l:=aB;have e2:(a++[v]).getD lv.length .co=v:=by rw[<-hl];simp
  rw[e1,e2];exact aeU ..
 have e1:(lv++[l]).getD b []=lv.getD b []:=by simp[akw (show b<lv.length by exact qoz)]
 have e2:(a++[v]).getD b .co=a.getD b .co:=by simp[akw (show b<a.length by exact qoz)]
 rw[e1,e2];exact aey _ (f.mem b af)
theorem QW(T:Tb ac){A H:ai}{F:List Th}{t0:Th}{a:ab}{n k:Nat}{D:Nat->Bool}{ids:Nat->ab}{S:Nat->Int->Prop}(q:k<n)(r:n<=1000)(s:∀x,S k x->0<=x/\x<n)(t:D k=false->∀x,¬S k x)(U:aj A H (tZ F::t0::tB eT a (iw n D ids)::gQ n D ids S)):YN ac N6 [jJ D ids k] H λv H'=>∃l:List Int,(∀x,x∈l↔S k x)/\l.Pairwise (·<·)/\v.bB=true/\v.ee=true/\v.cells=[v]/\aj A H' (tZ (tR 1 (l.map aI) l.length v::F)::t0::tB eT a (iw n D ids)::gQ n D ids S):=by
 unfold jJ;cases hd:D k with
 |true=>
  have hat:(tZ F::t0::tB eT a (iw n D ids)::gQ n D ids S)[3+k]?=some (tM false (ids k) (S k)):=by have:=rr (xs:=[tZ F,t0,tB eT a (iw n D ids)]) (m:=[]) (Fv (D:=D) (ids:=ids) (S:=S) q);rw[hd,akT]at this;exact this
  refine afS T U _ hat (λks e u=>alj (Kl e λx w=>s x ((u x).1 w)) r) λH' v l h1 h2 U=>?_;have f:Sl H' 1 (l.map aI) l.length v:=by obtain⟨_,b⟩:=U.get 0 rfl;exact b.1
  have⟨g,j,p,_⟩:=f.all;exact⟨l,h1,h2,g,j,p,U.lq⟩
 |false=>refine YF.ix (v:=.aS) (H':=H) T.IV rfl ⟨[],λx=>⟨λz=>absurd z aB,λz=>absurd z (t hd x)⟩,alQ,rfl,rfl,rfl,?_⟩;exact((U.py 3 1).as 0 rfl λy b=>tS.mg b).lq
section
variable{g:G.bu}{c h av i:AV}{d o:ab}{A H:ai}{m:List AV}{come:List Bool}{os:List (List bV)}{ak:List Nat}{lv:List (List Int)}
theorem agC(T:Tb ac)(V:Vd g)(hF:FX g A d c h av i m come os ak lv)(X:cX g come os)(Y:e9 g come os ak)(y:gP g come os lv){n:Nat}(hn:g.bp=n)(I:n<=1000){K:KT}(a2:∀H' v cl,QV (gY g os lv ak) n cl->bm A H'->CX H' cl v->K v H'):YN ac Wy [.az d 0] A K:=by
 refine YF.code T.abj aB ?_;refine ah ?_;refine RO.cl (Ki T V hF X Y y hn λH1 qs D f S q U=>?_);refine ah ?_;have U:=(U.py eH 1).rl;refine Ru.nm λS0 M hS Z=>?_;refine Ru.cC Z (up (P:=λk=>∀B p(cl:List (List Int))F v,cl.length=k->lQ cl p F->(∀j,j<k->(cl.getD j []).Pairwise (·<·)/\∀x,x∈cl.getD j []↔∃C∈gY g os lv ak,C j/\C x/\x≠j)->aj A B (tZ F::tS eH 1 p k true v::tB eT qs (iw n D f)::gQ n D f S)->Ru ac _ S0 ([(p8,aN k),(p2,v)]++pk M [p6,p7]) B) n (λk hk E B p cl F v r s t U=>?_) 0 af _ [] [] [] .aS rfl ⟨rfl,λb hb=>absurd hb aB⟩ (λj hj=>by exact qoz) U);subst hS;subst Z;have⟨ag,ar,aw,_⟩:=(U.sl (e:=eH) (size:=1) (sv:=v) (vs:=p) (n:=k) (full:=true) 1).all;refine Ru.loop ?_;refine au ?_;refine Ru.cond (λa=>?_) (λa=>?_)
 .have J:(iw n D f)[0+k*1]?=some (jJ D f k):=by rw[show 0+k*1=k by exact qoz];simp only[iw,aks,List.getElem?_range a,akt]
  have E:=E (k+1) af af;have z:=QW T (S:=S) a I (λx G=>by obtain⟨C,H,_,h2,_⟩:=(q.2 k a x).1 G;have:=C7 V X Y y H x h2;exact qoz) (λhd x G=>by obtain⟨C,H,h1,_⟩:=(q.2 k a x).1 G;rw[(q.1 k a).2 ⟨C,H,h1⟩]at hd;cases hd) U;have L:(jJ D f k).bB=true:=by unfold jJ;split<;>rfl
  refine ah ?_;refine RO.gU U 2 (hv:=J) ?_;generalize jJ D f k=u at L z⊢;refine ah ?_;refine RO.cl (z.mono ?_);rintro w H7⟨l,N,O,P,ax,Q,U⟩;refine ah ?_;refine RO.push U 1 (λw0 H8 v2 U=>?_) (ws:=[w]) (hl:=kG rfl P Q rfl rfl rfl);have⟨ay,a0,a1,_⟩:=(U.sl (e:=eH) (size:=1) (n:=k+1) (full:=true) (sv:=v2) 1).all;refine ah ?_;exact Ru.wk (E _ (p++[w]) (cl++[l]) _ v2 (by simp[r]) s.wY (λj hj=>by
   by_cases e:j=k
   .subst e;have e1:(cl++[l]).getD j []=l:=by rw[<-r];simp
    rw[e1];exact⟨O,λx=>(N x).trans (q.2 j a x)⟩
   have e1:(cl++[l]).getD j []=cl.getD j []:=by simp[akw (show j<cl.length by exact qoz)]
   rw[e1];exact t j af) U)
 refine Ru.exitTo ?_;obtain rfl:k=n:=af;refine ah ?_;have R:=s.len;have W:=U.sl (e:=eH) (size:=1) (sv:=v) (vs:=p) (n:=k) (full:=true) 1;refine Ru.aV (a2 _ v cl ⟨r,λj hj=>(t j hj).1,λj hj=>(t j hj).2⟩ U.gr (s.sl U 0 rfl (by rw[R,r];exact W)))
def agD(z:AV):bt:=(.seq (.region [O p2 (.box fI (T p0)),O p4 (.bg (C z)),O p5 (.bg (I 3 0))]) (.seq (.region [O p8 (.gw 4 (T p2)),O p9 (.call (C (.func NU [] [])) [(T p8)]),O p7 (.bg (T p9)),O aO (.extract (T p7) 0),O aR (.extract (T p7) 1),O p6 (.bg (T aO)),O p5 (.bg (T aR))]) (.seq (.seq (.region [O aY (.bg (T p5)),O aX (.arith .neq 3 (T aY) (I 3 0))]) (.cond (T aX) (.seq (.region [O bi (.bg (T p4)),O bk (.bg (T p5)),O p4 (.bg (T bi)),O p5 (.bg (T bk))]) .ret) .skip)) (.seq (.region [O bo (.bg (T p1)),O aZ (.bg (T p6)),O br (.call (T bo) [(T aZ)]),O p4 (.bg (T br)),O p5 (.bg (I 3 0))]) .ret))))
def agE(z:AV)(f k:Nat):bt:=(.seq (.region [O p1 (.box fI (T p0)),O p2 (.bg (C z)),O p3 (.bg (I 3 0))]) (.seq (.region [O p4 (.gw 4 (T p1)),O p5 (.call (C (.func f [] [])) [(T p4),(C (.func k [] []))]),O p6 (.extract (T p5) 0),O p7 (.extract (T p5) 1),O p2 (.bg (T p6)),O p3 (.bg (T p7))]) .ret))
theorem QX(T:Tb ac)(V:Vd g){z:AV}(C:z.bB=true){a b k:Nat}(q:ac a=.code 8 [.tmp p2,.tmp p3] (agE z b k))(hb:ac b=.code 19 [.tmp p4,.tmp p5] (agD z)){cs:List AV}(hg:iG H g cs){K:KT}(F:∀H' d c h av i m come os ak lv,cX g come os->e9 g come os ak->gP g come os lv->bm H H'->FX g H' d c h av i m come os ak lv->YN ac k [.az d 0] H' λv n=>v.bB=true/\K (.tuple [v,aI 0]) n):YN ac a [.agg cs] H K:=by have p:=hg.one;obtain⟨c,rfl,cA⟩:=hg;have⟨x,y,A,B⟩:=cA.all;refine YF.code q aB ?_;refine au ?_;refine RO.dL (aj.dc H) λH1 o U=>?_;refine ah ?_;refine RO.eQ U 0 ?_;refine RO.cl (fv:=.func b [] []) (av:=[.agg [.str g.name,aI g.params,aI g.bp,c],.func k [] []]) (YF.code hb aB ?_);refine au ?_;refine RO.dL U λn D U=>?_;refine ah ?_;refine RO.eQ U 0 ?_;refine RO.cl (Qf T V (cs:=[.str g.name,aI g.params,aI g.bp,c]) ⟨c,rfl,dQ.block.jU U.gr cA⟩ λr d f h av i m come os ak lv s t j l u=>?_);refine ah ?_;refine RO.cl ((F r d f h av i m come os ak lv s t j (U.gr.trans l) u).mono ?_);rintro v E⟨e,w⟩;refine ah ?_;refine Ru.mD (vs:=[v,aI 0]) ⟨rfl,e,rfl,rfl,trivial⟩ ?_;refine ah ?_;exact Ru.mD (vs:=[v,aI 0]) ⟨rfl,e,rfl,rfl,trivial⟩ w
theorem agF(T:Tb ac)(V:Vd g){cs:List AV}(hg:iG H g cs){n:Nat}(q:g.bp=n)(f:n<=1000){K:KT}(s:∀H' v cl come os ak lv,cX g come os->e9 g come os ak->gP g come os lv->QV (gY g os lv ak) n cl->bm H H'->CX H' cl v->K (.tuple [v,aI 0]) H'):YN ac Wh [.agg cs] H K:=QX T V rfl T.aa1 T.abi hg λ_ _ _ _ _ _ _ _ _ _ _ l p a j r=>agC T V r l p a q f λ_ _ _ k e b=>⟨b.all.1,s _ _ _ _ _ _ _ l p a k (j.trans e) b⟩
end
end
section
theorem agG(T:Tb ac){H:ai}{a b n:Int}{K:KT}(e:K (.bool (decide (a<=n/\n<=b))) H):YN ac Wp [aI a,aI b,aI n] H K:=by
 refine YF.code T.aba aB ?_;refine au ?_;refine RO.de (λg=>?_) (λg=>?_);·refine bD ?_;refine Ru.aV ?_;simpa[g]using e
 refine bD ?_;refine Ru.aV ?_;simpa[g]using e
def w8(gv R:List Int)(v:Nat):Prop:=((v:Int)∈gv/\¬(0<=R.getD v 0/\R.getD v 0<=249))\/((v:Int)∉gv/\R.getD v 0≠ -1)
def w9(a:Int)(b:List (Int->Prop))(R:List Int)(v:Nat):Prop:=((v:Int)<a/\R.getD v 0≠v)\/∃w,ng b v w/\R.getD v 0=R.getD w.toNat 0
def y8(a:Int)(b:List (Int->Prop))(gv:List Int)(n:Nat)(R:List Int)(e:Nat):Prop:=
 R.length≠n/\e=2\/R.length=n/\((∃v,v<n/\w8 gv R v)/\e=3\/(∀v,v<n->¬w8 gv R v)/\((∃v,v<n/\w9 a b R v)/\e=12\/(∀v,v<n->¬w9 a b R v)/\e=0))
section
variable{g:G.bu}{d f av h:AV}{c p:ab}{A H:ai}{o:List AV}{come:List Bool}{os:List (List bV)}{ak:List Nat}{lv:List (List Int)}
theorem agH(T:Tb ac)(V:Vd g)(hF:FX g A c d f av h o come os ak lv)(hK:cX g come os)(hO:e9 g come os ak)(a3:gP g come os lv){n:Nat}(hn:g.bp=n)(bv:n<=1000){R:List Int}{I:AV}(hR:fZ A R I)(cn:R.length<=1000){K:KT}(cK:∀H' e,y8 g.params (gY g os lv ak) (eY g ak) n R e->bm A H'->K (aN e) H'):YN ac WB [.az c 0,I] A K:=by
 have a4:=hF.ro.lt;have a5:=hF.c2;have bS:=hF.c1;rw[hn]at a5;have⟨hrd,b0,a6,cp⟩:=hR.all;refine YF.code T.abn aB ?_;refine ah ?_;refine RO.dL (aj.dc A) (λH1 X U=>?_) (ho:=by rw[a6];exact ao b0 rfl);rw[a6]at U;refine ah ?_;refine RO.aW ?_ (v:=aN n) (hc:=by rw[U.gr.bh a4];exact a5);refine ah ?_;refine Ru.cond (λg1=>?_) (λg1=>?_);·refine ah ?_;exact Ru.aV (cK _ 2 (.inl ⟨by simpa using g1,rfl⟩) U.gr)
 have ar:R.length=n:=by simpa using g1
 refine ah ?_;refine RO.Ff U λH2 N U=>?_;refine RO.fx U λH3 q5 U=>?_;refine ah ?_;refine RO.cl (QN T λH4 q6 hl=>?_);have U:aj A H4 ([tB iH q6 [.az c 0]]++[tB eT q5 [.map N],tM true N (λ_=>False)]++[tB eH X [I]]):=U.fC hl;refine ah ?_;refine Ru.wk (L:=[(bO,.func Ey [] [.az q6 0]),(p0,.az c 0),(p3,.az X 0),(p5,.az q5 0)]) ?_;refine Ru.pG (J:=λm ts=>ts=[tB eT q5 [.map N],tM true N (λx=>x∈(eY g ak).take m)]) (Dn:=λ_ _=>False) U (QO T V hF hK hO) (λ_ _=>trivial) aB (λk args ws cK=>by obtain⟨_,_,rfl⟩:=cK;rfl) (λ_ _ _ _ _ _=>trivial) (λm args ws ts us l o1 o2 H' hm b3 hJ U=>?_) (λH' b4 Y hJ U=>?_) (λj H' b4 Y _ cK=>cK.elim);·obtain⟨rfl,_,rfl⟩:=b3;subst hJ;have a8:(eY g ak).take (m+1)=(eY g ak).take m++[(eY g ak)[m]]:=(akd hm).symm;rw[a8];clear a8;generalize(eY g ak)[m]=x at*;generalize(eY g ak).take m=l0 at*;refine ah ?_;refine Ru.dN (xs:=[tB eT q5 [.map N],tM true N (λx=>x∈l0)]) U λH8 U=>?_;have U:aj A H8 (tB eT q5 [.map N]::tM true N (λx=>x∈l0)::tX l o2::us):=U;refine ah ?_;refine RO.PK U 1 (z:=x) λH9 U=>?_;refine ah ?_;refine Ru.bG (ts:=[tB eT q5 [.map N],tM true N (λy=>y∈l0++[x])]) (U.CT 1 rfl λy=>?_) rfl;rw[ahp,aep,or_comm]
 subst hJ;rw[ak7]at U;have U:aj A H' [tB eT q5 [.map N],tM true N (λx=>x∈eY g ak),tX Y (.deferred false),tB eH X [I]]:=U;have ret:∀{B:ai}{L:Kn}{s:List SI}{e:Nat}{us:List Th},y8 g.params (gY g os lv ak) (eY g ak) n R e->aj A B (tX Y (.deferred false)::us)->lk L p4=aN e->Ru ac ⟨pu [.tmp p4] K,[Y],none⟩ (.code .ret::s) L B:=λhv U E=>Ru.mI (M:=[Y]) U λH' U=>⟨[_],⟨E,rfl,trivial⟩,cK _ _ hv U.gr⟩;refine ah ?_;refine Ru.nm λS0 M hS hM=>?_;refine Ru.cC hM (up (P:=λk=>(∀v,v<k->¬w8 (eY g ak) R v)->Ru ac _ S0 ([(ct,aN k)]++pk M [p0,p3,p5,ch,bY]) H') n (λk hk Z hB=>?_) 0 af (λv hv=>by exact qoz));subst hS;subst hM;refine Ru.loop ?_;refine au ?_;refine Ru.cond (λag=>?_) (λag=>?_)
 .have Z:=Z (k+1) af af;refine ah ?_;refine RO.kz U.gr hR (λJ o9 hj aw=>?_) (j:=k);refine RO.aW ?_ (hc:=aw);have ax:R.getD k 0=R[k]:=bF ag 0;have O:w8 (eY g ak) R k->y8 g.params (gY g os lv ak) (eY g ak) n R 3:=λhb=>.inr ⟨ar,.inl ⟨⟨k,af,hb⟩,rfl⟩⟩;have a:¬w8 (eY g ak) R k->∀v,v<k+1->¬w8 (eY g ak) R v:=λhb v hv=>by
   by_cases e:v=k;·rw[e];exact hb
   exact hB v af
  unfold w8 at O a;rw[ax]at O a;generalize R[k]=r at*;refine ah ?_;refine RO.CU U 1 (z:=k) λt G=>?_;cases t with
  |true=>
   have G:=G.1 rfl;refine ah ?_;refine RO.cl (agG T (a:=0) (b:=249) (n:=r) ?_);refine RO.de (λhw=>?_) (λhw=>?_);·refine ah ?_;refine RO.CU U 1 (z:=k) λt ay=>?_;obtain rfl:=ay.2 G;refine ah ?_;exact Ru.wk (Z (a λhb=>hb.elim (λcK=>cK.2 hw) λcK=>cK.1 G))
   refine ah ?_;exact ret (O (.inl ⟨G,hw⟩)) (U.drop 2) rfl
  |false=>
   have G:(k:Int)∉eY g ak:=λcK=>by have:=G.2 cK;cases this
   refine ah ?_;refine RO.CU U 1 (z:=k) λt ay=>?_;obtain rfl:t=false:=by
    cases t;·rfl
    exact absurd (ay.1 rfl) G
   refine ah ?_;refine Ru.cond (λhw=>?_) (λhw=>?_);·refine ah ?_;exact ret (O (.inr ⟨G,hw⟩)) (U.drop 2) rfl
   refine ah ?_;exact Ru.wk (Z (a λhb=>hb.elim (λcK=>G cK.1) λcK=>hw cK.2))
 refine Ru.exitTo ?_;obtain rfl:k=n:=af;refine ah ?_;refine RO.cl (Ki T V (hF.cI U.gr) hK hO a3 hn λH5 qs D b S a9 hl=>?_);have U:=U.fC hl;have U:aj A H5 (tZ [tB eH X [I]]::tX Y (.deferred false)::tB eT qs (iw k D b)::gQ k D b S):=by have h1:=(U.cM akH).drop 2;exact(((h1.cM (.swap ..)).rl.cM (.swap ..)).lq)
 refine ah ?_;refine Ru.nm λS0 M hS hM=>?_;refine Ru.cC hM (up (P:=λj=>∀B F,tB eH X [I]∈F->(∀v,v<j->¬w9 g.params (gY g os lv ak) R v)->aj A B (tZ F::tX Y (.deferred false)::tB eT qs (iw k D b)::gQ k D b S)->Ru ac _ S0 ([(dZ,aN j)]++pk M [p0,p3,cR,dY]) B) k (λj hj Z B F b5 hW U=>?_) 0 af _ _ (aep.2 rfl) (λv hv=>by exact qoz) U);subst hS;subst hM;refine Ru.loop ?_;refine au ?_;refine Ru.cond (λq=>?_) (λq=>?_)
 .have Z:=Z (j+1) af af;have a':(iw k D b)[0+j*1]?=some (jJ D b j):=by rw[show 0+j*1=j by exact qoz];simp only[iw,aks,List.getElem?_range q,akt]
  have b6:(jJ D b j).bB=true:=by unfold jJ;split<;>rfl
  have P:=a9.2 j q;have a0:∀x,S j x->0<=x/\x<k:=λx H=>by obtain⟨C,hC,_,h1,_⟩:=(P x).1 H;have:=C7 V hK hO a3 hC x h1;exact qoz
  have z:w9 g.params (gY g os lv ak) R j->y8 g.params (gY g os lv ak) (eY g ak) k R 12:=λhb=>.inr ⟨ar,.inr ⟨hB,.inl ⟨⟨j,q,hb⟩,rfl⟩⟩⟩;have a:¬w9 g.params (gY g os lv ak) R j->∀v,v<j+1->¬w9 g.params (gY g os lv ak) R v:=λhb v hv=>by
   by_cases e:v=j;·rw[e];exact hb
   exact hW v af
  have ax:R.getD j 0=R[j]:=bF af 0;unfold w9 at z a;rw[ax]at z a;obtain⟨u,hu⟩:∃u,u=jJ D b j:=⟨_,rfl⟩;rw[<-hu]at a' b6;refine ah ?_;refine RO.gU U 2 (hv:=a') ?_;refine ah ?_;refine RO.fx U λH6 J U=>?_;have U:=U.lq;have Q:∀{B F us},tB 3 J [aN j]∈F->aj A B (tZ F::us)->bh B J 0=some (aN j):=λcK U=>by obtain⟨_,E⟩:=U.mf 0 rfl cK;exact tB.cell E rfl
  have a1:∀{B F us},tB eH X [I]∈F->aj A B (tZ F::us)->bh B X 0=some I:=λcK U=>by obtain⟨_,E⟩:=U.mf 0 rfl cK;exact tB.cell E rfl
  have m9:tB 3 J [aN j]∈tB 3 J [aN j]::F:=aeU .. ;have m3:tB eH X [I]∈tB 3 J [aN j]::F:=aey _ b5;refine ah ?_;refine RO.aW ?_ (hc:=Q m9 U);refine ah ?_;refine RO.aW ?_ (v:=aI g.params) (hc:=by rw[U.gr.bh a4];exact bS);refine ah ?_;refine RO.de (λE=>?_) (λE=>?_);rotate_left;have ba:¬((j:Int)<g.params/\R[j]≠j):=λcK=>E cK.1;rotate_left;refine ah ?_;refine RO.aW ?_ (hc:=a1 m3 U);refine ah ?_;refine RO.aW ?_ (hc:=Q m9 U);refine ah ?_;refine RO.kz U.gr hR (λq7 o7 b' aw=>?_) (j:=j);refine ah ?_;refine RO.aW ?_ (hc:=Q m9 U);refine ah ?_;refine RO.de (λa2=>?_) (λa2=>?_);·refine ah ?_;exact ret (z (.inl ⟨E,a2⟩)) U.tail rfl
  have ba:¬((j:Int)<g.params/\R[j]≠j):=λcK=>a2 cK.2;all_goals
   have bb:=QW T (S:=S) q bv a0 (λhd x H=>by obtain⟨C,hC,h1,_⟩:=(P x).1 H;rw[(a9.1 j q).2 ⟨C,hC,h1⟩]at hd;cases hd) U;rw[<-hu]at bb;refine ah ?_;refine RO.cl (bb.mono ?_);rintro w H7⟨l,W,ca,cv,cx,cy,U⟩;refine ah ?_;refine RO.cl (Jx T (ts:=[tZ (tR 1 (l.map aI) l.length w::tB 3 J [aN j]::F)]) (us:=tX Y (.deferred false)::tB eT qs (iw k D b)::gQ k D b S) (la:=l) (J:=λi ts=>ts=[tZ (tR 1 (l.map aI) l.length w::tB 3 J [aN j]::F)]/\∀m(cK:m<l.length),m<i->R[j]≠R.getD l[m].toNat 0) (D:=λts=>ts=[tZ (tR 1 (l.map aI) l.length w::tB 3 J [aN j]::F)]/\∃x∈l,R[j]=R.getD x.toNat 0) (λhJ U=>?_) (by have:=Kl (n:=k) (ca.imp λcK=>Int.ne_of_lt cK) λx H=>a0 x ((W x).1 H);exact qoz) rfl ?_ ⟨rfl,λm _ hm=>by exact qoz⟩ U λH8 ts t U hc=>?_);·obtain⟨rfl,_⟩:=hJ;obtain⟨_,E⟩:=U.mf 0 rfl (aeU ..);exact E.1
   .rintro i _ us H8 hi⟨rfl,hN⟩U;have H:=a0 _ ((W _).1 (agB hi));obtain⟨x,bc⟩:∃x:Nat,l[i]=x:=⟨l[i].toNat,af⟩;have cd:x<R.length:=af;rw[bc];refine YF.code T.abG aB ?_;refine ah ?_;refine RO.aW ?_ (hc:=a1 (aey _ m3) U);refine ah ?_;refine RO.aW ?_ (hc:=Q (aey _ m9) U);refine ah ?_;refine RO.kz U.gr hR (λq7 o7 b' aw=>?_) (j:=j);refine ah ?_;refine RO.aW ?_ (hc:=a1 (aey _ m3) U);refine ah ?_;refine RO.kz U.gr hR (λq8 o8 cE cf=>?_) (j:=x);refine ah ?_;have bd:R.getD l[i].toNat 0=R[x]:=by rw[bc,aj3,bF cd]
    refine Ru.aV ⟨_,U,?_⟩;by_cases he:R[j]=R[x];·exact .inr ⟨by rw[decide_eq_true he],rfl,_,agB hi,by rw[bd];exact he⟩
    refine .inl ⟨by rw[decide_eq_false he],rfl,λm cK hm=>?_⟩;by_cases e:m=i;·subst e;rw[bd];exact he
    exact hN m cK af
   rcases hc with⟨rfl,rfl,hN⟩|⟨rfl,rfl,x,H,he⟩;·refine ah ?_;refine Ru.wk (Z _ _ (aey _ m3) (a λhb=>hb.elim ba λ⟨x,H,he⟩=>?_) U);obtain⟨m,hm,rfl⟩:=aka ((W x).2 ((P x).2 H));exact hN m hm hm he
   refine ah ?_;exact ret (z (.inr ⟨x,(P x).1 ((W x).1 H),he⟩)) U.tail rfl
 refine Ru.exitTo ?_;obtain rfl:j=k:=af;refine ah ?_;exact ret (.inr ⟨ar,.inr ⟨hB,.inr ⟨hW,rfl⟩⟩⟩) U.tail rfl
end
end
section
section
variable{g:G.bu}{a:AV}{A H:ai}
theorem agI(T:Tb ac)(V:Vd g){cs:List AV}(hg:iG H g cs){n:Nat}(l:g.bp=n){K:KT}(h:∀H' v R b os ak i,cX g b os->e9 g b os ak->gP g b os i->rD g.params (gY g os i ak) n (eY g ak) R->bm H H'->fZ H' R v->K (.tuple [v,aI 0]) H'):YN ac Wi [.agg cs] H K:=QX T V rfl T.aa2 T.abl hg λ_ _ _ _ _ _ _ _ _ _ _ j k c f m=>agA T V m j k c l λ_ _ _ o e d=>⟨d.all.1,h _ _ _ _ _ _ _ j k c o (f.trans e) d⟩
theorem agJ(T:Tb ac)(V:Vd g){cs:List AV}(hg:iG H g cs){n:Nat}(r:g.bp=n)(j:n<=1000){R:List Int}{l:AV}(m:fZ H R l)(k:R.length<=1000){K:KT}(h:∀H' e b os ak i,cX g b os->e9 g b os ak->gP g b os i->y8 g.params (gY g os i ak) (eY g ak) n R e->bm H H'->K (aN e) H'):YN ac Wj [.agg cs,l] H K:=by have q:=hg.one;obtain⟨a,rfl,cA⟩:=hg;have⟨v,w,x,y⟩:=cA.all;have⟨hrd,z,A,B⟩:=m.all;refine YF.code T.aa3 aB ?_;refine au ?_;refine RO.dL (aj.dc H) λH1 F U=>?_;refine ah ?_;refine RO.eQ U 0 ?_;refine RO.cl (Qf T V (cs:=[.str g.name,aI g.params,aI g.bp,a]) ⟨a,rfl,dQ.block.jU U.gr cA⟩ λG I C J L D E b os ak i o p c d s=>?_);refine ah ?_;refine RO.cl (agH T V s o p c r j ((U.gr.trans d).sl m) k λt e u f=>?_);refine ah ?_;exact Ru.aV (h t e b os ak i o p c u ((U.gr.trans d).trans f))
end
end
end
section
variable{g:G.bu}{come f:List Bool}{os c:List (List bV)}{ak h:List Nat}{lv d:List (List Int)}
theorem QY{t t':List Int}{a a':Int->Prop}{st:List G.ic}(b:∀x,x∈t↔x∈t')(e:∀x,a x↔a' x):∀k,C2 t a st k=C2 t' a' st k|0=>funext λx=>propext (e x)|k+1=>funext λx=>propext (by simp only[C2,b,QY b e k])
theorem QZ(V:Vd g)(k:cX g come os)(a:cX g f c)(u:e9 g come os ak)(r:e9 g f c h)(s:gP g come os lv)(l:gP g f c d){C:Int->Prop}(z:C∈gY g os lv ak):C∈gY g c d h:=by
 obtain⟨b,hb,v⟩:=akZ.1 z;have j:=(u.mem b).1 hb;obtain⟨m,he⟩:=k.bX V.dO a j;refine akZ.2 ⟨b,(r.mem b).2 m,?_⟩;have p:∀w,come.getD w false=true->∀x,x∈lv.getD w []↔x∈d.getD w []:=λw n x=>(((s.bX V.dO k a).mem w (k.bX V.dO a n).1 x).trans ((l.mem w (k.bX V.dO a n).1 x).symm));have n:wW g c b=wW g os b:=by simp only[wW,he]
 have o:∀x,x∈kV g lv (os.getD b [])↔x∈kV g d (c.getD b []):=λx=>by
  rw[he];unfold kV;split;·rename_i t o;obtain⟨_,_,_,_,y,_⟩:=vD V.dO k j o;exact p _ y x
  rfl
 have q:=QY (st:=(aH g b).aD) o (a:=Fl g os lv b) (a':=Fl g c d b) λx=>by simp only[Fl,o,n];refine or_congr Iff.rfl (or_congr Iff.rfl (or_congr Iff.rfl ⟨λ⟨w,h1,h2⟩=>⟨w,h1,(p w (k.ls j h1) x).1 h2⟩,λ⟨w,h1,h2⟩=>⟨w,h1,(p w (k.ls j h1) x).2 h2⟩⟩))
 have e:rC g os lv b=rC g c d b:=by
  have h1:rB g os lv b=rB g c d b:=by funext x;simp only[rB,eK,q]
  have h2:sI g os lv b=sI g c d b:=by funext i;simp only[sI,eK,q]
  simp only[rC,h1,h2,eK,q]
 rw[<-e];exact v
theorem Km(V:Vd g)(j:cX g come os)(b:cX g f c)(l:e9 g come os ak)(e:e9 g f c h)(i:gP g come os lv)(a:gP g f c d){v w:Int}:ng (gY g os lv ak) v w↔ng (gY g c d h) v w:=⟨λ⟨C,m,k⟩=>⟨C,QZ V j b l e i a m,k⟩,λ⟨C,m,k⟩=>⟨C,QZ V b j e l a i m,k⟩⟩
theorem Q0(V:Vd g)(i:cX g come os)(a:cX g f c)(j:e9 g come os ak)(e:e9 g f c h){v:Int}(k:v∈eY g ak):v∈eY g h:=by refine y7.2 ((y7.1 k).imp id λ⟨b,hb,k⟩=>⟨b,(e.mem b).2 (i.bX V.dO a ((j.mem b).1 hb)).1,k⟩)
theorem rD.agK(V:Vd g)(a:cX g come os)(b:e9 g come os ak)(e:gP g come os lv){n:Nat}(i:g.bp=n){R:List Int}(l:rD g.params (gY g os lv ak) n (eY g ak) R):Kk g.params (gY g os lv ak) n (eY g ak) R:=l.right (agw V a b) (λx j=>by rw[<-i];exact Fx V a b j) (λv w⟨_,k,_,h2,_⟩=>by rw[<-i];exact C7 V a b e k w h2) (agy V a b)
end
end Go.am.R
end
