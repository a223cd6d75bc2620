/- A part. No conditions. -/
import Derived.Shelf.Sort.Plain
import Derived.Shelf.Slices.In.SortNone
import Derived.Ground.Names2Prog
import Derived.Test.YtpplokbfajnjhaaGreatDoorA09
set_option linter.all false
open Nat renaming beq->ah8
open Array renaming replicate->ajI
noncomputable section
namespace Go.Proofs
section
open Go.Shelf
theorem jH{a b:Func}(h:a=b:=by kernel_rfl):some a=some b:=congrArg some h
def Tryz.afn:Go.Shelf.Ren:=⟨λ|189=>80|125=>123|257=>122|128=>149|129=>150|294=>140|295=>141|296=>142|297=>143|298=>144|299=>145|216=>146|300=>147|301=>148|328=>172|329=>173|330=>174|331=>175|332=>176|215=>125|343=>201|n=>n,λ|28=>39|3=>3|46=>175|0=>0|51=>200|53=>203|4=>4|183=>208|182=>207|131=>213|5=>5|9=>9|218=>231|222=>235|228=>262|229=>263|n=>n,λ|n=>n⟩
theorem Tryz.OY:Go.Proofs.Lays.n189 Tryz.prog Tryz.afn:={
 mixed:=by kernel_rfl
 f125:=Tryz.func123.trans jH
 f128:=Tryz.func149.trans jH
 f129:=Tryz.func150.trans jH
 f189:=Tryz.func80.trans jH
 f215:=Tryz.func125.trans jH
 f216:=Tryz.func146.trans jH
 f257:=Tryz.func122.trans jH
 f294:=Tryz.func140.trans jH
 f295:=Tryz.func141.trans jH
 f296:=Tryz.func142.trans jH
 f297:=Tryz.func143.trans jH
 f298:=Tryz.func144.trans jH
 f299:=Tryz.func145.trans jH
 f300:=Tryz.func147.trans jH
 f301:=Tryz.func148.trans jH
 f328:=Tryz.func172.trans jH
 f329:=Tryz.func173.trans jH
 f330:=Tryz.func174.trans jH
 f331:=Tryz.func175.trans jH
 f332:=Tryz.func176.trans jH
 f343:=Tryz.func201.trans jH
 t0:=Tryz.underlying0
 a0:=Tryz.isAgg0
 z0:=Tryz.sizeOf0
 v0:=Tryz.zeroValue0
 t3:=Tryz.underlying3
 a3:=Tryz.isAgg3
 z3:=Tryz.sizeOf3
 v3:=Tryz.zeroValue3
 t4:=Tryz.underlying4
 a4:=Tryz.isAgg4
 z4:=Tryz.sizeOf4
 v4:=Tryz.zeroValue4
 t5:=Tryz.underlying5
 a5:=Tryz.isAgg5
 z5:=Tryz.sizeOf5
 v5:=Tryz.zeroValue5
 t9:=Tryz.underlying9
 a9:=Tryz.isAgg9
 z9:=Tryz.sizeOf9
 v9:=Tryz.zeroValue9
 t28:=Tryz.underlying39
 a28:=Tryz.isAgg39
 z28:=Tryz.sizeOf39
 v28:=Tryz.zeroValue39
 t46:=Tryz.underlying175
 a46:=Tryz.isAgg175
 z46:=Tryz.sizeOf175
 v46:=Tryz.zeroValue175
 t51:=Tryz.underlying200
 a51:=Tryz.isAgg200
 z51:=Tryz.sizeOf200
 v51:=Tryz.zeroValue200
 t53:=Tryz.underlying203
 a53:=Tryz.isAgg203
 z53:=Tryz.sizeOf203
 v53:=Tryz.zeroValue203
 t131:=Tryz.underlying213
 a131:=Tryz.isAgg213
 z131:=Tryz.sizeOf213
 v131:=Tryz.zeroValue213
 t182:=Tryz.underlying207
 a182:=Tryz.isAgg207
 z182:=Tryz.sizeOf207
 v182:=Tryz.zeroValue207
 t183:=Tryz.underlying208
 a183:=Tryz.isAgg208
 z183:=Tryz.sizeOf208
 v183:=Tryz.zeroValue208
 t218:=Tryz.underlying231
 a218:=Tryz.isAgg231
 z218:=Tryz.sizeOf231
 v218:=Tryz.zeroValue231
 t222:=Tryz.underlying235
 a222:=Tryz.isAgg235
 z222:=Tryz.sizeOf235
 v222:=Tryz.zeroValue235
 t228:=Tryz.underlying262
 a228:=Tryz.isAgg262
 z228:=Tryz.sizeOf262
 v228:=Tryz.zeroValue262
 t229:=Tryz.underlying263
 a229:=Tryz.isAgg263
 z229:=Tryz.sizeOf263
 v229:=Tryz.zeroValue263}
end
end Go.Proofs
namespace Go.al.R1
section
open Go.Proofs
@[irreducible]def e(f:Nat):aV:=((Tryz.prog.funcs[f]?).bind (pP Tryz.prog)).getD .none
theorem afo:Tryz.prog.funcs.toList.all (λfn=>!(fn.name== "runtime.NumGoroutine"))=true:=by kernel_rfl
theorem afp{P:Program}{fn:Func}{a:aV}(h:pP P fn=some a):∃c d b,a=.code c d b:=by unfold pP at h;simp only[afN,ab1,ahZ,abv]at h;obtain⟨_,_,_,_,_,_,rfl⟩:=h;exact⟨_,_,_,rfl⟩
theorem o(f:Nat):me Tryz.prog f (e f):=by unfold e;cases c:Tryz.prog.funcs[f]? with|none=>trivial|some fn=>simp only[ajq];cases d:pP Tryz.prog fn with|none=>trivial|some a=>obtain⟨g,h,b,rfl⟩:=afp d;refine⟨fn,c,d,?_⟩;have:=ai8.1 afo fn (Array.mem_toList_iff.2 (Array.mem_of_getElem? c));simpa using this
theorem afq:me Tryz.prog 80 (.fF pZ):=Ti ⟨⟨Tryz.f80,Tryz.func80,by kernel_rfl,by kernel_rfl⟩⟩ (λaE off cap a w h1 h2 h3=>Any.slices_Sort_int Tryz.OY aE off cap a w h1 h2 h3) (λp cap w=>Any.slices_Sort_int_none Tryz.OY p cap w)
def afr:List (Nat×aV):=[(28,.code 6 [.tmp (sl 2)] (ER 56 48)),(56,.code 4 [.tmp (sl 2)] (Bz 97 69)),(48,.code 9 [.tmp (sl 2)] (By 79 80)),(80,.fF pZ),(79,.code 5 [.tmp (sl 2)] (zg 121)),(121,.code 13 [.tmp (sl 4)] (uD 39)),(97,.code 14 [] BA)]
theorem bI{n:Nat}{a:aV}(h:e n=a):me Tryz.prog n a:=Eq.mp (congrArg (me Tryz.prog n) h) (o n)
theorem afs:iX Tryz.prog (w6 afr):=zh (ET ⟨bI (by kernel_rfl),bI (by kernel_rfl),bI (by kernel_rfl),afq,bI (by kernel_rfl),bI (by kernel_rfl),bI (by kernel_rfl),trivial⟩)
theorem afu:me Tryz.prog 28 (.fF ut):=TA afs (listF:=28) (keysF:=56) (sortedF:=48) (sortF:=80) (collF:=79) (appF:=121) (iterF:=97) (e1:=69) (e2:=39) rfl rfl rfl rfl rfl rfl rfl
theorem afv:me Tryz.prog 126 (.fF uu):=TB Tryz.func126 (by kernel_rfl) (by kernel_rfl) (by kernel_rfl) (by kernel_rfl)
theorem OZ:iX Tryz.prog (mY 168 169):=TC (bI (by kernel_rfl)) (bI (by kernel_rfl))
def O8:List (Nat×aV):=[(28,.fF ut),(126,.fF uu),(1001,.dL sK),(1002,.dL wR),(1003,.dL Bn),(1004,.dL (Bp 168)),(1005,.dL (Bq 168))]
theorem afw:iX Tryz.prog (w6 O8):=zh (ET ⟨afu,afv,JJ,Tf,SP,SX (by decide) OZ,SY (by decide) OZ,trivial⟩)
def x9:Nat->(Nat->aV)->az aV
 |0,_=>.aR
 |d+1,f=>.node (x9 d λm=>f (2*m+1)) (f 0) (x9 d λm=>f (2*m+2))
theorem Hh:∀(d:Nat)(f:Nat->aV)(n:Nat),(x9 d f).bp .none n=f n\/(x9 d f).bp .none n=.none
 |0,_,_=>.inr rfl
 |_+1,_,0=>.inl rfl
 |d+1,f,n+1=>by
  simp only[x9,az.bp];split;·have:=Hh d (λm=>f (2*m+1)) (n/2);simpa only[show 2*(n/2)+1=n+1 by omega]using this
  have:=Hh d (λm=>f (2*m+2)) (n/2);simpa only[show 2*(n/2)+2=n+1 by omega]using this
def Ar(f:Nat):aV:=match w6 O8 f with
 |.none=>e f
 |a=>a
theorem afx{P:Program}{ab:Nat->aV}(a:iX P ab)(f:Nat):me P f (ab f):=by cases h:ab f with|none=>trivial|code b c body=>exact a.code f b c body h|fF g=>exact a.fF f g h|dL g=>exact a.dL f g h
def lH:az aV:=x9 10 Ar
theorem O9(f:Nat):me Tryz.prog f (Ar f):=by
 have:=afx afw f;unfold Ar;split;·exact o f
 exact this
theorem Hi:iX Tryz.prog (lH.bp .none):=zh λf=>by
 rcases Hh 10 Ar f with h|h<;>rw[lH,h];·exact O9 f
 trivial
end
end Go.al.R1
namespace Go.al
section
variable[Ov]
section
variable{P:Program}{nt:Nat}
def fP(P:Program)(nt:Nat)(c:bm)(fr:Fr)(H:ai)(K:bY->Fr->ai->Prop):Prop:=
 ∀{e:b8}{d:aM}{w:World}{cc:Code}{b:Frame}{a:Act},dH P nt cc=some c->gf d nt fr b.roundOf a->bo P e d H w->∀(k:List Item)(cs:List Frame),gP P e d nt w b k cs (lone (b.atR a (.code cc::k)) cs w) K
theorem fP.run{ab:Nat->aV}(a:iX P ab){n:Nat}{c:bm}{fr:Fr}{H:ai}{K:bY->Fr->ai->Prop}(he:exec False cV ab n c fr H K):fP P nt c fr H K:=λb d e k cs=>(yS a n).2.1 b he d e k cs
theorem fP.ph{c:bm}{ac d:az AV}{m:List ah}{r:Option ah}{H Hs:ai}{K:bY->Fr->ai->Prop}(j:Hs.next=H.next)(hs:∀i,Hs.get i=.none\/Hs.get i=H.get i)(l:∀t,t<nt->d.get .ajS (ah.cG t)=.bM\/d.get .ajS (ah.cG t)=ac.get .ajS (ah.cG t))(h:fP P nt c ⟨d,m,r⟩ Hs K):fP P nt c ⟨ac,m,r⟩ H K:=by
 intro p q w cc b a n f o k cs;refine h n ⟨⟨f.E.1,λt g=>?_⟩,f.D,f.R⟩ (o.sub j λi=>(hs i).symm) k cs;rcases l t g with e|e;·simp[e,VR,undef,ah.cG]
 rw[e];exact f.E.2 t g
theorem fP.seq{x y:bm}{fr:Fr}{H:ai}{K1 K:bY->Fr->ai->Prop}(h1:fP P nt x fr H K1)(h2:∀j d H',K1 j d H'->j=.none/\fP P nt y d H' K):fP P nt (.seq x y) fr H K:=by
 intro D E w cc b a c u v k cs;induction cc generalizing k with
 |scope x z=>simp only[dH]at c;have⟨j,d,H',e,p,w',t,f,g,i,m,n,o,q⟩:=z c (.inScope x::k);refine .gI (.one IS) (.gI q ?_);cases j with|none=>rw[show t=.inScope x::k from o];exact .gI (.one IT) ⟨.none,d,H',e,p,w',k,f,g,i,m,n,rfl,Steps.refl _ _⟩|exit id=>exact⟨.exit id,d,H',e,p,w',t,f,g,i,m,n,o.pT (λ_ _=>rfl) trivial,Steps.refl _ _⟩|ret=>exact⟨.ret,d,H',e,p,w',t,f,g,i,m,n,o.pT (λ_ _=>rfl) trivial,Steps.refl _ _⟩
 |seq F r _ _=>
  simp only[dH]at c;split at c
  .rename_i G I A B;injection c with c;split at c;·cases c
   injection c with e1 e2;subst e1;subst e2;have⟨j,d,H',e,p,w',t,f,g,i,m,n,o,q⟩:=h1 A u v (.code r::k) cs;obtain⟨rfl,C⟩:=h2 j d H' f;refine .gI (.one stepR_seq) (.gI q ?_);rw[show t=.code r::k from o];exact .sD g n (C B i m k cs)
  cases c
 |region id aB s=>simp only[dH,af0]at c;obtain⟨_,_,h⟩:=c;cases h
 |skip=>simp[dH]at c
 |label l=>simp[dH]at c
 |cond c0 x y _ _=>simp only[dH]at c;split at c<;>simp at c
 |block id x _=>simp only[dH,af0]at c;obtain⟨_,_,h⟩:=c;cases h
 |loop x _=>simp only[dH,af0]at c;obtain⟨_,_,h⟩:=c;cases h
 |_=>simp[dH]at c<;>(try(split at c<;>simp at c))
theorem afy{ab:Nat->aV}(K:iX P ab){f:Nat}{rs:List gE}{body:bm}(hg:ab f=.code nt rs body){H:ai}{v:AV}{args:List AV}(hl:args.length<=nt)(he:fP P nt body ⟨jf args .xH .aR,[],none⟩ H λj fr H'=>(match j with|.exit _=>False|_=>True)/\fr.bA=[]/\∃l,fc fr.ac H' rs=some l/\v=fZ l){F:b8}{p:aM}{w:World}{argv:Array Value}(L:aZ p args argv.toList)(M:bo P F p H w):Calls P f argv w λe w'=>∃H' c,e=.returned c/\cI P F p w v H' c w':=by
 intro cs;have⟨fn,k,m,B⟩:=K.code f nt rs body hg;simp only[pP,afN,ab1,ahZ,abv,aV.code.injEq]at m;have⟨cc,r,C,i,Z,s,e1,e2,N⟩:=m;subst e1;subst e2;subst N;let b:Frame:={(default:Frame)with fn:=f,kind:=.normal};let a:Act:={tmps:=argv++ajI (fn.ntmps - argv.size) undef,defers:=[]};have g:Frame.enter P f argv .normal=b.atR a [.code cc]:=by simp only[Frame.enter,Frame.atR,k,r,b,a,aip,aiX,ajq];rfl
 have O:gf p fn.ntmps ⟨jf args .xH .aR,[],none⟩ b.roundOf a:=⟨D9 L hl,trivial,trivial⟩;have⟨j,u,H',x,q,w',t,⟨h0,y,l,z,A⟩,h2,h3,Q,R,G,S⟩:=he i O M [] cs;have n:∃h:Frame,h={b.atR q h.todo with mode:=.returning}/\step P (lone (b.atR q t) cs w')=.next (lone h cs w'):=by cases j with|none=>rw[show t=[]from G];exact⟨_,rfl,stepR_end rfl⟩|exit id=>exact h0.elim|ret=>obtain⟨k0,rfl⟩:=G;exact⟨_,rfl,stepR_ret rfl⟩
 have⟨h,d,de⟩:=n;have T:iw H' u.bA=some H':=by rw[y];rfl
 have o:h={h with defers:=q.defers}:=by rw[d];rfl
 have⟨V,I,J,W⟩:=A6 Q h3.D T h cs (by rw[d]);rw[<-o]at I;have⟨c,X,Y⟩:=Eb J h3.E s z;subst A;refine⟨.returned c,V,{h with defers:=[]},⟨H',c,rfl,x,h2,Y,J,R.trans W⟩,?_,?_,?_⟩;·rw[g];exact S.trans (.head de I)
 .rw[d];rfl
 refine⟨by rw[d],rfl,by rw[d];rfl,fn,by rw[d];exact k,?_⟩;rw[d];exact X
abbrev LV:=List (ah×AV)
abbrev LO:=List (ah×bP)
def Hj:LV->az AV->Prop
 |[],_=>True
 |(p,v)::l,e=>e.get .ajS p=v/\Hj l e
def Hk:LO->ai->Prop
 |[],_=>True
 |(p,o)::l,H=>H.get p=o/\Hk l H
def Hl:LV->Prop
 |[]=>True
 |(_,v)::l=>v=v/\Hl l
def Hm:LO->Prop
 |[]=>True
 |(_,o)::l=>o=o/\Hm l
theorem O':∀l,Hl l|[]=>trivial|_::l=>⟨rfl,O' l⟩
theorem Pa:∀l,Hm l|[]=>trivial|_::l=>⟨rfl,Pa l⟩
def At(L:LV)(O:LO)(X:ah)(j:bY)(fr:Fr)(H:ai):Prop:=j=.none/\fr.bA=[]/\fr.bz=none/\H.next=X/\Hj L fr.ac/\Hk O H
def sf(L:LV)(O:LO)(X:ah):Prop:=bY.none=bY.none/\([]:List ah)=[]/\(none:Option ah)=none/\X=X/\Hl L/\Hm O
theorem afz(L:LV)(O:LO)(X:ah):sf L O X:=⟨rfl,rfl,rfl,rfl,O' L,Pa O⟩
def jt:Nat->az AV
 |0=>.aR
 |n+1=>.node (jt n) .bM (jt n)
def jp:LV->az AV
 |[]=>jt 8
 |(p,v)::l=>(jp l).set .ajS p v
def iF:LO->az bP
 |[]=>.aR
 |(p,o)::l=>(iF l).set .none p o
theorem Hn:∀(n:Nat)(p:ah),p.am<2^n->(jt n).get .ajS p=.bM
 |0,p,h=>by grind[ah.ri]
 |n+1,.xH,_=>rfl
 |n+1,.xO p,h=>by
  have:p.am<2^n:=by simp only[ah.am]at h;rw[Nat.pow_succ]at h;omega
  exact Hn n p this
 |n+1,.xI p,h=>by
  have:p.am<2^n:=by simp only[ah.am]at h;rw[Nat.pow_succ]at h;omega
  exact Hn n p this
theorem Pb{q:ah}(a:q.am<256):∀{L:LV}{e:az AV},Hj L e->(jp L).get .ajS q=.bM\/(jp L).get .ajS q=e.get .ajS q
 |[],e,_=>.inl (Hn 8 q (by simpa using a))
 |(p,v)::l,e,h=>by
  simp only[jp,az.aF];split;·rename_i b;right;rw[b,h.1]
  exact Pb a h.2
theorem ai.Ho:∀q:ah,(az.aR:az bP).get .none q=.none|.xH=>rfl|.xO p=>ai.Ho p|.xI p=>ai.Ho p
theorem Pc{q:ah}:∀{O:LO}{H:ai},Hk O H->(iF O).get .none q=.none\/(iF O).get .none q=H.get q
 |[],H,_=>.inl (ai.Ho q)
 |(p,o)::l,H,h=>by
  simp only[iF,az.aF];split;·rename_i a;right;rw[a,h.1]
  exact Pc h.2
theorem fP.at{c:bm}{K:bY->Fr->ai->Prop}{L:LV}{O:LO}{X:ah}{j:bY}{fr:Fr}{H:ai}(f:nt<=255)(h:At L O X j fr H)(a:fP P nt c ⟨jp L,[],none⟩ ⟨iF O,X⟩ K):j=.none/\fP P nt c fr H K:=by have⟨h1,h2,h3,b,d,e⟩:=h;have⟨ac,m,r⟩:=fr;subst h2;subst h3;exact⟨h1,fP.ph (Hs:=⟨iF O,X⟩) b.symm (λi=>show(iF O).get .none i=.none\/(iF O).get .none i=H.get i from Pc e) (λt g=>Pb (by grind[ah.kA]) d) a⟩
end
section
variable{P:Program}
def As(args:List AV)(H:ai):Option (AV×ai):=
 match args with
 |[]=>some (.bool true,H)
 |_=>none
theorem afA{f n:Nat}(p:EO P f)(q:P.globals.size=n)(h:∀{d:b8}{a:aM}{w:World},bo P d a ⟨.aR,ah.cG n⟩ w->Calls P f #[] w λe w'=>∃H' c,e=.returned c/\cI P d a w (.bool true) H' c w'):uk P f As:=by
 intro d a H H' w args v argv hg r g fr cs hat;unfold As at hg;split at hg;case h_2=>cases hg
 injection hg with hg;injection hg with j k;subst j;subst k;obtain⟨l⟩:=argv;cases l with
 |cons _ _=>simp[aZ]at r
 |nil=>
  have m:n<=w.heap.size:=by cases n with|zero=>exact Nat.zero_le _|succ n=>exact g.d8 _ _ _ (g.kC n (by omega))
  refine EP p (h (TF q m)) ?_ fr cs hat;rintro e w'⟨H',c,rfl,s,u,o,t,b⟩;refine⟨c,rfl,a,bZ.refl a,?_,?_⟩;·cases c<;>simp only[VR]at o⊢;exact o
  refine bo.grow g (os:=w'.heap.extract w.heap.size w'.heap.size) ?_ b.os b.tape b.output;apply Array.ext_getElem?;intro i;rw[Array.getElem?_append];split;·rename_i hi;exact b.block i hi (by show¬(w.heap.size<=i);omega)
  rename_i hi;rw[Array.getElem?_extract];split;·congr 1;omega
  rw[ai3 (by omega)]
end
end
end Go.al
namespace Go.al.R1
section
open Go.al Go.al.R
def hd:bm->bm
 |.seq a _=>a
 |c=>c
def tl:bm->bm
 |.seq _ b=>b
 |c=>c
def b5:bm:=match e 5 with
 |.code _ _ b=>b
 |_=>.skip
def zz:Nat->Nat->ah
 |0,_=>.xH
 |k+1,n=>bif ah8 n 1 then .xH else bif ah8 (n % 2) 1 then .xI (zz k (n/2))else .xO (zz k (n/2))
abbrev z:=zz 20
def L0:LV:=[]
def O0:LO:=[]
def X0:ah:=ah.cG 6
def c0:bm:=tl b5
def c1:bm:=tl c0
def c2:bm:=tl c1
def c3:bm:=tl c2
def c4:bm:=tl c3
def c5:bm:=tl c4
def c6:bm:=tl c5
def c7:bm:=tl c6
def L1:LV:=[(p1,(.slice (z 1737) 0 3 3 false)),(p2,(i 3 0))]++L0
def O1:LO:=[(z 1735,.cells (.node (.node .aR (i 3 4) .aR) (i 3 3) (.node .aR (i 3 6) .aR)) 3 3 true [] 0),(z 1729,.cells (.node (.node .aR (i 3 4) .aR) (i 3 3) .aR) 2 3 true [] 0),(z 1732,.cells (.node (.node .aR (i 3 4) .aR) (i 3 3) (.node .aR (i 3 5) .aR)) 3 3 true [] 0),(z 1737,.cells (.node (.node .aR (.slice (z 1732) 0 3 3 false) .aR) (.slice (z 1729) 0 2 2 false) (.node .aR (.slice (z 1735) 0 3 3 false) .aR)) 3 39 true [z 1734,z 1731] 0)]++O0
def X1:ah:=z 1738
def L2:LV:=[(p3,(.slice (z 3496) 0 7 7 false)),(p4,(i 3 0))]++L1
def O2:LO:=[(z 3494,.cells (.node (.node .aR (i 3 10) .aR) (i 3 7) .aR) 2 3 true [] 0),(z 3482,.cells (.node (.node .aR (i 3 7) .aR) (i 3 3) .aR) 2 3 true [] 0),(z 3488,.cells (.node (.node .aR (i 3 7) .aR) (i 3 3) (.node .aR (i 3 9) .aR)) 3 3 true [] 0),(z 3476,.cells (.node (.node .aR (i 3 4) .aR) (i 3 3) .aR) 2 3 true [] 0),(z 3491,.cells (.node (.node .aR (i 3 10) .aR) (i 3 7) .aR) 2 3 true [] 0),(z 3479,.cells (.node (.node .aR (i 3 4) .aR) (i 3 3) .aR) 2 3 true [] 0),(z 3485,.cells (.node (.node .aR (i 3 7) .aR) (i 3 3) .aR) 2 3 true [] 0),(z 3496,.cells (.node (.node (.node .aR (.slice (z 3485) 0 2 2 false) .aR) (.slice (z 3479) 0 2 2 false) (.node .aR (.slice (z 3491) 0 2 2 false) .aR)) (.slice (z 3476) 0 2 2 false) (.node (.node .aR (.slice (z 3488) 0 3 3 false) .aR) (.slice (z 3482) 0 2 2 false) (.node .aR (.slice (z 3494) 0 2 2 false) .aR))) 7 39 true [z 3493,z 3490,z 3487,z 3484,z 3481,z 3478] 0)]++O1
def X2:ah:=z 3497
def L3:LV:=[(p5,(i 3 3)),(p6,(i 3 0))]++L2
def O3:LO:=[]++O2
def X3:ah:=z 5384
def L4:LV:=[(p7,(.slice (z 7353) 0 13 13 false)),(p8,(i 3 0))]++L3
def O4:LO:=[(z 7333,.cells (.node (.node .aR (i 3 4) .aR) (i 3 3) .aR) 2 3 true [] 0),(z 7345,.cells (.node (.node .aR (i 3 11) .aR) (i 3 7) .aR) 2 3 true [] 0),(z 7321,.cells (.node .aR (i 3 0) .aR) 1 3 true [] 0),(z 7351,.cells (.node .aR (i 3 4) .aR) 1 3 true [] 0),(z 7327,.cells (.node (.node (.node .aR (i 3 12) .aR) (i 3 5) .aR) (i 3 3) (.node .aR (i 3 6) .aR)) 4 3 true [] 0),(z 7339,.cells (.node (.node .aR (i 3 7) .aR) (i 3 3) .aR) 2 3 true [] 0),(z 7315,.cells (.node (.node .aR (i 3 2) .aR) (i 3 1) .aR) 2 3 true [] 0),(z 7330,.cells (.node (.node .aR (i 3 4) .aR) (i 3 3) .aR) 2 3 true [] 0),(z 7342,.cells (.node (.node .aR (i 3 7) .aR) (i 3 3) .aR) 2 3 true [] 0),(z 7318,.cells (.node .aR (i 3 0) .aR) 1 3 true [] 0),(z 7348,.cells (.node (.node .aR (i 3 10) .aR) (i 3 7) .aR) 2 3 true [] 0),(z 7324,.cells (.node (.node (.node .aR (i 3 7) .aR) (i 3 5) (.node .aR (i 3 9) .aR)) (i 3 4) (.node (.node .aR (i 3 8) .aR) (i 3 6) .aR)) 6 3 true [] 0),(z 7336,.cells (.node (.node (.node .aR (i 3 10) .aR) (i 3 8) .aR) (i 3 3) (.node (.node .aR (i 3 11) .aR) (i 3 9) .aR)) 5 3 true [] 0),(z 7353,.cells (.node (.node (.node (.node .aR (.slice (z 7336) 0 5 5 false) .aR) (.slice (z 7324) 0 6 6 false) (.node .aR (.slice (z 7348) 0 2 2 false) .aR)) (.slice (z 7318) 0 1 1 false) (.node (.node .aR (.slice (z 7342) 0 2 2 false) .aR) (.slice (z 7330) 0 2 2 false) .aR)) (.slice (z 7315) 0 2 2 false) (.node (.node (.node .aR (.slice (z 7339) 0 2 2 false) .aR) (.slice (z 7327) 0 4 4 false) (.node .aR (.slice (z 7351) 0 1 1 false) .aR)) (.slice (z 7321) 0 1 1 false) (.node (.node .aR (.slice (z 7345) 0 2 2 false) .aR) (.slice (z 7333) 0 2 2 false) .aR))) 13 39 true [z 7350,z 7347,z 7344,z 7341,z 7338,z 7335,z 7332,z 7329,z 7326,z 7323,z 7320,z 7317] 0)]++O3
def X4:ah:=z 7354
def L5:LV:=[(p9,(.slice (z 9288) 0 13 13 true)),(eM,(i 3 0))]++L4
def O5:LO:=[(z 9288,.cells (.node (.node (.node (.node .aR (i 3 1) .aR) (i 3 0) (.node .aR (i 3 2) .aR)) (i 3 1) (.node (.node .aR (i 3 2) .aR) (i 3 2) .aR)) (i 3 0) (.node (.node (.node .aR (i 3 2) .aR) (i 3 1) (.node .aR (i 3 0) .aR)) (i 3 1) (.node (.node .aR (i 3 0) .aR) (i 3 2) .aR))) 13 3 true [] 0)]++O4
def X5:ah:=z 9331
def L6:LV:=[(eS,(.slice (z 9428) 0 4 4 false)),(ib,(i 3 0))]++L5
def O6:LO:=[(z 9428,.cells (.node (.node (.node (.node .aR (i 3 9) .aR) (i 3 1) .aR) (i 3 0) (.node .aR (i 3 2) .aR)) (i 3 9) (.node (.node .aR (i 3 1) .aR) (i 3 0) (.node .aR (i 3 2) .aR))) 8 61 true [z 9425,z 9422,z 9419] 0)]++O5
def X6:ah:=z 9429
def L7:LV:=[(jA,(.slice (z 9479) 0 2 2 false)),(ic,(i 3 0))]++L6
def O7:LO:=[(z 9479,.cells (.node (.node (.node .aR (i 3 5) .aR) (i 3 0) .aR) (i 3 1) (.node .aR (i 3 0) .aR)) 4 61 true [z 9476] 0)]++O6
def X7:ah:=z 9480
end
end Go.al.R1
end
