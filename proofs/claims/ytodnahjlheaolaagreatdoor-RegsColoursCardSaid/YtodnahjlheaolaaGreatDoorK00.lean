/- A part. No conditions. -/
import Derived.Shelf.Sort.Plain
import Derived.Shelf.Slices.In.SortNone
import Derived.Ground.Names2Prog
import Derived.Test.YtodnahjlheaolaaGreatDoorA09
set_option linter.all false
open Nat renaming beq->ahr
noncomputable section
namespace Go.Proofs
section
open Go.Shelf
theorem krf{a b:Func}(h:a=b:=by kernel_rfl):some a=some b:=congrArg some h
def Tryz.ajH:Go.Shelf.Ren:=⟨λ|189=>83|125=>123|257=>122|128=>149|129=>150|294=>140|295=>141|296=>142|297=>143|298=>144|299=>145|216=>146|300=>147|301=>148|328=>173|329=>174|330=>175|331=>176|332=>177|215=>125|343=>203|n=>n,λ|28=>25|3=>3|46=>150|0=>0|51=>182|53=>185|4=>4|183=>208|182=>207|131=>213|5=>5|9=>9|218=>231|222=>235|228=>263|229=>264|n=>n,λ|n=>n⟩
theorem Tryz.ajv:Go.Proofs.Lays.n189 Tryz.prog Tryz.ajH:={
 mixed:=by kernel_rfl
 f125:=Tryz.func123.trans krf
 f128:=Tryz.func149.trans krf
 f129:=Tryz.func150.trans krf
 f189:=Tryz.func83.trans krf
 f215:=Tryz.func125.trans krf
 f216:=Tryz.func146.trans krf
 f257:=Tryz.func122.trans krf
 f294:=Tryz.func140.trans krf
 f295:=Tryz.func141.trans krf
 f296:=Tryz.func142.trans krf
 f297:=Tryz.func143.trans krf
 f298:=Tryz.func144.trans krf
 f299:=Tryz.func145.trans krf
 f300:=Tryz.func147.trans krf
 f301:=Tryz.func148.trans krf
 f328:=Tryz.func173.trans krf
 f329:=Tryz.func174.trans krf
 f330:=Tryz.func175.trans krf
 f331:=Tryz.func176.trans krf
 f332:=Tryz.func177.trans krf
 f343:=Tryz.func203.trans krf
 t0:=Tryz.underlying0
 a0:=Tryz.isAgg0
 z0:=Tryz.sizeOf0
 v0:=Tryz.zeroValue0
 t3:=Tryz.underlying3
 a3:=Tryz.isAgg3
 z3:=Tryz.sizeOf3
 v3:=Tryz.zeroValue3
 t4:=Tryz.underlying4
 a4:=Tryz.isAgg4
 z4:=Tryz.sizeOf4
 v4:=Tryz.zeroValue4
 t5:=Tryz.underlying5
 a5:=Tryz.isAgg5
 z5:=Tryz.sizeOf5
 v5:=Tryz.zeroValue5
 t9:=Tryz.underlying9
 a9:=Tryz.isAgg9
 z9:=Tryz.sizeOf9
 v9:=Tryz.zeroValue9
 t28:=Tryz.underlying25
 a28:=Tryz.isAgg25
 z28:=Tryz.sizeOf25
 v28:=Tryz.zeroValue25
 t46:=Tryz.underlying150
 a46:=Tryz.isAgg150
 z46:=Tryz.sizeOf150
 v46:=Tryz.zeroValue150
 t51:=Tryz.underlying182
 a51:=Tryz.isAgg182
 z51:=Tryz.sizeOf182
 v51:=Tryz.zeroValue182
 t53:=Tryz.underlying185
 a53:=Tryz.isAgg185
 z53:=Tryz.sizeOf185
 v53:=Tryz.zeroValue185
 t131:=Tryz.underlying213
 a131:=Tryz.isAgg213
 z131:=Tryz.sizeOf213
 v131:=Tryz.zeroValue213
 t182:=Tryz.underlying207
 a182:=Tryz.isAgg207
 z182:=Tryz.sizeOf207
 v182:=Tryz.zeroValue207
 t183:=Tryz.underlying208
 a183:=Tryz.isAgg208
 z183:=Tryz.sizeOf208
 v183:=Tryz.zeroValue208
 t218:=Tryz.underlying231
 a218:=Tryz.isAgg231
 z218:=Tryz.sizeOf231
 v218:=Tryz.zeroValue231
 t222:=Tryz.underlying235
 a222:=Tryz.isAgg235
 z222:=Tryz.sizeOf235
 v222:=Tryz.zeroValue235
 t228:=Tryz.underlying263
 a228:=Tryz.isAgg263
 z228:=Tryz.sizeOf263
 v228:=Tryz.zeroValue263
 t229:=Tryz.underlying264
 a229:=Tryz.isAgg264
 z229:=Tryz.sizeOf264
 v229:=Tryz.zeroValue264}
end
end Go.Proofs
namespace Go.al.ake
section
open Go.Proofs
@[irreducible]def e(f:Nat):aX:=((Tryz.prog.funcs[f]?).bind (yU Tryz.prog)).getD .none
theorem ajI:Tryz.prog.funcs.toList.all (λfn=>!(fn.name== "runtime.NumGoroutine"))=true:=by kernel_rfl
theorem ajJ{P:Program}{fn:Func}{a:aX}(h:yU P fn=some a):∃c d b,a=.code c d b:=by unfold yU at h;simp only[aeX,abF,ahe,aa9]at h;obtain⟨_,_,_,_,_,_,rfl⟩:=h;exact⟨_,_,_,rfl⟩
theorem o(f:Nat):xw Tryz.prog f (e f):=by unfold e;cases c:Tryz.prog.funcs[f]? with|none=>trivial|some fn=>simp only[aiS];cases d:yU Tryz.prog fn with|none=>trivial|some a=>obtain⟨g,h,b,rfl⟩:=ajJ d;refine⟨fn,c,d,?_⟩;have:=aiv.1 ajI fn (Array.mem_toList_iff.2 (Array.mem_of_getElem? c));simpa using this
theorem ajK:xw Tryz.prog 83 (.ji tb):=afg ⟨⟨Tryz.f83,Tryz.func83,by kernel_rfl,by kernel_rfl⟩⟩ (λaE off cap b w h1 h2 h3=>Any.slices_Sort_int Tryz.ajv aE off cap b w h1 h2 h3) (λp cap w=>Any.slices_Sort_int_none Tryz.ajv p cap w)
def ajL:List (Nat×aX):=[(39,.code 6 [.tmp (sl 2)] (JS 77 53)),(77,.code 4 [.tmp (sl 2)] (ES 120 85)),(53,.code 9 [.tmp (sl 2)] (ER 82 83)),(83,.ji tb),(82,.code 5 [.tmp (sl 2)] (BH 121)),(121,.code 13 [.tmp (sl 4)] (xu 25)),(120,.code 14 [] ET)]
theorem bH{n:Nat}{a:aX}(h:e n=a):xw Tryz.prog n a:=Eq.mp (congrArg (xw Tryz.prog n) h) (o n)
theorem ajM:lI Tryz.prog (EV ajL):=SK (SL ⟨bH (by kernel_rfl),bH (by kernel_rfl),bH (by kernel_rfl),ajK,bH (by kernel_rfl),bH (by kernel_rfl),bH (by kernel_rfl),trivial⟩)
theorem ajN:xw Tryz.prog 39 (.ji zB):=afh ajM (listF:=39) (keysF:=77) (sortedF:=53) (sortF:=83) (collF:=82) (appF:=121) (iterF:=120) (e1:=85) (e2:=25) rfl rfl rfl rfl rfl rfl rfl
theorem ajO:xw Tryz.prog 139 (.ji zC):=afi Tryz.func139 (by kernel_rfl) (by kernel_rfl) (by kernel_rfl) (by kernel_rfl)
theorem ajw:lI Tryz.prog (nU 166 167):=afj (bH (by kernel_rfl)) (bH (by kernel_rfl))
def ajx:List (Nat×aX):=[(39,.ji zB),(139,.ji zC),(1001,.eH uy),(1002,.eH zy),(1003,.eH zx),(1004,.eH (EA 166)),(1005,.eH (EB 166))]
theorem ajP:lI Tryz.prog (EV ajx):=SK (SL ⟨ajN,ajO,R7,aff,afc,afd (by decide) ajw,afe (by decide) ajw,trivial⟩)
def tre:Nat->(Nat->aX)->az aX
 |0,_=>.ch
 |d+1,f=>.node (tre d λm=>f (2*m+1)) (f 0) (tre d λm=>f (2*m+2))
theorem ajm:∀(d:Nat)(f:Nat->aX)(n:Nat),(tre d f).br .none n=f n\/(tre d f).br .none n=.none
 |0,_,_=>.inr rfl
 |_+1,_,0=>.inl rfl
 |d+1,f,n+1=>by
  simp only[tre,az.br];split;·have:=ajm d (λm=>f (2*m+1)) (n/2);simpa only[show 2*(n/2)+1=n+1 by omega]using this
  have:=ajm d (λm=>f (2*m+2)) (n/2);simpa only[show 2*(n/2)+2=n+1 by omega]using this
def ajh(f:Nat):aX:=match EV ajx f with
 |.none=>e f
 |a=>a
theorem ajQ{P:Program}{ac:Nat->aX}(a:lI P ac)(f:Nat):xw P f (ac f):=by cases h:ac f with|none=>trivial|code b c body=>exact a.code f b c body h|ji g=>exact a.ji f g h|eH g=>exact a.eH f g h
def ajd:az aX:=tre 10 ajh
theorem ajy(f:Nat):xw Tryz.prog f (ajh f):=by
 have:=ajQ ajP f;unfold ajh;split;·exact o f
 exact this
theorem ajn:lI Tryz.prog (ajd.br .none):=SK λf=>by
 rcases ajm 10 ajh f with h|h<;>rw[ajd,h];·exact ajy f
 trivial
end
end Go.al.ake
namespace Go.al
variable{A:cC->Fr->ai->Prop}{B:Program}{f n nt:Nat}{C Hs:ai}{F H body:bw}{D:Fr}{E:ah}
section
variable[Ov]
def ai9(B:Program)(f:Nat)(c:bw)(fr:Fr)(H:ai)(K:cC->Fr->ai->Prop):Prop:=
 ∀{e:cq}{d:aP}{w:World}{cc:Code}{b:Frame}{a:Act},eJ B f cc=some c->gI d f fr b.roundOf a->bm B e d H w->∀(k:List Item)(cs:List Frame),gY B e d f w b k cs (lone (b.atR a (.code cc::k)) cs w) K
theorem ai9.run{ac:Nat->aX}(a:lI B ac)(he:exec False da ac n F D C A):ai9 B f F D C A:=λb c d k cs=>(Br a n).2.1 b he c d k cs
theorem ai9.rP{af c:az AV}{m:List ah}{r:Option ah}(j:Hs.next=C.next)(hs:∀i,Hs.get i=.none\/Hs.get i=C.get i)(l:∀t,t<f->c.get .ai8 (ah.cV t)=.bQ\/c.get .ai8 (ah.cV t)=af.get .ai8 (ah.cV t))(h:ai9 B f F ⟨c,m,r⟩ Hs A):ai9 B f F ⟨af,m,r⟩ C A:=by
 intro p q w cc b a n d o k cs;refine h n ⟨⟨d.E.1,λt g=>?_⟩,d.D,d.R⟩ (o.sub j λi=>(hs i).symm) k cs;rcases l t g with e|e;·simp[e,VR,undef,ah.cV]
 rw[e];exact d.E.2 t g
theorem ai9.seq{K1:cC->Fr->ai->Prop}(h1:ai9 B f F D C K1)(h2:∀j d g,K1 j d g->j=.none/\ai9 B f H d g A):ai9 B f (.seq F H) D C A:=by
 intro N O w cc b a c y z k cs;induction cc generalizing k with
 |scope F E=>simp only[eJ]at c;have⟨j,d,g,e,r,s,t,i,m,n,o,p,q,u⟩:=E c (.inScope F::k);refine .iN (.one Qu) (.iN u ?_);cases j with|none=>rw[show t=.inScope F::k from q];exact .iN (.one Qv) ⟨.none,d,g,e,r,s,k,i,m,n,o,p,rfl,Steps.refl _ _⟩|exit id=>exact⟨.exit id,d,g,e,r,s,t,i,m,n,o,p,q.sN (λ_ _=>rfl) trivial,Steps.refl _ _⟩|ret=>exact⟨.ret,d,g,e,r,s,t,i,m,n,o,p,q.sN (λ_ _=>rfl) trivial,Steps.refl _ _⟩
 |seq Q v _ _=>
  simp only[eJ]at c;split at c
  .rename_i R S G I;injection c with c;split at c;·cases c
   injection c with J L;subst J;subst L;have⟨j,d,g,e,r,s,t,i,m,n,o,p,q,u⟩:=h1 G y z (.code v::k) cs;obtain⟨rfl,M⟩:=h2 j d g i;refine .iN (.one stepR_seq) (.iN u ?_);rw[show t=.code v::k from q];exact .wP m p (M I n o k cs)
  cases c
 |region id aA x=>simp only[eJ,ae2]at c;obtain⟨_,_,h⟩:=c;cases h
 |skip=>simp[eJ]at c
 |label l=>simp[eJ]at c
 |cond c0 F H _ _=>simp only[eJ]at c;split at c<;>simp at c
 |block id F _=>simp only[eJ,ae2]at c;obtain⟨_,_,h⟩:=c;cases h
 |loop F _=>simp only[eJ,ae2]at c;obtain⟨_,_,h⟩:=c;cases h
 |_=>simp[eJ]at c<;>(try(split at c<;>simp at c))
theorem ajR{ac:Nat->aX}(O:lI B ac){rs:List gO}(hg:ac f=.code nt rs body){v:AV}{args:List AV}(hl:args.length<=nt)(he:ai9 B nt body ⟨jL args .xH .ch,[],none⟩ C λj fr k=>(match j with|.exit _=>False|_=>True)/\fr.bA=[]/\∃l,fH fr.af k rs=some l/\v=gC l){K:cq}{r:aP}{w:World}{d:Array Value}(Q:be r args d.toList)(R:bm B K r C w):Calls B f d w λe s=>∃k c,e=.returned c/\cM B K r w v k c s:=by
 intro cs;have⟨fn,n,o,I⟩:=O.code f nt rs body hg;simp only[yU,aeX,abF,ahe,aa9,aX.code.injEq]at o;have⟨cc,x,J,m,ag,y,S,T,V⟩:=o;subst S;subst T;subst V;let b:Frame:={(default:Frame)with fn:=f,kind:=.normal};let a:Act:={tmps:=d++Array.replicate (fn.ntmps - d.size) undef,defers:=[]};have h:Frame.enter B f d .normal=b.atR a [.code cc]:=by simp only[Frame.enter,Frame.atR,n,x,b,a,ahQ,aii,aiS];rfl
 have W:gI r fn.ntmps ⟨jL args .xH .ch,[],none⟩ b.roundOf a:=⟨IH Q hl,trivial,trivial⟩;have⟨j,z,k,A,u,s,t,⟨h0,F,l,G,H⟩,h2,h3,X,Y,L,Z⟩:=he m W R [] cs;have p:∃i:Frame,i={b.atR u i.todo with mode:=.returning}/\step B (lone (b.atR u t) cs s)=.next (lone i cs s):=by cases j with|none=>rw[show t=[]from L];exact⟨_,rfl,stepR_end rfl⟩|exit id=>exact h0.elim|ret=>obtain⟨k0,rfl⟩:=L;exact⟨_,rfl,stepR_ret rfl⟩
 have⟨i,g,dg⟩:=p;have hm:iI k z.bA=some k:=by rw[F];rfl
 have q:i={i with defers:=u.defers}:=by rw[g];rfl
 have⟨w2,M,N,s3⟩:=D8 X h3.D hm i cs (by rw[g]);rw[<-q]at M;have⟨c,hc,hv⟩:=IJ N h3.E y G;subst H;refine⟨.returned c,w2,{i with defers:=[]},⟨k,c,rfl,A,h2,hv,N,Y.trans s3⟩,?_,?_,?_⟩;·rw[h];exact Z.trans (.head dg M)
 .rw[g];rfl
 refine⟨by rw[g],rfl,by rw[g];rfl,fn,by rw[g];exact n,?_⟩;rw[g];exact hc
abbrev akg:=List (ah×AV)
abbrev akh:=List (ah×bR)
def ajo:akg->az AV->Prop
 |[],_=>True
 |(p,v)::l,e=>e.get .ai8 p=v/\ajo l e
def ajp:akh->ai->Prop
 |[],_=>True
 |(p,o)::l,H=>H.get p=o/\ajp l H
def ajq:akg->Prop
 |[]=>True
 |(_,v)::l=>v=v/\ajq l
def ajr:akh->Prop
 |[]=>True
 |(_,o)::l=>o=o/\ajr l
theorem ajz:∀l,ajq l|[]=>trivial|_::l=>⟨rfl,ajz l⟩
theorem ajA:∀l,ajr l|[]=>trivial|_::l=>⟨rfl,ajA l⟩
def aki(L:akg)(O:akh)(X:ah)(j:cC)(fr:Fr)(H:ai):Prop:=j=.none/\fr.bA=[]/\fr.bx=none/\H.next=X/\ajo L fr.af/\ajp O H
def ajf(L:akg)(O:akh)(X:ah):Prop:=cC.none=cC.none/\([]:List ah)=[]/\(none:Option ah)=none/\X=X/\ajq L/\ajr O
theorem ajS(L:akg)(O:akh)(X:ah):ajf L O X:=⟨rfl,rfl,rfl,rfl,ajz L,ajA O⟩
def akx:Nat->az AV
 |0=>.ch
 |n+1=>.node (akx n) .bQ (akx n)
def ajb:akg->az AV
 |[]=>akx 8
 |(p,v)::l=>(ajb l).set .ai8 p v
def aja:akh->az bR
 |[]=>.ch
 |(p,o)::l=>(aja l).set .none p o
theorem ajs:∀(n:Nat)(p:ah),p.ap<2^n->(akx n).get .ai8 p=.bQ
 |0,p,h=>by grind[ah.sE]
 |n+1,.xH,_=>rfl
 |n+1,.xO p,h=>by
  have:p.ap<2^n:=by simp only[ah.ap]at h;rw[Nat.pow_succ]at h;omega
  exact ajs n p this
 |n+1,.xI p,h=>by
  have:p.ap<2^n:=by simp only[ah.ap]at h;rw[Nat.pow_succ]at h;omega
  exact ajs n p this
theorem ajB(a:E.ap<256):∀{L:akg}{e:az AV},ajo L e->(ajb L).get .ai8 E=.bQ\/(ajb L).get .ai8 E=e.get .ai8 E
 |[],e,_=>.inl (ajs 8 E (by simpa using a))
 |(p,v)::l,e,h=>by
  simp only[ajb,az.aG];split;·rename_i b;right;rw[b,h.1]
  exact ajB a h.2
theorem ai.ajt:∀q:ah,(az.ch:az bR).get .none q=.none|.xH=>rfl|.xO p=>ai.ajt p|.xI p=>ai.ajt p
theorem ajC:∀{O:akh}{H:ai},ajp O H->(aja O).get .none E=.none\/(aja O).get .none E=H.get E
 |[],H,_=>.inl (ai.ajt E)
 |(p,o)::l,H,h=>by
  simp only[aja,az.aG];split;·rename_i a;right;rw[a,h.1]
  exact ajC h.2
theorem ai9.at{L:akg}{O:akh}{j:cC}(e:f<=255)(h:aki L O E j D C)(a:ai9 B f F ⟨ajb L,[],none⟩ ⟨aja O,E⟩ A):j=.none/\ai9 B f F D C A:=by have⟨h1,h2,h3,b,c,d⟩:=h;have⟨af,m,r⟩:=D;subst h2;subst h3;exact⟨h1,ai9.rP (Hs:=⟨aja O,E⟩) b.symm (λi=>show(aja O).get .none i=.none\/(aja O).get .none i=C.get i from ajC d) (λt g=>ajB (by grind[ah.kQ]) c) a⟩
variable{P:Program}
def aji(args:List AV)(H:ai):Option (AV×ai):=
 match args with
 |[]=>some (.bool true,H)
 |_=>none
theorem ajT{f n:Nat}(s:JO P f)(t:P.globals.size=n)(h:∀{j:cq}{a:aP}{w:World},bm P j a ⟨.ch,ah.cV n⟩ w->Calls P f #[] w λe d=>∃k c,e=.returned c/\cM P j a w (.bool true) k c d):zc P f aji:=by
 intro j a H k w args v b hg u m fr cs hat;unfold aji at hg;split at hg;case h_2=>cases hg
 injection hg with hg;injection hg with o p;subst o;subst p;obtain⟨l⟩:=b;cases l with
 |cons _ _=>simp[be]at u
 |nil=>
  have q:n<=w.heap.size:=by cases n with|zero=>exact Nat.zero_le _|succ n=>exact m.ef _ _ _ (m.kR n (by omega))
  refine JP s (h (afl t q)) ?_ fr cs hat;rintro e d⟨k,c,rfl,x,z,r,y,g⟩;refine⟨c,rfl,a,b9.refl a,?_,?_⟩;·cases c<;>simp only[VR]at r⊢;exact r
  refine bm.grow m (os:=d.heap.extract w.heap.size d.heap.size) ?_ g.os g.tape g.output;apply Array.ext_getElem?;intro i;rw[Array.getElem?_append];split;·rename_i hi;exact g.block i hi (by show¬(w.heap.size<=i);omega)
  rename_i hi;rw[Array.getElem?_extract];split;·congr 1;omega
  rw[aiq (by omega)]
end
end Go.al
namespace Go.al.ake
section
open Go.al Go.al.R
def hd:bw->bw
 |.seq a _=>a
 |c=>c
def akj:bw->bw
 |.seq _ b=>b
 |c=>c
def b5:bw:=match e 5 with
 |.code _ _ b=>b
 |_=>.skip
def akH:Nat->Nat->ah
 |0,_=>.xH
 |k+1,n=>bif ahr n 1 then .xH else bif ahr (n % 2) 1 then .xI (akH k (n/2))else .xO (akH k (n/2))
abbrev z:=akH 20
def akl:akg:=[]
def akm:akh:=[]
def akk:ah:=ah.cV 6
def c0:bw:=akj b5
def c1:bw:=akj c0
def c2:bw:=akj c1
def c3:bw:=akj c2
def c4:bw:=akj c3
def c5:bw:=akj c4
def c6:bw:=akj c5
def c7:bw:=akj c6
def L1:akg:=[(p1,(.slice (z 1737) 0 3 3 false)),(p2,(i 3 0))]++akl
def akn:akh:=[((z 1735),.cells (.node (.node .ch (i 3 4) .ch) (i 3 3) (.node .ch (i 3 6) .ch)) 3 3 true [] 0),((z 1729),.cells (.node (.node .ch (i 3 4) .ch) (i 3 3) .ch) 2 3 true [] 0),((z 1732),.cells (.node (.node .ch (i 3 4) .ch) (i 3 3) (.node .ch (i 3 5) .ch)) 3 3 true [] 0),((z 1737),.cells (.node (.node .ch (.slice (z 1732) 0 3 3 false) .ch) (.slice (z 1729) 0 2 2 false) (.node .ch (.slice (z 1735) 0 3 3 false) .ch)) 3 25 true [(z 1734),(z 1731)] 0)]++akm
def aky:ah:=z 1738
def L2:akg:=[(p3,(.slice (z 3496) 0 7 7 false)),(p4,(i 3 0))]++L1
def ako:akh:=[((z 3494),.cells (.node (.node .ch (i 3 10) .ch) (i 3 7) .ch) 2 3 true [] 0),((z 3482),.cells (.node (.node .ch (i 3 7) .ch) (i 3 3) .ch) 2 3 true [] 0),((z 3488),.cells (.node (.node .ch (i 3 7) .ch) (i 3 3) (.node .ch (i 3 9) .ch)) 3 3 true [] 0),((z 3476),.cells (.node (.node .ch (i 3 4) .ch) (i 3 3) .ch) 2 3 true [] 0),((z 3491),.cells (.node (.node .ch (i 3 10) .ch) (i 3 7) .ch) 2 3 true [] 0),((z 3479),.cells (.node (.node .ch (i 3 4) .ch) (i 3 3) .ch) 2 3 true [] 0),((z 3485),.cells (.node (.node .ch (i 3 7) .ch) (i 3 3) .ch) 2 3 true [] 0),((z 3496),.cells (.node (.node (.node .ch (.slice (z 3485) 0 2 2 false) .ch) (.slice (z 3479) 0 2 2 false) (.node .ch (.slice (z 3491) 0 2 2 false) .ch)) (.slice (z 3476) 0 2 2 false) (.node (.node .ch (.slice (z 3488) 0 3 3 false) .ch) (.slice (z 3482) 0 2 2 false) (.node .ch (.slice (z 3494) 0 2 2 false) .ch))) 7 25 true [(z 3493),(z 3490),(z 3487),(z 3484),(z 3481),(z 3478)] 0)]++akn
def akz:ah:=z 3497
def akp:akg:=[(p5,(i 3 3)),(p6,(i 3 0))]++L2
def akq:akh:=[]++ako
def akA:ah:=z 5384
def akr:akg:=[(p7,(.slice (z 7353) 0 13 13 false)),(p8,(i 3 0))]++akp
def aks:akh:=[((z 7333),.cells (.node (.node .ch (i 3 4) .ch) (i 3 3) .ch) 2 3 true [] 0),((z 7345),.cells (.node (.node .ch (i 3 11) .ch) (i 3 7) .ch) 2 3 true [] 0),((z 7321),.cells (.node .ch (i 3 0) .ch) 1 3 true [] 0),((z 7351),.cells (.node .ch (i 3 4) .ch) 1 3 true [] 0),((z 7327),.cells (.node (.node (.node .ch (i 3 12) .ch) (i 3 5) .ch) (i 3 3) (.node .ch (i 3 6) .ch)) 4 3 true [] 0),((z 7339),.cells (.node (.node .ch (i 3 7) .ch) (i 3 3) .ch) 2 3 true [] 0),((z 7315),.cells (.node (.node .ch (i 3 2) .ch) (i 3 1) .ch) 2 3 true [] 0),((z 7330),.cells (.node (.node .ch (i 3 4) .ch) (i 3 3) .ch) 2 3 true [] 0),((z 7342),.cells (.node (.node .ch (i 3 7) .ch) (i 3 3) .ch) 2 3 true [] 0),((z 7318),.cells (.node .ch (i 3 0) .ch) 1 3 true [] 0),((z 7348),.cells (.node (.node .ch (i 3 10) .ch) (i 3 7) .ch) 2 3 true [] 0),((z 7324),.cells (.node (.node (.node .ch (i 3 7) .ch) (i 3 5) (.node .ch (i 3 9) .ch)) (i 3 4) (.node (.node .ch (i 3 8) .ch) (i 3 6) .ch)) 6 3 true [] 0),((z 7336),.cells (.node (.node (.node .ch (i 3 10) .ch) (i 3 8) .ch) (i 3 3) (.node (.node .ch (i 3 11) .ch) (i 3 9) .ch)) 5 3 true [] 0),((z 7353),.cells (.node (.node (.node (.node .ch (.slice (z 7336) 0 5 5 false) .ch) (.slice (z 7324) 0 6 6 false) (.node .ch (.slice (z 7348) 0 2 2 false) .ch)) (.slice (z 7318) 0 1 1 false) (.node (.node .ch (.slice (z 7342) 0 2 2 false) .ch) (.slice (z 7330) 0 2 2 false) .ch)) (.slice (z 7315) 0 2 2 false) (.node (.node (.node .ch (.slice (z 7339) 0 2 2 false) .ch) (.slice (z 7327) 0 4 4 false) (.node .ch (.slice (z 7351) 0 1 1 false) .ch)) (.slice (z 7321) 0 1 1 false) (.node (.node .ch (.slice (z 7345) 0 2 2 false) .ch) (.slice (z 7333) 0 2 2 false) .ch))) 13 25 true [(z 7350),(z 7347),(z 7344),(z 7341),(z 7338),(z 7335),(z 7332),(z 7329),(z 7326),(z 7323),(z 7320),(z 7317)] 0)]++akq
def akB:ah:=z 7354
def akt:akg:=[(p9,(.slice (z 9288) 0 13 13 true)),(dS,(i 3 0))]++akr
def aku:akh:=[((z 9288),.cells (.node (.node (.node (.node .ch (i 3 1) .ch) (i 3 0) (.node .ch (i 3 2) .ch)) (i 3 1) (.node (.node .ch (i 3 2) .ch) (i 3 2) .ch)) (i 3 0) (.node (.node (.node .ch (i 3 2) .ch) (i 3 1) (.node .ch (i 3 0) .ch)) (i 3 1) (.node (.node .ch (i 3 0) .ch) (i 3 2) .ch))) 13 3 true [] 0)]++aks
def akC:ah:=z 9331
def akv:akg:=[(eD,(.slice (z 9428) 0 4 4 false)),(gQ,(i 3 0))]++akt
def akw:akh:=[((z 9428),.cells (.node (.node (.node (.node .ch (i 3 9) .ch) (i 3 1) .ch) (i 3 0) (.node .ch (i 3 2) .ch)) (i 3 9) (.node (.node .ch (i 3 1) .ch) (i 3 0) (.node .ch (i 3 2) .ch))) 8 60 true [(z 9425),(z 9422),(z 9419)] 0)]++aku
def akD:ah:=z 9429
def akE:akg:=[(iS,(.slice (z 9479) 0 2 2 false)),(iF,(i 3 0))]++akv
def akF:akh:=[((z 9479),.cells (.node (.node (.node .ch (i 3 5) .ch) (i 3 0) .ch) (i 3 1) (.node .ch (i 3 0) .ch)) 4 60 true [(z 9476)] 0)]++akw
def akG:ah:=z 9480
end
end Go.al.ake
end
