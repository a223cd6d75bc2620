/- A part. No conditions. -/
import Derived.Shelf.Sort.Plain
import Derived.Shelf.Slices.In.SortNone
import Derived.Ground.Names2Prog
import Derived.Test.YtcipmlnpjkngpaaGreatDoorProg
import Derived.Test.YtcipmlnpjkngpaaGreatDoorA05
set_option linter.all false
open Nat renaming beq->aeF
open Array renaming replicate->agk
noncomputable section
namespace Go.Proofs
section
open Go.Shelf
theorem jd{a b:Func}(h:a=b:=by kernel_rfl):some a=some b:=congrArg some h
def Tryz.abY:Go.Shelf.Ren:=⟨λ|189=>82|125=>124|257=>123|128=>203|129=>204|294=>194|295=>195|296=>196|297=>197|298=>198|299=>199|216=>200|300=>201|301=>202|328=>293|329=>294|330=>295|331=>296|332=>297|215=>298|343=>358|n=>n,λ|28=>32|3=>3|46=>207|0=>0|51=>266|53=>269|4=>4|183=>276|182=>275|131=>153|5=>5|9=>9|218=>380|222=>384|228=>412|229=>413|n=>n,λ|n=>n⟩
theorem Tryz.MN:Go.Proofs.Lays.n189 Tryz.prog Tryz.abY:={
 mixed:=by kernel_rfl
 f125:=Tryz.func124.trans jd
 f128:=Tryz.func203.trans jd
 f129:=Tryz.func204.trans jd
 f189:=Tryz.func82.trans jd
 f215:=Tryz.func298.trans jd
 f216:=Tryz.func200.trans jd
 f257:=Tryz.func123.trans jd
 f294:=Tryz.func194.trans jd
 f295:=Tryz.func195.trans jd
 f296:=Tryz.func196.trans jd
 f297:=Tryz.func197.trans jd
 f298:=Tryz.func198.trans jd
 f299:=Tryz.func199.trans jd
 f300:=Tryz.func201.trans jd
 f301:=Tryz.func202.trans jd
 f328:=Tryz.func293.trans jd
 f329:=Tryz.func294.trans jd
 f330:=Tryz.func295.trans jd
 f331:=Tryz.func296.trans jd
 f332:=Tryz.func297.trans jd
 f343:=Tryz.func358.trans jd
 t0:=Tryz.underlying0
 a0:=Tryz.isAgg0
 z0:=Tryz.sizeOf0
 v0:=Tryz.zeroValue0
 t3:=Tryz.underlying3
 a3:=Tryz.isAgg3
 z3:=Tryz.sizeOf3
 v3:=Tryz.zeroValue3
 t4:=Tryz.underlying4
 a4:=Tryz.isAgg4
 z4:=Tryz.sizeOf4
 v4:=Tryz.zeroValue4
 t5:=Tryz.underlying5
 a5:=Tryz.isAgg5
 z5:=Tryz.sizeOf5
 v5:=Tryz.zeroValue5
 t9:=Tryz.underlying9
 a9:=Tryz.isAgg9
 z9:=Tryz.sizeOf9
 v9:=Tryz.zeroValue9
 t28:=Tryz.underlying32
 a28:=Tryz.isAgg32
 z28:=Tryz.sizeOf32
 v28:=Tryz.zeroValue32
 t46:=Tryz.underlying207
 a46:=Tryz.isAgg207
 z46:=Tryz.sizeOf207
 v46:=Tryz.zeroValue207
 t51:=Tryz.underlying266
 a51:=Tryz.isAgg266
 z51:=Tryz.sizeOf266
 v51:=Tryz.zeroValue266
 t53:=Tryz.underlying269
 a53:=Tryz.isAgg269
 z53:=Tryz.sizeOf269
 v53:=Tryz.zeroValue269
 t131:=Tryz.underlying153
 a131:=Tryz.isAgg153
 z131:=Tryz.sizeOf153
 v131:=Tryz.zeroValue153
 t182:=Tryz.underlying275
 a182:=Tryz.isAgg275
 z182:=Tryz.sizeOf275
 v182:=Tryz.zeroValue275
 t183:=Tryz.underlying276
 a183:=Tryz.isAgg276
 z183:=Tryz.sizeOf276
 v183:=Tryz.zeroValue276
 t218:=Tryz.underlying380
 a218:=Tryz.isAgg380
 z218:=Tryz.sizeOf380
 v218:=Tryz.zeroValue380
 t222:=Tryz.underlying384
 a222:=Tryz.isAgg384
 z222:=Tryz.sizeOf384
 v222:=Tryz.zeroValue384
 t228:=Tryz.underlying412
 a228:=Tryz.isAgg412
 z228:=Tryz.sizeOf412
 v228:=Tryz.zeroValue412
 t229:=Tryz.underlying413
 a229:=Tryz.isAgg413
 z229:=Tryz.sizeOf413
 v229:=Tryz.zeroValue413}
end
end Go.Proofs
namespace Go.ak.R1
section
open Go.Proofs
@[irreducible]def e(f:Nat):aX:=((Tryz.prog.funcs[f]?).bind (oS Tryz.prog)).getD .none
theorem abZ:Tryz.prog.funcs.toList.all (λfn=>!(fn.name== "runtime.NumGoroutine"))=true:=by kernel_rfl
theorem ab0{P:Program}{fn:Func}{a:aX}(h:oS P fn=some a):∃c d b,a=.code c d b:=by unfold oS at h;simp only[aep,aaw,aet,aas]at h;obtain⟨_,_,_,_,_,_,rfl⟩:=h;exact⟨_,_,_,rfl⟩
theorem o(f:Nat):kA Tryz.prog f (e f):=by unfold e;cases c:Tryz.prog.funcs[f]? with|none=>trivial|some fn=>simp only[afY];cases d:oS Tryz.prog fn with|none=>trivial|some a=>obtain⟨g,h,b,rfl⟩:=ab0 d;refine⟨fn,c,d,?_⟩;have:=afv.1 abZ fn (Array.mem_toList_iff.2 (Array.mem_of_getElem? c));simpa using this
theorem ab1:kA Tryz.prog 82 (.fV pd):=Q6 ⟨⟨Tryz.f82,Tryz.func82,by kernel_rfl,by kernel_rfl⟩⟩ (λbe off cap a w h1 h2 h3=>Any.slices_Sort_int Tryz.MN be off cap a w h1 h2 h3) (λp cap w=>Any.slices_Sort_int_none Tryz.MN p cap w)
def ab2:List (Nat×aX):=[(357,.code 6 [.tmp (sl 2)] (DU 393 280)),(393,.code 4 [.tmp (sl 2)] (Ar 419 142)),(280,.code 9 [.tmp (sl 2)] (Aq 354 82)),(82,.fV pd),(354,.code 5 [.tmp (sl 2)] (yg 392)),(392,.code 13 [.tmp (sl 4)] (tc 32)),(419,.code 14 [] As)]
theorem bM{n:Nat}{a:aX}(h:e n=a):kA Tryz.prog n a:=Eq.mp (congrArg (kA Tryz.prog n) h) (o n)
theorem ab3:gC Tryz.prog (tf ab2):=vO (Aw ⟨bM (by kernel_rfl),bM (by kernel_rfl),bM (by kernel_rfl),ab1,bM (by kernel_rfl),bM (by kernel_rfl),bM (by kernel_rfl),trivial⟩)
theorem MO:kA Tryz.prog 357 (.fV Ak):=Rp ab3 (listF:=357) (keysF:=393) (sortedF:=280) (sortF:=82) (collF:=354) (appF:=392) (iterF:=419) (e1:=142) (e2:=32) rfl rfl rfl rfl rfl rfl rfl
theorem MP:gC Tryz.prog (l7 98 99):=Rr (bM (by kernel_rfl)) (bM (by kernel_rfl))
theorem MQ:kA Tryz.prog 1004 (.eF (xZ 98)):=Q2 (by decide) MP
theorem MR:kA Tryz.prog 1005 (.eF (x6 98)):=Q3 (by decide) MP
def zl:List (Nat×aX):=[(357,.fV Ak),(1004,.eF (xZ 98)),(1005,.eF (x6 98))]
def sw:Nat->(Nat->aX)->am aX
 |0,_=>.aF
 |d+1,f=>.node (sw d λm=>f (2*m+1)) (f 0) (sw d λm=>f (2*m+2))
theorem FM:∀(d:Nat)(f:Nat->aX)(n:Nat),(sw d f).bN .none n=f n\/(sw d f).bN .none n=.none
 |0,_,_=>.inr rfl
 |_+1,_,0=>.inl rfl
 |d+1,f,n+1=>by
  simp only[sw,am.bN];split;·have:=FM d (λm=>f (2*m+1)) (n/2);simpa only[show 2*(n/2)+1=n+1 by omega]using this
  have:=FM d (λm=>f (2*m+2)) (n/2);simpa only[show 2*(n/2)+2=n+1 by omega]using this
def sx(sp:List (Nat×aX))(f:Nat):aX:=match tf sp f with
 |.none=>e f
 |a=>a
theorem MS{P:Program}{ac:Nat->aX}(a:gC P ac)(f:Nat):kA P f (ac f):=by cases h:ac f with|none=>trivial|code b c body=>exact a.code f b c body h|fV g=>exact a.fV f g h|eF g=>exact a.eF f g h
theorem MT{sp:List (Nat×aX)}(h:gC Tryz.prog (tf sp)):gC Tryz.prog ((sw 10 (sx sp)).bN .none):=vO λf=>by
 rcases FM 10 (sx sp) f with h1|h1<;>rw[h1]
 .have:=MS h f;unfold sx;split;·exact o f
  exact this
 trivial
def kM:am aX:=sw 10 (sx zl)
theorem MU:gC Tryz.prog (tf zl):=vO (Aw ⟨MO,MQ,MR,trivial⟩)
theorem oJ:gC Tryz.prog (kM.bN .none):=MT MU
theorem ab4(f:Nat):kA Tryz.prog f (sx zl f):=by
 have:=MS MU f;unfold sx;split;·exact o f
 exact this
end
end Go.ak.R1
namespace Go.ak
section
variable[Ov]
section
variable{P:Program}{nt:Nat}
def gK(P:Program)(nt:Nat)(c:bg)(fr:Fr)(H:ai)(K:bU->Fr->ai->Prop):Prop:=
 ∀{e:bS}{d:aQ}{w:World}{cc:Code}{b:Frame}{a:Act},dA P nt cc=some c->fD d nt fr b.roundOf a->bh P e d H w->∀(k:List Item)(cs:List Frame),gO P e d nt w b k cs (lone (b.atR a (.code cc::k)) cs w) K
theorem gK.run{ac:Nat->aX}(a:gC P ac){n:Nat}{c:bg}{fr:Fr}{H:ai}{K:bU->Fr->ai->Prop}(he:exec False cA ac n c fr H K):gK P nt c fr H K:=λb d e k cs=>(vA a n).2.1 b he d e k cs
theorem gK.ph{c:bg}{aa d:am AV}{m:List af}{r:Option af}{H Hs:ai}{K:bU->Fr->ai->Prop}(l:Hs.next=H.next)(hs:∀i,Hs.get i=.none\/Hs.get i=H.get i)(n:∀t,t<nt->d.get .agx (af.cq t)=.ct\/d.get .agx (af.cq t)=aa.get .agx (af.cq t))(h:gK P nt c ⟨d,m,r⟩ Hs K):gK P nt c ⟨aa,m,r⟩ H K:=by
 intro q g w cc b a o f p k cs;refine h o ⟨⟨f.E.1,λt j=>?_⟩,f.D,f.R⟩ (p.sub l λi=>(hs i).symm) k cs;rcases n t j with e|e;·show VR g (d.get .agx (af.cq t)) _;rw[e];simp only[VR]
 show VR g (d.get .agx (af.cq t)) _;rw[e];exact f.E.2 t j
theorem gK.seq{x y:bg}{fr:Fr}{H:ai}{K1 K:bU->Fr->ai->Prop}(h1:gK P nt x fr H K1)(h2:∀j d f,K1 j d f->j=.none/\gK P nt y d f K):gK P nt (.seq x y) fr H K:=by
 intro I J w cc b a c z A k cs;induction cc generalizing k with
 |scope x B=>simp only[dA]at c;obtain⟨j,d,f,e,q,r,t,g,i,m,n,o,p,s⟩:=B c (.inScope x::k);refine .fI (.one Hh) (.fI s ?_);cases j with|none=>rw[show t=.inScope x::k from p];exact .fI (.one Hi) ⟨.none,d,f,e,q,r,k,g,i,m,n,o,rfl,Steps.refl _ _⟩|exit id=>exact⟨.exit id,d,f,e,q,r,t,g,i,m,n,o,p.oX (λ_ _=>rfl) trivial,Steps.refl _ _⟩|ret=>exact⟨.ret,d,f,e,q,r,t,g,i,m,n,o,p.oX (λ_ _=>rfl) trivial,Steps.refl _ _⟩
 |seq L u _ _=>
  simp only[dA]at c;split at c
  .rename_i M N C D;injection c with c;split at c;·cases c
   injection c with E F;subst E;subst F;obtain⟨j,d,f,e,q,r,t,g,i,m,n,o,p,s⟩:=h1 C z A (.code u::k) cs;obtain⟨rfl,G⟩:=h2 j d f g;refine .fI (.one stepR_seq) (.fI s ?_);rw[show t=.code u::k from p];exact .pZ i o (G D m n k cs)
  cases c
 |region id aq v=>simp only[dA,aes]at c;obtain⟨_,_,h⟩:=c;cases h
 |skip=>simp[dA]at c
 |label l=>simp[dA]at c
 |cond c0 x y _ _=>simp only[dA]at c;split at c<;>simp at c
 |block id x _=>simp only[dA,aes]at c;obtain⟨_,_,h⟩:=c;cases h
 |loop x _=>simp only[dA,aes]at c;obtain⟨_,_,h⟩:=c;cases h
 |_=>simp[dA]at c<;>(try(split at c<;>simp at c))
theorem abS{ac:Nat->aX}(N:gC P ac){f:Nat}{rs:List fM}{body:bg}(hg:ac f=.code nt rs body){H:ai}{v:AV}{args:List AV}(hl:args.length<=nt)(he:gK P nt body ⟨iL args .xH .aF,[],none⟩ H λj fr k=>(match j with|.exit _=>False|_=>True)/\fr.bz=[]/\∃l,ee fr.aa k rs=some l/\v=fG l){J:bS}{r:aQ}{w:World}{d:Array Value}(O:aR r args d.toList)(Q:bh P J r H w):Calls P f d w λe s=>∃k c,e=.returned c/\b9 P J r w v k c s:=by
 intro cs;obtain⟨fn,n,o,G⟩:=N.code f nt rs body hg;simp only[oS,aep,aaw,aet,aas,aX.code.injEq]at o;obtain⟨cc,x,I,m,ag,y,R,S,T⟩:=o;subst R;subst S;subst T;let b:Frame:={(default:Frame)with fn:=f,kind:=.normal};let a:Act:={tmps:=d++agk (fn.ntmps - d.size) undef,defers:=[]};have i:Frame.enter P f d .normal=b.atR a [.code cc]:=by simp only[Frame.enter,Frame.atR,n,x,b,a,aeT,afc,afY];rfl
 have V:fD r fn.ntmps ⟨iL args .xH .aF,[],none⟩ b.roundOf a:=⟨Db O hl,trivial,trivial⟩;obtain⟨j,z,k,A,u,s,t,⟨h0,B,l,C,F⟩,h2,h3,W,X,K,Y⟩:=he m V Q [] cs;have p:∃h:Frame,h={b.atR u h.todo with mode:=.returning}/\step P (lone (b.atR u t) cs s)=.next (lone h cs s):=by cases j with|none=>rw[show t=[]from K];exact⟨_,rfl,stepR_end rfl⟩|exit id=>exact h0.elim|ret=>obtain⟨k0,rfl⟩:=K;exact⟨_,rfl,stepR_ret rfl⟩
 obtain⟨h,g,cz⟩:=p;have Z:gV k z.bz=some k:=by rw[B];rfl
 have q:h={h with defers:=u.defers}:=by rw[g];rfl
 obtain⟨w2,L,M,s3⟩:=zU W h3.D Z h cs (by rw[g]);rw[<-q]at L;obtain⟨c,hc,hv⟩:=Dd M h3.E y C;subst F;refine⟨.returned c,w2,{h with defers:=[]},⟨k,c,rfl,A,h2,hv,M,X.trans s3⟩,?_,?_,?_⟩;·rw[i];exact Y.trans (.head cz L)
 .show h.fn=f;rw[g];rfl
 refine⟨by rw[g],rfl,by rw[g];rfl,fn,by rw[g];exact n,?_⟩;rw[g];exact hc
abbrev LV:=List (af×AV)
abbrev LO:=List (af×bO)
def FF:LV->am AV->Prop
 |[],_=>True
 |(p,v)::l,e=>e.get .agx p=v/\FF l e
def zh:LO->ai->Prop
 |[],_=>True
 |(p,o)::l,H=>H.get p=o/\zh l H
def FG:LV->Prop
 |[]=>True
 |(_,v)::l=>v=v/\FG l
def BI:LO->Prop
 |[]=>True
 |(_,o)::l=>o=o/\BI l
theorem MI:∀l,FG l|[]=>trivial|_::l=>⟨rfl,MI l⟩
theorem FH:∀l,BI l|[]=>trivial|_::l=>⟨rfl,FH l⟩
def At(L:LV)(O:LO)(X:af)(j:bU)(fr:Fr)(H:ai):Prop:=j=.none/\fr.bz=[]/\fr.bB=none/\H.next=X/\FF L fr.aa/\zh O H
def pI(L:LV)(O:LO)(X:af):Prop:=bU.none=bU.none/\([]:List af)=[]/\(none:Option af)=none/\X=X/\FG L/\BI O
theorem abT(L:LV)(O:LO)(X:af):pI L O X:=⟨rfl,rfl,rfl,rfl,MI L,FH O⟩
def jt:Nat->am AV
 |0=>.aF
 |n+1=>.node (jt n) .ct (jt n)
def kl:LV->am AV
 |[]=>jt 8
 |(p,v)::l=>(kl l).set .agx p v
def fK:LO->am bO
 |[]=>.aF
 |(p,o)::l=>(fK l).set .none p o
theorem FI:∀(n:Nat)(p:af),p.az<2^n->(jt n).get .agx p=.ct
 |0,p,h=>by have:=af.oT p;simp at h;omega
 |n+1,.xH,_=>rfl
 |n+1,.xO p,h=>by
  have:p.az<2^n:=by simp only[af.az]at h;rw[Nat.pow_succ]at h;omega
  exact FI n p this
 |n+1,.xI p,h=>by
  have:p.az<2^n:=by simp only[af.az]at h;rw[Nat.pow_succ]at h;omega
  exact FI n p this
theorem MJ{q:af}(a:q.az<256):∀{L:LV}{e:am AV},FF L e->(kl L).get .agx q=.ct\/(kl L).get .agx q=e.get .agx q
 |[],e,_=>.inl (FI 8 q (by simpa using a))
 |(p,v)::l,e,h=>by
  simp only[kl,am.aJ];split;·rename_i b;right;rw[b,h.1]
  exact MJ a h.2
theorem ai.FJ:∀q:af,(am.aF:am bO).get .none q=.none|.xH=>rfl|.xO p=>ai.FJ p|.xI p=>ai.FJ p
theorem BJ{q:af}:∀{O:LO}{H:ai},zh O H->(fK O).get .none q=.none\/(fK O).get .none q=H.get q
 |[],H,_=>.inl (ai.FJ q)
 |(p,o)::l,H,h=>by
  simp only[fK,am.aJ];split;·rename_i a;right;rw[a,h.1]
  exact BJ h.2
theorem gK.at{c:bg}{K:bU->Fr->ai->Prop}{L:LV}{O:LO}{X:af}{j:bU}{fr:Fr}{H:ai}(f:nt<=255)(h:At L O X j fr H)(b:gK P nt c ⟨kl L,[],none⟩ ⟨fK O,X⟩ K):j=.none/\gK P nt c fr H K:=by obtain⟨h1,h2,h3,d,a,e⟩:=h;obtain⟨aa,m,r⟩:=fr;simp only at h2 h3 a;subst h2;subst h3;exact⟨h1,gK.ph (Hs:=⟨fK O,X⟩) d.symm (λi=>show(fK O).get .none i=.none\/(fK O).get .none i=H.get i from BJ e) (λt g=>MJ (by rw[af.jD];omega) a) b⟩
end
section
variable{P:Program}
def zi(args:List AV)(H:ai):Option (AV×ai):=
 match args with
 |[]=>some (.bool true,H)
 |_=>none
theorem abU{f n:Nat}(s:DR P f)(t:P.globals.size=n)(h:∀{j:bS}{a:aQ}{w:World},bh P j a ⟨.aF,af.cq n⟩ w->Calls P f #[] w λe d=>∃k c,e=.returned c/\b9 P j a w (.bool true) k c d):sS P f zi:=by
 intro j a H k w args v b hg u m fr cs hat;unfold zi at hg;split at hg;case h_2=>cases hg
 injection hg with hg;injection hg with o p;subst o;subst p;obtain⟨l⟩:=b;cases l with
 |cons _ _=>simp[aR]at u
 |nil=>
  have q:n<=w.heap.size:=by cases n with|zero=>exact Nat.zero_le _|succ n=>exact m.dU _ _ _ (m.jP n (by omega))
  refine DS s (h (Rv t q)) ?_ fr cs hat;rintro e d⟨k,c,rfl,x,z,r,y,g⟩;refine⟨c,rfl,a,bR.refl a,?_,?_⟩;·cases c<;>simp only[VR]at r⊢;exact r
  refine bh.grow m (os:=d.heap.extract w.heap.size d.heap.size) ?_ g.os g.tape g.output;apply agf;intro i;rw[Array.getElem?_append];split;·rename_i hi;exact g.block i hi (by show¬(w.heap.size<=i);omega)
  rename_i hi;rw[Array.getElem?_extract];split;·congr 1;omega
  rw[ae3 (by omega)]
end
end
section
def BK:List AV->List AV->Bool
 |[],[]=>true
 |a::l,b::m=>fC a b&&BK l m
 |_,_=>false
theorem MK:∀{l m:List AV},BK l m=true->l=m|[],[],_=>rfl|a::l,b::m,h=>by simp only[BK,aew]at h;rw[Di h.1,MK h.2]|[],_::_,h=>by cases h|_::_,[],h=>by cases h
def zj:am AV->am AV->Bool
 |.aF,.aF=>true
 |.node l v r,.node a b c=>zj l a&&(fC v b&&zj r c)
 |_,_=>false
theorem FK:∀{s t:am AV},zj s t=true->s=t|.aF,.aF,_=>rfl|.node l v r,.node a b c,h=>by simp only[zj,aew]at h;rw[FK h.1,Di h.2.1,FK h.2.2]|.aF,.node _ _ _,h=>by cases h|.node _ _ _,.aF,h=>by cases h
def BL:List af->List af->Bool
 |[],[]=>true
 |a::l,b::m=>af.beq a b&&BL l m
 |_,_=>false
theorem ML:∀{l m:List af},BL l m=true->l=m|[],[],_=>rfl|a::l,b::m,h=>by simp only[BL,aew,af.fo]at h;rw[h.1,ML h.2]|[],_::_,h=>by cases h|_::_,[],h=>by cases h
def FL:bO->bO->Bool
 |.cells c n e rw aM fz,.cells d f g a Dq b=>zj c d&&(aeF n f&&(aeF e g&&((rw==a)&&(BL aM Dq&&aeF fz b))))
 |_,_=>false
theorem abV{o a:bO}(h:FL o a=true):o=a:=by cases o<;>cases a<;>simp only[FL,abu,aew,Nat.beq_eq,beq_iff_eq]at h;rw[FK h.1,h.2.1,h.2.2.1,h.2.2.2.1,ML h.2.2.2.2.1,h.2.2.2.2.2]
def wS(H:ai):LO->Bool
 |[]=>true
 |(p,o)::l=>FL (H.get p) o&&wS H l
theorem MM{H:ai}:∀{O:LO},wS H O=true->zh O H|[],_=>trivial|(_,_)::_,h=>by simp only[wS,aew]at h;exact⟨abV h.1,MM h.2⟩
def zk(A:List AV)(O:LO)(X:af)(V:AV)(a:LO)(b:af)(args:List AV)(H:ai):Option (AV×ai):=
 match BK args A&&(af.beq H.next X&&wS H O)with
 |true=>some (V,⟨fK a,b⟩)
 |false=>none
section
variable[Ov]
variable{P:Program}
def BM(V:AV)(O:LO)(X:af)(v:AV)(H:ai):Prop:=v=V/\H.next=X/\zh O H
def BN(V:AV)(O:LO)(X:af):Prop:=V=V/\X=X/\BI O
theorem abW(V:AV)(O:LO)(X:af):BN V O X:=⟨rfl,rfl,FH O⟩
theorem abX{ac:Nat->aX}(r:gC P ac){f n:Nat}{A:List AV}{O d:LO}{X o:af}{V:AV}(he:dT False cA ac n (.func f [] []) A ⟨fK O,X⟩ (BM V d o)):sS P f (zk A O X V d o):=by
 intro s t H G w args v q hg a u fr cs hat;unfold zk at hg;split at hg;case h_2=>cases hg
 rename_i p;simp only[aew,af.fo]at p;obtain⟨h1,h2,h3⟩:=p;injection hg with hg;injection hg with g x;subst g;subst x;have e:=MK h1;subst e;have y:=MM h3;have h:bh P s t ⟨fK O,X⟩ w:=u.sub h2.symm λi=>(show(fK O).get .none i=.none\/(fK O).get .none i=H.get i from BJ y).symm;obtain⟨v,z,c,B,j,k,C,⟨rfl,D,E⟩,⟨l,b,g,m,F⟩,hb,hs⟩:=PC r n he (fv:=.func (.func f) #[] #[]) (by simp[VR,aR]) a h fr cs hat;refine⟨v,_,c,B,j,k,C,⟨rfl,rfl⟩,⟨l,b,g,m.sub D.symm λi=>(show(fK d).get .none i=.none\/(fK d).get .none i=z.get i from BJ E).symm,F⟩,?_,hs⟩;simpa[lA,Deferred.ofValue,invoke]using hb
end
end
end Go.ak
namespace Go.ak.R1
def hd:bg->bg
 |.seq a _=>a
 |c=>c
def tl:bg->bg
 |.seq _ b=>b
 |c=>c
def b5:bg:=match e 5 with
 |.code _ _ b=>b
 |_=>.skip
def zz:Nat->Nat->af
 |0,_=>.xH
 |k+1,n=>bif aeF n 1 then .xH else bif aeF (n % 2) 1 then .xI (zz k (n/2))else .xO (zz k (n/2))
abbrev z:=zz 20
abbrev y(v:AV):am AV:=.node .aF v .aF
abbrev x(l:am AV)(v:AV)(r:am AV):am AV:=.node l v r
def L0:LV:=[]
def O0:LO:=[]
def X0:af:=af.cq 6
def c0:bg:=tl b5
def c1:bg:=tl c0
def c2:bg:=tl c1
def c3:bg:=tl c2
def c4:bg:=tl c3
def c5:bg:=tl c4
def c6:bg:=tl c5
def c7:bg:=tl c6
def c8:bg:=tl c7
def L1:LV:=[(z 2,(.aD (z 1010) 0)),(z 3,(i 3 0))]++L0
def O1:LO:=[(z 990,.cells (x (x (y (i 3 0)) (i 3 12) (y (.str []))) (i 4 4) (x (y (i 3 0)) .aG .aF)) 6 49 true [] 0),(z 874,.cells (x (y (i 3 2)) (i 3 0) .aF) 2 3 true [z 872] 0),(z 875,.cells (x (y (.slice (z 874) 0 2 2 false)) (i 3 1) .aF) 2 51 true [] 0),(z 906,.cells (y (i 3 6)) 1 3 true [] 0),(z 983,.cells (x (y (i 3 7)) (i 3 10) .aF) 2 3 true [z 981] 0),(z 984,.cells (x (y (.slice (z 983) 0 2 2 false)) (i 3 1) .aF) 2 51 true [] 0),(z 999,.cells (y (i 3 4)) 1 3 true [] 0),(z 902,.cells (x (y (i 3 3)) (i 3 5) .aF) 2 3 true [z 896] 0),(z 905,.cells (x (x (x (y (i 3 6)) (i 3 0) (y (.str [108,116]))) (i 3 5) (x (y (i 3 0)) (.str []) .aF)) (i 4 1) (x (x (y (.slice (z 902) 0 2 2 false)) (i 3 0) .aF) .aG (x (y (i 3 0)) (i 4 14) .aF))) 12 49 true [z 894] 0),(z 907,.cells (x (x (y .aG) .aG .aF) (i 3 2) (y (i 3 3))) 4 51 true [] 0),(z 815,.cells (x (x (x (y (i 3 2)) (i 3 0) (y (.str []))) (i 3 1) (x (y (i 3 1)) (.str []) .aF)) (i 4 4) (x (x (y .aG) (i 3 0) .aF) .aG (x (y (i 3 0)) (i 4 1) .aF))) 12 49 true [z 798] 0),(z 882,.cells (x (y (i 3 4)) (i 3 3) .aF) 2 3 true [z 880] 0),(z 969,.cells (x (y (i 3 9)) (i 3 3) .aF) 2 3 true [z 960] 0),(z 936,.cells (x (y (i 3 3)) (i 3 4) .aF) 2 3 true [z 930] 0),(z 977,.cells (x (x (x (x (x (y (i 3 11)) (i 3 0) .aF) (i 3 7) (y (.str []))) (i 3 0) (x (x (y (.str [])) (i 3 9) .aF) (.str [109,117,108]) (y (i 3 0)))) (j 3 0) (x (x (x (y (i 3 0)) (.str []) .aF) (i 3 0) (y (i 3 10))) (.str []) (x (y (i 3 1)) (i 3 8) (y (.str [115,117,98]))))) (i 4 39) (x (x (x (x (y .aG) (i 3 0) .aF) (.slice (z 936) 0 2 2 false) (y (i 4 14))) (i 3 0) (x (y .aG) (i 4 4) (y (i 3 0)))) .aG (x (x (x (y (i 3 0)) (i 4 1) .aF) (i 3 0) (y (.slice (z 969) 0 2 2 false))) (i 4 14) (x (y (i 3 0)) .aG (y (i 4 4)))))) 36 49 true [z 972,z 967,z 944,z 939,z 913] 0),(z 987,.cells (x (x (x (x (y (.slice (z 977) 0 6 6 false)) (.slice (z 882) 0 2 2 false) (y (i 4 69))) .aG (x (y .aG) (.str []) (y .aG))) (.slice (z 815) 0 2 2 false) (x (x (y .aG) (i 4 62) (y (.str []))) .aG (x (y .aG) (.slice (z 907) 0 2 2 true) .aF))) .aG (x (x (x (y (i 4 61)) (.slice (z 905) 0 2 2 false) (y (.slice (z 999) 0 1 1 true))) (.str []) (x (y (.slice (z 984) 0 1 1 true)) .aG .aF)) (i 4 61) (x (x (y (.str [])) (.slice (z 906) 0 1 1 true) (y .aG)) (.slice (z 875) 0 1 1 true) (x (y (.slice (z 990) 0 1 1 false)) .aG .aF)))) 28 47 true [] 0),(z 1010,.cells (x (x (y (.slice (z 987) 0 4 4 false)) (i 3 1) .aF) (.str [102]) (y (i 3 13))) 4 24 true [] 0)]++O0
def X1:af:=z 1011
def L2:LV:=[(z 4,(.slice (z 1644) 0 4 4 false)),(z 5,(i 3 0))]++L1
def O2:LO:=[(z 1644,.cells (x (x (y (i 3 2)) (i 3 1) .aF) (i 3 0) (y (i 3 3))) 4 3 true [] 0)]++O1
def X2:af:=z 1645
def L3:LV:=[(z 6,(.slice (z 2283) 0 4 4 true)),(z 7,(i 3 0))]++L2
def O3:LO:=[(z 2283,.cells (x (x (y (i 3 1)) (i 3 0) .aF) (j 3 0) (y (i 3 1))) 4 3 true [] 0)]++O2
def X3:af:=z 2356
def L4:LV:=[(z 8,(.slice (z 2941) 0 4 4 true)),(z 9,(i 3 0))]++L3
def O4:LO:=[(z 3143,.cells (y (i 3 1)) 1 3 true [] 0),(z 2941,.cells (x (x (y .aG) (.slice (z 3126) 0 1 1 false) .aF) .aG (y (.slice (z 3143) 0 1 1 false))) 4 32 true [] 0)]++O3
def X4:af:=z 3150
def L5:LV:=[(z 10,(.slice (z 4130) 0 4 4 true)),(z 11,(i 3 0))]++L4
def O5:LO:=[(z 4136,.cells (x (y (i 3 4)) (i 3 3) .aF) 2 3 true [z 4134] 0),(z 4138,.cells (y (i 3 4)) 1 3 true [] 0),(z 4130,.cells (x (x (y (.slice (z 4138) 0 1 1 false)) .aG .aF) (.slice (z 4132) 0 1 1 false) (y (.slice (z 4136) 0 2 2 false))) 4 32 true [] 0)]++O4
def X5:af:=z 4139
def L6:LV:=[(z 12,(.slice (z 4725) 0 13 13 true)),(z 13,(i 3 0))]++L5
def O6:LO:=[(z 4725,.cells (x (x (x (y (i 3 1)) (i 3 3) (y (i 3 0))) (i 3 0) (x (y (i 3 1)) (i 3 1) .aF)) (i 3 1) (x (x (y (i 3 0)) (i 3 2) (y (i 3 0))) (i 3 1) (x (y (i 3 1)) (i 3 1) .aF))) 13 3 true [] 0)]++O5
def X6:af:=z 4785
def L7:LV:=[(z 14,(.aD (z 5545) 0)),(z 15,(i 3 0))]++L6
def O7:LO:=[(z 5411,.cells (y (i 3 7)) 1 3 true [] 0),(z 5539,.cells (x (x (x (x (x (x (x (y .aG) .aG (y .aG)) .aG (x (y .aG) .aG .aF)) .aG (x (x (y .aG) .aG .aF) .aG (x (y .aG) .aG .aF))) .aG (x (x (x (y .aG) .aG (y .aG)) .aG (x (y .aG) .aG .aF)) .aG (x (x (y .aG) .aG .aF) .aG (x (y .aG) .aG .aF)))) (i 3 0) (x (x (x (x (y (i 3 0)) (i 3 0) (y (i 3 0))) (i 3 0) (x (y (i 3 0)) (i 3 0) .aF)) (i 3 0) (x (x (y (i 3 0)) (i 3 0) .aF) (i 3 0) (x (y (i 3 0)) (i 3 0) .aF))) (i 3 1) (x (x (x (y (i 3 0)) (i 3 0) .aF) (i 3 0) (x (y (i 3 0)) (i 3 0) .aF)) (i 3 0) (x (x (y (i 3 0)) (i 3 0) .aF) (i 3 0) (x (y (i 3 0)) (i 3 1) .aF))))) (i 3 1) (x (x (x (x (x (y (i 3 10)) (i 3 6) (y (j 3 0))) (i 3 3) (x (y (i 3 3)) (j 3 0) .aF)) (i 3 13) (x (x (y (i 3 13)) (j 3 0) .aF) (j 3 0) (x (y (j 3 0)) (i 3 8) .aF))) (i 3 2) (x (x (x (y (i 3 11)) (j 3 0) .aF) (i 3 4) (x (y (i 3 4)) (i 3 7) .aF)) (i 3 14) (x (x (y (i 3 14)) (j 3 0) .aF) (i 3 5) (x (y (i 3 12)) (i 3 9) .aF)))) (.str []) (x (x (x (x (y (.str [115,117,98])) (.str [108,116]) (y (.str []))) (.str []) (x (y (.str [])) (.str []) .aF)) (.str []) (x (x (y (.str [])) (.str []) .aF) (.str []) (x (y (.str [])) (.str []) .aF))) (.str []) (x (x (x (y (.str [])) (.str []) .aF) (.str []) (x (y (.str [])) (.str [109,117,108]) .aF)) (.str []) (x (x (y (.str [])) (.str []) .aF) (.str []) (x (y (.str [])) (.str []) .aF)))))) (i 4 4) (x (x (x (x (x (x (y (i 4 14)) (i 4 14) (y (i 4 69))) (i 4 60) (x (y (i 4 60)) (i 4 39) .aF)) (i 4 60) (x (x (y (i 4 60)) (i 4 61) .aF) (i 4 61) (x (y (i 4 61)) (i 4 4) .aF))) (i 4 1) (x (x (x (y (i 4 4)) (i 4 62) .aF) (i 4 60) (x (y (i 4 60)) (i 4 14) .aF)) (i 4 60) (x (x (y (i 4 60)) (i 4 61) .aF) (i 4 1) (x (y (i 4 4)) (i 4 1) .aF)))) (i 3 0) (x (x (x (x (y (i 3 0)) (i 3 0) (y (i 3 0))) (i 3 0) (x (y (i 3 0)) (i 3 0) .aF)) (i 3 0) (x (x (y (i 3 0)) (i 3 0) .aF) (i 3 0) (x (y (i 3 0)) (i 3 0) .aF))) (i 3 0) (x (x (x (y (i 3 0)) (i 3 0) .aF) (i 3 0) (x (y (i 3 0)) (i 3 0) .aF)) (i 3 0) (x (x (y (i 3 0)) (i 3 0) .aF) (i 3 0) (x (y (i 3 0)) (i 3 0) .aF))))) .aG (x (x (x (x (x (y (.slice (z 5485) 0 2 2 false)) (.slice (z 5428) 0 2 2 false) (y (.slice (z 5537) 0 1 1 false))) (.slice (z 5402) 0 1 1 false) (x (y (.slice (z 5511) 0 1 1 false)) .aG .aF)) (.slice (z 5390) 0 1 1 false) (x (x (y (.slice (z 5499) 0 1 1 false)) .aG .aF) .aG (x (y .aG) .aG .aF))) .aG (x (x (x (y .aG) (.slice (z 5436) 0 1 1 false) .aF) (.slice (z 5408) 0 1 1 false) (x (y (.slice (z 5517) 0 1 1 false)) (.slice (z 5471) 0 2 2 false) .aF)) (.slice (z 5396) 0 1 1 false) (x (x (y (.slice (z 5505) 0 1 1 false)) .aG .aF) .aG (x (y .aG) .aG .aF)))) .aG (x (x (x (x (y .aG) .aG (y .aG)) .aG (x (y .aG) .aG .aF)) .aG (x (x (y .aG) (.slice (z 5443) 0 1 1 true) .aF) (.slice (z 5411) 0 1 1 true) (x (y (.slice (z 5520) 0 1 1 true)) .aG .aF))) .aG (x (x (x (y .aG) (.slice (z 5433) 0 2 2 true) .aF) .aG (x (y .aG) .aG .aF)) .aG (x (x (y .aG) (.slice (z 5454) 0 1 1 true) .aF) .aG (x (y .aG) .aG .aF))))))) 200 73 true [z 5533,z 5523,z 5519,z 5513,z 5507,z 5501,z 5491,z 5487,z 5481,z 5477,z 5473,z 5467,z 5457,z 5446,z 5438,z 5430,z 5424,z 5414,z 5410,z 5404,z 5398,z 5392,z 5382,z 5378] 0),(z 5545,.cells (x (x (y (.slice (z 5539) 0 25 25 false)) (i 3 1) .aF) (.str [102]) (y (i 3 15))) 4 63 true [] 0)]++O6
def X7:af:=z 5546
def MV:List AV:=[(.agg [.aG,.aG,.aG,(.slice (z 5575) 0 2 2 true)])]
def FN:LO:=[(z 5577,.cells (x (x (y .aG) .aG .aF) .aG (y .aG)) 4 68 true [] 0),(z 5576,.cells (x (x (y (.slice (z 5575) 0 2 2 true)) .aG .aF) .aG (y .aG)) 4 59 true [] 0),(z 5565,.cells (x (x (x (y (i 3 0)) (i 3 0) .aF) (.str []) (x (y .aG) (i 4 5) .aF)) (i 4 1) (x (x (y (i 3 0)) .aG .aF) (i 3 0) (y (.str [])))) 10 98 true [] 0),(z 5551,.cells (x (x (x (y (i 3 0)) (i 3 0) .aF) (.str []) (x (y .aG) (i 4 5) .aF)) (i 4 5) (x (x (y (i 3 0)) .aG .aF) (i 3 1) (y (.str [])))) 10 98 true [] 0),(z 5554,.cells (x (x (y (i 3 0)) (.str [109,117,108]) .aF) (i 4 14) (x (y (.slice (z 5551) 0 2 2 true)) (i 3 0) .aF)) 5 98 true [] 0),(z 5557,.cells (x (x (x (y (i 3 1)) (i 3 0) .aF) (.str []) (x (y .aG) (i 4 1) .aF)) (i 4 5) (x (x (y (i 3 0)) .aG .aF) (i 3 0) (y (.str [])))) 10 98 true [] 0),(z 5559,.cells (x (x (y (i 3 0)) (.str [115,117,98]) .aF) (i 4 14) (x (y (.slice (z 5557) 0 2 2 true)) (i 3 0) .aF)) 5 98 true [] 0),(z 5561,.cells (x (x (x (y (i 3 0)) (i 3 0) .aF) (.str []) (x (y (.slice (z 5559) 0 1 1 true)) (i 4 6) .aF)) (i 4 6) (x (x (y (i 3 0)) (.slice (z 5554) 0 1 1 true) .aF) (i 3 1) (y (.str [])))) 10 98 true [] 0),(z 5567,.cells (x (x (x (y (i 3 0)) (i 3 0) .aF) (.str [108,116]) (x (y (.slice (z 5561) 0 2 2 true)) (i 4 8) .aF)) (i 4 14) (x (x (y (i 3 0)) (.slice (z 5565) 0 2 2 true) .aF) (i 3 0) (y (.str [])))) 10 98 true [] 0),(z 5570,.cells (x (x (x (y (i 3 0)) (i 3 0) .aF) (.str []) (x (y (.slice (z 5567) 0 2 2 true)) (i 4 10) .aF)) (i 4 1) (x (x (y (i 3 0)) .aG .aF) (i 3 1) (y (.str [])))) 10 98 true [] 0),(z 5572,.cells (x (x (x (y (i 3 1)) (i 3 0) .aF) (.str []) (x (y .aG) (i 4 5) .aF)) (i 4 7) (x (x (y (i 3 0)) (.slice (z 5570) 0 2 2 true) .aF) (i 3 1) (y (.str [])))) 10 98 true [] 0),(z 5575,.cells (x (x (x (x (y .aG) (.slice (z 5572) 0 2 2 true) .aF) (i 4 8) (y (i 4 4))) (i 3 1) (x (y (i 3 0)) (i 3 0) (y (i 3 0)))) (.str [102]) (x (x (y (.str [115,116,97,114,116])) (.str []) (y (.str []))) (i 3 2) (x (y (i 3 0)) (i 3 0) (y (i 3 0))))) 16 103 true [] 0)]++O7
def MW:af:=z 5578
def FO:AV:=(.tuple [(.agg [.aG,.aG,.aG,(.slice (z 6536) 0 2 2 false)]),(i 3 0)])
def FP:LO:=[(z 6268,.cells (x (x (x (y (i 3 0)) (i 3 0) .aF) (.str []) (x (y .aG) (i 4 5) .aF)) (i 4 1) (x (x (y (i 3 0)) .aG .aF) (i 3 0) (y (.str [])))) 10 98 true [z 6256] 0),(z 6330,.cells (x (x (x (y (i 3 0)) (i 3 0) .aF) (.str []) (x (y .aG) (i 4 5) .aF)) (i 4 5) (x (x (y (i 3 0)) .aG .aF) (i 3 1) (y (.str [])))) 10 98 true [z 6318] 0),(z 6333,.cells (x (x (y (i 3 0)) (.str [109,117,108]) .aF) (i 4 14) (x (y (.slice (z 6330) 0 2 2 false)) (i 3 0) .aF)) 5 98 true [] 0),(z 6392,.cells (x (x (x (y (i 3 1)) (i 3 0) .aF) (.str []) (x (y .aG) (i 4 1) .aF)) (i 4 5) (x (x (y (i 3 0)) .aG .aF) (i 3 0) (y (.str [])))) 10 98 true [z 6378] 0),(z 6395,.cells (x (x (y (i 3 0)) (.str [115,117,98]) .aF) (i 4 14) (x (y (.slice (z 6392) 0 2 2 false)) (i 3 0) .aF)) 5 98 true [] 0),(z 6402,.cells (x (x (x (y (i 3 0)) (i 3 0) .aF) (.str []) (x (y (.slice (z 6395) 0 1 1 false)) (i 4 6) .aF)) (i 4 6) (x (x (y (i 3 0)) (.slice (z 6333) 0 1 1 false) .aF) (i 3 1) (y (.str [])))) 10 98 true [z 6340] 0),(z 6411,.cells (x (x (x (y (i 3 0)) (i 3 0) .aF) (.str [108,116]) (x (y (.slice (z 6402) 0 2 2 false)) (i 4 8) .aF)) (i 4 14) (x (x (y (i 3 0)) (.slice (z 6268) 0 2 2 false) .aF) (i 3 0) (y (.str [])))) 10 98 true [z 6271] 0),(z 6430,.cells (x (x (x (y (i 3 0)) (i 3 0) .aF) (.str []) (x (y (.slice (z 6411) 0 2 2 false)) (i 4 10) .aF)) (i 4 1) (x (x (y (i 3 0)) .aG .aF) (i 3 1) (y (.str [])))) 10 98 true [z 6220] 0),(z 6497,.cells (x (x (x (y (i 3 1)) (i 3 0) .aF) (.str []) (x (y .aG) (i 4 5) .aF)) (i 4 7) (x (x (y (i 3 0)) (.slice (z 6430) 0 2 2 false) .aF) (i 3 1) (y (.str [])))) 10 98 true [z 6457] 0),(z 6536,.cells (x (x (x (x (y .aG) (.slice (z 6497) 0 2 2 false) .aF) (i 4 8) (y (i 4 4))) (i 3 1) (x (y (i 3 0)) (i 3 0) (y (i 3 0)))) (.str [102]) (x (x (y (.str [115,116,97,114,116])) (.str []) (y (.str []))) (i 3 2) (x (y (i 3 0)) (i 3 0) (y (i 3 0))))) 16 103 true [z 6504] 0)]++FN
def FQ:af:=z 6969
def MX:List AV:=[(.agg [.aG,.aG,.aG,(.slice (z 7858) 0 2 2 false)])]
def FT:LO:=[(z 7857,.cells (x (x (y (.slice (z 7853) 0 2 2 false)) (i 3 0) .aF) (.str [115,116,97,114,116]) (y (i 3 1))) 4 63 true [] 0),(z 7760,.cells (x (x (y (.slice (z 7752) 0 25 25 false)) (i 3 1) .aF) (.str [102]) (y (i 3 15))) 4 63 false [] 0),(z 5565,.cells (x (x (x (y (i 3 0)) (i 3 0) .aF) (.str []) (x (y .aG) (i 4 5) .aF)) (i 4 1) (x (x (y (i 3 0)) .aG .aF) (i 3 0) (y (.str [])))) 10 98 true [] 0),(z 5551,.cells (x (x (x (y (i 3 0)) (i 3 0) .aF) (.str []) (x (y .aG) (i 4 5) .aF)) (i 4 5) (x (x (y (i 3 0)) .aG .aF) (i 3 1) (y (.str [])))) 10 98 true [] 0),(z 5554,.cells (x (x (y (i 3 0)) (.str [109,117,108]) .aF) (i 4 14) (x (y (.slice (z 5551) 0 2 2 true)) (i 3 0) .aF)) 5 98 true [] 0),(z 5557,.cells (x (x (x (y (i 3 1)) (i 3 0) .aF) (.str []) (x (y .aG) (i 4 1) .aF)) (i 4 5) (x (x (y (i 3 0)) .aG .aF) (i 3 0) (y (.str [])))) 10 98 true [] 0),(z 5559,.cells (x (x (y (i 3 0)) (.str [115,117,98]) .aF) (i 4 14) (x (y (.slice (z 5557) 0 2 2 true)) (i 3 0) .aF)) 5 98 true [] 0),(z 5561,.cells (x (x (x (y (i 3 0)) (i 3 0) .aF) (.str []) (x (y (.slice (z 5559) 0 1 1 true)) (i 4 6) .aF)) (i 4 6) (x (x (y (i 3 0)) (.slice (z 5554) 0 1 1 true) .aF) (i 3 1) (y (.str [])))) 10 98 true [] 0),(z 5567,.cells (x (x (x (y (i 3 0)) (i 3 0) .aF) (.str [108,116]) (x (y (.slice (z 5561) 0 2 2 true)) (i 4 8) .aF)) (i 4 14) (x (x (y (i 3 0)) (.slice (z 5565) 0 2 2 true) .aF) (i 3 0) (y (.str [])))) 10 98 true [] 0),(z 5570,.cells (x (x (x (y (i 3 0)) (i 3 0) .aF) (.str []) (x (y (.slice (z 5567) 0 2 2 true)) (i 4 10) .aF)) (i 4 1) (x (x (y (i 3 0)) .aG .aF) (i 3 1) (y (.str [])))) 10 98 true [] 0),(z 5572,.cells (x (x (x (y (i 3 1)) (i 3 0) .aF) (.str []) (x (y .aG) (i 4 5) .aF)) (i 4 7) (x (x (y (i 3 0)) (.slice (z 5570) 0 2 2 true) .aF) (i 3 1) (y (.str [])))) 10 98 true [] 0),(z 5575,.cells (x (x (x (x (y .aG) (.slice (z 5572) 0 2 2 true) .aF) (i 4 8) (y (i 4 4))) (i 3 1) (x (y (i 3 0)) (i 3 0) (y (i 3 0)))) (.str [102]) (x (x (y (.str [115,116,97,114,116])) (.str []) (y (.str []))) (i 3 2) (x (y (i 3 0)) (i 3 0) (y (i 3 0))))) 16 103 true [] 0),(z 7785,.cells (y (.bool true)) 1 4 true [] 0),(z 7786,.cells (y .aG) 1 176 true [] 0),(z 7787,.cells (x (x (y (.slice (z 7772) 0 1 1 false)) (i 3 0) (y (.slice (z 7786) 0 1 1 true))) (.str [115,116,97,114,116]) (x (y (.slice (z 7785) 0 1 1 true)) (i 3 1) (y (.bool false)))) 7 115 true [] 0),(z 7783,.cells (x (x (y (.slice (z 7772) 0 1 1 false)) (i 3 0) .aF) (.str [115,116,97,114,116]) (y (i 3 1))) 4 24 true [] 0),(z 7778,.cells (x (x (y (i 3 0)) (i 3 0) (y (.str []))) (i 4 4) (x (y (i 3 0)) .aG .aF)) 6 49 true [] 0),(z 7779,.cells (y (i 3 0)) 1 3 true [] 0),(z 7772,.cells (x (x (y (.slice (z 7779) 0 1 1 true)) (.slice (z 7778) 0 1 1 false) (y .aG)) .aG (x (y (.str [])) (i 4 69) (y .aG))) 7 47 true [] 0),(z 5576,.cells (x (x (y (.slice (z 6536) 0 2 2 false)) .aG .aF) .aG (y .aG)) 4 59 true [] 0),(z 6268,.cells (x (x (x (y (i 3 0)) (i 3 0) .aF) (.str []) (x (y .aG) (i 4 5) .aF)) (i 4 1) (x (x (y (i 3 0)) .aG .aF) (i 3 0) (y (.str [])))) 10 98 true [z 6256] 0),(z 6330,.cells (x (x (x (y (i 3 0)) (i 3 0) .aF) (.str []) (x (y .aG) (i 4 5) .aF)) (i 4 5) (x (x (y (i 3 0)) .aG .aF) (i 3 1) (y (.str [])))) 10 98 true [z 6318] 0),(z 6333,.cells (x (x (y (i 3 0)) (.str [109,117,108]) .aF) (i 4 14) (x (y (.slice (z 6330) 0 2 2 false)) (i 3 0) .aF)) 5 98 true [] 0),(z 6392,.cells (x (x (x (y (i 3 1)) (i 3 0) .aF) (.str []) (x (y .aG) (i 4 1) .aF)) (i 4 5) (x (x (y (i 3 0)) .aG .aF) (i 3 0) (y (.str [])))) 10 98 true [z 6378] 0),(z 6395,.cells (x (x (y (i 3 0)) (.str [115,117,98]) .aF) (i 4 14) (x (y (.slice (z 6392) 0 2 2 false)) (i 3 0) .aF)) 5 98 true [] 0),(z 6402,.cells (x (x (x (y (i 3 0)) (i 3 0) .aF) (.str []) (x (y (.slice (z 6395) 0 1 1 false)) (i 4 6) .aF)) (i 4 6) (x (x (y (i 3 0)) (.slice (z 6333) 0 1 1 false) .aF) (i 3 1) (y (.str [])))) 10 98 true [z 6340] 0),(z 6411,.cells (x (x (x (y (i 3 0)) (i 3 0) .aF) (.str [108,116]) (x (y (.slice (z 6402) 0 2 2 false)) (i 4 8) .aF)) (i 4 14) (x (x (y (i 3 0)) (.slice (z 6268) 0 2 2 false) .aF) (i 3 0) (y (.str [])))) 10 98 true [z 6271] 0),(z 6430,.cells (x (x (x (y (i 3 0)) (i 3 0) .aF) (.str []) (x (y (.slice (z 6411) 0 2 2 false)) (i 4 10) .aF)) (i 4 1) (x (x (y (i 3 0)) .aG .aF) (i 3 1) (y (.str [])))) 10 98 true [z 6220] 0),(z 6497,.cells (x (x (x (y (i 3 1)) (i 3 0) .aF) (.str []) (x (y .aG) (i 4 5) .aF)) (i 4 7) (x (x (y (i 3 0)) (.slice (z 6430) 0 2 2 false) .aF) (i 3 1) (y (.str [])))) 10 98 true [z 6457] 0),(z 6536,.cells (x (x (x (x (y .aG) (.slice (z 6497) 0 2 2 false) .aF) (i 4 8) (y (i 4 4))) (i 3 1) (x (y (i 3 0)) (i 3 0) (y (i 3 0)))) (.str [102]) (x (x (y (.str [115,116,97,114,116])) (.str []) (y (.str []))) (i 3 2) (x (y (i 3 0)) (i 3 0) (y (i 3 0))))) 16 103 true [z 6504] 0),(z 5577,.cells (x (x (y (.slice (z 7858) 0 2 2 false)) .aG .aF) .aG (y .aG)) 4 68 true [] 0),(z 7856,.cells (x (x (y (.slice (z 7853) 0 2 2 false)) (i 3 0) .aF) (.str [115,116,97,114,116]) (y (i 3 1))) 4 63 true [] 0),(z 7828,.cells (y (.bool true)) 1 4 true [] 0),(z 7829,.cells (y .aG) 1 176 true [] 0),(z 7821,.cells (x (x (y (i 3 0)) (i 3 0) (y (.str []))) (i 4 4) (x (y (i 3 0)) .aG .aF)) 6 49 true [] 0),(z 7824,.cells (y (i 3 0)) 1 3 true [] 0),(z 7826,.cells (x (x (y (.slice (z 7824) 0 1 1 false)) (.slice (z 7821) 0 1 1 false) (y .aG)) .aG (x (y (.str [])) (i 4 69) (y .aG))) 7 47 true [] 0),(z 7830,.cells (x (x (y (.slice (z 7826) 0 1 1 false)) (i 3 0) (y (.slice (z 7829) 0 1 1 true))) (.str [115,116,97,114,116]) (x (y (.slice (z 7828) 0 1 1 true)) (i 3 1) (y (.bool false)))) 7 115 true [] 0),(z 7667,.cells (y (i 3 23)) 1 3 true [] 0),(z 7646,.cells (x (y (i 3 11)) (i 3 10) .aF) 2 3 true [] 0),(z 7733,.cells (y (i 3 7)) 1 3 true [] 0),(z 7624,.cells (y (i 3 7)) 1 3 true [] 0),(z 7656,.cells (y (i 3 12)) 1 3 true [] 0),(z 7718,.cells (y (i 3 7)) 1 3 true [] 0),(z 7609,.cells (y (i 3 2)) 1 3 true [] 0),(z 7684,.cells (x (y (i 3 3)) (i 3 4) .aF) 2 3 true [] 0),(z 7730,.cells (y (i 3 14)) 1 3 true [] 0),(z 7621,.cells (y (i 3 14)) 1 3 true [] 0),(z 7649,.cells (y (i 3 6)) 1 3 true [] 0),(z 7712,.cells (y (i 3 10)) 1 3 true [] 0),(z 7603,.cells (y (i 3 0)) 1 3 true [] 0),(z 7724,.cells (y (i 3 13)) 1 3 true [] 0),(z 7615,.cells (y (i 3 13)) 1 3 true [] 0),(z 7750,.cells (y (i 3 4)) 1 3 true [] 0),(z 7641,.cells (x (y (i 3 3)) (i 3 5) .aF) 2 3 true [] 0),(z 7698,.cells (x (y (i 3 9)) (i 3 3) .aF) 2 3 true [] 0),(z 7752,.cells (x (x (x (x (x (x (x (y .aG) .aG (y .aG)) .aG (x (y .aG) .aG .aF)) .aG (x (x (y .aG) .aG .aF) .aG (x (y .aG) .aG .aF))) .aG (x (x (x (y .aG) .aG (y .aG)) .aG (x (y .aG) .aG .aF)) .aG (x (x (y .aG) .aG .aF) .aG (x (y .aG) .aG .aF)))) (i 3 0) (x (x (x (x (y (i 3 0)) (i 3 0) (y (i 3 0))) (i 3 0) (x (y (i 3 0)) (i 3 0) .aF)) (i 3 0) (x (x (y (i 3 0)) (i 3 0) .aF) (i 3 0) (x (y (i 3 0)) (i 3 0) .aF))) (i 3 1) (x (x (x (y (i 3 0)) (i 3 0) .aF) (i 3 0) (x (y (i 3 0)) (i 3 0) .aF)) (i 3 0) (x (x (y (i 3 0)) (i 3 0) .aF) (i 3 0) (x (y (i 3 0)) (i 3 1) .aF))))) (i 3 1) (x (x (x (x (x (y (i 3 10)) (i 3 6) (y (j 3 0))) (i 3 3) (x (y (i 3 3)) (j 3 0) .aF)) (i 3 13) (x (x (y (i 3 13)) (j 3 0) .aF) (j 3 0) (x (y (j 3 0)) (i 3 8) .aF))) (i 3 2) (x (x (x (y (i 3 11)) (j 3 0) .aF) (i 3 4) (x (y (i 3 4)) (i 3 7) .aF)) (i 3 14) (x (x (y (i 3 14)) (j 3 0) .aF) (i 3 5) (x (y (i 3 12)) (i 3 9) .aF)))) (.str []) (x (x (x (x (y (.str [115,117,98])) (.str [108,116]) (y (.str []))) (.str []) (x (y (.str [])) (.str []) .aF)) (.str []) (x (x (y (.str [])) (.str []) .aF) (.str []) (x (y (.str [])) (.str []) .aF))) (.str []) (x (x (x (y (.str [])) (.str []) .aF) (.str []) (x (y (.str [])) (.str [109,117,108]) .aF)) (.str []) (x (x (y (.str [])) (.str []) .aF) (.str []) (x (y (.str [])) (.str []) .aF)))))) (i 4 4) (x (x (x (x (x (x (y (i 4 14)) (i 4 14) (y (i 4 69))) (i 4 60) (x (y (i 4 60)) (i 4 39) .aF)) (i 4 60) (x (x (y (i 4 60)) (i 4 61) .aF) (i 4 61) (x (y (i 4 61)) (i 4 4) .aF))) (i 4 1) (x (x (x (y (i 4 4)) (i 4 62) .aF) (i 4 60) (x (y (i 4 60)) (i 4 14) .aF)) (i 4 60) (x (x (y (i 4 60)) (i 4 61) .aF) (i 4 1) (x (y (i 4 4)) (i 4 1) .aF)))) (i 3 0) (x (x (x (x (y (i 3 0)) (i 3 0) (y (i 3 0))) (i 3 0) (x (y (i 3 0)) (i 3 0) .aF)) (i 3 0) (x (x (y (i 3 0)) (i 3 0) .aF) (i 3 0) (x (y (i 3 0)) (i 3 0) .aF))) (i 3 0) (x (x (x (y (i 3 0)) (i 3 0) .aF) (i 3 0) (x (y (i 3 0)) (i 3 0) .aF)) (i 3 0) (x (x (y (i 3 0)) (i 3 0) .aF) (i 3 0) (x (y (i 3 0)) (i 3 0) .aF))))) .aG (x (x (x (x (x (y (.slice (z 7698) 0 2 2 false)) (.slice (z 7641) 0 2 2 false) (y (.slice (z 7750) 0 1 1 false))) (.slice (z 7615) 0 1 1 false) (x (y (.slice (z 7724) 0 1 1 false)) .aG .aF)) (.slice (z 7603) 0 1 1 false) (x (x (y (.slice (z 7712) 0 1 1 false)) .aG .aF) .aG (x (y .aG) .aG .aF))) .aG (x (x (x (y .aG) (.slice (z 7649) 0 1 1 false) .aF) (.slice (z 7621) 0 1 1 false) (x (y (.slice (z 7730) 0 1 1 false)) (.slice (z 7684) 0 2 2 false) .aF)) (.slice (z 7609) 0 1 1 false) (x (x (y (.slice (z 7718) 0 1 1 false)) .aG .aF) .aG (x (y .aG) .aG .aF)))) .aG (x (x (x (x (y .aG) .aG (y .aG)) .aG (x (y .aG) .aG .aF)) .aG (x (x (y .aG) (.slice (z 7656) 0 1 1 true) .aF) (.slice (z 7624) 0 1 1 true) (x (y (.slice (z 7733) 0 1 1 true)) .aG .aF))) .aG (x (x (x (y .aG) (.slice (z 7646) 0 2 2 true) .aF) .aG (x (y .aG) .aG .aF)) .aG (x (x (y .aG) (.slice (z 7667) 0 1 1 true) .aF) .aG (x (y .aG) .aG .aF))))))) 200 73 true [z 7746,z 7736,z 7732,z 7726,z 7720,z 7714,z 7704,z 7700,z 7694,z 7690,z 7686,z 7680,z 7670,z 7659,z 7651,z 7643,z 7637,z 7627,z 7623,z 7617,z 7611,z 7605,z 7595,z 7591] 0),(z 7851,.cells (y (i 3 0)) 1 3 true [] 0),(z 7853,.cells (x (x (x (x (y .aG) .aG .aF) (i 3 0) (y (i 3 0))) (i 3 0) (x (y (j 3 0)) (.str []) (y (.str [])))) (i 4 4) (x (x (y (i 4 69)) (i 3 0) (y (i 3 0))) .aG (x (y (.slice (z 7851) 0 1 1 false)) .aG (y .aG)))) 16 73 true [z 7847] 0),(z 7858,.cells (x (x (x (y (.slice (z 7853) 0 2 2 false)) (.slice (z 7752) 0 25 25 false) .aF) (i 3 1) (y (i 3 0))) (.str [102]) (x (y (.str [115,116,97,114,116])) (i 3 15) (y (i 3 1)))) 8 63 true [z 7760] 0)]++O7
def MY:af:=z 7859
def FU:AV:=(i 3 0)
def FW:LO:=[]++FT
def FX:af:=z 9112
def L8:LV:=[(z 16,(.aD (z 9112) 0)),(z 17,(i 3 0))]++L7
def O8:LO:=[(z 9112,.cells (x (x (y (.slice (z 7858) 0 2 2 false)) .aG .aF) .aG (y .aG)) 4 68 true [] 0)]++O7
def X8:af:=z 9113
end Go.ak.R1
end
