/- A part. No conditions. -/
import Derived.Shelf.Sort.Plain
import Derived.Shelf.Slices.In.SortNone
import Derived.Ground.Names2Prog
import Derived.Test.YtjapbgcbkolgmaaGreatDoorProg
import Derived.Test.YtjapbgcbkolgmaaGreatDoorA05
set_option linter.all false
open Nat renaming beq->afw
open Array renaming replicate->aha
noncomputable section
namespace Go.Proofs
section
open Go.Shelf
theorem jn{a b:Func}(h:a=b:=by kernel_rfl):some a=some b:=congrArg some h
def Tryz.aeq:Go.Shelf.Ren:=⟨λ|189=>76|125=>114|257=>113|128=>196|129=>197|294=>187|295=>188|296=>189|297=>190|298=>191|299=>192|216=>193|300=>194|301=>195|328=>287|329=>288|330=>289|331=>290|332=>291|215=>292|343=>352|n=>n,λ|28=>40|3=>3|46=>198|0=>0|51=>258|53=>261|4=>4|183=>268|182=>267|131=>146|5=>5|9=>9|218=>373|222=>377|228=>405|229=>406|n=>n,λ|n=>n⟩
theorem Tryz.Pf:Go.Proofs.Lays.n189 Tryz.prog Tryz.aeq:={
 mixed:=by kernel_rfl
 f125:=Tryz.func114.trans jn
 f128:=Tryz.func196.trans jn
 f129:=Tryz.func197.trans jn
 f189:=Tryz.func76.trans jn
 f215:=Tryz.func292.trans jn
 f216:=Tryz.func193.trans jn
 f257:=Tryz.func113.trans jn
 f294:=Tryz.func187.trans jn
 f295:=Tryz.func188.trans jn
 f296:=Tryz.func189.trans jn
 f297:=Tryz.func190.trans jn
 f298:=Tryz.func191.trans jn
 f299:=Tryz.func192.trans jn
 f300:=Tryz.func194.trans jn
 f301:=Tryz.func195.trans jn
 f328:=Tryz.func287.trans jn
 f329:=Tryz.func288.trans jn
 f330:=Tryz.func289.trans jn
 f331:=Tryz.func290.trans jn
 f332:=Tryz.func291.trans jn
 f343:=Tryz.func352.trans jn
 t0:=Tryz.underlying0
 a0:=Tryz.isAgg0
 z0:=Tryz.sizeOf0
 v0:=Tryz.zeroValue0
 t3:=Tryz.underlying3
 a3:=Tryz.isAgg3
 z3:=Tryz.sizeOf3
 v3:=Tryz.zeroValue3
 t4:=Tryz.underlying4
 a4:=Tryz.isAgg4
 z4:=Tryz.sizeOf4
 v4:=Tryz.zeroValue4
 t5:=Tryz.underlying5
 a5:=Tryz.isAgg5
 z5:=Tryz.sizeOf5
 v5:=Tryz.zeroValue5
 t9:=Tryz.underlying9
 a9:=Tryz.isAgg9
 z9:=Tryz.sizeOf9
 v9:=Tryz.zeroValue9
 t28:=Tryz.underlying40
 a28:=Tryz.isAgg40
 z28:=Tryz.sizeOf40
 v28:=Tryz.zeroValue40
 t46:=Tryz.underlying198
 a46:=Tryz.isAgg198
 z46:=Tryz.sizeOf198
 v46:=Tryz.zeroValue198
 t51:=Tryz.underlying258
 a51:=Tryz.isAgg258
 z51:=Tryz.sizeOf258
 v51:=Tryz.zeroValue258
 t53:=Tryz.underlying261
 a53:=Tryz.isAgg261
 z53:=Tryz.sizeOf261
 v53:=Tryz.zeroValue261
 t131:=Tryz.underlying146
 a131:=Tryz.isAgg146
 z131:=Tryz.sizeOf146
 v131:=Tryz.zeroValue146
 t182:=Tryz.underlying267
 a182:=Tryz.isAgg267
 z182:=Tryz.sizeOf267
 v182:=Tryz.zeroValue267
 t183:=Tryz.underlying268
 a183:=Tryz.isAgg268
 z183:=Tryz.sizeOf268
 v183:=Tryz.zeroValue268
 t218:=Tryz.underlying373
 a218:=Tryz.isAgg373
 z218:=Tryz.sizeOf373
 v218:=Tryz.zeroValue373
 t222:=Tryz.underlying377
 a222:=Tryz.isAgg377
 z222:=Tryz.sizeOf377
 v222:=Tryz.zeroValue377
 t228:=Tryz.underlying405
 a228:=Tryz.isAgg405
 z228:=Tryz.sizeOf405
 v228:=Tryz.zeroValue405
 t229:=Tryz.underlying406
 a229:=Tryz.isAgg406
 z229:=Tryz.sizeOf406
 v229:=Tryz.zeroValue406}
end
end Go.Proofs
namespace Go.al.R1
section
open Go.Proofs
@[irreducible]def e(f:Nat):aX:=((Tryz.prog.funcs[f]?).bind (oX Tryz.prog)).getD .none
theorem aer:Tryz.prog.funcs.toList.all (λfn=>!(fn.name== "runtime.NumGoroutine"))=true:=by kernel_rfl
theorem aes{P:Program}{fn:Func}{a:aX}(h:oX P fn=some a):∃c d b,a=.code c d b:=by unfold oX at h;simp only[acC,aaU,aeO,aaM]at h;obtain⟨_,_,_,_,_,_,rfl⟩:=h;exact⟨_,_,_,rfl⟩
theorem o(f:Nat):kN Tryz.prog f (e f):=by unfold e;cases c:Tryz.prog.funcs[f]? with|none=>trivial|some fn=>simp only[agH];cases d:oX Tryz.prog fn with|none=>trivial|some a=>obtain⟨g,h,b,rfl⟩:=aes d;refine⟨fn,c,d,?_⟩;have:=agn.1 aer fn (Array.mem_toList_iff.2 (Array.mem_of_getElem? c));simpa using this
theorem aet:kN Tryz.prog 76 (.gf pp):=To ⟨⟨Tryz.f76,Tryz.func76,by kernel_rfl,by kernel_rfl⟩⟩ (λbm off cap a w h1 h2 h3=>Any.slices_Sort_int Tryz.Pf bm off cap a w h1 h2 h3) (λp cap w=>Any.slices_Sort_int_none Tryz.Pf p cap w)
def aeu:List (Nat×aX):=[(351,.code 6 [.tmp (sl 2)] (GM 387 274)),(387,.code 4 [.tmp (sl 2)] (Cg 413 135)),(274,.code 9 [.tmp (sl 2)] (Cf 348 76)),(76,.gf pp),(348,.code 5 [.tmp (sl 2)] (Ad 386)),(386,.code 13 [.tmp (sl 4)] (tG 40)),(413,.code 14 [] Ci)]
theorem bT{n:Nat}{a:aX}(h:e n=a):kN Tryz.prog n a:=Eq.mp (congrArg (kN Tryz.prog n) h) (o n)
theorem aev:fM Tryz.prog (tH aeu):=wg (Cl ⟨bT (by kernel_rfl),bT (by kernel_rfl),bT (by kernel_rfl),aet,bT (by kernel_rfl),bT (by kernel_rfl),bT (by kernel_rfl),trivial⟩)
theorem Pg:kN Tryz.prog 351 (.gf B9):=TG aev (listF:=351) (keysF:=387) (sortedF:=274) (sortF:=76) (collF:=348) (appF:=386) (iterF:=413) (e1:=135) (e2:=40) rfl rfl rfl rfl rfl rfl rfl
theorem Ph:fM Tryz.prog (my 93 94):=TH (bT (by kernel_rfl)) (bT (by kernel_rfl))
theorem Pj:kN Tryz.prog 1004 (.dD (zZ 93)):=Ta (by decide) Ph
theorem Pk:kN Tryz.prog 1005 (.dD (z6 93)):=Tc (by decide) Ph
def Bf:List (Nat×aX):=[(351,.gf B9),(1004,.dD (zZ 93)),(1005,.dD (z6 93))]
def sF:Nat->(Nat->aX)->ak aX
 |0,_=>.aG
 |d+1,f=>.node (sF d λm=>f (2*m+1)) (f 0) (sF d λm=>f (2*m+2))
theorem IU:∀(d:Nat)(f:Nat->aX)(n:Nat),(sF d f).bp .none n=f n\/(sF d f).bp .none n=.none
 |0,_,_=>.inr rfl
 |_+1,_,0=>.inl rfl
 |d+1,f,n+1=>by
  simp only[sF,ak.bp];split;·have:=IU d (λm=>f (2*m+1)) (n/2);simpa only[show 2*(n/2)+1=n+1 by omega]using this
  have:=IU d (λm=>f (2*m+2)) (n/2);simpa only[show 2*(n/2)+2=n+1 by omega]using this
def sG(sp:List (Nat×aX))(f:Nat):aX:=match tH sp f with
 |.none=>e f
 |a=>a
theorem Pl{P:Program}{ac:Nat->aX}(a:fM P ac)(f:Nat):kN P f (ac f):=by cases h:ac f with|none=>trivial|code b c body=>exact a.code f b c body h|gf g=>exact a.gf f g h|dD g=>exact a.dD f g h
theorem Pm{sp:List (Nat×aX)}(h:fM Tryz.prog (tH sp)):fM Tryz.prog ((sF 10 (sG sp)).bp .none):=wg λf=>by
 rcases IU 10 (sG sp) f with h1|h1<;>rw[h1]
 .have:=Pl h f;unfold sG;split;·exact o f
  exact this
 trivial
def kX:ak aX:=sF 10 (sG Bf)
theorem Pn:fM Tryz.prog (tH Bf):=wg (Cl ⟨Pg,Pj,Pk,trivial⟩)
theorem oP:fM Tryz.prog (kX.bp .none):=Pm Pn
theorem aew(f:Nat):kN Tryz.prog f (sG Bf f):=by
 have:=Pl Pn f;unfold sG;split;·exact o f
 exact this
end
end Go.al.R1
namespace Go.al
section
variable[Ov]
section
variable{P:Program}{nt:Nat}
def gQ(P:Program)(nt:Nat)(c:bg)(fr:Fr)(H:ah)(K:bU->Fr->ah->Prop):Prop:=
 ∀{e:bS}{d:aO}{w:World}{cc:Code}{b:Frame}{a:Act},dt P nt cc=some c->fC d nt fr b.roundOf a->bj P e d H w->∀(k:List Item)(cs:List Frame),gk P e d nt w b k cs (lone (b.atR a (.code cc::k)) cs w) K
theorem gQ.run{ac:Nat->aX}(a:fM P ac){n:Nat}{c:bg}{fr:Fr}{H:ah}{K:bU->Fr->ah->Prop}(he:exec False cA ac n c fr H K):gQ P nt c fr H K:=λb d e k cs=>(vL a n).2.1 b he d e k cs
theorem gQ.pv{c:bg}{aa d:ak AV}{m:List af}{r:Option af}{H Hs:ah}{K:bU->Fr->ah->Prop}(l:Hs.next=H.next)(hs:∀i,Hs.get i=.none\/Hs.get i=H.get i)(n:∀t,t<nt->d.get .ahp (af.cr t)=.b9\/d.get .ahp (af.cr t)=aa.get .ahp (af.cr t))(h:gQ P nt c ⟨d,m,r⟩ Hs K):gQ P nt c ⟨aa,m,r⟩ H K:=by
 intro q g w cc b a o f p k cs;refine h o ⟨⟨f.E.1,λt j=>?_⟩,f.D,f.R⟩ (p.sub l λi=>(hs i).symm) k cs;rcases n t j with e|e;·show VR g (d.get .ahp (af.cr t)) _;rw[e];simp only[VR]
 show VR g (d.get .ahp (af.cr t)) _;rw[e];exact f.E.2 t j
theorem gQ.seq{x y:bg}{fr:Fr}{H:ah}{K1 K:bU->Fr->ah->Prop}(h1:gQ P nt x fr H K1)(h2:∀j d f,K1 j d f->j=.none/\gQ P nt y d f K):gQ P nt (.seq x y) fr H K:=by
 intro I J w cc b a c z A k cs;induction cc generalizing k with
 |scope x B=>simp only[dt]at c;obtain⟨j,d,f,e,q,r,t,g,i,m,n,o,p,s⟩:=B c (.inScope x::k);refine .fN (.one Kj) (.fN s ?_);cases j with|none=>rw[show t=.inScope x::k from p];exact .fN (.one Kk) ⟨.none,d,f,e,q,r,k,g,i,m,n,o,rfl,Steps.refl _ _⟩|exit id=>exact⟨.exit id,d,f,e,q,r,t,g,i,m,n,o,p.pd (λ_ _=>rfl) trivial,Steps.refl _ _⟩|ret=>exact⟨.ret,d,f,e,q,r,t,g,i,m,n,o,p.pd (λ_ _=>rfl) trivial,Steps.refl _ _⟩
 |seq L u _ _=>
  simp only[dt]at c;split at c
  .rename_i M N C D;injection c with c;split at c;·cases c
   injection c with E F;subst E;subst F;obtain⟨j,d,f,e,q,r,t,g,i,m,n,o,p,s⟩:=h1 C z A (.code u::k) cs;obtain⟨rfl,G⟩:=h2 j d f g;refine .fN (.one stepR_seq) (.fN s ?_);rw[show t=.code u::k from p];exact .qp i o (G D m n k cs)
  cases c
 |region id az v=>simp only[dt,adN]at c;obtain⟨_,_,h⟩:=c;cases h
 |skip=>simp[dt]at c
 |label l=>simp[dt]at c
 |cond c0 x y _ _=>simp only[dt]at c;split at c<;>simp at c
 |block id x _=>simp only[dt,adN]at c;obtain⟨_,_,h⟩:=c;cases h
 |loop x _=>simp only[dt,adN]at c;obtain⟨_,_,h⟩:=c;cases h
 |_=>simp[dt]at c<;>(try(split at c<;>simp at c))
theorem aek{ac:Nat->aX}(N:fM P ac){f:Nat}{rs:List fR}{body:bg}(hg:ac f=.code nt rs body){H:ah}{v:AV}{args:List AV}(hl:args.length<=nt)(he:gQ P nt body ⟨iS args .xH .aG,[],none⟩ H λj fr k=>(match j with|.exit _=>False|_=>True)/\fr.br=[]/\∃l,ef fr.aa k rs=some l/\v=fL l){J:bS}{r:aO}{w:World}{d:Array Value}(O:aQ r args d.toList)(Q:bj P J r H w):Calls P f d w λe s=>∃k c,e=.returned c/\bZ P J r w v k c s:=by
 intro cs;obtain⟨fn,n,o,G⟩:=N.code f nt rs body hg;simp only[oX,acC,aaU,aeO,aaM,aX.code.injEq]at o;obtain⟨cc,x,I,m,ag,y,R,S,T⟩:=o;subst R;subst S;subst T;let b:Frame:={(default:Frame)with fn:=f,kind:=.normal};let a:Act:={tmps:=d++aha (fn.ntmps - d.size) undef,defers:=[]};have i:Frame.enter P f d .normal=b.atR a [.code cc]:=by simp only[Frame.enter,Frame.atR,n,x,b,a,afL,af5,agH];rfl
 have V:fC r fn.ntmps ⟨iS args .xH .aG,[],none⟩ b.roundOf a:=⟨FY O hl,trivial,trivial⟩;obtain⟨j,z,k,A,u,s,t,⟨h0,B,l,C,F⟩,h2,h3,W,X,K,Y⟩:=he m V Q [] cs;have p:∃h:Frame,h={b.atR u h.todo with mode:=.returning}/\step P (lone (b.atR u t) cs s)=.next (lone h cs s):=by cases j with|none=>rw[show t=[]from K];exact⟨_,rfl,stepR_end rfl⟩|exit id=>exact h0.elim|ret=>obtain⟨k0,rfl⟩:=K;exact⟨_,rfl,stepR_ret rfl⟩
 obtain⟨h,g,cD⟩:=p;have Z:gZ k z.br=some k:=by rw[B];rfl
 have q:h={h with defers:=u.defers}:=by rw[g];rfl
 obtain⟨w2,L,M,s3⟩:=BN W h3.D Z h cs (by rw[g]);rw[<-q]at L;obtain⟨c,hc,hv⟩:=F1 M h3.E y C;subst F;refine⟨.returned c,w2,{h with defers:=[]},⟨k,c,rfl,A,h2,hv,M,X.trans s3⟩,?_,?_,?_⟩;·rw[i];exact Y.trans (.head cD L)
 .show h.fn=f;rw[g];rfl
 refine⟨by rw[g],rfl,by rw[g];rfl,fn,by rw[g];exact n,?_⟩;rw[g];exact hc
abbrev LV:=List (af×AV)
abbrev LO:=List (af×bL)
def IM:LV->ak AV->Prop
 |[],_=>True
 |(p,v)::l,e=>e.get .ahp p=v/\IM l e
def Bb:LO->ah->Prop
 |[],_=>True
 |(p,o)::l,H=>H.get p=o/\Bb l H
def IN:LV->Prop
 |[]=>True
 |(_,v)::l=>v=v/\IN l
def Eu:LO->Prop
 |[]=>True
 |(_,o)::l=>o=o/\Eu l
theorem Pa:∀l,IN l|[]=>trivial|_::l=>⟨rfl,Pa l⟩
theorem IP:∀l,Eu l|[]=>trivial|_::l=>⟨rfl,IP l⟩
def At(L:LV)(O:LO)(X:af)(j:bU)(fr:Fr)(H:ah):Prop:=j=.none/\fr.br=[]/\fr.bw=none/\H.next=X/\IM L fr.aa/\Bb O H
def pO(L:LV)(O:LO)(X:af):Prop:=bU.none=bU.none/\([]:List af)=[]/\(none:Option af)=none/\X=X/\IN L/\Eu O
theorem ael(L:LV)(O:LO)(X:af):pO L O X:=⟨rfl,rfl,rfl,rfl,Pa L,IP O⟩
def jt:Nat->ak AV
 |0=>.aG
 |n+1=>.node (jt n) .b9 (jt n)
def kC:LV->ak AV
 |[]=>jt 8
 |(p,v)::l=>(kC l).set .ahp p v
def fP:LO->ak bL
 |[]=>.aG
 |(p,o)::l=>(fP l).set .none p o
theorem IQ:∀(n:Nat)(p:af),p.am<2^n->(jt n).get .ahp p=.b9
 |0,p,h=>by have:=af.oY p;simp at h;omega
 |n+1,.xH,_=>rfl
 |n+1,.xO p,h=>by
  have:p.am<2^n:=by simp only[af.am]at h;rw[Nat.pow_succ]at h;omega
  exact IQ n p this
 |n+1,.xI p,h=>by
  have:p.am<2^n:=by simp only[af.am]at h;rw[Nat.pow_succ]at h;omega
  exact IQ n p this
theorem Pb{q:af}(a:q.am<256):∀{L:LV}{e:ak AV},IM L e->(kC L).get .ahp q=.b9\/(kC L).get .ahp q=e.get .ahp q
 |[],e,_=>.inl (IQ 8 q (by simpa using a))
 |(p,v)::l,e,h=>by
  simp only[kC,ak.aC];split;·rename_i b;right;rw[b,h.1]
  exact Pb a h.2
theorem ah.IR:∀q:af,(ak.aG:ak bL).get .none q=.none|.xH=>rfl|.xO p=>ah.IR p|.xI p=>ah.IR p
theorem Ev{q:af}:∀{O:LO}{H:ah},Bb O H->(fP O).get .none q=.none\/(fP O).get .none q=H.get q
 |[],H,_=>.inl (ah.IR q)
 |(p,o)::l,H,h=>by
  simp only[fP,ak.aC];split;·rename_i a;right;rw[a,h.1]
  exact Ev h.2
theorem gQ.at{c:bg}{K:bU->Fr->ah->Prop}{L:LV}{O:LO}{X:af}{j:bU}{fr:Fr}{H:ah}(f:nt<=255)(h:At L O X j fr H)(b:gQ P nt c ⟨kC L,[],none⟩ ⟨fP O,X⟩ K):j=.none/\gQ P nt c fr H K:=by obtain⟨h1,h2,h3,d,a,e⟩:=h;obtain⟨aa,m,r⟩:=fr;simp only at h2 h3 a;subst h2;subst h3;exact⟨h1,gQ.pv (Hs:=⟨fP O,X⟩) d.symm (λi=>show(fP O).get .none i=.none\/(fP O).get .none i=H.get i from Ev e) (λt g=>Pb (by rw[af.jL];omega) a) b⟩
end
section
variable{P:Program}
def Bc(args:List AV)(H:ah):Option (AV×ah):=
 match args with
 |[]=>some (.bool true,H)
 |_=>none
theorem aem{f n:Nat}(s:GJ P f)(t:P.globals.size=n)(h:∀{j:bS}{a:aO}{w:World},bj P j a ⟨.aG,af.cr n⟩ w->Calls P f #[] w λe d=>∃k c,e=.returned c/\bZ P j a w (.bool true) k c d):rp P f Bc:=by
 intro j a H k w args v b hg u m fr cs hat;unfold Bc at hg;split at hg;case h_2=>cases hg
 injection hg with hg;injection hg with o p;subst o;subst p;obtain⟨l⟩:=b;cases l with
 |cons _ _=>simp[aQ]at u
 |nil=>
  have q:n<=w.heap.size:=by cases n with|zero=>exact Nat.zero_le _|succ n=>exact m.dO _ _ _ (m.jV n (by omega))
  refine GK s (h (TK t q)) ?_ fr cs hat;rintro e d⟨k,c,rfl,x,z,r,y,g⟩;refine⟨c,rfl,a,bQ.refl a,?_,?_⟩;·cases c<;>simp only[VR]at r⊢;exact r
  refine bj.grow m (os:=d.heap.extract w.heap.size d.heap.size) ?_ g.os g.tape g.output;apply ag6;intro i;rw[Array.getElem?_append];split;·rename_i hi;exact g.block i hi (by show¬(w.heap.size<=i);omega)
  rename_i hi;rw[Array.getElem?_extract];split;·congr 1;omega
  rw[afU (by omega)]
end
end
section
def Ew:List AV->List AV->Bool
 |[],[]=>true
 |a::l,b::m=>gT a b&&Ew l m
 |_,_=>false
theorem Pc:∀{l m:List AV},Ew l m=true->l=m|[],[],_=>rfl|a::l,b::m,h=>by simp only[Ew,ae9]at h;rw[F8 h.1,Pc h.2]|[],_::_,h=>by cases h|_::_,[],h=>by cases h
def Bd:ak AV->ak AV->Bool
 |.aG,.aG=>true
 |.node l v r,.node a b c=>Bd l a&&(gT v b&&Bd r c)
 |_,_=>false
theorem IS:∀{s t:ak AV},Bd s t=true->s=t|.aG,.aG,_=>rfl|.node l v r,.node a b c,h=>by simp only[Bd,ae9]at h;rw[IS h.1,F8 h.2.1,IS h.2.2]|.aG,.node _ _ _,h=>by cases h|.node _ _ _,.aG,h=>by cases h
def Ex:List af->List af->Bool
 |[],[]=>true
 |a::l,b::m=>af.beq a b&&Ex l m
 |_,_=>false
theorem Pd:∀{l m:List af},Ex l m=true->l=m|[],[],_=>rfl|a::l,b::m,h=>by simp only[Ex,ae9,af.eS]at h;rw[h.1,Pd h.2]|[],_::_,h=>by cases h|_::_,[],h=>by cases h
def IT:bL->bL->Bool
 |.cells c n e rw aM fz,.cells d f g a Gf b=>Bd c d&&(afw n f&&(afw e g&&((rw==a)&&(Ex aM Gf&&afw fz b))))
 |_,_=>false
theorem aen{o a:bL}(h:IT o a=true):o=a:=by cases o<;>cases a<;>simp only[IT,abe,ae9,Nat.beq_eq,beq_iff_eq]at h;rw[IS h.1,h.2.1,h.2.2.1,h.2.2.2.1,Pd h.2.2.2.2.1,h.2.2.2.2.2]
def zc(H:ah):LO->Bool
 |[]=>true
 |(p,o)::l=>IT (H.get p) o&&zc H l
theorem Pe{H:ah}:∀{O:LO},zc H O=true->Bb O H|[],_=>trivial|(_,_)::_,h=>by simp only[zc,ae9]at h;exact⟨aen h.1,Pe h.2⟩
def Be(A:List AV)(O:LO)(X:af)(V:AV)(a:LO)(b:af)(args:List AV)(H:ah):Option (AV×ah):=
 match Ew args A&&(af.beq H.next X&&zc H O)with
 |true=>some (V,⟨fP a,b⟩)
 |false=>none
section
variable[Ov]
variable{P:Program}
def Ey(V:AV)(O:LO)(X:af)(v:AV)(H:ah):Prop:=v=V/\H.next=X/\Bb O H
def Ez(V:AV)(O:LO)(X:af):Prop:=V=V/\X=X/\Eu O
theorem aeo(V:AV)(O:LO)(X:af):Ez V O X:=⟨rfl,rfl,IP O⟩
theorem aep{ac:Nat->aX}(r:fM P ac){f n:Nat}{A:List AV}{O d:LO}{X o:af}{V:AV}(he:dT False cA ac n (.func f [] []) A ⟨fP O,X⟩ (Ey V d o)):rp P f (Be A O X V d o):=by
 intro s t H G w args v q hg a u fr cs hat;unfold Be at hg;split at hg;case h_2=>cases hg
 rename_i p;simp only[ae9,af.eS]at p;obtain⟨h1,h2,h3⟩:=p;injection hg with hg;injection hg with g x;subst g;subst x;have e:=Pc h1;subst e;have y:=Pe h3;have h:bj P s t ⟨fP O,X⟩ w:=u.sub h2.symm λi=>(show(fP O).get .none i=.none\/(fP O).get .none i=H.get i from Ev y).symm;obtain⟨v,z,c,B,j,k,C,⟨rfl,D,E⟩,⟨l,b,g,m,F⟩,hb,hs⟩:=RP r n he (fv:=.func (.func f) #[] #[]) (by simp[VR,aQ]) a h fr cs hat;refine⟨v,_,c,B,j,k,C,⟨rfl,rfl⟩,⟨l,b,g,m.sub D.symm λi=>(show(fP d).get .none i=.none\/(fP d).get .none i=z.get i from Ev E).symm,F⟩,?_,hs⟩;simpa[lQ,Deferred.ofValue,invoke]using hb
end
end
end Go.al
namespace Go.al.R1
def hd:bg->bg
 |.seq a _=>a
 |c=>c
def tl:bg->bg
 |.seq _ b=>b
 |c=>c
def b5:bg:=match e 5 with
 |.code _ _ b=>b
 |_=>.skip
def zz:Nat->Nat->af
 |0,_=>.xH
 |k+1,n=>bif afw n 1 then .xH else bif afw (n % 2) 1 then .xI (zz k (n/2))else .xO (zz k (n/2))
abbrev z:=zz 20
abbrev y(v:AV):ak AV:=.node .aG v .aG
abbrev x(l:ak AV)(v:AV)(r:ak AV):ak AV:=.node l v r
def L0:LV:=[]
def O0:LO:=[]
def X0:af:=af.cr 6
def c0:bg:=tl b5
def c1:bg:=tl c0
def c2:bg:=tl c1
def c3:bg:=tl c2
def c4:bg:=tl c3
def c5:bg:=tl c4
def c6:bg:=tl c5
def c7:bg:=tl c6
def c8:bg:=tl c7
def L1:LV:=[(z 2,(.aE (z 1010) 0)),(z 3,(i 3 0))]++L0
def O1:LO:=[(z 990,.cells (x (x (y (i 3 0)) (i 3 12) (y (.str []))) (i 4 4) (x (y (i 3 0)) .aH .aG)) 6 51 true [] 0),(z 874,.cells (x (y (i 3 2)) (i 3 0) .aG) 2 3 true [z 872] 0),(z 875,.cells (x (y (.slice (z 874) 0 2 2 false)) (i 3 1) .aG) 2 79 true [] 0),(z 906,.cells (y (i 3 6)) 1 3 true [] 0),(z 983,.cells (x (y (i 3 7)) (i 3 10) .aG) 2 3 true [z 981] 0),(z 984,.cells (x (y (.slice (z 983) 0 2 2 false)) (i 3 1) .aG) 2 79 true [] 0),(z 999,.cells (y (i 3 4)) 1 3 true [] 0),(z 902,.cells (x (y (i 3 3)) (i 3 5) .aG) 2 3 true [z 896] 0),(z 905,.cells (x (x (x (y (i 3 6)) (i 3 0) (y (.str [108,116]))) (i 3 5) (x (y (i 3 0)) (.str []) .aG)) (i 4 1) (x (x (y (.slice (z 902) 0 2 2 false)) (i 3 0) .aG) .aH (x (y (i 3 0)) (i 4 14) .aG))) 12 51 true [z 894] 0),(z 907,.cells (x (x (y .aH) .aH .aG) (i 3 2) (y (i 3 3))) 4 79 true [] 0),(z 815,.cells (x (x (x (y (i 3 2)) (i 3 0) (y (.str []))) (i 3 1) (x (y (i 3 1)) (.str []) .aG)) (i 4 4) (x (x (y .aH) (i 3 0) .aG) .aH (x (y (i 3 0)) (i 4 1) .aG))) 12 51 true [z 798] 0),(z 882,.cells (x (y (i 3 4)) (i 3 3) .aG) 2 3 true [z 880] 0),(z 969,.cells (x (y (i 3 9)) (i 3 3) .aG) 2 3 true [z 960] 0),(z 936,.cells (x (y (i 3 3)) (i 3 4) .aG) 2 3 true [z 930] 0),(z 977,.cells (x (x (x (x (x (y (i 3 11)) (i 3 0) .aG) (i 3 7) (y (.str []))) (i 3 0) (x (x (y (.str [])) (i 3 9) .aG) (.str [109,117,108]) (y (i 3 0)))) (j 3 0) (x (x (x (y (i 3 0)) (.str []) .aG) (i 3 0) (y (i 3 10))) (.str []) (x (y (i 3 1)) (i 3 8) (y (.str [115,117,98]))))) (i 4 39) (x (x (x (x (y .aH) (i 3 0) .aG) (.slice (z 936) 0 2 2 false) (y (i 4 14))) (i 3 0) (x (y .aH) (i 4 4) (y (i 3 0)))) .aH (x (x (x (y (i 3 0)) (i 4 1) .aG) (i 3 0) (y (.slice (z 969) 0 2 2 false))) (i 4 14) (x (y (i 3 0)) .aH (y (i 4 4)))))) 36 51 true [z 972,z 967,z 944,z 939,z 913] 0),(z 987,.cells (x (x (x (x (y (.slice (z 977) 0 6 6 false)) (.slice (z 882) 0 2 2 false) (y (i 4 69))) .aH (x (y .aH) (.str []) (y .aH))) (.slice (z 815) 0 2 2 false) (x (x (y .aH) (i 4 62) (y (.str []))) .aH (x (y .aH) (.slice (z 907) 0 2 2 true) .aG))) .aH (x (x (x (y (i 4 61)) (.slice (z 905) 0 2 2 false) (y (.slice (z 999) 0 1 1 true))) (.str []) (x (y (.slice (z 984) 0 1 1 true)) .aH .aG)) (i 4 61) (x (x (y (.str [])) (.slice (z 906) 0 1 1 true) (y .aH)) (.slice (z 875) 0 1 1 true) (x (y (.slice (z 990) 0 1 1 false)) .aH .aG)))) 28 49 true [] 0),(z 1010,.cells (x (x (y (.slice (z 987) 0 4 4 false)) (i 3 1) .aG) (.str [102]) (y (i 3 13))) 4 24 true [] 0)]++O0
def X1:af:=z 1011
def L2:LV:=[(z 4,(.slice (z 1644) 0 4 4 false)),(z 5,(i 3 0))]++L1
def O2:LO:=[(z 1644,.cells (x (x (y (i 3 2)) (i 3 1) .aG) (i 3 0) (y (i 3 3))) 4 3 true [] 0)]++O1
def X2:af:=z 1645
def L3:LV:=[(z 6,(.slice (z 2283) 0 4 4 true)),(z 7,(i 3 0))]++L2
def O3:LO:=[(z 2283,.cells (x (x (y (i 3 1)) (i 3 0) .aG) (j 3 0) (y (i 3 1))) 4 3 true [] 0)]++O2
def X3:af:=z 2356
def L4:LV:=[(z 8,(.slice (z 2941) 0 4 4 true)),(z 9,(i 3 0))]++L3
def O4:LO:=[(z 3143,.cells (y (i 3 1)) 1 3 true [] 0),(z 2941,.cells (x (x (y .aH) (.slice (z 3126) 0 1 1 false) .aG) .aH (y (.slice (z 3143) 0 1 1 false))) 4 40 true [] 0)]++O3
def X4:af:=z 3150
def L5:LV:=[(z 10,(.slice (z 4130) 0 4 4 true)),(z 11,(i 3 0))]++L4
def O5:LO:=[(z 4136,.cells (x (y (i 3 4)) (i 3 3) .aG) 2 3 true [z 4134] 0),(z 4138,.cells (y (i 3 4)) 1 3 true [] 0),(z 4130,.cells (x (x (y (.slice (z 4138) 0 1 1 false)) .aH .aG) (.slice (z 4132) 0 1 1 false) (y (.slice (z 4136) 0 2 2 false))) 4 40 true [] 0)]++O4
def X5:af:=z 4139
def L6:LV:=[(z 12,(.slice (z 4725) 0 13 13 true)),(z 13,(i 3 0))]++L5
def O6:LO:=[(z 4725,.cells (x (x (x (y (i 3 1)) (i 3 3) (y (i 3 0))) (i 3 0) (x (y (i 3 1)) (i 3 1) .aG)) (i 3 1) (x (x (y (i 3 0)) (i 3 2) (y (i 3 0))) (i 3 1) (x (y (i 3 1)) (i 3 1) .aG))) 13 3 true [] 0)]++O5
def X6:af:=z 4785
def L7:LV:=[(z 14,(.aE (z 5545) 0)),(z 15,(i 3 0))]++L6
def O7:LO:=[(z 5411,.cells (y (i 3 7)) 1 3 true [] 0),(z 5539,.cells (x (x (x (x (x (x (x (y .aH) .aH (y .aH)) .aH (x (y .aH) .aH .aG)) .aH (x (x (y .aH) .aH .aG) .aH (x (y .aH) .aH .aG))) .aH (x (x (x (y .aH) .aH (y .aH)) .aH (x (y .aH) .aH .aG)) .aH (x (x (y .aH) .aH .aG) .aH (x (y .aH) .aH .aG)))) (i 3 0) (x (x (x (x (y (i 3 0)) (i 3 0) (y (i 3 0))) (i 3 0) (x (y (i 3 0)) (i 3 0) .aG)) (i 3 0) (x (x (y (i 3 0)) (i 3 0) .aG) (i 3 0) (x (y (i 3 0)) (i 3 0) .aG))) (i 3 1) (x (x (x (y (i 3 0)) (i 3 0) .aG) (i 3 0) (x (y (i 3 0)) (i 3 0) .aG)) (i 3 0) (x (x (y (i 3 0)) (i 3 0) .aG) (i 3 0) (x (y (i 3 0)) (i 3 1) .aG))))) (i 3 1) (x (x (x (x (x (y (i 3 10)) (i 3 6) (y (j 3 0))) (i 3 3) (x (y (i 3 3)) (j 3 0) .aG)) (i 3 13) (x (x (y (i 3 13)) (j 3 0) .aG) (j 3 0) (x (y (j 3 0)) (i 3 8) .aG))) (i 3 2) (x (x (x (y (i 3 11)) (j 3 0) .aG) (i 3 4) (x (y (i 3 4)) (i 3 7) .aG)) (i 3 14) (x (x (y (i 3 14)) (j 3 0) .aG) (i 3 5) (x (y (i 3 12)) (i 3 9) .aG)))) (.str []) (x (x (x (x (y (.str [115,117,98])) (.str [108,116]) (y (.str []))) (.str []) (x (y (.str [])) (.str []) .aG)) (.str []) (x (x (y (.str [])) (.str []) .aG) (.str []) (x (y (.str [])) (.str []) .aG))) (.str []) (x (x (x (y (.str [])) (.str []) .aG) (.str []) (x (y (.str [])) (.str [109,117,108]) .aG)) (.str []) (x (x (y (.str [])) (.str []) .aG) (.str []) (x (y (.str [])) (.str []) .aG)))))) (i 4 4) (x (x (x (x (x (x (y (i 4 14)) (i 4 14) (y (i 4 69))) (i 4 60) (x (y (i 4 60)) (i 4 39) .aG)) (i 4 60) (x (x (y (i 4 60)) (i 4 61) .aG) (i 4 61) (x (y (i 4 61)) (i 4 4) .aG))) (i 4 1) (x (x (x (y (i 4 4)) (i 4 62) .aG) (i 4 60) (x (y (i 4 60)) (i 4 14) .aG)) (i 4 60) (x (x (y (i 4 60)) (i 4 61) .aG) (i 4 1) (x (y (i 4 4)) (i 4 1) .aG)))) (i 3 0) (x (x (x (x (y (i 3 0)) (i 3 0) (y (i 3 0))) (i 3 0) (x (y (i 3 0)) (i 3 0) .aG)) (i 3 0) (x (x (y (i 3 0)) (i 3 0) .aG) (i 3 0) (x (y (i 3 0)) (i 3 0) .aG))) (i 3 0) (x (x (x (y (i 3 0)) (i 3 0) .aG) (i 3 0) (x (y (i 3 0)) (i 3 0) .aG)) (i 3 0) (x (x (y (i 3 0)) (i 3 0) .aG) (i 3 0) (x (y (i 3 0)) (i 3 0) .aG))))) .aH (x (x (x (x (x (y (.slice (z 5485) 0 2 2 false)) (.slice (z 5428) 0 2 2 false) (y (.slice (z 5537) 0 1 1 false))) (.slice (z 5402) 0 1 1 false) (x (y (.slice (z 5511) 0 1 1 false)) .aH .aG)) (.slice (z 5390) 0 1 1 false) (x (x (y (.slice (z 5499) 0 1 1 false)) .aH .aG) .aH (x (y .aH) .aH .aG))) .aH (x (x (x (y .aH) (.slice (z 5436) 0 1 1 false) .aG) (.slice (z 5408) 0 1 1 false) (x (y (.slice (z 5517) 0 1 1 false)) (.slice (z 5471) 0 2 2 false) .aG)) (.slice (z 5396) 0 1 1 false) (x (x (y (.slice (z 5505) 0 1 1 false)) .aH .aG) .aH (x (y .aH) .aH .aG)))) .aH (x (x (x (x (y .aH) .aH (y .aH)) .aH (x (y .aH) .aH .aG)) .aH (x (x (y .aH) (.slice (z 5443) 0 1 1 true) .aG) (.slice (z 5411) 0 1 1 true) (x (y (.slice (z 5520) 0 1 1 true)) .aH .aG))) .aH (x (x (x (y .aH) (.slice (z 5433) 0 2 2 true) .aG) .aH (x (y .aH) .aH .aG)) .aH (x (x (y .aH) (.slice (z 5454) 0 1 1 true) .aG) .aH (x (y .aH) .aH .aG))))))) 200 82 true [z 5533,z 5523,z 5519,z 5513,z 5507,z 5501,z 5491,z 5487,z 5481,z 5477,z 5473,z 5467,z 5457,z 5446,z 5438,z 5430,z 5424,z 5414,z 5410,z 5404,z 5398,z 5392,z 5382,z 5378] 0),(z 5545,.cells (x (x (y (.slice (z 5539) 0 25 25 false)) (i 3 1) .aG) (.str [102]) (y (i 3 15))) 4 69 true [] 0)]++O6
def X7:af:=z 5546
def Po:List AV:=[(.agg [.aH,.aH,.aH,(.slice (z 5575) 0 2 2 true)])]
def IV:LO:=[(z 5577,.cells (x (x (y .aH) .aH .aG) .aH (y .aH)) 4 74 true [] 0),(z 5576,.cells (x (x (y (.slice (z 5575) 0 2 2 true)) .aH .aG) .aH (y .aH)) 4 63 true [] 0),(z 5565,.cells (x (x (x (y (i 3 0)) (i 3 0) .aG) (.str []) (x (y .aH) (i 4 5) .aG)) (i 4 1) (x (x (y (i 3 0)) .aH .aG) (i 3 0) (y (.str [])))) 10 97 true [] 0),(z 5551,.cells (x (x (x (y (i 3 0)) (i 3 0) .aG) (.str []) (x (y .aH) (i 4 5) .aG)) (i 4 5) (x (x (y (i 3 0)) .aH .aG) (i 3 1) (y (.str [])))) 10 97 true [] 0),(z 5554,.cells (x (x (y (i 3 0)) (.str [109,117,108]) .aG) (i 4 14) (x (y (.slice (z 5551) 0 2 2 true)) (i 3 0) .aG)) 5 97 true [] 0),(z 5557,.cells (x (x (x (y (i 3 1)) (i 3 0) .aG) (.str []) (x (y .aH) (i 4 1) .aG)) (i 4 5) (x (x (y (i 3 0)) .aH .aG) (i 3 0) (y (.str [])))) 10 97 true [] 0),(z 5559,.cells (x (x (y (i 3 0)) (.str [115,117,98]) .aG) (i 4 14) (x (y (.slice (z 5557) 0 2 2 true)) (i 3 0) .aG)) 5 97 true [] 0),(z 5561,.cells (x (x (x (y (i 3 0)) (i 3 0) .aG) (.str []) (x (y (.slice (z 5559) 0 1 1 true)) (i 4 6) .aG)) (i 4 6) (x (x (y (i 3 0)) (.slice (z 5554) 0 1 1 true) .aG) (i 3 1) (y (.str [])))) 10 97 true [] 0),(z 5567,.cells (x (x (x (y (i 3 0)) (i 3 0) .aG) (.str [108,116]) (x (y (.slice (z 5561) 0 2 2 true)) (i 4 8) .aG)) (i 4 14) (x (x (y (i 3 0)) (.slice (z 5565) 0 2 2 true) .aG) (i 3 0) (y (.str [])))) 10 97 true [] 0),(z 5570,.cells (x (x (x (y (i 3 0)) (i 3 0) .aG) (.str []) (x (y (.slice (z 5567) 0 2 2 true)) (i 4 10) .aG)) (i 4 1) (x (x (y (i 3 0)) .aH .aG) (i 3 1) (y (.str [])))) 10 97 true [] 0),(z 5572,.cells (x (x (x (y (i 3 1)) (i 3 0) .aG) (.str []) (x (y .aH) (i 4 5) .aG)) (i 4 7) (x (x (y (i 3 0)) (.slice (z 5570) 0 2 2 true) .aG) (i 3 1) (y (.str [])))) 10 97 true [] 0),(z 5575,.cells (x (x (x (x (y .aH) (.slice (z 5572) 0 2 2 true) .aG) (i 4 8) (y (i 4 4))) (i 3 1) (x (y (i 3 0)) (i 3 0) (y (i 3 0)))) (.str [102]) (x (x (y (.str [115,116,97,114,116])) (.str []) (y (.str []))) (i 3 2) (x (y (i 3 0)) (i 3 0) (y (i 3 0))))) 16 102 true [] 0)]++O7
def Pp:af:=z 5578
def IW:AV:=(.tuple [(.agg [.aH,.aH,.aH,(.slice (z 6536) 0 2 2 false)]),(i 3 0)])
def IX:LO:=[(z 6268,.cells (x (x (x (y (i 3 0)) (i 3 0) .aG) (.str []) (x (y .aH) (i 4 5) .aG)) (i 4 1) (x (x (y (i 3 0)) .aH .aG) (i 3 0) (y (.str [])))) 10 97 true [z 6256] 0),(z 6330,.cells (x (x (x (y (i 3 0)) (i 3 0) .aG) (.str []) (x (y .aH) (i 4 5) .aG)) (i 4 5) (x (x (y (i 3 0)) .aH .aG) (i 3 1) (y (.str [])))) 10 97 true [z 6318] 0),(z 6333,.cells (x (x (y (i 3 0)) (.str [109,117,108]) .aG) (i 4 14) (x (y (.slice (z 6330) 0 2 2 false)) (i 3 0) .aG)) 5 97 true [] 0),(z 6392,.cells (x (x (x (y (i 3 1)) (i 3 0) .aG) (.str []) (x (y .aH) (i 4 1) .aG)) (i 4 5) (x (x (y (i 3 0)) .aH .aG) (i 3 0) (y (.str [])))) 10 97 true [z 6378] 0),(z 6395,.cells (x (x (y (i 3 0)) (.str [115,117,98]) .aG) (i 4 14) (x (y (.slice (z 6392) 0 2 2 false)) (i 3 0) .aG)) 5 97 true [] 0),(z 6402,.cells (x (x (x (y (i 3 0)) (i 3 0) .aG) (.str []) (x (y (.slice (z 6395) 0 1 1 false)) (i 4 6) .aG)) (i 4 6) (x (x (y (i 3 0)) (.slice (z 6333) 0 1 1 false) .aG) (i 3 1) (y (.str [])))) 10 97 true [z 6340] 0),(z 6411,.cells (x (x (x (y (i 3 0)) (i 3 0) .aG) (.str [108,116]) (x (y (.slice (z 6402) 0 2 2 false)) (i 4 8) .aG)) (i 4 14) (x (x (y (i 3 0)) (.slice (z 6268) 0 2 2 false) .aG) (i 3 0) (y (.str [])))) 10 97 true [z 6271] 0),(z 6430,.cells (x (x (x (y (i 3 0)) (i 3 0) .aG) (.str []) (x (y (.slice (z 6411) 0 2 2 false)) (i 4 10) .aG)) (i 4 1) (x (x (y (i 3 0)) .aH .aG) (i 3 1) (y (.str [])))) 10 97 true [z 6220] 0),(z 6497,.cells (x (x (x (y (i 3 1)) (i 3 0) .aG) (.str []) (x (y .aH) (i 4 5) .aG)) (i 4 7) (x (x (y (i 3 0)) (.slice (z 6430) 0 2 2 false) .aG) (i 3 1) (y (.str [])))) 10 97 true [z 6457] 0),(z 6536,.cells (x (x (x (x (y .aH) (.slice (z 6497) 0 2 2 false) .aG) (i 4 8) (y (i 4 4))) (i 3 1) (x (y (i 3 0)) (i 3 0) (y (i 3 0)))) (.str [102]) (x (x (y (.str [115,116,97,114,116])) (.str []) (y (.str []))) (i 3 2) (x (y (i 3 0)) (i 3 0) (y (i 3 0))))) 16 102 true [z 6504] 0)]++IV
def IY:af:=z 6969
def Pq:List AV:=[(.agg [.aH,.aH,.aH,(.slice (z 7858) 0 2 2 false)])]
def IZ:LO:=[(z 7857,.cells (x (x (y (.slice (z 7853) 0 2 2 false)) (i 3 0) .aG) (.str [115,116,97,114,116]) (y (i 3 1))) 4 69 true [] 0),(z 7760,.cells (x (x (y (.slice (z 7752) 0 25 25 false)) (i 3 1) .aG) (.str [102]) (y (i 3 15))) 4 69 false [] 0),(z 5565,.cells (x (x (x (y (i 3 0)) (i 3 0) .aG) (.str []) (x (y .aH) (i 4 5) .aG)) (i 4 1) (x (x (y (i 3 0)) .aH .aG) (i 3 0) (y (.str [])))) 10 97 true [] 0),(z 5551,.cells (x (x (x (y (i 3 0)) (i 3 0) .aG) (.str []) (x (y .aH) (i 4 5) .aG)) (i 4 5) (x (x (y (i 3 0)) .aH .aG) (i 3 1) (y (.str [])))) 10 97 true [] 0),(z 5554,.cells (x (x (y (i 3 0)) (.str [109,117,108]) .aG) (i 4 14) (x (y (.slice (z 5551) 0 2 2 true)) (i 3 0) .aG)) 5 97 true [] 0),(z 5557,.cells (x (x (x (y (i 3 1)) (i 3 0) .aG) (.str []) (x (y .aH) (i 4 1) .aG)) (i 4 5) (x (x (y (i 3 0)) .aH .aG) (i 3 0) (y (.str [])))) 10 97 true [] 0),(z 5559,.cells (x (x (y (i 3 0)) (.str [115,117,98]) .aG) (i 4 14) (x (y (.slice (z 5557) 0 2 2 true)) (i 3 0) .aG)) 5 97 true [] 0),(z 5561,.cells (x (x (x (y (i 3 0)) (i 3 0) .aG) (.str []) (x (y (.slice (z 5559) 0 1 1 true)) (i 4 6) .aG)) (i 4 6) (x (x (y (i 3 0)) (.slice (z 5554) 0 1 1 true) .aG) (i 3 1) (y (.str [])))) 10 97 true [] 0),(z 5567,.cells (x (x (x (y (i 3 0)) (i 3 0) .aG) (.str [108,116]) (x (y (.slice (z 5561) 0 2 2 true)) (i 4 8) .aG)) (i 4 14) (x (x (y (i 3 0)) (.slice (z 5565) 0 2 2 true) .aG) (i 3 0) (y (.str [])))) 10 97 true [] 0),(z 5570,.cells (x (x (x (y (i 3 0)) (i 3 0) .aG) (.str []) (x (y (.slice (z 5567) 0 2 2 true)) (i 4 10) .aG)) (i 4 1) (x (x (y (i 3 0)) .aH .aG) (i 3 1) (y (.str [])))) 10 97 true [] 0),(z 5572,.cells (x (x (x (y (i 3 1)) (i 3 0) .aG) (.str []) (x (y .aH) (i 4 5) .aG)) (i 4 7) (x (x (y (i 3 0)) (.slice (z 5570) 0 2 2 true) .aG) (i 3 1) (y (.str [])))) 10 97 true [] 0),(z 5575,.cells (x (x (x (x (y .aH) (.slice (z 5572) 0 2 2 true) .aG) (i 4 8) (y (i 4 4))) (i 3 1) (x (y (i 3 0)) (i 3 0) (y (i 3 0)))) (.str [102]) (x (x (y (.str [115,116,97,114,116])) (.str []) (y (.str []))) (i 3 2) (x (y (i 3 0)) (i 3 0) (y (i 3 0))))) 16 102 true [] 0),(z 7785,.cells (y (.bool true)) 1 4 true [] 0),(z 7786,.cells (y .aH) 1 170 true [] 0),(z 7787,.cells (x (x (y (.slice (z 7772) 0 1 1 false)) (i 3 0) (y (.slice (z 7786) 0 1 1 true))) (.str [115,116,97,114,116]) (x (y (.slice (z 7785) 0 1 1 true)) (i 3 1) (y (.bool false)))) 7 117 true [] 0),(z 7783,.cells (x (x (y (.slice (z 7772) 0 1 1 false)) (i 3 0) .aG) (.str [115,116,97,114,116]) (y (i 3 1))) 4 24 true [] 0),(z 7778,.cells (x (x (y (i 3 0)) (i 3 0) (y (.str []))) (i 4 4) (x (y (i 3 0)) .aH .aG)) 6 51 true [] 0),(z 7779,.cells (y (i 3 0)) 1 3 true [] 0),(z 7772,.cells (x (x (y (.slice (z 7779) 0 1 1 true)) (.slice (z 7778) 0 1 1 false) (y .aH)) .aH (x (y (.str [])) (i 4 69) (y .aH))) 7 49 true [] 0),(z 5576,.cells (x (x (y (.slice (z 6536) 0 2 2 false)) .aH .aG) .aH (y .aH)) 4 63 true [] 0),(z 6268,.cells (x (x (x (y (i 3 0)) (i 3 0) .aG) (.str []) (x (y .aH) (i 4 5) .aG)) (i 4 1) (x (x (y (i 3 0)) .aH .aG) (i 3 0) (y (.str [])))) 10 97 true [z 6256] 0),(z 6330,.cells (x (x (x (y (i 3 0)) (i 3 0) .aG) (.str []) (x (y .aH) (i 4 5) .aG)) (i 4 5) (x (x (y (i 3 0)) .aH .aG) (i 3 1) (y (.str [])))) 10 97 true [z 6318] 0),(z 6333,.cells (x (x (y (i 3 0)) (.str [109,117,108]) .aG) (i 4 14) (x (y (.slice (z 6330) 0 2 2 false)) (i 3 0) .aG)) 5 97 true [] 0),(z 6392,.cells (x (x (x (y (i 3 1)) (i 3 0) .aG) (.str []) (x (y .aH) (i 4 1) .aG)) (i 4 5) (x (x (y (i 3 0)) .aH .aG) (i 3 0) (y (.str [])))) 10 97 true [z 6378] 0),(z 6395,.cells (x (x (y (i 3 0)) (.str [115,117,98]) .aG) (i 4 14) (x (y (.slice (z 6392) 0 2 2 false)) (i 3 0) .aG)) 5 97 true [] 0),(z 6402,.cells (x (x (x (y (i 3 0)) (i 3 0) .aG) (.str []) (x (y (.slice (z 6395) 0 1 1 false)) (i 4 6) .aG)) (i 4 6) (x (x (y (i 3 0)) (.slice (z 6333) 0 1 1 false) .aG) (i 3 1) (y (.str [])))) 10 97 true [z 6340] 0),(z 6411,.cells (x (x (x (y (i 3 0)) (i 3 0) .aG) (.str [108,116]) (x (y (.slice (z 6402) 0 2 2 false)) (i 4 8) .aG)) (i 4 14) (x (x (y (i 3 0)) (.slice (z 6268) 0 2 2 false) .aG) (i 3 0) (y (.str [])))) 10 97 true [z 6271] 0),(z 6430,.cells (x (x (x (y (i 3 0)) (i 3 0) .aG) (.str []) (x (y (.slice (z 6411) 0 2 2 false)) (i 4 10) .aG)) (i 4 1) (x (x (y (i 3 0)) .aH .aG) (i 3 1) (y (.str [])))) 10 97 true [z 6220] 0),(z 6497,.cells (x (x (x (y (i 3 1)) (i 3 0) .aG) (.str []) (x (y .aH) (i 4 5) .aG)) (i 4 7) (x (x (y (i 3 0)) (.slice (z 6430) 0 2 2 false) .aG) (i 3 1) (y (.str [])))) 10 97 true [z 6457] 0),(z 6536,.cells (x (x (x (x (y .aH) (.slice (z 6497) 0 2 2 false) .aG) (i 4 8) (y (i 4 4))) (i 3 1) (x (y (i 3 0)) (i 3 0) (y (i 3 0)))) (.str [102]) (x (x (y (.str [115,116,97,114,116])) (.str []) (y (.str []))) (i 3 2) (x (y (i 3 0)) (i 3 0) (y (i 3 0))))) 16 102 true [z 6504] 0),(z 5577,.cells (x (x (y (.slice (z 7858) 0 2 2 false)) .aH .aG) .aH (y .aH)) 4 74 true [] 0),(z 7856,.cells (x (x (y (.slice (z 7853) 0 2 2 false)) (i 3 0) .aG) (.str [115,116,97,114,116]) (y (i 3 1))) 4 69 true [] 0),(z 7828,.cells (y (.bool true)) 1 4 true [] 0),(z 7829,.cells (y .aH) 1 170 true [] 0),(z 7821,.cells (x (x (y (i 3 0)) (i 3 0) (y (.str []))) (i 4 4) (x (y (i 3 0)) .aH .aG)) 6 51 true [] 0),(z 7824,.cells (y (i 3 0)) 1 3 true [] 0),(z 7826,.cells (x (x (y (.slice (z 7824) 0 1 1 false)) (.slice (z 7821) 0 1 1 false) (y .aH)) .aH (x (y (.str [])) (i 4 69) (y .aH))) 7 49 true [] 0),(z 7830,.cells (x (x (y (.slice (z 7826) 0 1 1 false)) (i 3 0) (y (.slice (z 7829) 0 1 1 true))) (.str [115,116,97,114,116]) (x (y (.slice (z 7828) 0 1 1 true)) (i 3 1) (y (.bool false)))) 7 117 true [] 0),(z 7667,.cells (y (i 3 23)) 1 3 true [] 0),(z 7646,.cells (x (y (i 3 11)) (i 3 10) .aG) 2 3 true [] 0),(z 7733,.cells (y (i 3 7)) 1 3 true [] 0),(z 7624,.cells (y (i 3 7)) 1 3 true [] 0),(z 7656,.cells (y (i 3 12)) 1 3 true [] 0),(z 7718,.cells (y (i 3 7)) 1 3 true [] 0),(z 7609,.cells (y (i 3 2)) 1 3 true [] 0),(z 7684,.cells (x (y (i 3 3)) (i 3 4) .aG) 2 3 true [] 0),(z 7730,.cells (y (i 3 14)) 1 3 true [] 0),(z 7621,.cells (y (i 3 14)) 1 3 true [] 0),(z 7649,.cells (y (i 3 6)) 1 3 true [] 0),(z 7712,.cells (y (i 3 10)) 1 3 true [] 0),(z 7603,.cells (y (i 3 0)) 1 3 true [] 0),(z 7724,.cells (y (i 3 13)) 1 3 true [] 0),(z 7615,.cells (y (i 3 13)) 1 3 true [] 0),(z 7750,.cells (y (i 3 4)) 1 3 true [] 0),(z 7641,.cells (x (y (i 3 3)) (i 3 5) .aG) 2 3 true [] 0),(z 7698,.cells (x (y (i 3 9)) (i 3 3) .aG) 2 3 true [] 0),(z 7752,.cells (x (x (x (x (x (x (x (y .aH) .aH (y .aH)) .aH (x (y .aH) .aH .aG)) .aH (x (x (y .aH) .aH .aG) .aH (x (y .aH) .aH .aG))) .aH (x (x (x (y .aH) .aH (y .aH)) .aH (x (y .aH) .aH .aG)) .aH (x (x (y .aH) .aH .aG) .aH (x (y .aH) .aH .aG)))) (i 3 0) (x (x (x (x (y (i 3 0)) (i 3 0) (y (i 3 0))) (i 3 0) (x (y (i 3 0)) (i 3 0) .aG)) (i 3 0) (x (x (y (i 3 0)) (i 3 0) .aG) (i 3 0) (x (y (i 3 0)) (i 3 0) .aG))) (i 3 1) (x (x (x (y (i 3 0)) (i 3 0) .aG) (i 3 0) (x (y (i 3 0)) (i 3 0) .aG)) (i 3 0) (x (x (y (i 3 0)) (i 3 0) .aG) (i 3 0) (x (y (i 3 0)) (i 3 1) .aG))))) (i 3 1) (x (x (x (x (x (y (i 3 10)) (i 3 6) (y (j 3 0))) (i 3 3) (x (y (i 3 3)) (j 3 0) .aG)) (i 3 13) (x (x (y (i 3 13)) (j 3 0) .aG) (j 3 0) (x (y (j 3 0)) (i 3 8) .aG))) (i 3 2) (x (x (x (y (i 3 11)) (j 3 0) .aG) (i 3 4) (x (y (i 3 4)) (i 3 7) .aG)) (i 3 14) (x (x (y (i 3 14)) (j 3 0) .aG) (i 3 5) (x (y (i 3 12)) (i 3 9) .aG)))) (.str []) (x (x (x (x (y (.str [115,117,98])) (.str [108,116]) (y (.str []))) (.str []) (x (y (.str [])) (.str []) .aG)) (.str []) (x (x (y (.str [])) (.str []) .aG) (.str []) (x (y (.str [])) (.str []) .aG))) (.str []) (x (x (x (y (.str [])) (.str []) .aG) (.str []) (x (y (.str [])) (.str [109,117,108]) .aG)) (.str []) (x (x (y (.str [])) (.str []) .aG) (.str []) (x (y (.str [])) (.str []) .aG)))))) (i 4 4) (x (x (x (x (x (x (y (i 4 14)) (i 4 14) (y (i 4 69))) (i 4 60) (x (y (i 4 60)) (i 4 39) .aG)) (i 4 60) (x (x (y (i 4 60)) (i 4 61) .aG) (i 4 61) (x (y (i 4 61)) (i 4 4) .aG))) (i 4 1) (x (x (x (y (i 4 4)) (i 4 62) .aG) (i 4 60) (x (y (i 4 60)) (i 4 14) .aG)) (i 4 60) (x (x (y (i 4 60)) (i 4 61) .aG) (i 4 1) (x (y (i 4 4)) (i 4 1) .aG)))) (i 3 0) (x (x (x (x (y (i 3 0)) (i 3 0) (y (i 3 0))) (i 3 0) (x (y (i 3 0)) (i 3 0) .aG)) (i 3 0) (x (x (y (i 3 0)) (i 3 0) .aG) (i 3 0) (x (y (i 3 0)) (i 3 0) .aG))) (i 3 0) (x (x (x (y (i 3 0)) (i 3 0) .aG) (i 3 0) (x (y (i 3 0)) (i 3 0) .aG)) (i 3 0) (x (x (y (i 3 0)) (i 3 0) .aG) (i 3 0) (x (y (i 3 0)) (i 3 0) .aG))))) .aH (x (x (x (x (x (y (.slice (z 7698) 0 2 2 false)) (.slice (z 7641) 0 2 2 false) (y (.slice (z 7750) 0 1 1 false))) (.slice (z 7615) 0 1 1 false) (x (y (.slice (z 7724) 0 1 1 false)) .aH .aG)) (.slice (z 7603) 0 1 1 false) (x (x (y (.slice (z 7712) 0 1 1 false)) .aH .aG) .aH (x (y .aH) .aH .aG))) .aH (x (x (x (y .aH) (.slice (z 7649) 0 1 1 false) .aG) (.slice (z 7621) 0 1 1 false) (x (y (.slice (z 7730) 0 1 1 false)) (.slice (z 7684) 0 2 2 false) .aG)) (.slice (z 7609) 0 1 1 false) (x (x (y (.slice (z 7718) 0 1 1 false)) .aH .aG) .aH (x (y .aH) .aH .aG)))) .aH (x (x (x (x (y .aH) .aH (y .aH)) .aH (x (y .aH) .aH .aG)) .aH (x (x (y .aH) (.slice (z 7656) 0 1 1 true) .aG) (.slice (z 7624) 0 1 1 true) (x (y (.slice (z 7733) 0 1 1 true)) .aH .aG))) .aH (x (x (x (y .aH) (.slice (z 7646) 0 2 2 true) .aG) .aH (x (y .aH) .aH .aG)) .aH (x (x (y .aH) (.slice (z 7667) 0 1 1 true) .aG) .aH (x (y .aH) .aH .aG))))))) 200 82 true [z 7746,z 7736,z 7732,z 7726,z 7720,z 7714,z 7704,z 7700,z 7694,z 7690,z 7686,z 7680,z 7670,z 7659,z 7651,z 7643,z 7637,z 7627,z 7623,z 7617,z 7611,z 7605,z 7595,z 7591] 0),(z 7851,.cells (y (i 3 0)) 1 3 true [] 0),(z 7853,.cells (x (x (x (x (y .aH) .aH .aG) (i 3 0) (y (i 3 0))) (i 3 0) (x (y (j 3 0)) (.str []) (y (.str [])))) (i 4 4) (x (x (y (i 4 69)) (i 3 0) (y (i 3 0))) .aH (x (y (.slice (z 7851) 0 1 1 false)) .aH (y .aH)))) 16 82 true [z 7847] 0),(z 7858,.cells (x (x (x (y (.slice (z 7853) 0 2 2 false)) (.slice (z 7752) 0 25 25 false) .aG) (i 3 1) (y (i 3 0))) (.str [102]) (x (y (.str [115,116,97,114,116])) (i 3 15) (y (i 3 1)))) 8 69 true [z 7760] 0)]++O7
def Pr:af:=z 7859
def I0:AV:=(i 3 0)
def I1:LO:=[]++IZ
def I3:af:=z 9112
def L8:LV:=[(z 16,(.aE (z 9112) 0)),(z 17,(i 3 0))]++L7
def O8:LO:=[(z 9112,.cells (x (x (y (.slice (z 7858) 0 2 2 false)) .aH .aG) .aH (y .aH)) 4 74 true [] 0)]++O7
def X8:af:=z 9113
end Go.al.R1
end
