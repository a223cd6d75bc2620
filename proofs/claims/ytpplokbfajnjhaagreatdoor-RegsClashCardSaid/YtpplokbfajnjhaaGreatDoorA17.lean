/- A part. No conditions. -/
import Derived.Test.YtpplokbfajnjhaaGreatDoorA12
set_option linter.all false
set_option maxHeartbeats 16000000
open List renaming replicate->acJ
open Int renaming ofNat->aiC
open List.Sublist renaming cons_cons->ajk
open List.Perm renaming swap->aiK,cons->aiP
open BitVec renaming ofInt->ai4
noncomputable section
namespace Go.al.R
section
variable{ab:Nat->aV}
section
abbrev bt:=Int×Nat
def gS:List bt->List AV
 |[]=>[]
 |o::l=>aI o.1::aU o.2::gS l
theorem LZ:∀{l:List bt}{k:Nat}(h:k<l.length),((gS l).drop (k*2)).take 2=[aI l[k].1,aU l[k].2]|o::l,0,_=>rfl|o::l,k+1,h=>by have:=LZ (l:=l) (k:=k) (by simpa using h);grind[gS]
theorem L8:∀(a b:List bt),gS (a++b)=gS a++gS b|[],b=>rfl|o::a,b=>by simp only[aiR,gS,L8 a b]
theorem L9:∀(l:List bt)(b:Nat),(gS l).take (b*2)=gS (l.take b)|[],b=>by simp[gS]|o::l,0=>by rfl|o::l,b+1=>by rw[show(b+1)*2=b*2+2 by omega];simp only[gS,ajf,L9 l b]
def OpA:ai->bt->List AV->Prop:=λ_ o cs=>cs=[aI o.1,aU o.2]
abbrev km(H:ai)(l:List bt)(v:AV):Prop:=Sl H 2 (gS l) l.length v
theorem km.r{H:ai}{l:List bt}{v:AV}(h:km H l v):cQ 2 OpA H l v:=⟨_,h,λk a=>LZ a⟩
structure qD(g:G.aP)(l:List bt):Prop where
 ok:∀o∈l,0<=o.1/\o.1<g.aj.length/\(g.aj.getD o.1.toNat default).aq.go.length=3
def gu(g:G.aP)(o:bt):Int:=((g.aj.getD o.1.toNat default).aq.go.getD 2 default).block
structure u9(H:ai)(xq:ah)(vb:AV)(os:List (List bt))(svs:List AV):Prop where
 lt:xq.am<H.next.am
 aE:aY H xq 3=some vb
 jm:∃ov,aY H xq 5=some ov/\Sl H 1 svs os.length ov
 len:svs.length=os.length
 bu:∀b(h:b<os.length),km H os[b] (svs.getD b .bM)
theorem u9.bR{H H':ai}{f:ah}{m:AV}{os:List (List bt)}{p:List AV}(h:u9 H f m os p)(g:aS H H'):u9 H' f m os p:=⟨aim h.lt g.nx,by rw[g.aY h.lt];exact h.aE,by obtain⟨a,h1,h2⟩:=h.jm;exact⟨a,by rw[g.aY h.lt];exact h1,g.sl h2⟩,h.len,λb hb=>g.sl (h.bu b hb)⟩
theorem RO.rW{c:Cx}{s:List SI}{L:Kn}{B H:ai}{d:Option ah}{l:List bD}{a:List AV}{n j kd:Nat}{b:AV}{x y:aJ}(hg:aS B H)(hs:Sl B 1 a n b)(h:∀q o,aY H q o=some (a.getD j .bM)->q.am<H.next.am->RO ab c l s (bq L d (.aD q o)) H)(e:aT L x=b:=by exact cw)(g:aT L y=.int kd (.ofNat j):=by exact cw)(hj:j<n:=by first|assumption|omega):RO ab c (⟨d,.dI 1 x y,none,[],[]⟩::l) s L H:=by have hs:=hg.sl hs;have hl:=hs.length;obtain⟨i,o,cap,ex,rfl,_,hi,hat,_⟩:=hs.at aa;refine RO.dI (h i (o+j*1) ?_ hi) e g hj;grind
section
variable{g:G.aP}{m:AV}{f:ah}{A H:ai}{us:List Th}{os:List (List bt)}{p:List AV}
theorem Ma(T:Tb ab)(N:G.Sm g)(hb:cQ 7 iP A g.aj m)(v:aS A H)(d:u9 H f m os p){b:Nat}(i:b<os.length)(y:qD g os[b])(C:os[b].length<=1000){K:KT}(c:K (match os[b].getLast? with|some o=>.tuple [aI (gu g o),.bool true]|none=>.tuple [.int 3 (.negSucc 0),.bool false]) H):YN ab Yc [.aD f 0,aN b] H K:=by
 have⟨O,D,j⟩:=d.jm;have hs:=d.bu b i;have⟨E,_,_,F⟩:=hs.all;have I:=d.aE;refine YF.code T.aar aC (af ?_);refine RO.rW (aS.refl H) j λq o hc _=>af ?_;refine Ru.cond (λ(h:os[b].length=0)=>?_) (λ(h:¬os[b].length=0)=>?_);·have e:os[b]=[]:=aih h;rw[e]at c;refine af ?_;exact Ru.kg c
 obtain⟨o,w⟩:∃o,os[b].getLast?=some o:=by cases h2:os[b].getLast? with|none=>rw[List.getLast?_eq_none_iff]at h2;rw[h2]at h;simp at h|some o=>exact⟨o,rfl⟩
 rw[w]at c;have a:os[b][os[b].length - 1]?=some o:=by rw[<-List.getLast?_eq_getElem?];exact w
 have⟨P,a⟩:=aiF.1 a;obtain⟨h1,h2,h3⟩:=y.ok o (by rw[<-a];exact acm _);obtain⟨t,x⟩:∃t:Nat,o.1=(t:Int):=⟨o.1.toNat,aa⟩;simp only[gu,x,ahX]at h3 c;have k:t<g.aj.length:=aa;rw[bf k]at h3 c;refine af ?_;refine RO.arith (v:=aN (os[b].length - 1)) (af ?_) (hv:=mg aa aa);refine RO.bO (aS.refl H) (km.r hs) (λQ o1 c1 J l _ hat _=>?_);subst l;rw[a,x]at hat;refine af ?_;refine RO.bO v hb (λz o2 c2 L n _ hat _=>?_);obtain⟨R,S,V,rfl,_,_,W,X,B,rfl,_,_,s⟩:=n;refine af ?_;refine RO.be (i:=z) (o:=o2+2+4) (v:=B) (RO.bO v s (λY o3 c3 M u _ hat _=>?_) (hj:=by omega)) (hc:=hat 6 _ rfl);obtain⟨v3,rfl,_⟩:=u;refine af ?_;refine Ru.kg ?_;rw[bf aa]at c;exact c
def bU(g:G.aP)(b:Nat)(a:List bt):List (Int×List bt):=
 let j:=(g.aj.getD b default).aq
 if j.op=67 then[((j.go.getD 0 default).block,a++[((b:Int),0)]),((j.go.getD 1 default).block,a++[((b:Int),1)])]
 else if j.op=68 then(match a.getLast? with|some o=>[(gu g o,a.take (a.length - 1))]|none=>[])
 else j.go.map λe=>(e.block,a)
def FJ(W:List (Int×List bt))(a:List bt)(nv:AV)(k:Nat)(args:List AV)(b:List Th):Prop:=
 ∃(h:k<W.length)(v:AV),args=[aI W[k].1,v]/\v.br=true/\v.cW=true/\v.cells=[v]/\((b=[]/\∀H,km H a nv->km H W[k].2 v)\/b=[tS E4 2 (gS W[k].2) W[k].2.length true v])
structure Ca(g:G.aP)(b:Nat):Prop where
 lt:b<g.aj.length
 tri:(g.aj.getD b default).aq.op=67->(g.aj.getD b default).aq.go.length=3
theorem Mb(T:Tb ab){b:Nat}{K:KT}(d:∀H' a c,ak H H' [tB 3 c [aN b],tB kK a [.aD f 0]]->K (.func BY [] [.aD a 0,.aD c 0]) H'):YN ab XU [.aD f 0,aN b] H K:=by refine YF.code T.Z' aC (au ?_);refine RO.ct (ak.bN H) λH1 a U=>RO.ct U λe c U=>au ?_;exact Ru.aL (d _ a c U)
end
end
section
def tA(v:AV)(n:Nat):AV:=match v with|.slice i o _ _ _=>.slice i o n n true|v=>v
theorem ach(T:Tb ab){B H:ai}{size n:Nat}{e:List AV}{v:AV}(hs:Sl B size e n v):YN ab Ye [v] H λf H'=>f=tA v n/\H'=H:=by
 have⟨hd,_,_,h⟩:=hs.all;refine YF.code T.aau aC (au ?_);rcases hs with⟨rfl,rfl,rfl⟩|⟨i,o,cap,ex,j,m,k,g,aK,fz,rfl,hg,l,hl,p,hi,b⟩;·refine RO.zu (m:=0) (b:=0) (a:=0) rfl rfl rfl rfl (au ?_);exact Ru.aL ⟨rfl,rfl⟩
 refine RO.EY (m:=n) (b:=n) (a:=0) (v:=.slice i o n n true) rfl (by show lL (aN n) cap=_;exact qk b) (by show lL (aN n) n=_;exact qk (afM n)) rfl aC aC ?_;refine au ?_;exact Ru.aL ⟨rfl,rfl⟩
theorem FK{H:ai}{size n:Nat}{b:List AV}{v:AV}(hs:Sl H size b n v):(tA v n=.bh/\b=[]/\n=0)\/∃i o,tA v n=.slice i o n n true/\Sl H size b n (tA v n):=by
 rcases hs with⟨rfl,rfl,rfl⟩|⟨i,o,cap,ex,g,m,h,e,aK,fz,rfl,hg,j,hl,k,hi,f⟩;·exact .inl ⟨rfl,rfl,rfl⟩
 exact .inr ⟨i,o,rfl,.inr ⟨i,o,n,true,g,m,h,e,aK,fz,rfl,hg,j,hl,k,hi,afM n⟩⟩
section
variable{g:G.aP}{d:AV}{a:ah}{A H:ai}{us:List Th}{os:List (List bt)}{c:List AV}
theorem Mc(T:Tb ab)(hB:G.Sm g)(hb:cQ 7 iP A g.aj d){b:Nat}{now:List bt}{nv:AV}{P I:ah}(hE:Ca g b)(hO:qD g now)(a6:now.length<=1000):xG ab A (.func BY [] [.aD P 0,.aD I 0]) (bU g b now).length (FJ (bU g b now) now nv) [tB 3 I [aN b],tB kK P [.aD a 0]] (λH=>∃os c,u9 H a d os c/\∃h:b<os.length,os[b]=now/\c.getD b .bM=nv) (λH=>km H now nv):=by
 intro y J D m us H K c9 c' dm V j s U hR f;obtain⟨os,c,Q,W,ax,X⟩:=hR;subst ax;have hA:=U.gr;obtain⟨ov,a8,L⟩:=Q.jm;have hs:=Q.bu b W;rw[X]at hs;have⟨a',_,_,dr⟩:=L.all;have⟨Y,ba,bb,ds⟩:=hs.all;have⟨dv,dx,_,dy⟩:=hb.all;have dz:=Q.aE;have bc:aY H P 0=some (.aD a 0):=by obtain⟨_,p⟩:=U.get 1 rfl;exact tB.cell p rfl
 have bv:aY H I 0=some (aN b):=by obtain⟨_,p⟩:=U.get 0 rfl;exact tB.cell p rfl
 have b0:P.am<H.next.am:=by obtain⟨_,p⟩:=U.get 1 rfl;obtain⟨_,_,_,_,_,h⟩:=p;exact h
 have b3:I.am<H.next.am:=by obtain⟨_,p⟩:=U.get 0 rfl;obtain⟨_,_,_,_,_,h⟩:=p;exact h
 obtain⟨x,E⟩:=hE;rw[bf x]at E;refine YF.code T.aat aC (af ?_);refine RO.bO hA hb (λq3 o3 c3 d0 Z _ hat hrd=>?_);have c8:=Z.one;obtain⟨vp,vs,jc,rfl,_,_,hj⟩:=Z;have d1:=hj.one;obtain⟨va,vk,vg,rfl,d2,d3,t⟩:=hj;have⟨ag,_,_,d4⟩:=t.all;refine af ?_;refine RO.eF (af ?_) (hc:=FA (k:=2) (m:=5) hrd bx);refine RO.rW (aS.refl H) L λq4 o4 av b4=>?_;rw[X]at av;refine af ?_;refine RO.dN (ak.bN H) λH1 q5 hl=>RO.xK hl 0 (λH2 hl=>⟨λac i=>?_,?_⟩);·have hg:=hl.gr;refine eo i rfl rfl Y hs.bK (by rw[hg.aY b4];exact av) (eo (v:=aN b) i rfl rfl rfl (by simp[eV,cC,dV]) (by rw[hg.aY b3];exact bv) (eo i rfl rfl a' L.bK (by rw[hg.aY Q.lt];exact a8) (eo (v:=.aD a 0) i rfl rfl rfl (by simp[eV,cC,ah.fg]) (by rw[hg.aY b0];exact bc) rfl)))
 have b6:=hl.gr;have U:=U.dq hl;refine af ?_;have B:(g.aj.getD b default).aq=(g.aj[b]).aq:=by rw[bf x]
 refine Ru.cond (λ(q:(g.aj[b]).aq.op=67)=>?_) (λ(q:¬(g.aj[b]).aq.op=67)=>?_)
 .have h3:=E q;have b7:∀k(h:k<2),∃h':k<(bU g b os[b]).length,(bU g b os[b])[k]=(((g.aj[b]).aq.go[k]'aa).block,os[b]++[((b:Int),k)]):=λk h=>by
   have n:bU g b os[b]=[(((g.aj[b]).aq.go[0]'aa).block,os[b]++[((b:Int),0)]),(((g.aj[b]).aq.go[1]'aa).block,os[b]++[((b:Int),1)])]:=by simp only[bU,B,aG q];rw[bf aa,bf aa]
   refine⟨by rw[n];simpa using h,?_⟩;simp only[n];match k,h with|0,_=>rfl|1,_=>rfl
  have b':(bU g b os[b]).length=2:=by simp only[bU,B,aG q];rfl
  refine af ?_;refine RO.i6 U 1 (λH3 q6 U=>af ?_);refine Ru.nm λS M hS R=>Ru.bI R (up (P:=λk=>∀C m,J k m->ak A C (tS 5 1 [aU 0,aU 1] 2 true (.slice q6 0 2 2 true)::tB mi q5 _::([tB 3 I [aN b],tB kK P [.aD a 0]]++m++us))->Ru ab _ S ([(na,aN k)]++pk M [p0,p2,p4,p5,rR,n8]) C) 2 (λk hk ih C m s U=>?_) 0 aa _ m s U);subst hS;subst R;refine Ru.loop (au ?_);refine Ru.cond (λ(r:k<2)=>?_) (λ(r:¬k<2)=>?_)
  .obtain⟨u,aw⟩:=b7 k r;have d5:=V k m _ C s (ak.dR (xs:=[_,_,_,_]) U);refine af ?_;refine RO.cZ U 0 (af ?_) (v:=aU k) (hv:=by match k,r with|0,_=>rfl|1,_=>rfl);refine RO.FD U.gr t (λq8 o8 ea d6 he _ z=>?_) (hj:=by omega);obtain⟨v8,rfl,_⟩:=he;refine af ?_;refine RO.be (af ?_) (hc:=z 0 _ rfl U.gr);refine RO.i6 U 2 (ws:=[aN b,aU k]) (λH4 q9 U=>RO.FB (v:=tA nv os[b].length) (λH0 _ _=>ach T hs) (λHU O ca=>?_));have U:=U.bK ca O;have cd:=V k m _ HU s (ak.dR (xs:=[_,_,_,_,_]) U);have ay:aY HU I 0=some (aN b):=by obtain⟨_,p⟩:=U.get 3 rfl;exact tB.cell p rfl
   have a1:aY HU q5 4=some vg:=by obtain⟨_,p⟩:=U.get 2 rfl;exact tB.cell p rfl
   refine⟨λac i=>eo (v:=aN b) i rfl rfl rfl (by simp[eV,cC,dV]) ay (eo (v:=aI ((g.aj[b]).aq.go[k]'aa).block) i rfl rfl rfl (by simp[eV,cC,dV]) (z 0 _ rfl U.gr) (eo i rfl rfl ag (t.bK) a1 rfl)),(RO.FC U (FK cd) (U.sl 0) (λH5 v5 _ U=>?_))⟩;have a2:aY H5 q5 4=some vg:=by obtain⟨_,p⟩:=U.get 3 rfl;exact tB.cell p rfl
   refine⟨λac i=>eo (v:=aI ((g.aj[b]).aq.go[k]'aa).block) i rfl rfl rfl (by simp[eV,cC,dV]) (z 0 _ rfl U.gr) (eo i rfl rfl ag (t.bK) a2 rfl),?_⟩;have cf:Sl H5 2 (gS os[b]++[aN b,aU k]) (os[b].length+1) v5:=U.sl 0;have⟨cn,cp,cv,_⟩:=cf.all;have e5:gS (os[b]++[((b:Int),k)])=gS os[b]++[aN b,aU k]:=L8 _ _;have e6:(os[b]++[((b:Int),k)]).length=os[b].length+1:=aC;rw[<-e5,<-e6]at U;refine af ?_;refine RO.cl ((j k [aI ((g.aj[b]).aq.go[k]'aa).block,v5] [_] m _ _ u ⟨u,v5,by rw[aw],cn,cp,cv,.inr (by rw[aw])⟩ s (U.bV (aiP _ (rV (xs:=[_,_,_,_,_]))))).mono ?_);rintro v H3⟨w,U,hc⟩;rcases hc with⟨rfl,h⟩|⟨rfl,h⟩;·refine af ?_;exact Ru.wk (ih (k+1) aa aa _ _ h (ak.jP (xs:=[_,_,_,_,_]) U).tail)
   refine af ?_;exact Ru.kJ (vs:=[]) trivial (f _ w _ (by rw[<-ahD]at U;exact U.skip) (.inr h))
  refine Ru.exitTo ?_;refine af ?_;refine Ru.aq (vs:=[]) trivial (f _ m _ U.tail.tail.tail.tail (.inl ?_));rw[b',show 2=k by omega];exact s
 refine af ?_;refine Ru.cond (λ(N:(g.aj[b]).aq.op=68)=>?_) (λ(N:¬(g.aj[b]).aq.op=68)=>?_)
 .have n:bU g b os[b]=match os[b].getLast? with|some o=>[(gu g o,os[b].take (os[b].length - 1))]|none=>[]:=by simp only[bU,B,an q,aG N]<;>rfl
  refine af ?_;refine RO.cl (Ma T hB hb U.gr (Q.bR b6) W hO a6 ?_);cases l:os[b].getLast? with
  |none=>rw[l]at n;simp only at n;rw[n]at f;refine af ?_;exact Ru.aq (vs:=[]) trivial (f _ _ _ U.tail.tail.tail (.inl s))
  |some o=>
   rw[l]at n;simp only at n;obtain⟨hx,_⟩:0<os[b].length/\True:=⟨by cases hh:os[b]with|nil=>rw[hh]at l;simp at l|cons _ _=>simp,trivial⟩;refine af ?_;refine RO.arith (v:=aN (os[b].length - 1)) (RO.lV hs (b:=os[b].length - 1) ?_) (hv:=mg aa aa);have F:∀H',km H' os[b] nv->km H' (os[b].take (os[b].length - 1)) (lV nv (os[b].length - 1)):=λH' h=>by
    have e:(os[b].take (os[b].length - 1)).length=os[b].length - 1:=by rw[aiA];omega
    show Sl H' 2 (gS _) _ _;rw[e,<-L9];exact zO h aa
   have⟨cx,cy,cE,_⟩:=(F _ hs).all;rw[n]at j f;refine RO.cl ((j 0 [aI (gu g o),lV nv (os[b].length - 1)] [] m _ _ aC ⟨aC,_,rfl,cx,cy,cE,.inl ⟨rfl,F⟩⟩ s (ak.dR (xs:=[_,_,_]) U)).mono ?_);rintro v H3⟨w,U,hc⟩;refine af ?_;refine Ru.aq (vs:=[]) trivial (f _ w _ (by rw[<-ahD]at U;exact U.skip) ?_);rcases hc with⟨_,h⟩|⟨_,h⟩;·exact .inl h
   exact .inr h
 have n:bU g b os[b]=(g.aj[b]).aq.go.map λe=>(e.block,os[b]):=by simp only[bU,B,an q,an N]
 have d7:=hB.bl _ (acm x);refine af ?_;refine Ru.nm λS M hS R=>Ru.bI R (up (P:=λk=>∀C m,J k m->ak A C (tB mi q5 _::([tB 3 I [aN b],tB kK P [.aD a 0]]++m++us))->Ru ab _ S ([(xk,aN k)]++pk M [p0,p5,uA,xj]) C) (g.aj[b]).aq.go.length (λk hk ih C m s U=>?_) 0 aa _ m s U);subst hS;subst R;refine Ru.loop (au ?_);refine Ru.cond (λr=>?_) (λr=>?_)
 .refine au ?_;refine RO.bO U.gr t λq6 o6 c6 d' he _ hat hrd=>?_;have cR:=he.one;obtain⟨v6,rfl,_⟩:=he;refine af ?_;refine RO.dS U λH5 q7 U=>?_;refine af ?_;have u:k<(bU g b os[b]).length:=by rw[n,aig];exact r
  refine RO.cl ((j k [aI ((g.aj[b]).aq.go[k]).block,nv] [] m _ _ u ⟨u,nv,by simp only[n,aiD],Y,ba,bb,.inl ⟨rfl,λH' h=>by simp only[n,aiD];exact h⟩⟩ s (ak.dR (xs:=[_,_,_,_]) U)).mono ?_);rintro v H3⟨w,U,hc⟩;rcases hc with⟨rfl,h⟩|⟨rfl,h⟩;·refine af ?_;exact Ru.wk (ih (k+1) aa aa _ _ h (ak.jP (xs:=[_,_,_,_]) U).tail)
  refine af ?_;exact Ru.kJ (vs:=[]) trivial (f _ w _ (by rw[<-ahD]at U;exact U.skip) (.inr h))
 refine Ru.exitTo ?_;refine af ?_;refine Ru.aq (vs:=[]) trivial (f _ m _ U.tail.tail.tail (.inl ?_));rw[n,aig,show(g.aj[b]).aq.go.length=k by omega];exact s
end
end
theorem aci(x y:Int)(s r:Nat):db 64 (.dW [(0,1,false,.int),(1,1,false,.int)]) (.agg [aI x,aU s]) (.agg [aI y,aU r])=some (decide (x=y/\s=r)):=by
 by_cases h1:x=y
 .by_cases h2:s=r;·simp[db,db.go,pJ,dV,h1,h2]
  have e:((s:Int)==(r:Int))=false:=by rw[beq_eq_false_iff_ne];omega
  simp[db,db.go,pJ,dV,h1,h2,e]
 have e:(x==y)=false:=by rw[beq_eq_false_iff_ne];exact h1
 simp[db,db.go,pJ,dV,h1,e]
theorem FL{a:Type}{l:List a}{k:Nat}{d:a}(h:k<l.length):l.getD k d∈l:=by rw[bf h];exact acm h
theorem acj(T:Tb ab){H:ai}{l m:List bt}{v w:AV}(n:km H l v)(o:km H m w)(hl:l.length<=1000){K:KT}(a:∀b:Bool,(b=true↔l=m)->K (.bool b) H):YN ab KW [v,w] H K:=by
 have⟨hd,_,_,z⟩:=n.all;have⟨u,_,_,x⟩:=o.all;refine YF.code T.aao aC (au ?_);refine Ru.cond (λh=>?_) (λh=>?_);·refine au ?_;exact Ru.aL (a false ⟨λh=>(by cases h),λe=>absurd (by rw[e]) h⟩)
 have d:l.length=m.length:=by simpa using h
 refine au ?_;refine Ru.nm λS M s p=>Ru.bI p (up (P:=λk=>(∀j(h:j<l.length)(A:j<m.length),j<k->l[j]=m[j])->Ru ab _ S ([(jA,aN k)]++pk M [p0,p1,eS,ib]) H) l.length (λk B t q=>?_) 0 aa (λj _ _ hj=>by omega));subst s;subst p;refine Ru.loop (au ?_);refine Ru.cond (λf=>?_) (λf=>?_)
 .refine au ?_;refine RO.bO (aS.refl H) (km.r n) λC o1 c1 _ g _ hat hrd=>?_;subst g;refine af ?_;refine RO.bO (aS.refl H) (km.r o) λD o2 c2 y i _ hat hrd=>?_;subst i;refine af ?_;refine RO.eq (af ?_) (ht:=aci _ _ _ _);have he:(l[k].1=m[k].1/\l[k].2=m[k].2)↔l[k]=m[k]:=⟨λh=>Prod.ext h.1 h.2,λh=>by rw[h];exact⟨rfl,rfl⟩⟩;refine Ru.eC (λh=>?_) (λh=>?_)
  .have h:¬(l[k].1=m[k].1/\l[k].2=m[k].2):=λc=>by rw[decide_eq_true c]at h;simp at h
   refine af ?_;exact Ru.aL (a false ⟨λh=>(by cases h),λe=>absurd (he.2 (by simp only[e])) h⟩)
  have h:l[k].1=m[k].1/\l[k].2=m[k].2:=ain λc=>by rw[decide_eq_false c]at h;simp at h
  refine af ?_;exact Ru.wk (t (k+1) aa aa λj h1 h2 hj=>by
   by_cases e:j=k;·subst e;exact he.1 h
   exact q j h1 h2 aa)
 refine Ru.exitTo ?_;refine au ?_;exact Ru.aL (a true ⟨λ_=>ai2 d λj h1 h2=>q j h1 h2 aa,λ_=>rfl⟩)
inductive fJ(g:G.aP):Nat->List bt->Prop
 |zero:fJ g 0 []
 |step{b:Nat}{o:List bt}{w:Int×List bt}(h:fJ g b o)(hw:w∈bU g b o):fJ g w.1.toNat w.2
structure fy(g:G.aP):Prop where
 vc:∀{b o o'},fJ g b o->fJ g b o'->o=o'
 zV:∀{b o},fJ g b o->∀w∈bU g b o,0<=w.1/\w.1<g.aj.length
 aE:∀{b o},fJ g b o->Ca g b
 jm:∀{b o},fJ g b o->qD g o/\o.length<=900
structure qE(g:G.aP):Prop where
 ne:0<g.aj.length
 t3:∀b,b<g.aj.length->(g.aj.getD b default).aq.op=67->(g.aj.getD b default).aq.go.length=3
 rg:∀b,b<g.aj.length->∀e∈(g.aj.getD b default).aq.go,1<=e.block/\e.block<g.aj.length
theorem Cb{g:G.aP}(d:qE g){b:Nat}(hb:b<g.aj.length){o:List bt}(f:qD g o):∀w∈bU g b o,(1<=w.1/\w.1<g.aj.length)/\qD g w.2/\w.2.length<=o.length+1:=by
 intro w a;simp only[bU]at a;split at a
 .rename_i i;have h3:=d.t3 b hb i;have h:qD g (o++[((b:Int),0)])/\qD g (o++[((b:Int),1)]):=by
   constructor<;>refine⟨λx c=>?_⟩<;>rcases adX.1 c with c|c;·exact f.ok x c
   .rw[abP]at c;subst c;exact⟨aC,by simpa using hb,by simpa using h3⟩
   .exact f.ok x c
   rw[abP]at c;subst c;exact⟨aC,by simpa using hb,by simpa using h3⟩
  have j:=d.rg b hb ((g.aj.getD b default).aq.go.getD 0 default) (FL aa);have e1:=d.rg b hb ((g.aj.getD b default).aq.go.getD 1 default) (FL aa);rcases acT.1 a with rfl|a;·exact⟨j,h.1,aC⟩
  rw[abP]at a;subst a;exact⟨e1,h.2,aC⟩
 split at a
 .split at a;·rename_i x c;rw[abP]at a;subst a;have⟨h1,h2,h3⟩:=f.ok x (List.mem_of_getLast? c);refine⟨d.rg x.1.toNat aa _ (FL aa),⟨λy k=>f.ok y (ajt k)⟩,by simp;omega⟩
  cases a
 obtain⟨e,he,rfl⟩:=aia.1 a;exact⟨d.rg b hb e he,f,aC⟩
theorem fJ.ok{g:G.aP}(a:qE g){b:Nat}{o:List bt}(h:fJ g b o):b<g.aj.length/\qD g o:=by induction h with|zero=>exact⟨a.ne,⟨λx d=>(by cases d)⟩⟩|step _ e c=>have⟨⟨h1,h2⟩,h3,_⟩:=Cb a c.1 c.2 _ e;exact⟨aa,h3⟩
theorem fJ.nil{g:G.aP}(a:qE g){b:Nat}{o:List bt}(h:fJ g b o)(hb:b=0):o=[]:=by cases h with|zero=>rfl|step h c=>have⟨h3,d⟩:=h.ok a;have:=(Cb a h3 d _ c).1;omega
theorem fJ.pu{g:G.aP}(a:qE g){b:Nat}{o:List bt}(h:fJ g b o):Ca g b:=⟨(h.ok a).1,a.t3 b (h.ok a).1⟩
def ip(a:List Bool):Nat:=(a.filter λb=>!b).length
theorem pB{come:List Bool}{k:Nat}(b:k<come.length)(h:come.getD k false=false):ip (come.set k true)+1=ip come:=by unfold ip;induction come generalizing k with|nil=>simp at b|cons a l c=>cases k with|zero=>simp only[List.getD_cons_zero]at h;subst h;simp|succ k=>have:=c (k:=k) (by simpa using b) (by simpa using h);cases a<;>simp<;>omega
structure ie(g:G.aP)(n:Nat)(F:List Th)(come:List Bool)(os:List (List bt))(svs:List AV)(todo:List Nat)(now:Option Nat)(wr:Bool):Prop where
 cl:come.length=n
 ol:os.length=n
 sl:svs.length=n
 c0:come.getD 0 false=true
 cK:∀b,come.getD b false=true->fJ g b (os.getD b [])
 td:∀b∈todo,come.getD b false=true
 fz:∀b,come.getD b false=true->tR 2 (gS (os.getD b [])) (os.getD b []).length (svs.getD b .bM)∈F
 nz:∀b,b<n->come.getD b false=false->os.getD b []=[]/\svs.getD b .bM=.bh
 iD:∀b,come.getD b false=true->(os.getD b []).length+ip come<n
 dn:∀b,come.getD b false=true->b∈todo\/now=some b\/∀w∈bU g b (os.getD b []),come.getD w.1.toNat false=true/\(wr=false->os.getD w.1.toNat []=w.2)
 df:wr=true->∃b o o',fJ g b o/\fJ g b o'/\o≠o'
theorem tC{b:Type}{l:List b}{k:Nat}{d v:b}(h:l.getD k d=v)(a:d≠v):k<l.length:=by
 rcases aiU k l.length with h1|h1;·exact h1
 rw[ah3,aiJ h1]at h;exact absurd h a
theorem dD{a:Type}{l:List a}{k j:Nat}{d v:a}(b:k<l.length):(l.set k v).getD j d=if j=k then v else l.getD j d:=by
 simp only[ah3,List.getElem?_set];by_cases h:k=j;·subst h;simp[b]
 rw[an h,an λe=>h e.symm]
theorem ie.new{g:G.aP}{n:Nat}{F:List Th}{a:List Bool}{os:List (List bt)}{c:List AV}{d:List Nat}{f:Option Nat}{wr:Bool}(h:ie g n F a os c d f wr){k:Nat}(L:k<n)(r:a.getD k false=false){o:List bt}(hl:fJ g k o)(M:o.length+ip a<n+1){v:AV}{m:List Th}(x:∀t∈F,t∈m)(y:tR 2 (gS o) o.length v∈m):ie g n m (a.set k true) (os.set k o) (c.set k v) (d++[k]) f wr:=by
 have⟨h1,h2,h3,z,A,B,C,D,p,E,q⟩:=h;have K:=pB aa r;have e1:∀j,(a.set k true).getD j false=if j=k then true else a.getD j false:=λj=>dD aa;have e2:∀j,(os.set k o).getD j []=if j=k then o else os.getD j []:=λj=>dD aa;have s:∀j,(c.set k v).getD j .bM=if j=k then v else c.getD j .bM:=λj=>dD aa;have H:∀j,a.getD j false=true->j≠k:=λj hj e=>by rw[e,r]at hj;cases hj
 refine⟨by simpa using h1,by simpa using h2,by simpa using h3,?_,λb hb=>?_,λb hb=>?_,λb hb=>?_,λb hb l=>?_,λb hb=>?_,λb hb=>?_,q⟩
 .rw[e1];split;·rfl
  exact z
 .rw[e1]at hb;rw[e2];split;·rename_i e;rw[e];exact hl
  rename_i e;rw[an e]at hb;exact A b hb
 .rw[e1];rcases adX.1 hb with hb|hb
  .split;·rfl
   exact B b hb
  rw[abP]at hb;rw[aG hb]
 .rw[e1]at hb;rw[e2,s];split;·exact y
  rename_i e;rw[an e]at hb;exact x _ (C b hb)
 .rw[e1]at l;split at l;·cases l
  rename_i e;rw[e2,s,an e,an e];exact D b hb l
 .rw[e1]at hb;rw[e2];split;·omega
  rename_i e;rw[an e]at hb;have:=p b hb;omega
 rw[e1]at hb;split at hb;·rename_i e;left;rw[e];simp
 rename_i e;rw[e2,an e];rcases E b hb with h|h|h;·exact .inl (ah1 _ h)
 .exact .inr (.inl h)
 refine .inr (.inr λw I=>?_);have⟨u,J⟩:=h w I;have i:=H _ u;rw[e1,e2,an i,an i];exact⟨u,J⟩
theorem ie.xM{g:G.aP}{n:Nat}{F:List Th}{a:List Bool}{os:List (List bt)}{d:List AV}{c:List Nat}{f:Option Nat}{wr:Bool}(h:ie g n F a os d c f wr)(hd:∃b o i,fJ g b o/\fJ g b i/\o≠i):ie g n F a os d c f true:={h with dn:=λb hb=>(h.dn b hb).imp id (Or.imp id λh w j=>⟨(h w j).1,λe=>(by cases e)⟩),df:=λ_=>hd}
section
theorem ack{b w:List bt}{nv v:AV}(j:∀H,km H b nv->km H w v){H:ai}{f:List ah}(I:(tR 2 (gS b) b.length nv).P H f):(tR 2 (gS w) w.length v).P H f:=by
 have⟨h1,h2,h3⟩:=I;refine⟨j H h1,λi o m c e E=>?_,h3⟩;apply ain;intro hi;have G:km (H.set i .none) b nv:=by
  rcases h1 with I|⟨n,u,cap,ex,x,A,C,k,aK,fz,g,l,D⟩;·exact .inl I
  have t:n≠i:=λe=>hi (e▸h2 _ _ _ _ _ g);exact .inr ⟨n,u,cap,ex,x,A,C,k,aK,fz,g,by rw[ai.aF,an t];exact l,D⟩
 have g:=j _ G;subst E;rcases g with⟨I,_⟩|⟨n,u,cap,ex,x,A,C,k,aK,fz,g,l,D⟩;·cases I
 injection g with g;subst g;rw[ai.aF,aG rfl]at l;cases l
section
variable{g:G.aP}{p r:AV}{h y z s q:ah}{n:Nat}{A H:ai}{us F:List Th}{come:List Bool}{os:List (List bt)}{a:List AV}{d:List Nat}{B:Option Nat}{wr:Bool}
def Cc(g:G.aP)(p:AV)(h s q:ah)(n:Nat)(come:List Bool)(a:List AV)(F:List Th)(wr:Bool):List Th:=[tB WH h [.str g.name,aI g.params,aI g.aQ,p,.slice s 0 n n true,.slice q 0 n n true,.bool wr],tS E5 1 a n true (.slice q 0 n n true),tS 4 1 (come.map .bool) n true (.slice s 0 n n true),tZ F]
def pC(g:G.aP)(p:AV)(z y h s q:ah)(n:Nat)(come:List Bool)(a:List AV)(d:List Nat)(r:AV)(F:List Th)(wr:Bool):List Th:=tB cB z [r]::tU 3 (d.map aN) r::tB kK y [.aD h 0]::Cc g p h s q n come a F wr
theorem acl(U:ak A H (pC g p z y h s q n come a d r F wr++us))(c:ie g n F come os a d B wr):u9 H h p os a:=by
 have j:aY H h 3=some p:=by obtain⟨_,i⟩:=U.get 3 rfl;exact tB.cell i rfl
 have k:aY H h 5=some (.slice q 0 n n true):=by obtain⟨_,i⟩:=U.get 3 rfl;exact tB.cell i rfl
 have l:h.am<H.next.am:=by obtain⟨_,i⟩:=U.get 3 rfl;obtain⟨_,_,_,_,_,t⟩:=i;exact t
 refine⟨l,j,⟨_,k,by rw[c.ol];exact U.sl 4⟩,by rw[c.sl,c.ol],λb hb=>?_⟩;have m:b<n:=by rw[<-c.ol];exact hb
 have e:os.getD b []=os[b]:=bf hb _;cases o:come.getD b false with|true=>have⟨f,t,_⟩:=U.kj 6 rfl (c.fz b o);rw[e]at t;exact t|false=>have⟨h1,h2⟩:=c.nz b m o;rw[e]at h1;rw[h1,h2];exact .inl ⟨rfl,rfl,rfl⟩
def FM(g:G.aP)(p:AV)(z y h s q:ah)(n:Nat)(b:Nat)(c:List bt)(nv:AV)(m k:Nat)(e:List Th):Prop:=
 ∃come os a d r F wr,e=pC g p z y h s q n come a d r F wr/\ie g n F come os a d (some b) wr/\come.getD b false=true/\os.getD b []=c/\a.getD b .bM=nv/\d.length+ip come=m/\∀w∈(bU g b c).take k,come.getD w.1.toNat false=true/\(wr=false->os.getD w.1.toNat []=w.2)
theorem ie.pop{b:Nat}(t:ie g n F come os a (b::d) none wr):ie g n F come os a d (some b) wr:=by
 have⟨h1,h2,h3,i,j,k,l,m,e,o,f⟩:=t;refine⟨h1,h2,h3,i,j,λx c=>k x (adT _ c),l,m,e,λx c=>?_,f⟩;rcases o x c with t|t|t
 .rcases acT.1 t with rfl|t;·exact .inr (.inl rfl)
  exact .inl t
 .cases t
 exact .inr (.inr t)
theorem ie.done{b:Nat}(u:ie g n F come os a d (some b) wr)(f:∀w∈bU g b (os.getD b []),come.getD w.1.toNat false=true/\(wr=false->os.getD w.1.toNat []=w.2)):ie g n F come os a d none wr:=by
 have⟨h1,h2,h3,i,j,k,l,m,c,o,e⟩:=u;refine⟨h1,h2,h3,i,j,k,l,m,c,λx t=>?_,e⟩;rcases o x t with u|u|u;·exact .inl u
 .injection u with u;subst u;exact .inr (.inr f)
 exact .inr (.inr u)
theorem ie.Cd{F':List Th}(e:ie g n F come os a d B wr)(c:∀t∈F,t∈F'):ie g n F' come os a d B wr:={e with fz:=λb hb=>c _ (e.fz b hb)}
theorem acn{b k:Nat}{c:List bt}{nv:AV}{args:List AV}{i:List Th}(l:ie g n F come os a d (some b) wr)(hb:come.getD b false=true)(m:os.getD b []=c)(o:a.getD b .bM=nv)(t:FJ (bU g b c) c nv k args i)(U:ak A H (i++pC g p z y h s q n come a d r F wr++us)):∃(I:k<(bU g b c).length)(v:AV),args=[aI (bU g b c)[k].1,v]/\v.br=true/\v.cW=true/\v.cells=[v]/\ak A H (pC g p z y h s q n come a d r (tR 2 (gS (bU g b c)[k].2) (bU g b c)[k].2.length v::F) wr++us):=by
 have⟨u,v,w,h1,h2,h3,x⟩:=t;refine⟨u,v,w,h1,h2,h3,?_⟩;rcases x with⟨rfl,e⟩|rfl;·have j:=l.fz b hb;rw[m,o]at j;have hl:=(U.eh 6 rfl).LI j (t':=tR 2 (gS (bU g b c)[k].2) (bU g b c)[k].2.length v) λf I=>ack e I;exact hl.bV (aii (l₁:=[_,_,_,_,_,_])).symm
 have C:=U.as 0 rfl λG D=>tS.io D;have E:ak A H (_::tZ F::([tB cB z [r],tU 3 (d.map aN) r,tB kK y [.aD h 0],_,_,_]++us)):=C.bV (aiP _ (aii (l₁:=[_,_,_,_,_,_])));exact E.iC.bV (aii (l₁:=[_,_,_,_,_,_])).symm
def Md:bm:=(.seq (.region [O p6 (.bg (T qy))]) (.region [O p7 (.bg (T rP))]))
def Me:bm:=(.block 3 (.block 4 (.seq (.region [O uK (.be (T p3)),O uL (.nilCheck (T uK)),O uM (.iU 4 (T uL)),O uN (.be (T uM)),O uO (.bg (T p6)),O rQ (.dI 1 (T uN) (T uO)),O xm (.be (T rQ)),O rR (.unary .not (T xm)),O tf (.bg (T rR))]) (.cond (T tf) (.seq (.region [O n8 (.be (T p3)),O na (.nilCheck (T n8)),O pp (.iU 4 (T na)),O tg (.be (T pp)),O xn (.bg (T p6)),O xp (.be (T p3)),O xu (.nilCheck (T xp)),O tk (.iU 5 (T xu)),O tm (.be (T tk)),O nf (.bg (T p6)),O uP (.bg (T p7)),O uQ (.dI 1 (T tg) (T xn)),N (.store 1 (T uQ) (C (.bool true))),O xw (.dI 1 (T tm) (T nf)),N (.store 1 (T xw) (T uP))]) (.region [O xx (.be (T p4)),O xy (.bg (T p6)),O uR (.buildSlice 3 1 [(i 3 0)] [(0,1,(T xy))]),O uS (.append 3 8 1 [(i 3 0)] false (T xx) (T uR)),N (.store 1 (T p4) (T uS))])) (.seq (.region [O zy (.be (T p3)),O zA (.nilCheck (T zy)),O BL (.iU 5 (T zA)),O BM (.be (T BL)),O BN (.bg (T p6)),O BO (.dI 1 (T BM) (T BN)),O BP (.be (T BO)),O BQ (.bg (T p7)),O BR (.call (C (.func KW [] [])) [(T BP),(T BQ)]),O BS (.unary .not (T BR)),O xz (.bg (T BS))]) (.cond (T xz) (.region [O BT (.be (T p3)),O BU (.nilCheck (T BT)),O BV (.iU 6 (T BU)),N (.store 1 (T BV) (C (.bool true)))]) .skip))))))
theorem aco(T:Tb ab)(hB:G.Sm g)(W:qE g)(a':n<=900){b k:Nat}{c:List bt}{nv:AV}{m:Nat}(ba:n=g.aj.length)(hm:m<=n){args:List AV}{ws ts:List Th}{l:ah}{o1 o2:bP}{fv:AV}{Dn:bY->List Th->Prop}(hk:k<(bU g b c).length)(X:FJ (bU g b c) c nv k args ws)(hJ:FM g p z y h s q n b c nv m k ts)(U:ak A H (ws++ts++tX l o1::us)):Ru ab (B9 ab l o1 o2 Me (uW A l o2 us (FM g p z y h s q n b c nv m (k+1)) Dn)) [.code Md] (xJ [qy,rP] args [(n6,fv),(p3,.aD y 0),(p4,.aD z 0)]) H:=by
 obtain⟨come,os,a,d,r,F,wr,rfl,o,I,hn,hv,P,Y⟩:=hJ;have bb:=hB.nb;obtain⟨_,v,rfl,bc,bv,b0,U⟩:=acn o I hn hv X U;have x:=o.cK b I;rw[hn]at x;have Q:(bU g b c)[k]∈bU g b c:=acm hk;have⟨⟨b3,b4⟩,_,b6⟩:=Cb W (x.ok W).1 (x.ok W).2 _ Q;have Z:=o.iD b I;rw[hn]at Z;have K:=fJ.step x Q;obtain⟨t,N⟩:∃t:Nat,(bU g b c)[k].1=(t:Int):=⟨(bU g b c)[k].1.toNat,aa⟩;have ag:t<n:=aa;have av:(bU g b c).take (k+1)=(bU g b c).take k++[(bU g b c)[k]]:=by rw[ah9]
 rw[N,ahX]at K;generalize aw:(bU g b c)[k].2=C at*;have o:=o.Cd (F':=tR 2 (gS C) C.length v::F) λt N=>adT _ N;have R:tR 2 (gS C) C.length v∈tR 2 (gS C) C.length v::F:=acI .. ;generalize tR 2 (gS C) C.length v::F=O at*;have ax:=o.cl;have ay:=o.sl;have L:∀(i:List Bool)(D:List (List bt))(E:Bool),(∀j,come.getD j false=true->i.getD j false=true/\D.getD j []=os.getD j [])->(E=false->wr=false)->i.getD t false=true->(E=false->D.getD t []=C)->∀w∈(bU g b c).take (k+1),i.getD w.1.toNat false=true/\(E=false->D.getD w.1.toNat []=w.2):=λi D E h1 h2 h3 h4 w J=>by
  rw[av]at J;rcases adX.1 J with J|J;·have⟨a6,a8⟩:=Y w J;have⟨b1,b2⟩:=h1 _ a6;exact⟨b1,λe=>by rw[b2];exact a8 (h2 e)⟩
  rw[abP]at J;subst J;rw[N,ahX,aw];exact⟨h3,h4⟩
 rw[N];unfold Md;refine au ?_;refine Ru.cY U λH2 U=>?_;unfold Me;refine af ?_;cases f:come.getD t false with
 |false=>
  refine RO.cZ U 5 (v:=.bool false) (hv:=by rw[nV false aa,f]) ?_;have b':=pB (k:=t) aa f;have M:b≠t:=λe=>by rw[e,f]at I;cases I
  refine af ?_;refine RO.gk U 5 true ax (λH3 U=>af ?_) (k:=t);refine RO.uX U 4 ay (λH4 U=>af ?_) (k:=t);refine RO.ab3 U 1 (aN t) (λu H5 S U ca cd cf=>?_) (hb:=by simp only[aig];omega) (hn:=by simp only[aig];omega);refine RO.dJ U 0 (λH6 U=>af ?_);refine Ru.bz (ts:=pC g p z y h s q n (come.set t true) (a.set t v) (d++[t]) S O wr) (by simpa[pC,Cc]using U) ⟨come.set t true,os.set t C,a.set t v,d++[t],S,O,wr,rfl,o.new ag f K aa (λ_ cv=>cv) R,?_,?_,?_,?_,?_⟩;·rw[dD aa,an M];exact I
  .rw[dD (by rw[o.ol];omega),an M];exact hn
  .rw[dD aa,an M];exact hv
  .rw[ahY,aiv];omega
  refine L _ _ wr (λj hj=>?_) id ?_ (λ_=>?_)
  .have V:j≠t:=λe=>by rw[e,f]at hj;cases hj
   rw[dD aa,an V,dD (by rw[o.ol];omega),an V];exact⟨hj,rfl⟩
  .rw[dD aa,aG rfl]
  rw[dD (by rw[o.ol];omega),aG rfl]
 |true=>
  refine RO.cZ U 5 (v:=.bool true) (hv:=by rw[nV false aa,f]) ?_;have a1:=o.cK t f;have a2:a[0+t*1]?=some (a.getD t .bM):=by rw[show 0+t*1=t by omega,bf aa];simp
  refine af ?_;have⟨f8,h8,_⟩:=U.kj 6 rfl (o.fz t f);have⟨f9,h9,_⟩:=U.kj 6 rfl R;have⟨cn,_,_,_⟩:=h8.all;have cp:=o.iD t f;refine RO.cZ U 4 (hv:=a2) (af ?_);refine RO.cl (acj T h8 h9 aa λb7 h7=>?_);cases b7 with|true=>refine af ?_;exact Ru.bz U ⟨come,os,a,d,r,O,wr,rfl,o,I,hn,hv,P,L _ _ wr (λ_ cv=>⟨cv,rfl⟩) id f λ_=>h7.1 rfl⟩|false=>refine af ?_;refine RO.dJ U 3 (λH3 U=>af ?_);refine Ru.bz (ts:=pC g p z y h s q n come a d r O true) (by simpa[pC,Cc]using U) ⟨come,os,a,d,r,O,true,rfl,o.xM ⟨t,_,_,a1,K,λe=>by have:=h7.2 e;cases this⟩,I,hn,hv,P,L _ _ true (λ_ cv=>⟨cv,rfl⟩) (λe=>by cases e) f λe=>(by cases e)⟩
end
end
section
theorem dn{P:Nat->Prop}(b:∀k,(∀j,j<k->P j)->P k)(k:Nat):P k:=Nat.strongRecOn k b
theorem xN:∀n,ip (acJ n false)=n|0=>rfl|n+1=>by have:=xN n;simp only[ip,List.replicate_succ]at*;simp[this]
theorem ie.zero{g:G.aP}{n:Nat}(m:0<n)(F:List Th)(l:tR 2 (gS []) 0 .bh∈F):ie g n F ((acJ n false).set 0 true) (acJ n []) (acJ n .bh) [0] none false:=by
 have f:∀b,(acJ n ([]:List bt)).getD b []=[]:=λb=>by simp[ah3,aiI];split<;>rfl
 have j:∀b,((acJ n false).set 0 true).getD b false=true->b=0:=λb hb=>by
  rw[dD (by simpa using m)]at hb;split at hb;·assumption
  simp[ah3,aiI]at hb;split at hb<;>cases hb
 refine⟨aC,aC,aC,by rw[dD (by simpa using m),aG rfl],λb hb=>?_,λb hb=>?_,λb hb=>?_,λb hb _=>⟨f b,?_⟩,λb hb=>?_,λb hb=>?_,λm=>(by cases m)⟩;·rw[j b hb,f];exact .zero
 .rw[abP]at hb;subst hb;rw[dD (by simpa using m),aG rfl]
 .rw[j b hb,f,bf (by simpa using m)];simpa using l
 .rw[bf (by simpa using hb)];simp
 .have k:=pB (come:=acJ n false) (k:=0) (by simpa using m) (by rw[bf (by simpa using m)];simp);rw[xN]at k;rw[f];simp only[List.length_nil];omega
 rw[j b hb];exact .inl (abP.2 rfl)
section
variable{g:G.aP}{a h:AV}{c i o d e:ah}{A H:ai}{us F:List Th}
theorem acp(T:Tb ab)(N:G.Sm g)(J:qE g)(Q:g.aj.length<=900){cs:List AV}(hg:dt H g cs){K:KT}(hK:∀H' c d e come os p a F us wr,cQ 7 iP H g.aj a->ie g g.aj.length F come os p [] none wr->ak H H' (Cc g a c d e g.aj.length come p F wr++us)->K (.aD c 0) H'):YN ab KQ [.agg cs] H K:=by
 have ax:=hg.one;obtain⟨a,rfl,bG⟩:=hg;have⟨hd,_,_,L⟩:=bG.all;have a1:=N.nb;have u:=J.ne;refine YF.code T.Z9 aC ?_;refine au ?_;refine RO.ct (ak.bN H) λH1 q U=>?_;have U:=(U.mh E4 2).as 0 rfl λfp hp=>tS.io hp;have U:=U.lU.bV (aiK ..);have U:=U.iC;refine af ?_;refine RO.co U 1 ?_;refine af ?_;refine RO.jy U (n:=g.aj.length) (λH2 d U=>?_) (hz:=by rw[eK];simp);refine au ?_;refine RO.ab0 U 2 0 (λH3 U=>?_);refine af ?_;refine RO.jy U (n:=g.aj.length) (λH4 e U=>?_) (hz:=by rw[eK];simp);have er:dY [AV.bool false] g.aj.length=(acJ g.aj.length false).map .bool:=by rw[eK,ajd]
 rw[er,eK]at U;refine au ?_;refine RO.ct U (λH5 c U=>?_) (v:=.agg [.str g.name,aI g.params,aI g.aQ,a,.slice d 0 g.aj.length g.aj.length true,.slice e 0 g.aj.length g.aj.length true,.bool false]);refine af ?_;refine RO.dS U λH6 i U=>?_;refine af ?_;refine RO.gk U 3 true (aiZ ..) (λH7 U=>?_) (k:=0) (ho:=by rw[aiZ];exact u);refine af ?_;refine RO.i6 U 1 (λH8 qt U=>?_) (n:=1) (ws:=[aN 0]);refine RO.dS U λH9 o U=>?_;have U:=U.toU 1 rfl;refine af ?_;refine Ru.nm λS M hS hM=>?_;refine Ru.bI hM (dn (P:=λm=>∀O B come os p n h F wr,n.length+ip come=m->m<=g.aj.length->ie g g.aj.length F come os p n none wr->ak H O (pC g a o i c d e g.aj.length come p n h F wr++(fC B++[tB cJ q [.str g.name,aI g.params,aI g.aQ,a]]))->Ru ab ⟨mZ [.tmp p2] K,B,none⟩ S ([]++pk M [p3,p4]) O) (λm ih O B come os p n h F wr R P t U=>?_) _ H9 [] _ _ _ [0] _ _ false rfl ?_ (ie.zero u _ (acI ..)) U);rotate_left;·have:=pB (come:=acJ g.aj.length false) (k:=0) (by simpa using u) (by rw[bf (by simpa using u)];simp);rw[xN]at this;simp only[aiv];omega
 subst hS;subst hM;refine Ru.loop ?_;have⟨a2,_,_,a6⟩:=(U.LM (e:=3) (vs:=n.map aN) (sv:=h) 1).all;refine af ?_;refine Ru.cond (λy=>?_) (λy=>?_)
 .obtain⟨b,s,rfl⟩:∃b s,n=b::s:=by cases n with|nil=>simp at y|cons b r=>exact⟨b,r,rfl⟩
  simp only[air]at R;have w:come.getD b false=true:=t.td b (acI ..);have x:=t.cK b w;have V:=tC w aC;have t:=t.pop;refine af ?_;refine RO.rW (aS.refl _) (U.LM 1) (λq5 o5 W _=>?_) (j:=0) (hj:=by simp);refine RO.be ?_ (hc:=W);refine af ?_;refine RO.ab2 U 1 (v:=aN b) (vs:=s.map aN) (λD U h1 h2 h3=>?_);refine RO.dJ U 0 (λa8 U=>?_);refine af ?_;refine RO.cl (Mb T λX q1 q2 hl=>?_);have U:ak H X ([tB 3 q2 [aN b],tB kK q1 [.aD c 0]]++pC g a o i c d e g.aj.length come p s D F wr++(fC B++[tB cJ q [.str g.name,aI g.params,aI g.aQ,a]])):=U.dq hl;refine af ?_;refine Ru.wk (L:=[(n6,.func BY [] [.aD q1 0,.aD q2 0]),(p3,.aD i 0),(p4,.aD o 0)]) ?_;refine Ru.oh (J:=FM g a o i c d e g.aj.length b (os.getD b []) (p.getD b .bM) (s.length+ip come)) (Dn:=λ_ _=>False) U (Mc T N bG (b:=b) (now:=os.getD b []) (nv:=p.getD b .bM) (x.pu J) (x.ok J).2 (by have:=t.iD b w;omega)) (λH2 hg=>⟨os,p,(acl U.tail.tail t).bR hg,by rw[t.ol,<-t.cl];exact V,(bf _ _).symm,rfl⟩) ⟨come,os,p,s,D,F,wr,rfl,t,w,rfl,rfl,rfl,aC⟩ (λk args ws a'=>by obtain⟨_,v,rfl,_⟩:=a';rfl) (λk ts us H C U=>?_) (λk args ws ts us l o1 o2 H hk Y C U=>aco T N J Q rfl aa hk Y C U) (λH' Z dm C U=>?_) (λj H' Z dm _ a'=>a'.elim);·obtain⟨come,os,p,n,h,F,wr,rfl,t,hc,L,hv,_⟩:=C;have P:=t.fz b hc;rw[L,hv]at P;obtain⟨f,a',_⟩:=U.kj 6 rfl P;exact a'
  obtain⟨z,ag,I,A,av,F',aw,rfl,t,hc,L,hv,ay,E⟩:=C;rw[ajg]at E;have t:=t.done (by rw[L];exact E);refine af ?_;exact Ru.wk (ih _ aa H' (dm::B) z ag I A av F' aw rfl aa t U)
 have ht:n=[]:=by cases n with|nil=>rfl|cons b r=>simp at y
 subst ht;refine Ru.exitTo ?_;refine af ?_;refine Ru.jl (M:=B) (ts:=pC g a o i c d e g.aj.length come p [] h F wr++[tB cJ q [.str g.name,aI g.params,aI g.aQ,a]]) (U.bV ?_) λH' U=>⟨[.aD c 0],?_,hK H' c d e come os p a F [tB cJ q [.str g.name,aI g.params,aI g.aQ,a]] wr bG t U.tail.tail.tail⟩;·rw[<-ahD,<-ahD];exact aiq.append_right _
 exact⟨rfl,rfl,trivial⟩
end
end
section
structure GX(g:G.aP)(H:ai)(xq:ah)(vb cv:AV)(come:List Bool)(os:List (List bt))(svs:List AV):Prop where
 jn:u9 H xq vb os svs
 bl:cQ 7 iP H g.aj vb
 c0:aY H xq 0=some (.str g.name)
 c1:aY H xq 1=some (aI g.params)
 c2:aY H xq 2=some (aI g.aQ)
 c4:aY H xq 4=some cv
 c6:aY H xq 6=some (.bool false)
 cm:Sl H 1 (come.map .bool) come.length cv
theorem GX.bR{g:G.aP}{H H':ai}{a:ah}{d h:AV}{come:List Bool}{os:List (List bt)}{c:List AV}(k:GX g H a d h come os c)(hg:aS H H'):GX g H' a d h come os c:=by have hl:=k.jn.lt;have⟨h1,h2,h3,b,e,f,i,j⟩:=k;exact⟨h1.bR hg,bX.block.gp hg h2,by rw[hg.aY hl];exact h3,by rw[hg.aY hl];exact b,by rw[hg.aY hl];exact e,by rw[hg.aY hl];exact f,by rw[hg.aY hl];exact i,hg.sl j⟩
structure b9(g:G.aP)(come:List Bool)(os:List (List bt)):Prop where
 cl:come.length=g.aj.length
 ol:os.length=g.aj.length
 c0:come.getD 0 false=true
 cK:∀b,come.getD b false=true->fJ g b (os.getD b [])
 dn:∀b,come.getD b false=true->∀w∈bU g b (os.getD b []),come.getD w.1.toNat false=true
theorem ie.FN{g:G.aP}{n:Nat}{F:List Th}{come:List Bool}{os:List (List bt)}{c:List AV}(l:ie g n F come os c [] none false)(e:qE g){b:Nat}{o:List bt}(hl:fJ g b o):come.getD b false=true/\os.getD b []=o:=by
 induction hl with
 |zero=>exact⟨l.c0,(l.cK 0 l.c0).nil e rfl⟩
 | @step b o w _ f i=>
  have⟨h1,h2⟩:=i;rcases l.dn b h1 with h3|h3|h3;·cases h3
  .cases h3
  obtain⟨j,k⟩:=h3 w (by rw[h2];exact f);exact⟨j,k rfl⟩
theorem ie.acq{g:G.aP}{F:List Th}{come:List Bool}{os:List (List bt)}{c:List AV}(k:ie g g.aj.length F come os c [] none false)(b:qE g)(j:g.aj.length<=900):fy g:=⟨λh1 h2=>(k.FN b h1).2.symm.trans (k.FN b h2).2,λh1 w e=>(by have:=(Cb b (h1.ok b).1 (h1.ok b).2 w e).1;omega),λh1=>h1.pu b,λh1=>⟨(h1.ok b).2,by have⟨f,i⟩:=k.FN b h1;have:=k.iD _ f;rw[i]at this;omega⟩⟩
theorem acr(T:Tb ab){g:G.aP}{H:ai}(s:G.Sm g)(p:qE g)(k:g.aj.length<=900){cs:List AV}(hg:dt H g cs){K:KT}(t:∀H' a d h come os c,aS H H'->fy g->GX g H' a d h come os c->b9 g come os->K (.aD a 0) H')(u:∀H' a,aS H H'->a.am<H'.next.am->aY H' a 6=some (.bool true)->(∃b o q,fJ g b o/\fJ g b q/\o≠q)->K (.aD a 0) H'):YN ab KQ [.agg cs] H K:=by
 refine acp T s p k hg λH' a r x come os c d F us wr bG i U=>?_;have j:∀(o:Nat)(v:AV),([.str g.name,aI g.params,aI g.aQ,d,.slice r 0 g.aj.length g.aj.length true,.slice x 0 g.aj.length g.aj.length true,.bool wr]:List AV)[o]?=some v->aY H' a o=some v:=λo v z=>by obtain⟨_,n⟩:=U.get 0 rfl;exact tB.cell n z
 have l:a.am<H'.next.am:=by obtain⟨_,n⟩:=U.get 0 rfl;obtain⟨_,_,_,_,_,z⟩:=n;exact z
 cases wr with
 |true=>exact u H' a U.gr l (j 6 _ rfl) (i.df rfl)
 |false=>
  have m:=i.ol;refine t H' a d (.slice r 0 g.aj.length g.aj.length true) come os c U.gr (i.acq p k) ⟨⟨l,j 3 _ rfl,⟨_,j 5 _ rfl,by rw[m];exact U.sl 1⟩,by rw[i.sl,m],λb hb=>?_⟩,bX.block.gp U.gr bG,j 0 _ rfl,j 1 _ rfl,j 2 _ rfl,j 4 _ rfl,j 6 _ rfl,by rw[i.cl];exact U.sl 2⟩ ⟨i.cl,m,i.c0,i.cK,λb hb=>?_⟩;·have e:os.getD b []=os[b]:=bf hb _;cases j:come.getD b false with|true=>have⟨f,z,_⟩:=U.kj 3 rfl (i.fz b j);rw[e]at z;exact z|false=>obtain⟨h1,h2⟩:=i.nz b (by rw[<-m];exact hb) j;rw[e]at h1;rw[h1,h2];exact .inl ⟨rfl,rfl,rfl⟩
  rcases i.dn b hb with z|z|z;·cases z
  .cases z
  exact λw y=>(z w y).1
section
variable{g:G.aP}{d h:AV}{a:ah}{H:ai}{come:List Bool}{os:List (List bt)}{c:List AV}
def kn(g:G.aP)(b:Nat)(e:List bt):List Nat:=(bU g b e).map λw=>w.1.toNat
theorem Ce{b:Nat}{now:List bt}(e:G.Sm g)(hb:b<g.aj.length):(bU g b now).length<=12:=by
 have:=(e.bl _ (acm hb)).2.2.2.2.1;simp only[bU,bf hb];split;·simp
 split;·split<;>simp
 simp;omega
theorem FO(T:Tb ab)(E:G.Sm g)(m:fy g)(p:GX g H a d h come os c)(q:b9 g come os){b:Nat}(hb:come.getD b false=true){K:KT}(W:∀H' v,ak H H' [tS 3 1 ((kn g b (os.getD b [])).map aN) (kn g b (os.getD b [])).length true v]->K v H'):YN ab XK [.aD a 0,aN b] H K:=by
 have f:=q.cK b hb;have u:=tC hb aC;have i:b<os.length:=by rw[q.ol,<-q.cl];exact u
 have x:∀w∈bU g b (os.getD b []),aI w.1=aN w.1.toNat:=λw M=>by have⟨h0,_⟩:=m.zV f w M;obtain⟨t,N⟩:∃t:Nat,w.1=(t:Int):=⟨w.1.toNat,aa⟩;rw[N];rfl
 have y:km H (os.getD b []) (c.getD b .bM):=by rw[bf i];exact p.jn.bu b i
 have S:(bU g b (os.getD b [])).length<=100000:=by have:=Ce (now:=os.getD b []) E (m.aE f).lt;omega
 refine YF.code T.ZY aC (au ?_);refine RO.dN (ak.bN H) λH1 r U=>au ?_;refine RO.cl (Mb T λs F I hl=>?_);have U:ak H s ([tB 3 I [aN b],tB kK F [.aD a 0]]++[tS 3 1 [] 0 true .bh,tB cB r [.bh]]++[]):=(U.mh 3 1).dq hl;refine au ?_;refine Ru.wk (L:=[(p8,.func BY [] [.aD F 0,.aD I 0]),(p4,.aD r 0)]) ?_;refine Ru.oh (J:=λk ts=>∃v,v.br=true/\v.cW=true/\v.cells=[v]/\ts=[tS 3 1 (((kn g b (os.getD b [])).take k).map aN) k true v,tB cB r [v]]) (Dn:=λ_ _=>False) U (Mc T E p.bl (b:=b) (now:=os.getD b []) (nv:=c.getD b .bM) (m.aE f) (m.jm f).1 (by have:=(m.jm f).2;omega)) (λs hg=>⟨os,c,p.jn.bR (U.gr.trans hg),i,(bf i _).symm,rfl⟩) ⟨_,rfl,rfl,rfl,rfl⟩ (λk args ws W=>by obtain⟨_,v,rfl,_⟩:=W;rfl) (λk ts us H' o U=>U.gr.sl y) (λk args ws ts us l o1 o2 H' V z o U=>?_) (λH' A J o U=>?_) (λj H' A J _ W=>W.elim)
 .obtain⟨v,hd,h1,O,rfl⟩:=o;obtain⟨n,w,rfl,_⟩:=z;have U:=U.sub ((List.sublist_append_right _ _).append_right _);have P:=x _ (acm n);rw[P];refine au ?_;refine Ru.cY U λs U=>af ?_;refine RO.push U 0 (λw H' L U=>?_) (ws:=[aN (bU g b (os.getD b []))[k].1.toNat]);have⟨B,C,D,_⟩:=(U.sl (e:=3) (size:=1) (n:=k+1) (full:=true) (sv:=L) 0).all;refine RO.dJ U 1 (λQ U=>af ?_);refine Ru.bz (ts:=[_,_]) U ⟨L,B,C,D,?_⟩;have e:(kn g b (os.getD b [])).take (k+1)=(kn g b (os.getD b [])).take k++[(bU g b (os.getD b []))[k].1.toNat]:=by rw[List.take_succ];congr 1;rw[kn,aiw,aiQ n];rfl
  rw[e,ail];rfl
 obtain⟨v,hd,h1,O,rfl⟩:=o;have R:(bU g b (os.getD b [])).length=(kn g b (os.getD b [])).length:=by rw[kn,aig]
 rw[R,ajg]at U;refine af ?_;refine RO.dJ U 1 (λQ U=>af ?_);refine Ru.jl (M:=[J]) (ts:=[_,_]) (U.bV (aii (l₁:=[_,_]))) λH' U=>⟨[v],⟨⟨_,_,rfl,U.one 1⟩,trivial⟩,W H' v (U.sub (List.Sublist.cons₂ _ (ajr _)))⟩
end
end
end
section
structure jo(W:Nat->List Nat)(P:Nat->Prop)(been been':List Bool)(new:List Nat):Prop where
 len:been'.length=been.length
 bn:∀x,been'.getD x false=true↔been.getD x false=true\/x∈new
 nd:new.Nodup
 fr:∀x∈new,been.getD x false=false
 cl:∀x∈new,∀w∈W x,been'.getD w false=true
 sg:∀cz x post,new=cz++x::post->P x\/∃y∈post,x∈W y
variable{W:Nat->List Nat}{P Q:Nat->Prop}{a b c:List Bool}{d n2:List Nat}{k:Nat}
theorem jo.nil:jo W P a a []:=⟨rfl,λx=>by simp,ajD,λ_ h=>by grind,λ_ h=>by grind,λcz x b h=>by simp_all⟩
theorem jo.mono(h:jo W P a b d)(f:∀x,P x->Q x):jo W Q a b d:=⟨h.len,h.bn,h.nd,h.fr,h.cl,λcz x c e=>(h.sg cz x c e).imp_left (f x)⟩
theorem jo.sZ(h:jo W P a b d)(h2:jo W P b c n2):jo W P a c (d++n2):=by
 refine⟨h2.len.trans h.len,λx=>?_,aiH.2 ⟨h.nd,h2.nd,λx f y i e=>?_⟩,λx f=>?_,λx f w j=>?_,λcz x g e=>?_⟩;·rw[h2.bn,h.bn,adX,or_assoc]
 .subst e;have h3:=h2.fr x i;rw[(h.bn x).2 (.inr f)]at h3;cases h3
 .rcases adX.1 f with f|f;·exact h.fr x f
  have h3:=h2.fr x f;cases k:a.getD x false with|false=>rfl|true=>rw[(h.bn x).2 (.inl k)]at h3;cases h3
 .rcases adX.1 f with f|f;·exact(h2.bn w).2 (.inl (h.cl x f w j))
  exact h2.cl x f w j
 rcases List.append_eq_append_iff.1 e with⟨l,rfl,e2⟩|⟨l,rfl,e2⟩;·exact h2.sg l x g e2
 cases l with
 |nil=>exact h2.sg [] x g (by simpa using e2.symm)
 |cons y l=>
  simp only[aiR,aik]at e2;obtain⟨rfl,rfl⟩:=e2;rcases h.sg cz x l rfl with h3|⟨y,i,h3⟩;·exact .inl h3
  exact .inr ⟨y,ah1 _ i,h3⟩
theorem jo.aq(hb:a.getD k false=false)(m:k<a.length)(h:jo W (·∈W k) (a.set k true) c d)(n:∀w∈W k,c.getD w false=true):jo W (·=k) a c (d++[k]):=by
 have e:∀x,(a.set k true).getD x false=true↔x=k\/a.getD x false=true:=λx=>by
  rw[dD m];by_cases h:x=k;·simp[h]
  simp[h]
 have i:k∉d:=λo=>by have:=h.fr k o;rw[(e k).2 (.inl rfl)]at this;cases this
 refine⟨by rw[h.len];simp,λx=>?_,aiH.2 ⟨h.nd,aC,λx b y g e=>?_⟩,λx b=>?_,λx b w f=>?_,λcz x j e=>?_⟩
 .rw[h.bn,e,adX,abP];constructor
  .rintro((h|h)|h);·exact .inr (.inr h)
   .exact .inl h
   exact .inr (.inl h)
  rintro(h|h|h);·exact .inl (.inr h)
  .exact .inr h
  exact .inl (.inl h)
 .rw[abP]at g;exact i (by rw[<-g,<-e];exact b)
 .rcases adX.1 b with b|b;·have h3:=h.fr x b;cases p:a.getD x false with|false=>rfl|true=>rw[(e x).2 (.inr p)]at h3;cases h3
  rw[abP]at b;subst b;exact hb
 .rcases adX.1 b with b|b;·exact h.cl x b w f
  rw[abP]at b;subst b;exact n w f
 rcases List.append_eq_append_iff.1 e with⟨l,rfl,e2⟩|⟨l,rfl,e2⟩;·cases l with|nil=>simp only[aiY,aik]at e2;exact .inl e2.1.symm|cons y l=>simp at e2
 cases l with
 |nil=>simp only[aiY,aik]at e2;exact .inl e2.1
 |cons y l=>
  simp only[aiR,aik]at e2;obtain⟨rfl,rfl⟩:=e2;rcases h.sg cz x l rfl with h3|⟨y,g,h3⟩;·exact .inr ⟨k,aC,h3⟩
  exact .inr ⟨y,ah1 _ g,h3⟩
theorem jo.ip(h:jo W P a b d)(g:∀x∈d,x<a.length):d.length+ip b=ip a:=by
 have h1:=h.len;have h2:=h.bn;have h3:=h.nd;have j:=h.fr;clear h;induction d generalizing a with
 |nil=>
  have:b=a:=by apply ai2 h1;intro i hi hj;have:=h2 i;simp only[aie,or_false]at this;rw[bf hi,bf hj]at this;cases k:b[i]<;>cases m:a[i]<;>simp[k,m]at this⊢
  subst this;simp
 |cons x l n=>
  have f:=g x (acI ..);have o:=j x (acI ..);have hs:=pB f o;have e1:∀y,b.getD y false=true↔(a.set x true).getD y false=true\/y∈l:=λy=>by
   rw[h2,dD f,acT];by_cases h:y=x;·simp[h]
   simp[h]
  have e2:∀y∈l,(a.set x true).getD y false=false:=λy c=>by rw[dD f,an λe=>(aiz.1 h3).1 (by rw[<-e];exact c)];exact j y (adT _ c)
  have p:=n (a:=a.set x true) (λy c=>by simpa using g y (adT _ c)) (by simpa using h1) e1 (aiz.1 h3).2 e2;simp only[air];omega
end
section
variable{ab:Nat->aV}
section
section
variable{g:G.aP}{j l:AV}{h a c d f i:ah}{H:ai}{come:List Bool}{os:List (List bt)}{p:List AV}
def wW(g:G.aP)(os:List (List bt))(b:Nat):List Nat:=kn g b (os.getD b [])
theorem b9.iq(m:b9 g come os){b w:Nat}(hb:come.getD b false=true)(e:w∈wW g os b):come.getD w false=true:=by simp only[wW,kn,aia]at e;obtain⟨x,k,rfl⟩:=e;exact m.dn b hb x k
theorem b9.lt(e:b9 g come os){b:Nat}(hb:come.getD b false=true):b<g.aj.length:=by rw[<-e.cl];exact tC hb aC
def Mf(a c d f:ah):AV:=.func XJ [] [.aD c 0,.aD a 0,.aD f 0,.aD d 0]
def xP(h a c d f i:ah)(n:Nat)(e:List Bool)(b:List Nat)(g:AV):List Th:=[tS 3 1 (b.map aN) b.length true g,tB WI f [Mf a c d f],tB cB d [g],tB gR c [.slice i 0 n n true],tB kK a [.aD h 0],tS 4 1 (e.map .bool) n true (.slice i 0 n n true)]
theorem acs(T:Tb ab)(Q:G.Sm g)(hE:fy g)(hX:GX g H h j l come os p)(F:b9 g come os):∀(m b:Nat)(n:List Bool)(s:List Nat)(E:AV)(H':ai)(us:List Th)(K:KT),ip n<=m->come.getD b false=true->n.length=g.aj.length->s.length+ip n<=g.aj.length->ak H H' (xP h a c d f i g.aj.length n s E++us)->(∀H2 y new R ws,jo (wW g os) (·=b) n y new->y.getD b false=true->(∀x∈new,come.getD x false=true)->ak H H2 (xP h a c d f i g.aj.length y (s++new) R++(ws++us))->K (fZ []) H2)->YF ab (Mf a c d f) [aN b] H' K:=by
 intro m;induction m with
 |zero=>intro b n s E H' us K hm hb hl ho U bb;have J:=F.lt hb;refine YF.code T.Ld aC (af ?_);cases t:n.getD b false with|true=>refine RO.cZ U 5 (v:=.bool true) (hv:=by rw[nV false aa,t]) (af ?_);refine Ru.kJ (vs:=[]) trivial (bb H' n [] E [] jo.nil t (λ_ bb=>by simp at bb) (by rw[aiS];exact U))|false=>have:=pB (k:=b) aa t;omega
 |succ m ih=>
  intro b n s E H' us K hm hb hl ho U bb;have ax:=Q.nb;have J:=F.lt hb;refine YF.code T.Ld aC (af ?_);cases t:n.getD b false with
  |true=>refine RO.cZ U 5 (v:=.bool true) (hv:=by rw[nV false aa,t]) (af ?_);refine Ru.kJ (vs:=[]) trivial (bb H' n [] E [] jo.nil t (λ_ bb=>by simp at bb) (by rw[aiS];exact U))
  |false=>
   have ay:=pB (k:=b) aa t;have aw:(wW g os b).length<=12:=by have:=Ce (now:=os.getD b []) Q J;simpa[wW,kn]using this
   refine RO.cZ U 5 (v:=.bool false) (hv:=by rw[nV false aa,t]) (af ?_);refine RO.gk U 5 true hl (λH3 U=>af ?_) (k:=b);refine RO.cl (FO T Q hE (hX.bR U.gr) F hb λH4 v L=>?_);have U:=U.dq L;change ak H H4 ([tS 3 1 ((wW g os b).map aN) (wW g os b).length true v]++(xP h a c d f i g.aj.length (n.set b true) s E++us))at U;have U:=ak.dR (xs:=[_]) (by rw[ahD];exact U);have⟨a1,_,_,a2⟩:=(L.sl (e:=3) (size:=1) (sv:=v) (vs:=(wW g os b).map aN) (n:=(wW g os b).length) (full:=true) 0).all;refine af ?_;refine Ru.nm λS M hS hM=>?_;refine Ru.bI hM (up (P:=λk=>∀I r new C ws,jo (wW g os) (·∈wW g os b) (n.set b true) r new->(∀x∈new,come.getD x false=true)->(∀w∈(wW g os b).take k,r.getD w false=true)->ak H I (xP h a c d f i g.aj.length r (s++new) C++(tS 3 1 ((wW g os b).map aN) (wW g os b).length true v::(ws++us)))->Ru ab _ S ([(rI,aN k)]++pk M [p0,p3,p4,ml,mq]) I) (wW g os b).length (λk hk V I r new C ws P hc hw U=>?_) 0 aa _ _ [] _ [] jo.nil (λ_ bb=>by simp at bb) (λ_ bb=>by simp at bb) (by rw[aiS];exact U));have a6:=P.ip λx z=>by rw[aja,hl];exact F.lt (hc x z)
   have W:r.length=g.aj.length:=by rw[P.len,aja,hl]
   subst hS;subst hM;refine Ru.loop (au ?_);refine Ru.cond (λX=>?_) (λX=>?_)
   .refine af ?_;refine RO.iQ (aS.refl I) (U.sl (e:=3) (size:=1) (sv:=v) (vs:=(wW g os b).map aN) (n:=(wW g os b).length) (full:=true) 6) (λq o hj Y=>RO.be (af ?_) (hc:=Y));refine RO.cl (ih ((wW g os b)[k]) r (s++new) C I _ _ aa (F.iq hb (acm hj)) W (by rw[ahY];omega) U λH5 A B Z D N ag av U=>?_);refine af ?_;have g1:∀x∈new++B,come.getD x false=true:=λx z=>by
     rcases adX.1 z with z|z;·exact hc x z
     exact av x z
    have g2:∀w∈(wW g os b).take (k+1),A.getD w false=true:=λw u=>by
     rw[List.take_succ,aiQ hj]at u;rcases adX.1 u with u|u;·exact(N.bn w).2 (.inl (hw w u))
     simp at u;rw[u];exact ag
    have U:=U.bV (List.Perm.append_left _ (aii (l₁:=D)));rw[ahD s,<-ahD D]at U;exact Ru.wk (V (k+1) aa aa H5 A (new++B) Z (D++ws) (P.sZ (N.mono λx bb=>by rw[bb];exact acm hj)) g1 g2 U)
   refine Ru.exitTo ?_;refine af ?_;refine RO.push U 0 (λw H6 v2 U=>?_) (ws:=[aN b]) (hb:=by rw[ahY];omega) (hn:=by rw[ahY];omega);have⟨a8,a',ba,_⟩:=(U.sl (e:=3) (size:=1) (n:=(s++new).length+1) (full:=true) (sv:=v2) 0).all;refine RO.dJ U 2 (λH7 U=>af ?_);have O:=jo.aq t aa P (λw u=>hw w (by rw[aic aa];exact u));refine Ru.aq (vs:=[]) trivial (bb H7 r (new++[b]) v2 (tS 3 1 ((wW g os b).map aN) (wW g os b).length true v::ws) O ((O.bn b).2 (.inr aC)) (λx z=>?_) ?_)
   .rcases adX.1 z with z|z;·exact hc x z
    rw[abP]at z;rw[z];exact hb
   have e:((s++(new++[b])).map aN)=(s++new).map aN++[aN b]:=aC;have e2:(s++(new++[b])).length=(s++new).length+1:=by simp;omega
   simp only[xP,e,e2];exact U
end
end
section
theorem act{l:List Nat}{i j x a b:Nat}(hi:i<l.length)(hj:j<l.length):((l.set i a).set j b).getD x 0=if x=j then b else if x=i then a else l.getD x 0:=by grind
theorem acu(T:Tb ab){A H:ai}{us:List Th}{l:List Nat}{n cap:Nat}{q:ah}{ex:Bool}(o:l.length=n)(h0:0<n)(y:n<1000000)(U:ak A H (tS 3 1 (l.map aN) n true (.slice q 0 n cap ex)::us)){K:KT}(r:∀H',ak A H' (tS 3 1 (l.reverse.map aN) n true (.slice q 0 n cap ex)::us)->K (fZ []) H'):YN ab XL [.slice q 0 n cap ex] H K:=by
 refine YF.code T.ZZ aC (au ?_);refine RO.arith (v:=aN (n - 1)) (au ?_) (hv:=mg (k:=n) aa aa);refine Ru.nm λS M s p=>Ru.bI p (up (P:=λk=>∀i a,a.length=n->(∀x,x<n->a.getD x 0=if x<k\/n<=x+k then l.getD (n - 1 - x) 0 else l.getD x 0)->ak A i (tS 3 1 (a.map aN) n true (.slice q 0 n cap ex)::us)->Ru ab _ S ([(p2,aN k),(p3,aN (n - 1 - k))]++pk M [p0]) i) (n - 1) (λk z t i a b g U=>?_) 0 aa _ l o (λx g=>by rw[an aa]) U);subst s;subst p;refine Ru.loop (au ?_);refine Ru.cond (λj=>?_) (λj=>?_)
 .refine af ?_;refine RO.cZ U 0 (hv:=nV 0 aa) (af ?_);refine RO.cZ U 0 (hv:=nV 0 aa) (af ?_);refine RO.gk (f:=aN) U 0 (a.getD (n - 1 - k) 0) b (λB U=>af ?_) (k:=k);refine RO.gk (f:=aN) (zs:=a.set k (a.getD (n - 1 - k) 0)) (n:=n) U 0 (a.getD k 0) (by rw[aja];exact b) (λu U=>?_) (k:=n - 1 - k) (ho:=by rw[aja];omega);refine af ?_;refine RO.arith (v:=aN (n - 1 - (k+1))) ?_ (hv:=by rw[show n - 1 - (k+1)=n - 1 - k - 1 by omega];exact mg (k:=n - 1 - k) aa aa);refine au ?_;have v:∀x,x<n->((a.set k (a.getD (n - 1 - k) 0)).set (n - 1 - k) (a.getD k 0)).getD x 0=if x<k+1\/n<=x+(k+1)then l.getD (n - 1 - x) 0 else l.getD x 0:=λx m=>by
   rw[act aa aa];by_cases h1:x=n - 1 - k;·rw[aG h1,aG aa,g k aa,an aa,h1];congr 1;omega
   rw[an h1];by_cases h2:x=k;·rw[aG h2,aG aa,g _ aa,an aa,h2]
   rw[an h2,g x m];by_cases h3:x<k\/n<=x+k;·rw[aG h3,aG aa]
   rw[an h3,an aa]
  have w:((a.set k (a.getD (n - 1 - k) 0)).set (n - 1 - k) (a.getD k 0)).length=n:=by simpa using b
  exact Ru.wk (t (k+1) aa aa u _ w v U)
 refine Ru.exitTo (au ?_);have e:a=l.reverse:=by
  apply ai2 (by simp[b,o]);intro x h1 h2;have h3:=g x aa;rw[bf h1]at h3;rw[h3,List.getElem_reverse];split;·rw[bf aa];congr 1;omega
  rw[bf aa];congr 1;omega
 subst e;exact Ru.aq (vs:=[]) trivial (r _ U)
section
variable{g:G.aP}{d f:AV}{c:ah}{H:ai}{come:List Bool}{os:List (List bt)}{h:List AV}
structure eT(g:G.aP)(come:List Bool)(os:List (List bt))(ap:List Nat):Prop where
 nd:ap.Nodup
 mem:∀b,b∈ap↔come.getD b false=true
 hd:∃rest,ap=0::rest
 aK:∀cz x post,ap=cz++x::post->x=0\/∃y∈cz,x∈wW g os y
theorem jo.ap(q:fy g)(k:b9 g come os){a:List Bool}{n:Nat}{new:List Nat}(t:jo (wW g os) (·=0) (acJ n false) a new)(h0:a.getD 0 false=true)(m:∀x∈new,come.getD x false=true):eT g come os new.reverse:=by
 have j:∀x,a.getD x false=true↔x∈new:=λx=>by
  rw[t.bn];constructor
  .rintro(t|t);·simp[ah3,aiI]at t;split at t<;>cases t
   exact t
  exact .inr
 have hl:∀b o,fJ g b o->b∈new:=λb o hl=>by induction hl with|zero=>exact(j 0).1 h0| @step b o w hb r p=>have e:=q.vc hb (k.cK b (m b p));refine(j _).1 (t.cl b p _ ?_);simp only[wW,kn,<-e];exact aio r
 refine⟨List.pairwise_reverse.2 (t.nd.imp λt=>t.symm),λb=>?_,?_,λcz x i e=>?_⟩;·rw[List.mem_reverse];exact⟨m b,λhb=>hl b _ (k.cK b hb)⟩
 .have h1:=(j 0).1 h0;rcases List.eq_nil_or_concat new with rfl|⟨l,x,rfl⟩;·grind
  rcases t.sg l x [] aC with h2|⟨y,s,_⟩;all_goals grind
 have e2:new=i.reverse++x::cz.reverse:=by have:=congrArg List.reverse e;simpa using this
 rcases t.sg _ _ _ e2 with h2|⟨y,s,h2⟩;all_goals grind
theorem FP(T:Tb ab)(m:G.Sm g)(n:fy g)(a:GX g H c d f come os h)(b:b9 g come os){K:KT}(Q:∀H' v ap,eT g come os ap->ak H H' [tS 3 1 (ap.map aN) ap.length true v]->K v H'):YN ab Xz [.aD c 0] H K:=by
 have D:=m.nb;have⟨hd,_,_,E⟩:=a.bl.all;have i:=a.jn.aE;have j:=a.jn.lt;refine YF.code T.ZL aC (au ?_);refine RO.ct (ak.bN H) λH1 t U=>?_;refine af ?_;refine RO.be ?_ (hc:=by rw[U.gr.aY j];exact i);refine af ?_;refine RO.jy U (n:=g.aj.length) (λF u U=>?_) (hz:=by rw[eK];simp);have er:dY [AV.bool false] g.aj.length=(acJ g.aj.length false).map .bool:=by rw[eK,ajd]
 rw[er]at U;refine RO.dS U λI w U=>af ?_;refine RO.dN U λJ y U=>af ?_;refine RO.dN U λL z U=>af ?_;refine RO.dJ U 0 (λA U=>?_);refine af ?_;have U:=(U.mh 3 1);have U:ak H A (xP c t w y z u g.aj.length (acJ g.aj.length false) [] .bh++[]):=U.bV (List.Perm.append_left [_,_,_,_] (aiK ..));refine RO.cl (acs T m n a b _ 0 _ [] _ _ [] _ (afM _) b.c0 aC (by rw[xN];simp) U λM s new N O o hb hc U=>?_);have p:=o.ap n b hb hc;have k:0<new.length:=by have⟨r,B⟩:=p.hd;have:=congrArg List.length B;simp at this;omega
 rw[aiY]at U;obtain⟨q,cap,ex,rfl⟩:=U.jO 0 rfl aa;have l:=o.ip λx C=>by rw[aiZ];exact b.lt (hc x C)
 rw[xN]at l;refine af ?_;refine RO.cl (acu T rfl k aa U λP U=>af ?_);have e:new.reverse.length=new.length:=aC;rw[<-e]at U;rw[<-e];exact Ru.aL (Q _ _ _ p (U.sub (ajk _ (ajr _))))
end
end
theorem Mg{n:Nat}(h:n<18446744073709551616):(ck 7).wrap (.ofNat n)=.ofNat n:=by have e1:(ck 7).bits=64:=rfl;have e2:(ck 7).signed=false:=rfl;unfold IntKind.wrap;grind
theorem c7{n:Nat}(h:n<18446744073709551616):fX 7 (.ofNat n)=.ofNat n:=TO (Mg h)
theorem m7{a b c:Nat}(h:a*b=c)(d:c<18446744073709551616):fG .mul 7 (.ofNat a) (.ofNat b)=some (.int 7 (.ofNat c)):=by show some (AV.int 7 (fX 7 (.ofNat (a*b))))=_;rw[h,c7 d]
theorem a7{a b c:Nat}(h:a+b=c)(d:c<18446744073709551616):fG .add 7 (.ofNat a) (.ofNat b)=some (.int 7 (.ofNat c)):=by show some (AV.int 7 (fX 7 (.ofNat (a+b))))=_;rw[h,c7 d]
theorem n7{a:Nat}(h:a<4294967296):fG .and 7 (.ofNat a) (.ofNat 4294967295)=some (.int 7 (.ofNat a)):=by
 have e:(ai4 (ck 7).bits (.ofNat a)&&&ai4 (ck 7).bits (.ofNat 4294967295)).toNat=a:=by
  show(ai4 64 (.ofNat a)&&&ai4 64 (.ofNat 4294967295)).toNat=a;rw[BitVec.toNat_and];have e1:(ai4 64 (aiC a)).toNat=a:=by show(ai4 64 ((a:Nat):Int)).toNat=a;rw[BitVec.ofInt_natCast,BitVec.toNat_ofNat];omega
  rw[e1,show(ai4 64 (aiC 4294967295)).toNat=2^32 - 1 from rfl,Nat.and_two_pow_sub_one_eq_mod];omega
 simp only[fG,e,lg];exact congrArg (λx=>some (AV.int 7 x)) (Mg aa)
theorem s7{a:Nat}(h:a<4294967296):Au .shr (.int 7 (.ofNat a)) (.int 7 (.ofNat 32))=some (.int 7 (.ofNat 0)):=by show some (AV.int 7 ((aiC a).fdiv (2^32)))=_;grind
theorem RO.shift{c:Cx}{s:List SI}{L:Kn}{H:ai}{d:Option ah}{l:List bD}{op:BinOp}{x y:aJ}{a b v:AV}(h:RO ab c l s (bq L d v) H)(f:aT L x=a:=by exact cw)(g:aT L y=b:=by exact cw)(i:a.br=true:=by rfl)(hb:b.br=true:=by rfl)(hv:Au op a b=some v):RO ab c (⟨d,.shift op x y,none,[],[]⟩::l) s L H:=RO.op (λac e=>by simp only[aH,e.gv f i,e.gv g hb,hv];rfl) h
theorem acv(T:Tb ab){H:ai}{n:Nat}(b:n<4294967296){K:KT}(a:K (.tuple [.int 7 (.ofNat 0),.int 7 (.ofNat n)]) H):YN ab XP [.int 7 (.ofNat 1),.int 7 (.ofNat n)] H K:=by refine YF.code T.Z4 aC (au ?_);refine RO.arith (au ?_) (hv:=n7 (a:=1) aa);refine RO.shift (au ?_) (hv:=s7 (a:=1) aa);refine RO.arith (au ?_) (hv:=n7 (a:=n) aa);refine RO.shift (au ?_) (hv:=s7 (a:=n) aa);refine RO.arith (au ?_) (hv:=m7 (a:=1) (b:=n) (c:=n) aa aa);refine RO.arith (au ?_) (hv:=m7 (a:=0) (b:=n) (c:=0) aa aa);refine RO.shift (au ?_) (hv:=s7 (a:=n) aa);refine RO.arith (au ?_) (hv:=a7 (a:=0) (b:=0) (c:=0) aa aa);refine RO.arith (au ?_) (hv:=n7 (a:=0) aa);refine RO.shift (au ?_) (hv:=s7 (a:=0) aa);refine RO.arith (au ?_) (hv:=m7 (a:=1) (b:=0) (c:=0) aa aa);refine RO.arith (au ?_) (hv:=a7 (a:=0) (b:=0) (c:=0) aa aa);refine RO.arith (au ?_) (hv:=m7 (a:=0) (b:=0) (c:=0) aa aa);refine RO.arith (au ?_) (hv:=a7 (a:=0) (b:=0) (c:=0) aa aa);refine RO.shift (au ?_) (hv:=s7 (a:=0) aa);refine RO.arith (au ?_) (hv:=a7 (a:=0) (b:=0) (c:=0) aa aa);refine RO.arith (au ?_) (hv:=m7 (a:=1) (b:=n) (c:=n) aa aa);exact Ru.kg a
theorem Mh(T:Tb ab){H:ai}{n:Nat}(a:n<4294967296){K:KT}(b:K (.tuple [.int 7 (.ofNat 0),.int 7 (.ofNat n)]) H):YN ab XF [.int 7 (.ofNat 1),.int 7 (.ofNat n)] H K:=by refine YF.code T.ZT aC (au ?_);refine RO.cl (acv T a (au ?_));exact Ru.kg b
end
end Go.al.R
namespace Go.al
section
variable{ab:Nat->aV}{c:Cx}{s:List SI}{L:Kn}{A H:ai}{d:Option ah}{l:List bD}{ts:List Th}{q:ah}{e n m k o i cap f size:Nat}{u z a:AV}{full ex b:Bool}
def ko(u z:AV)(size k n:Nat):List AV:=acJ (k*size) u++acJ ((n - k)*size) z
theorem FQ(h:k<=n):(ko u z size k n).length=n*size:=by simp only[ko,ahY,aiZ,<-ajA];grind
theorem Mi(h:k<=n){j:Nat}(hj:j<n*size):(ko u z size k n)[j]?=some (if j<k*size then u else z):=by rw[ko,List.getElem?_append];simp only[aiZ];split;all_goals simp_all[aiI,aG,Nat.sub_mul]
theorem Mj:ko u z size n n=acJ (n*size) u:=by simp[ko]
theorem RO.Cf(U:ak A H ts)(i:Nat){x y:aJ}(hi:ts[i]?=some (tS e size (ko u z size k n) n full (.slice q 0 n cap ex)))(r:k<=n)(hu:u.cW=true)(hs:Sl H size (acJ (m*size) u) m a)(C:min m (n - k)≠0)(D:o=k*size)(h:∀H',ak A H' (ts.set i (tS e size (ko u z size (k+min m (n - k)) n) n full (.slice q 0 n cap ex)))->RO ab c l s (bq L d (.int 3 (.ofNat (min m (n - k))))) H')(E:aT L x=.slice q o (n - k) f b:=by exact cw)(F:aT L y=a:=by exact cw):RO ab c (⟨d,.copy size x y,none,[],[]⟩::l) s L H:=by
 have⟨J,B,_,v⟩:=U.iO i hi;have p:n<=cap:=by
  rcases B with⟨_,_,_,h⟩|⟨K,M,aK,cap,b,rfl,h2,_,N,_⟩;·cases h
  injection h2 with _ _ _ h2;omega
 have g:k+min m (n - k)<=n:=aa;have w:(acJ (m*size) u).take (min m (n - k)*size)=acJ (min m (n - k)*size) u:=by rw[List.take_replicate,<-Nat.mul_min_mul_right];congr 1;have:=aix size (Nat.min_le_left m (n - k));omega
 have G:cU (acJ (min m (n - k)*size) u)=true:=by generalize min m (n - k)*size=t;induction t with|zero=>rfl|succ t I=>rw[List.replicate_succ];exact ao hu I
 have e1:(k+min m (n - k))*size=k*size+min m (n - k)*size:=ajA .. ;have e2:(k+min m (n - k))*size<=n*size:=aix _ g;have O:n*size<=cap*size:=aix _ p;obtain⟨H',h1,h2,h3⟩:=cP.sX B (o:=o) (ws:=acJ (min m (n - k)*size) u) (us:=ko u z size (k+min m (n - k)) n) (by rw[aiZ];omega) G (by rw[FQ r,FQ g]) λj hj=>by
  rw[FQ r]at hj;rw[Mi g hj,Mi r hj,aiZ,D];by_cases h1:k*size<=j/\j<k*size+min m (n - k)*size;·rw[aG h1,aiI,aG aa,aG aa]
  rw[an h1];by_cases h2:j<k*size;·rw[aG h2,aG aa]
  rw[an h2,an aa]
 exact RO.copy E F hs.br hs.fY C (by rw[w];exact h1) (h H' (v h2 h3))
end
end Go.al
namespace Go.al.R
section
variable{ab:Nat->aV}
theorem acw(T:Tb ab){H:ai}{n:Nat}{u xv:AV}(hu:u.cW=true)(hs:Sl H 1 (acJ (1*1) u) 1 xv)(o:n<=1000000){K:KT}(e:∀H' q,ak H H' [tS 3 1 (acJ (n*1) u) n true (.slice q 0 n n true)]->K (.slice q 0 n n true) H'):YN ab Xl [xv,aN n] H K:=by
 have⟨hd,_,_,m⟩:=hs.all;refine YF.code T.Zz aC (au ?_);refine RO.ku (au ?_);refine RO.ku ?_;refine RO.cl (Mh T (n:=n) aa ?_) (ha:=by show[AV.int 7 (fX 7 (.ofNat 1)),AV.int 7 (fX 7 (.ofNat n))]=_;rw[c7 aa,c7 aa]);refine af ?_;refine Ru.cond (λ(h:9223372036854775807<n)=>by omega) (λ_=>af ?_);refine RO.ku ?_;rw[m8 (n:=.ofNat n) (by rw[ahU];omega) (by rw[ahU];omega)];refine RO.jy (ak.bN H) (n:=n) (λH1 q U=>?_) (hz:=by rw[eK];simp);have b:dY [.int 3 (.ofNat 0)] n=ko u (.int 3 (.ofNat 0)) 1 0 n:=by rw[eK];simp[ko]
 rw[b]at U;refine au ?_;rcases Nat.eq_zero_or_pos n with rfl|g;·refine RO.Kc (xv:=.slice q 0 0 0 true) rfl rfl hd (U.gr.sl hs).fY ⟨0,rfl,aC⟩ (au ?_);refine Ru.loop (au ?_);refine Ru.exitTo ?_;refine au ?_;exact Ru.aL (e _ q U)
 refine RO.Cf U 0 rfl (Nat.zero_le n) hu (m:=1) (U.gr.sl hs) aa (o:=0) aa (λi U=>?_);rw[show min 1 (n - 0)=1 by omega,aif]at*;refine au ?_;refine Ru.nm λS M j f=>Ru.bI f (up (P:=λk=>1<=k->∀c,ak H c [tS 3 1 (ko u (.int 3 (.ofNat 0)) 1 k n) n true (.slice q 0 n n true)]->Ru ab _ S ([(p8,aN k)]++pk M [p7]) c) n (λk p l h1 c U=>?_) 1 aa (afM _) _ U);subst j;subst f;refine Ru.loop (au ?_);refine Ru.cond (λd=>?_) (λd=>?_)
 .refine au ?_;refine RO.gW (m:=n) (b:=n) (a:=k) rfl rfl rfl (by show lL (aN k) n=_;exact qk aa) rfl ?_;refine au ?_;refine RO.lV (U.sl (e:=3) (size:=1) (n:=n) (full:=true) 0) (b:=k) ?_;have e1:(ko u (.int 3 (.ofNat 0)) 1 k n).take (k*1)=acJ (k*1) u:=by rw[ko,List.take_append_of_le_length aC,aic aC]
  have a:=zO (U.sl (e:=3) (size:=1) (n:=n) (full:=true) (sv:=.slice q 0 n n true) 0) (b:=k) aa;rw[e1]at a;refine RO.Cf U 0 rfl aa hu a aa (o:=if true&&decide (n=k)then 0 else 0+k*1) (by rw[an (by simp;omega)];omega) (λi U=>?_);refine RO.add ?_ (a:=.ofNat k) (b:=.ofNat (min k (n - k))) (h1:=by simp;omega) (h2:=by simp;omega);refine au ?_;exact Ru.wk (l (k+min k (n - k)) aa aa aa _ U)
 refine Ru.exitTo ?_;refine au ?_;have:k=n:=aa;subst this;rw[Mj]at U;exact Ru.aL (e _ q U)
theorem FT(z:AV):∀n,dY [z,z] n=acJ (n*2) z|0=>rfl|n+1=>by rw[show(n+1)*2=n*2+1+1 by omega,List.replicate_succ,List.replicate_succ,<-FT z n];rfl
theorem acx(T:Tb ab){H:ai}{n:Nat}{u xv:AV}(hu:u.cW=true)(hs:Sl H 2 (acJ (1*2) u) 1 xv)(o:n<=1000000){K:KT}(e:∀H' q,ak H H' [tS lu 2 (acJ (n*2) u) n true (.slice q 0 n n true)]->K (.slice q 0 n n true) H'):YN ab Ym [xv,aN n] H K:=by
 have⟨hd,_,_,m⟩:=hs.all;refine YF.code T.aaM aC (au ?_);refine RO.ku (au ?_);refine RO.ku ?_;refine RO.cl (Mh T (n:=n) aa ?_) (ha:=by show[AV.int 7 (fX 7 (.ofNat 1)),AV.int 7 (fX 7 (.ofNat n))]=_;rw[c7 aa,c7 aa]);refine af ?_;refine Ru.cond (λ(h:9223372036854775807<n)=>by omega) (λ_=>af ?_);refine RO.ku ?_;rw[m8 (n:=.ofNat n) (by rw[ahU];omega) (by rw[ahU];omega)];refine RO.jy (ak.bN H) (n:=n) (λH1 q U=>?_) (hz:=by rw[FT];simp);have b:dY [.int 3 (.ofNat 0),.int 3 (.ofNat 0)] n=ko u (.int 3 (.ofNat 0)) 2 0 n:=by rw[FT];simp[ko]
 rw[b]at U;refine au ?_;rcases Nat.eq_zero_or_pos n with rfl|g;·refine RO.Kc (xv:=.slice q 0 0 0 true) rfl rfl hd (U.gr.sl hs).fY ⟨0,rfl,aC⟩ (au ?_);refine Ru.loop (au ?_);refine Ru.exitTo ?_;refine au ?_;exact Ru.aL (e _ q U)
 refine RO.Cf U 0 rfl (Nat.zero_le n) hu (m:=1) (U.gr.sl hs) aa (o:=0) aa (λi U=>?_);rw[show min 1 (n - 0)=1 by omega,aif]at*;refine au ?_;refine Ru.nm λS M j f=>Ru.bI f (up (P:=λk=>1<=k->∀c,ak H c [tS lu 2 (ko u (.int 3 (.ofNat 0)) 2 k n) n true (.slice q 0 n n true)]->Ru ab _ S ([(p8,aN k)]++pk M [p7]) c) n (λk p l h1 c U=>?_) 1 aa (afM _) _ U);subst j;subst f;refine Ru.loop (au ?_);refine Ru.cond (λd=>?_) (λd=>?_)
 .refine au ?_;refine RO.gW (m:=n) (b:=n) (a:=k) rfl rfl rfl (by show lL (aN k) n=_;exact qk aa) rfl ?_;refine au ?_;refine RO.lV (U.sl (e:=lu) (size:=2) (n:=n) (full:=true) 0) (b:=k) ?_;have e1:(ko u (.int 3 (.ofNat 0)) 2 k n).take (k*2)=acJ (k*2) u:=by rw[ko,List.take_append_of_le_length aC,aic aC]
  have a:=zO (U.sl (e:=lu) (size:=2) (n:=n) (full:=true) (sv:=.slice q 0 n n true) 0) (b:=k) aa;rw[e1]at a;refine RO.Cf U 0 rfl aa hu a aa (o:=if true&&decide (n=k)then 0 else 0+k*2) (by rw[an (by simp;omega)];omega) (λi U=>?_);refine RO.add ?_ (a:=.ofNat k) (b:=.ofNat (min k (n - k))) (h1:=by simp;omega) (h2:=by simp;omega);refine au ?_;exact Ru.wk (l (k+min k (n - k)) aa aa aa _ U)
 refine Ru.exitTo ?_;refine au ?_;have:k=n:=aa;subst this;rw[Mj]at U;exact Ru.aL (e _ q U)
end
section
inductive iT(W:Nat->List Nat)(d:Nat):Nat->Prop
 |zero(h:0≠d):iT W d 0
 |step{a x:Nat}(h:iT W d a)(hx:x∈W a)(hn:x≠d):iT W d x
def ep(W:Nat->List Nat)(d b:Nat):Prop:=¬iT W d b
theorem ep.cz{W:Nat->List Nat}{d a b:Nat}(h:ep W d b)(c:b∈W a)(f:d≠b):ep W d a:=λg=>h (.step g c λe=>f e.symm)
theorem ep.zero{W:Nat->List Nat}{d:Nat}(h:ep W d 0):d=0:=ain λa=>h (.zero λe=>a e.symm)
structure Rk(W:Nat->List Nat)(ap ranks:List Nat):Prop where
 nd:ap.Nodup
 hd:∃rest,ap=0::rest
 aK:∀cz x post,ap=cz++x::post->x=0\/∃y∈cz,x∈W y
 rk:∀i(h:i<ap.length),ranks.getD ap[i] 0=i
variable{W:Nat->List Nat}{ap ranks:List Nat}{up:List Int}
theorem Rk.inj(h:Rk W ap ranks){a b:Nat}(c:a∈ap)(hb:b∈ap)(e:ranks.getD a 0=ranks.getD b 0):a=b:=by obtain⟨i,hi,rfl⟩:=ah0 c;obtain⟨j,hj,rfl⟩:=ah0 hb;rw[h.rk i hi,h.rk j hj]at e;subst e;rfl
theorem Rk.at(h:Rk W ap ranks){a:Nat}(b:a∈ap):∃hl:ranks.getD a 0<ap.length,ap[ranks.getD a 0]=a:=by obtain⟨i,hi,rfl⟩:=ah0 b;have e:=h.rk i hi;generalize ranks.getD ap[i] 0=j at*;subst e;exact⟨hi,rfl⟩
theorem Rk.cz(h:Rk W ap ranks){b:Nat}(hb:b∈ap)(h0:b≠0):∃y∈ap,b∈W y/\ranks.getD y 0<ranks.getD b 0:=by
 have⟨hl,e⟩:=h.at hb;have e2:ap=ap.take (ranks.getD b 0)++b::ap.drop (ranks.getD b 0+1):=by conv=>lhs;rw[<-ai1 (ranks.getD b 0) ap,ah6 hl,e]
 rcases h.aK _ _ _ e2 with h1|⟨y,a,c⟩;·exact absurd h1 h0
 refine⟨y,ajt a,c,?_⟩;obtain⟨i,hi,rfl⟩:=ah0 a;rw[aiA]at hi;rw[List.getElem_take,h.rk i aa];omega
theorem Rk.zero(h:Rk W ap ranks):0∈ap/\ranks.getD 0 0=0:=by have⟨r,a⟩:=h.hd;have:=h.rk 0 (by rw[a];simp);simp only[a,List.getElem_cons_zero]at this;exact⟨by rw[a];simp,this⟩
theorem Rk.d8(h:Rk W ap ranks){d:Nat}:∀(n b:Nat),ranks.getD b 0=n->b∈ap->ep W d b->ranks.getD d 0<=n:=λn=>by
 induction n using Nat.strongRecOn with
 |ind n c=>
  intro b i hb hd;by_cases a:d=b;·subst a;omega
  by_cases h0:b=0;·subst h0;exact absurd hd.zero a
  have⟨y,e,f,g⟩:=h.cz hb h0;have:=c _ aa y rfl e (hd.cz f a);omega
structure oB(W:Nat->List Nat)(ap ranks:List Nat)(n:Nat)(up:List Int):Prop where
 len:up.length=n
 u0:up.getD 0 (-1)=0
 rg:∀b, -1<=up.getD b (-1)
 ok:∀b,b≠0->0<=up.getD b (-1)->b∈ap/\∃a:Nat,up.getD b (-1)=a/\a∈ap/\ranks.getD a 0<ranks.getD b 0/\0<=up.getD a (-1)/\∀d,ep W d b->d≠b->ep W d a
inductive fh(up:List Int)(m:Nat):Nat->Prop
 |refl:fh up m m
 |step{a c:Nat}(h:up.getD a (-1)=(c:Int))(h0:a≠0)(hc:fh up m c):fh up m a
theorem fh.trans{up:List Int}{a b c:Nat}(h1:fh up a b)(h2:fh up b c):fh up a c:=by induction h2 with|refl=>exact h1|step h h0 _ d=>exact .step h h0 d
def oC(up:List Int)(b x:Nat):Prop:=x≠0->∃m:Nat,up.getD x (-1)=(m:Int)/\fh up m b
structure vf(W:Nat->List Nat)(ap ranks:List Nat)(up:List Int)(a b m:Nat):Prop where
 mem:m∈ap
 df:0<=up.getD m (-1)
 ra:ranks.getD m 0<=ranks.getD a 0
 rb:ranks.getD m 0<=ranks.getD b 0
 d8:∀d,ep W d a->ep W d b->ep W d m
 Ml:fh up m a
 FU:fh up m b
theorem vf.swap{a b m:Nat}(h:vf W ap ranks up a b m):vf W ap ranks up b a m:=⟨h.mem,h.df,h.rb,h.ra,λd h1 h2=>h.d8 d h2 h1,h.FU,h.Ml⟩
theorem oB.Mm{n:Nat}(h:oB W ap ranks n up)(i:Rk W ap ranks){a b:Nat}(o:a∈ap)(hb:b∈ap)(j:0<=up.getD a (-1))(k:a≠b)(p:ranks.getD b 0<=ranks.getD a 0):∃c:Nat,up.getD a (-1)=c/\c∈ap/\0<=up.getD c (-1)/\ranks.getD c 0<ranks.getD a 0/\∀m,vf W ap ranks up c b m->vf W ap ranks up a b m:=by
 have l:ranks.getD b 0<ranks.getD a 0:=Nat.lt_of_le_of_ne p λe=>k (i.inj o hb e.symm);have h0:a≠0:=λe=>by subst e;rw[i.zero.2]at l;omega
 have⟨_,c,h1,h2,h3,q,r⟩:=h.ok a h0 j;refine⟨c,h1,h2,q,h3,λm f=>⟨f.mem,f.df,by have:=f.ra;omega,f.rb,λd hd g=>f.d8 d (r d hd λe=>?_) g,.step h1 h0 f.Ml,f.FU⟩⟩;subst e;have:=i.d8 _ b rfl hb g;omega
theorem oB.set{n:Nat}(h:oB W ap ranks n up)(s:Rk W ap ranks){to b:Nat}(j:to∈ap)(r:to<n)(h0:to≠0)(g:b∈ap)(k:0<=up.getD b (-1))(m:ranks.getD b 0<ranks.getD to 0)(hd:∀d,ep W d to->d≠to->ep W d b):oB W ap ranks n (up.set to (b:Int)):=by
 have hl:=h.len;have e:∀x,(up.set to (b:Int)).getD x (-1)=if x=to then(b:Int)else up.getD x (-1):=λx=>dD aa;have l:∀x,0<=up.getD x (-1)->0<=(up.set to (b:Int)).getD x (-1):=λx i=>by
  rw[e];split;·omega
  exact i
 refine⟨by simpa using hl,by rw[e,an λe=>h0 e.symm];exact h.u0,λx=>?_,λx i c=>?_⟩
 .rw[e];split;·omega
  exact h.rg x
 rw[e]at c⊢;split;·rename_i f;subst f;exact⟨j,b,rfl,g,m,l _ k,hd⟩
 rename_i f;rw[an f]at c;have⟨h1,a,h2,h3,o,p,q⟩:=h.ok x i c;exact⟨h1,a,h2,h3,o,l _ p,q⟩
def oD(ranks:List Nat)(n:Nat)(up:List Int):Nat:=(up.map λx=>if x<0 then n else ranks.getD x.toNat 0).sum
theorem Mn{l:List Nat}{k x:Nat}(b:k<l.length):(l.set k x).sum+l[k]=l.sum+x:=by induction l generalizing k with|nil=>simp at b|cons a l c=>cases k with|zero=>simp;omega|succ k=>have:=c (k:=k) (by simpa using b);simp;omega
theorem Mo{n k now:Nat}(a:k<up.length)(hl:ranks.getD now 0<if up.getD k (-1)<0 then n else ranks.getD (up.getD k (-1)).toNat 0):oD ranks n (up.set k (now:Int))<oD ranks n up:=by unfold oD;rw[List.map_set];have h1:=Mn (l:=up.map λx=>if x<0 then n else ranks.getD x.toNat 0) (k:=k) (x:=ranks.getD now 0) (by simpa using a);rw[bf a]at hl;simp only[aiD]at h1;rw[an (show¬((now:Int)<0)by omega),ahX];omega
end
section
variable{ab:Nat->aV}
section
variable{W:Nat->List Nat}{ap ranks:List Nat}{up:List Int}{n:Nat}{A H:ai}{us:List Th}{d f g h:ah}{L:Kn}
theorem qF{a:List Int}{k:Nat}(z:Int)(b:k<a.length):(a.map aI)[0+k*1]?=some (aI (a.getD k z)):=nV z b
def vi(g h d f:ah)(n:Nat)(ranks:List Nat)(up:List Int):List Th:=[tB cB g [.slice d 0 n n true],tB cB h [.slice f 0 n n true],tS 3 1 (ranks.map aN) n true (.slice d 0 n n true),tS 3 1 (up.map aI) n true (.slice f 0 n n true)]
theorem acy(T:Tb ab)(t:Rk W ap ranks)(r:oB W ap ranks n up)(z:ranks.length=n)(E:n<=1000000)(p:∀b∈ap,b<n)(U:ak A H (vi g h d f n ranks up++us)){a b:Nat}(l:a∈ap)(hb:b∈ap)(j:0<=up.getD a (-1))(k:0<=up.getD b (-1)){K:KT}(o:∀m,vf W ap ranks up a b m->K (aN m) H):YF ab (.func Yl [] [.aD g 0,.aD h 0]) [aN a,aN b] H K:=by
 have B:=r.len;refine YF.code T.aaL aC (af ?_);refine Ru.nm λS M w u=>Ru.bI u (dn (P:=λm=>∀a b,ranks.getD a 0+ranks.getD b 0=m->a∈ap->b∈ap->0<=up.getD a (-1)->0<=up.getD b (-1)->(∀m,vf W ap ranks up a b m->K (aN m) H)->Ru ab _ S ([(p0,aN a),(p1,aN b)]++pk M [p2,p3]) H) (λm v a b q l hb j k o=>?_) _ a b rfl l hb j k o);have C:=p a l;have D:=p b hb;subst w;subst u;refine Ru.loop (af ?_);refine Ru.cond (λi=>?_) (λi=>?_)
 .have i:a≠b:=by simpa using i
  refine af ?_;refine RO.cZ U 2 (hv:=nV 0 aa) (af ?_);refine RO.cZ U 2 (hv:=nV 0 aa) ?_;refine af ?_;refine Ru.cond (λx=>?_) (λx=>?_);·obtain⟨c,h1,h2,h3,y,s⟩:=r.Mm t hb l k (λe=>i e.symm) aa;refine af ?_;refine RO.cZ U 3 (v:=aN c) (hv:=by rw[qF (-1) aa,h1];rfl) ?_;refine af ?_;exact Ru.wk (v _ aa c a rfl h2 l h3 j λm q=>o m (s m q).swap)
  obtain⟨c,h1,h2,h3,y,s⟩:=r.Mm t l hb j i aa;refine af ?_;refine RO.cZ U 3 (v:=aN c) (hv:=by rw[qF (-1) aa,h1];rfl) ?_;refine af ?_;exact Ru.wk (v _ aa c b rfl h2 hb h3 k λm q=>o m (s m q))
 have i:a=b:=by simpa using i
 subst i;refine Ru.exitTo ?_;refine af ?_;exact Ru.aL (o a ⟨l,j,afM _,afM _,λ_ F _=>F,.refl,.refl⟩)
end
end
end Go.al.R
end
