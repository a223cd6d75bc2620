/- A part. No conditions. -/
import Derived.Test.YtjapbgcbkolgmaaGreatDoorA14
set_option linter.all false
set_option maxHeartbeats 16000000
open List renaming replicate->aeN
open Int renaming ofNat->age
open BitVec renaming ofInt->agj
open List.Perm renaming swap->agm,cons->agz
open List.Sublist renaming cons_cons->agL
noncomputable section
namespace Go.al.R
section
variable{ac:Nat->aX}
section
abbrev bK:=Int×Nat
def fY:List bK->List AV
 |[]=>[]
 |o::l=>aI o.1::aU o.2::fY l
theorem Nb:∀{l:List bK}{k:Nat}(h:k<l.length),((fY l).drop (k*2)).take 2=[aI l[k].1,aU l[k].2]|o::l,0,_=>rfl|o::l,k+1,h=>by have:=Nb (l:=l) (k:=k) (by simpa using h);rw[show(k+1)*2=k*2+2 by omega];simpa[fY]using this
theorem Nc:∀(e b:List bK),fY (e++b)=fY e++fY b|[],b=>rfl|o::e,b=>by simp only[agb,fY,Nc e b]
theorem Nd:∀(l:List bK)(b:Nat),(fY l).take (b*2)=fY (l.take b)|[],b=>by simp[fY]|o::l,0=>by simp[fY]|o::l,b+1=>by rw[show(b+1)*2=b*2+2 by omega];simp only[fY,agN,Nd l b]
def OpA:ah->bK->List AV->Prop:=λ_ o cs=>cs=[aI o.1,aU o.2]
abbrev jP(H:ah)(l:List bK)(v:AV):Prop:=Sl H 2 (fY l) l.length v
theorem jP.r{H:ah}{l:List bK}{v:AV}(h:jP H l v):cP 2 OpA H l v:=⟨_,h,λk b=>Nb b⟩
structure sy(g:G.be)(l:List bK):Prop where
 ok:∀o∈l,0<=o.1/\o.1<g.aj.length/\(g.aj.getD o.1.toNat default).aB.go.length=3
def ip(g:G.be)(o:bK):Int:=((g.aj.getD o.1.toNat default).aB.go.getD 2 default).block
structure uu(H:ah)(xq:af)(vb:AV)(os:List (List bK))(svs:List AV):Prop where
 lt:xq.am<H.next.am
 bm:bx H xq 3=some vb
 oJ:∃ov,bx H xq 5=some ov/\Sl H 1 svs os.length ov
 len:svs.length=os.length
 bz:∀b(h:b<os.length),jP H os[b] (svs.getD b .b9)
theorem uu.cq{H e:ah}{a:af}{c:AV}{os:List (List bK)}{d:List AV}(h:uu H a c os d)(g:aZ H e):uu e a c os d:=⟨afT h.lt g.nx,by rw[g.bx h.lt];exact h.bm,by obtain⟨f,h1,h2⟩:=h.oJ;exact⟨f,by rw[g.bx h.lt];exact h1,g.sl h2⟩,h.len,λb hb=>g.sl (h.bz b hb)⟩
theorem RO.AN{m:Cx}{s:List SI}{L:Kn}{B H:ah}{p:Option af}{l:List bA}{b:List AV}{n j kd:Nat}{e:AV}{x y:aL}(hg:aZ B H)(hs:Sl B 1 b n e)(h:∀q o,bx H q o=some (b.getD j .b9)->q.am<H.next.am->RO ac m l s (bq L p (.aE q o)) H)(f:aW L x=e:=by exact cw)(k:aW L y=.int kd (.ofNat j):=by exact cw)(hj:j<n:=by first|assumption|omega):RO ac m (⟨p,.ch 1 x y,none,[],[]⟩::l) s L H:=by have hs:=hg.sl hs;have hl:=hs.length;obtain⟨i,o,cap,ex,rfl,_,hi,hat,_⟩:=hs.at ab;refine RO.ch (h i (o+j*1) ?_ hi) f k hj;rw[agU,bB ab];exact hat j ab
section
variable{g:G.be}{c:AV}{a:af}{A H:ah}{us:List Th}{os:List (List bK)}{d:List AV}
theorem Nf(T:Tb ac)(R:G.Sm g)(hb:cP 7 ji A g.aj c)(v:aZ A H)(k:uu H a c os d){b:Nat}(l:b<os.length)(y:sy g os[b])(C:os[b].length<=1000){K:KT}(i:K (match os[b].getLast? with|some o=>.tuple [aI (ip g o),.bool true]|none=>.tuple [.int 3 (.negSucc 0),.bool false]) H):YN ac W0 [.aE a 0,aN b] H K:=by
 obtain⟨S,D,j⟩:=k.oJ;have hs:=k.bz b l;have⟨E,_,_,F⟩:=j.all;have⟨I,_,_,J⟩:=hs.all;have⟨L,_,_,M⟩:=hb.all;have N:=k.bm;refine YF.code T.ZV aF ?_;refine ai ?_;refine RO.AN (aZ.refl H) j λq o hc _=>?_;refine ai ?_;refine Ru.cond (λ(h:os[b].length=0)=>?_) (λ(h:¬os[b].length=0)=>?_);·have e:os[b]=[]:=afQ h;rw[e]at i;refine ai ?_;exact Ru.mz i
 obtain⟨o,w⟩:∃o,os[b].getLast?=some o:=by cases h2:os[b].getLast? with|none=>rw[List.getLast?_eq_none_iff]at h2;rw[h2]at h;simp at h|some o=>exact⟨o,rfl⟩
 rw[w]at i;have f:os[b][os[b].length - 1]?=some o:=by rw[<-List.getLast?_eq_getElem?];exact w
 obtain⟨V,f⟩:=af3.1 f;obtain⟨h1,h2,h3⟩:=y.ok o (by rw[<-f];exact adq _);obtain⟨t,x⟩:∃t:Nat,o.1=(t:Int):=⟨o.1.toNat,ab⟩;simp only[ip,x,afs]at h3 i;have m:t<g.aj.length:=ab;rw[bB m]at h3 i;refine ai ?_;refine RO.arith (v:=aN (os[b].length - 1)) ?_ (hv:=ou ab ab);refine ai ?_;refine RO.bY (aZ.refl H) (jP.r hs) (λW o1 c1 O n _ hat _=>?_);subst n;rw[f,x]at hat;refine ai ?_;refine RO.bY v hb (λz o2 c2 P p _ hat _=>?_);obtain⟨X,Y,Z,rfl,_,_,va,vk,B,rfl,_,_,s⟩:=p;refine ai ?_;refine RO.bi (i:=z) (o:=o2+2+4) (v:=B) ?_ (hc:=hat 6 _ rfl);refine RO.bY v s (λq3 o3 c3 Q u _ hat _=>?_) (hj:=by omega);obtain⟨v3,rfl,_⟩:=u;refine ai ?_;refine Ru.mz ?_;rw[bB ab]at i;exact i
def cU(g:G.be)(b:Nat)(f:List bK):List (Int×List bK):=
 let j:=(g.aj.getD b default).aB
 if j.op=67 then[((j.go.getD 0 default).block,f++[((b:Int),0)]),((j.go.getD 1 default).block,f++[((b:Int),1)])]
 else if j.op=68 then(match f.getLast? with|some o=>[(ip g o,f.take (f.length - 1))]|none=>[])
 else j.go.map λe=>(e.block,f)
def Hz(W:List (Int×List bK))(b:List bK)(nv:AV)(k:Nat)(args:List AV)(e:List Th):Prop:=
 ∃(h:k<W.length)(v:AV),args=[aI W[k].1,v]/\v.bC=true/\v.dg=true/\v.cells=[v]/\((e=[]/\∀H,jP H b nv->jP H W[k].2 v)\/e=[tS G3 2 (fY W[k].2) W[k].2.length true v])
structure HD(g:G.be)(b:Nat):Prop where
 lt:b<g.aj.length
 tri:(g.aj.getD b default).aB.op=67->(g.aj.getD b default).aB.go.length=3
theorem Ng(T:Tb ac){b:Nat}{K:KT}(i:∀h e f,aq H h [tB 3 f [aN b],tB j6 e [.aE a 0]]->K (.func DN [] [.aE e 0,.aE f 0]) h):YN ac WJ [.aE a 0,aN b] H K:=by refine YF.code T.Zw aF ?_;refine au ?_;refine RO.dp (aq.ct H) λj e U=>?_;refine RO.dp U λk f U=>?_;refine au ?_;exact Ru.aP (i _ e f U)
end
end
section
def AO(v:AV)(n:Nat):AV:=match v with|.slice i o _ _ _=>.slice i o n n true|v=>v
theorem abM(T:Tb ac){B H:ah}{size n:Nat}{e:List AV}{v:AV}(hs:Sl B size e n v):YN ac W1 [v] H λf h=>f=AO v n/\h=H:=by
 have⟨hd,_,_,k⟩:=hs.all;refine YF.code T.ZX aF ?_;refine au ?_;rcases hs with⟨rfl,rfl,rfl⟩|⟨i,o,cap,ex,l,m,p,j,aM,fz,rfl,hg,q,hl,r,hi,b⟩;·refine RO.Cp (m:=0) (b:=0) (a:=0) rfl rfl rfl rfl ?_;refine au ?_;exact Ru.aP ⟨rfl,rfl⟩
 refine RO.L9 (m:=n) (b:=n) (a:=0) (v:=.slice i o n n true) rfl (by show l9 (aN n) cap=_;exact mX b) (by show l9 (aN n) n=_;exact mX (adv n)) rfl aF aF ?_;refine au ?_;exact Ru.aP ⟨rfl,rfl⟩
theorem abN{H:ah}{size n:Nat}{b:List AV}{v:AV}(hs:Sl H size b n v):(AO v n=.aH/\b=[]/\n=0)\/∃i o,AO v n=.slice i o n n true/\Sl H size b n (AO v n):=by
 rcases hs with⟨rfl,rfl,rfl⟩|⟨i,o,cap,ex,h,m,j,e,aM,fz,rfl,hg,k,hl,l,hi,f⟩;·exact .inl ⟨rfl,rfl,rfl⟩
 exact .inr ⟨i,o,rfl,.inr ⟨i,o,n,true,h,m,j,e,aM,fz,rfl,hg,k,hl,l,hi,adv n⟩⟩
section
variable{g:G.be}{d:AV}{a:af}{A H:ah}{us:List Th}{os:List (List bK)}{c:List AV}
theorem Nh(T:Tb ac)(hB:G.Sm g)(hb:cP 7 ji A g.aj d){b:Nat}{now:List bK}{nv:AV}{P I:af}(hE:HD g b)(hO:sy g now)(a8:now.length<=1000):AB ac A (.func DN [] [.aE P 0,.aE I 0]) (cU g b now).length (Hz (cU g b now) now nv) [tB 3 I [aN b],tB j6 P [.aE a 0]] (λH=>∃os c,uu H a d os c/\∃h:b<os.length,os[b]=now/\c.getD b .b9=nv) (λH=>jP H now nv):=by
 intro y J D m us H K dm dr ds W j s U hR f;obtain⟨os,c,Q,X,ay,Y⟩:=hR;subst ay;have hA:=U.gr;obtain⟨ov,a',L⟩:=Q.oJ;have hs:=Q.bz b X;rw[Y]at hs;have⟨ba,_,_,dv⟩:=L.all;have⟨Z,bb,bd,dx⟩:=hs.all;have⟨dy,dz,_,d0⟩:=hb.all;have d1:=Q.bm;have bv:bx H P 0=some (.aE a 0):=by obtain⟨_,p⟩:=U.get 1 rfl;exact tB.cell p rfl
 have b0:bx H I 0=some (aN b):=by obtain⟨_,p⟩:=U.get 0 rfl;exact tB.cell p rfl
 have b3:P.am<H.next.am:=by obtain⟨_,p⟩:=U.get 1 rfl;obtain⟨_,_,_,_,_,h⟩:=p;exact h
 have b4:I.am<H.next.am:=by obtain⟨_,p⟩:=U.get 0 rfl;obtain⟨_,_,_,_,_,h⟩:=p;exact h
 obtain⟨x,E⟩:=hE;rw[bB x]at E;refine YF.code T.ZW aF ?_;refine ai ?_;refine RO.bY hA hb (λq3 o3 c3 d2 ag _ hat hrd=>?_);have c':=ag.one;obtain⟨vp,vs,jc,rfl,_,_,hj⟩:=ag;have d3:=hj.one;obtain⟨va,vk,vg,rfl,d4,d5,t⟩:=hj;have⟨av,_,_,d6⟩:=t.all;refine ai ?_;refine RO.gR ?_ (hc:=Hr (k:=2) (m:=5) hrd bo);refine ai ?_;refine RO.AN (aZ.refl H) L λq4 o4 aw b6=>?_;rw[Y]at aw;refine ai ?_;refine RO.eL (aq.ct H) λH1 q5 hl=>?_;refine RO.MX hl 0 (λH2 hl=>⟨λaa i=>?_,?_⟩);·have hg:=hl.gr;refine iX i rfl rfl Z hs.bN (by rw[hg.bx b6];exact aw) (iX (v:=aN b) i rfl rfl rfl (by simp[gT,fy,eT]) (by rw[hg.bx b4];exact b0) (iX i rfl rfl ba L.bN (by rw[hg.bx Q.lt];exact a') (iX (v:=.aE a 0) i rfl rfl rfl (by simp[gT,fy,af.eS]) (by rw[hg.bx b3];exact bv) rfl)))
 have b7:=hl.gr;have U:=U.eO hl;refine ai ?_;have B:(g.aj.getD b default).aB=(g.aj[b]).aB:=by rw[bB x]
 refine Ru.cond (λ(q:(g.aj[b]).aB.op=67)=>?_) (λ(q:¬(g.aj[b]).aB.op=67)=>?_)
 .have h3:=E q;have b':∀k(h:k<2),∃h':k<(cU g b os[b]).length,(cU g b os[b])[k]=(((g.aj[b]).aB.go[k]'ab).block,os[b]++[((b:Int),k)]):=λk h=>by
   have n:cU g b os[b]=[(((g.aj[b]).aB.go[0]'ab).block,os[b]++[((b:Int),0)]),(((g.aj[b]).aB.go[1]'ab).block,os[b]++[((b:Int),1)])]:=by simp only[cU,B,aJ q];rw[bB ab,bB ab]
   refine⟨by rw[n];simpa using h,?_⟩;simp only[n];match k,h with|0,_=>rfl|1,_=>rfl
  have ca:(cU g b os[b]).length=2:=by simp only[cU,B,aJ q];rfl
  refine ai ?_;refine RO.kr U 1 (λH3 q6 U=>?_);refine ai ?_;refine Ru.nm λS M hS R=>?_;refine Ru.bT R (up (P:=λk=>∀C m,J k m->aq A C (tS 5 1 [aU 0,aU 1] 2 true (.slice q6 0 2 2 true)::tB mE q5 _::([tB 3 I [aN b],tB j6 P [.aE a 0]]++m++us))->Ru ac _ S ([(oD,aN k)]++pk M [p0,p2,p4,p5,ue,qH]) C) 2 (λk hk ih C m s U=>?_) 0 ab _ m s U);subst hS;subst R;refine Ru.loop ?_;refine au ?_;refine Ru.cond (λ(r:k<2)=>?_) (λ(r:¬k<2)=>?_)
  .obtain⟨u,ax⟩:=b' k r;have d7:=W k m _ C s (aq.eG (xs:=[_,_,_,_]) U);refine ai ?_;refine RO.dM U 0 ?_ (v:=aU k) (hv:=by match k,r with|0,_=>rfl|1,_=>rfl);refine ai ?_;refine RO.abw U.gr t (λq8 o8 c8 d' he _ z=>?_) (hj:=by omega);obtain⟨v8,rfl,_⟩:=he;refine ai ?_;refine RO.bi ?_ (hc:=z 0 _ rfl U.gr);refine ai ?_;refine RO.kr U 2 (ws:=[aN b,aU k]) (λH4 q9 U=>?_);refine RO.abu (v:=AO nv os[b].length) (λH0 _ _=>abM T hs) (λHU O cd=>?_);have U:=U.bN cd O;have cf:=W k m _ HU s (aq.eG (xs:=[_,_,_,_,_]) U);have a1:bx HU I 0=some (aN b):=by obtain⟨_,p⟩:=U.get 3 rfl;exact tB.cell p rfl
   have a2:bx HU q5 4=some vg:=by obtain⟨_,p⟩:=U.get 2 rfl;exact tB.cell p rfl
   refine⟨λaa i=>iX (v:=aN b) i rfl rfl rfl (by simp[gT,fy,eT]) a1 (iX (v:=aI ((g.aj[b]).aB.go[k]'ab).block) i rfl rfl rfl (by simp[gT,fy,eT]) (z 0 _ rfl U.gr) (iX i rfl rfl av (t.bN) a2 rfl)),?_⟩;refine RO.abv U (abN cf) (U.sl 0) (λH5 v5 _ U=>?_);have a6:bx H5 q5 4=some vg:=by obtain⟨_,p⟩:=U.get 3 rfl;exact tB.cell p rfl
   refine⟨λaa i=>iX (v:=aI ((g.aj[b]).aB.go[k]'ab).block) i rfl rfl rfl (by simp[gT,fy,eT]) (z 0 _ rfl U.gr) (iX i rfl rfl av (t.bN) a6 rfl),?_⟩;have cn:Sl H5 2 (fY os[b]++[aN b,aU k]) (os[b].length+1) v5:=U.sl 0;have⟨cp,cv,cx,_⟩:=cn.all;have e5:fY (os[b]++[((b:Int),k)])=fY os[b]++[aN b,aU k]:=Nc _ _;have e6:(os[b]++[((b:Int),k)]).length=os[b].length+1:=aF;rw[<-e5,<-e6]at U;refine ai ?_;refine RO.cl ((j k [aI ((g.aj[b]).aB.go[k]'ab).block,v5] [_] m _ _ u ⟨u,v5,by rw[ax],cp,cv,cx,.inr (by rw[ax])⟩ s (U.cJ (agz _ (ur (xs:=[_,_,_,_,_]))))).mono ?_);rintro v H3⟨w,U,hc⟩;rcases hc with⟨rfl,h⟩|⟨rfl,h⟩;·refine ai ?_;exact Ru.wk (ih (k+1) ab ab _ _ h (aq.j5 (xs:=[_,_,_,_,_]) U).tail)
   refine ai ?_;exact Ru.mW (vs:=[]) trivial (f _ w _ (by rw[<-afu]at U;exact U.skip) (.inr h))
  refine Ru.exitTo ?_;refine ai ?_;refine Ru.aB (vs:=[]) trivial (f _ m _ U.tail.tail.tail.tail (.inl ?_));rw[ca,show 2=k by omega];exact s
 refine ai ?_;refine Ru.cond (λ(N:(g.aj[b]).aB.op=68)=>?_) (λ(N:¬(g.aj[b]).aB.op=68)=>?_)
 .have n:cU g b os[b]=match os[b].getLast? with|some o=>[(ip g o,os[b].take (os[b].length - 1))]|none=>[]:=by simp only[cU,B,ap q,aJ N]<;>rfl
  refine ai ?_;refine RO.cl (Nf T hB hb U.gr (Q.cq b7) X hO a8 ?_);cases l:os[b].getLast? with
  |none=>rw[l]at n;simp only at n;rw[n]at f;refine ai ?_;exact Ru.aB (vs:=[]) trivial (f _ _ _ U.tail.tail.tail (.inl s))
  |some o=>
   rw[l]at n;simp only at n;obtain⟨hx,_⟩:0<os[b].length/\True:=⟨by cases hh:os[b]with|nil=>rw[hh]at l;simp at l|cons _ _=>simp,trivial⟩;refine ai ?_;refine RO.arith (v:=aN (os[b].length - 1)) ?_ (hv:=ou ab ab);refine RO.ng hs (b:=os[b].length - 1) ?_;have F:∀V,jP V os[b] nv->jP V (os[b].take (os[b].length - 1)) (ng nv (os[b].length - 1)):=λV h=>by
    have e:(os[b].take (os[b].length - 1)).length=os[b].length - 1:=by rw[afH];omega
    show Sl V 2 (fY _) _ _;rw[e,<-Nd];exact DW h ab
   have⟨cy,cE,cR,_⟩:=(F _ hs).all;rw[n]at j f;refine RO.cl ((j 0 [aI (ip g o),ng nv (os[b].length - 1)] [] m _ _ aF ⟨aF,_,rfl,cy,cE,cR,.inl ⟨rfl,F⟩⟩ s (aq.eG (xs:=[_,_,_]) U)).mono ?_);rintro v H3⟨w,U,hc⟩;refine ai ?_;refine Ru.aB (vs:=[]) trivial (f _ w _ (by rw[<-afu]at U;exact U.skip) ?_);rcases hc with⟨_,h⟩|⟨_,h⟩;·exact .inl h
   exact .inr h
 have n:cU g b os[b]=(g.aj[b]).aB.go.map λe=>(e.block,os[b]):=by simp only[cU,B,ap q,ap N]
 have ea:=hB.bl _ (adq x);refine ai ?_;refine Ru.nm λS M hS R=>?_;refine Ru.bT R (up (P:=λk=>∀C m,J k m->aq A C (tB mE q5 _::([tB 3 I [aN b],tB j6 P [.aE a 0]]++m++us))->Ru ac _ S ([(ww,aN k)]++pk M [p0,p5,tC,wu]) C) (g.aj[b]).aB.go.length (λk hk ih C m s U=>?_) 0 ab _ m s U);subst hS;subst R;refine Ru.loop ?_;refine au ?_;refine Ru.cond (λr=>?_) (λr=>?_)
 .refine au ?_;refine RO.bY U.gr t λq6 o6 c6 eb he _ hat hrd=>?_;have c9:=he.one;obtain⟨v6,rfl,_⟩:=he;refine ai ?_;refine RO.ff U λH5 q7 U=>?_;refine ai ?_;have u:k<(cU g b os[b]).length:=by rw[n,afJ];exact r
  refine RO.cl ((j k [aI ((g.aj[b]).aB.go[k]).block,nv] [] m _ _ u ⟨u,nv,by simp only[n,agw],Z,bb,bd,.inl ⟨rfl,λV h=>by simp only[n,agw];exact h⟩⟩ s (aq.eG (xs:=[_,_,_,_]) U)).mono ?_);rintro v H3⟨w,U,hc⟩;rcases hc with⟨rfl,h⟩|⟨rfl,h⟩;·refine ai ?_;exact Ru.wk (ih (k+1) ab ab _ _ h (aq.j5 (xs:=[_,_,_,_]) U).tail)
  refine ai ?_;exact Ru.mW (vs:=[]) trivial (f _ w _ (by rw[<-afu]at U;exact U.skip) (.inr h))
 refine Ru.exitTo ?_;refine ai ?_;refine Ru.aB (vs:=[]) trivial (f _ m _ U.tail.tail.tail (.inl ?_));rw[n,afJ,show(g.aj[b]).aB.go.length=k by omega];exact s
end
end
theorem abO(x y:Int)(s r:Nat):cQ 64 (.dA [(0,1,false,.int),(1,1,false,.int)]) (.agg [aI x,aU s]) (.agg [aI y,aU r])=some (decide (x=y/\s=r)):=by
 by_cases h1:x=y
 .by_cases h2:s=r;·simp[cQ,cQ.go,mM,eT,h1,h2]
  have e:((s:Int)==(r:Int))=false:=by rw[beq_eq_false_iff_ne];omega
  simp[cQ,cQ.go,mM,eT,h1,h2,e]
 have e:(x==y)=false:=by rw[beq_eq_false_iff_ne];exact h1
 simp[cQ,cQ.go,mM,eT,h1,e]
theorem HG{a:Type}{l:List a}{k:Nat}{d:a}(h:k<l.length):l.getD k d∈l:=by rw[bB h];exact adq h
theorem abP(T:Tb ac){H:ah}{l m:List bK}{v w:AV}(n:jP H l v)(o:jP H m w)(hl:l.length<=1000){K:KT}(a:∀b:Bool,(b=true↔l=m)->K (.bool b) H):YN ac Mj [v,w] H K:=by
 have⟨hd,_,_,z⟩:=n.all;have⟨u,_,_,x⟩:=o.all;refine YF.code T.Zx aF ?_;refine au ?_;refine Ru.cond (λh=>?_) (λh=>?_);·refine au ?_;exact Ru.aP (a false ⟨λh=>(by cases h),λe=>absurd (by rw[e]) h⟩)
 have d:l.length=m.length:=by simpa using h
 refine au ?_;refine Ru.nm λS M s p=>?_;refine Ru.bT p (up (P:=λk=>(∀j(h:j<l.length)(A:j<m.length),j<k->l[j]=m[j])->Ru ac _ S ([(m8,aN k)]++pk M [p0,p1,eK,jy]) H) l.length (λk B t q=>?_) 0 ab (λj _ _ hj=>by omega));subst s;subst p;refine Ru.loop ?_;refine au ?_;refine Ru.cond (λf=>?_) (λf=>?_)
 .refine au ?_;refine RO.bY (aZ.refl H) (jP.r n) λC o1 c1 _ g _ hat hrd=>?_;subst g;refine ai ?_;refine RO.bY (aZ.refl H) (jP.r o) λD o2 c2 y i _ hat hrd=>?_;subst i;refine ai ?_;refine RO.eq ?_ (ht:=abO _ _ _ _);refine ai ?_;have he:(l[k].1=m[k].1/\l[k].2=m[k].2)↔l[k]=m[k]:=⟨λh=>Prod.ext h.1 h.2,λh=>by rw[h];exact⟨rfl,rfl⟩⟩;refine Ru.eE (λh=>?_) (λh=>?_)
  .have h:¬(l[k].1=m[k].1/\l[k].2=m[k].2):=λc=>by rw[decide_eq_true c]at h;simp at h
   refine ai ?_;exact Ru.aP (a false ⟨λh=>(by cases h),λe=>absurd (he.2 (by simp only[e])) h⟩)
  have h:l[k].1=m[k].1/\l[k].2=m[k].2:=afO λc=>by rw[decide_eq_false c]at h;simp at h
  refine ai ?_;exact Ru.wk (t (k+1) ab ab λj h1 h2 hj=>by
   by_cases e:j=k;·subst e;exact he.1 h
   exact q j h1 h2 ab)
 refine Ru.exitTo ?_;refine au ?_;exact Ru.aP (a true ⟨λ_=>List.ext_getElem d λj h1 h2=>q j h1 h2 ab,λ_=>rfl⟩)
inductive fF(g:G.be):Nat->List bK->Prop
 |zero:fF g 0 []
 |step{b:Nat}{o:List bK}{w:Int×List bK}(h:fF g b o)(hw:w∈cU g b o):fF g w.1.toNat w.2
structure fK(g:G.be):Prop where
 DZ:∀{b o o'},fF g b o->fF g b o'->o=o'
 HH:∀{b o},fF g b o->∀w∈cU g b o,0<=w.1/\w.1<g.aj.length
 bm:∀{b o},fF g b o->HD g b
 oJ:∀{b o},fF g b o->sy g o/\o.length<=900
structure pG(g:G.be):Prop where
 ne:0<g.aj.length
 t3:∀b,b<g.aj.length->(g.aj.getD b default).aB.op=67->(g.aj.getD b default).aB.go.length=3
 rg:∀b,b<g.aj.length->∀e∈(g.aj.getD b default).aB.go,1<=e.block/\e.block<g.aj.length
theorem D0{g:G.be}(d:pG g){b:Nat}(hb:b<g.aj.length){o:List bK}(f:sy g o):∀w∈cU g b o,(1<=w.1/\w.1<g.aj.length)/\sy g w.2/\w.2.length<=o.length+1:=by
 intro w a;simp only[cU]at a;split at a
 .rename_i i;have h3:=d.t3 b hb i;have h:sy g (o++[((b:Int),0)])/\sy g (o++[((b:Int),1)]):=by
   constructor<;>refine⟨λx c=>?_⟩<;>rcases ae8.1 c with c|c;·exact f.ok x c
   .rw[abx]at c;subst c;exact⟨aF,by simpa using hb,by simpa using h3⟩
   .exact f.ok x c
   rw[abx]at c;subst c;exact⟨aF,by simpa using hb,by simpa using h3⟩
  have j:=d.rg b hb ((g.aj.getD b default).aB.go.getD 0 default) (HG ab);have k:=d.rg b hb ((g.aj.getD b default).aB.go.getD 1 default) (HG ab);rcases acn.1 a with rfl|a;·exact⟨j,h.1,aF⟩
  rw[abx]at a;subst a;exact⟨k,h.2,aF⟩
 split at a
 .split at a;·rename_i x c;rw[abx]at a;subst a;obtain⟨h1,h2,h3⟩:=f.ok x (List.mem_of_getLast? c);refine⟨d.rg x.1.toNat ab _ (HG ab),⟨λy l=>f.ok y (agQ l)⟩,by simp;omega⟩
  cases a
 obtain⟨e,he,rfl⟩:=afE.1 a;exact⟨d.rg b hb e he,f,aF⟩
theorem fF.ok{g:G.be}(a:pG g){b:Nat}{o:List bK}(h:fF g b o):b<g.aj.length/\sy g o:=by induction h with|zero=>exact⟨a.ne,⟨λx d=>(by cases d)⟩⟩|step _ e c=>obtain⟨⟨h1,h2⟩,h3,_⟩:=D0 a c.1 c.2 _ e;exact⟨ab,h3⟩
theorem fF.nil{g:G.be}(a:pG g){b:Nat}{o:List bK}(h:fF g b o)(hb:b=0):o=[]:=by cases h with|zero=>rfl|step h c=>obtain⟨h3,d⟩:=h.ok a;have:=(D0 a h3 d _ c).1;omega
theorem fF.oG{g:G.be}(a:pG g){b:Nat}{o:List bK}(h:fF g b o):HD g b:=⟨(h.ok a).1,a.t3 b (h.ok a).1⟩
def iL(a:List Bool):Nat:=(a.filter λb=>!b).length
theorem pH{come:List Bool}{k:Nat}(b:k<come.length)(h:come.getD k false=false):iL (come.set k true)+1=iL come:=by unfold iL;induction come generalizing k with|nil=>simp at b|cons a l c=>cases k with|zero=>simp only[List.getD_cons_zero]at h;subst h;simp|succ k=>have:=c (k:=k) (by simpa using b) (by simpa using h);cases a<;>simp<;>omega
structure gN(g:G.be)(n:Nat)(F:List Th)(come:List Bool)(os:List (List bK))(svs:List AV)(todo:List Nat)(now:Option Nat)(wr:Bool):Prop where
 cl:come.length=n
 ol:os.length=n
 sl:svs.length=n
 c0:come.getD 0 false=true
 eh:∀b,come.getD b false=true->fF g b (os.getD b [])
 td:∀b∈todo,come.getD b false=true
 fz:∀b,come.getD b false=true->tR 2 (fY (os.getD b [])) (os.getD b []).length (svs.getD b .b9)∈F
 nz:∀b,b<n->come.getD b false=false->os.getD b []=[]/\svs.getD b .b9=.aH
 iM:∀b,come.getD b false=true->(os.getD b []).length+iL come<n
 dn:∀b,come.getD b false=true->b∈todo\/now=some b\/∀w∈cU g b (os.getD b []),come.getD w.1.toNat false=true/\(wr=false->os.getD w.1.toNat []=w.2)
 df:wr=true->∃b o o',fF g b o/\fF g b o'/\o≠o'
theorem HI{b:Type}{l:List b}{k:Nat}{d v:b}(h:l.getD k d=v)(a:d≠v):k<l.length:=by
 rcases afZ k l.length with h1|h1;·exact h1
 rw[afz,agV h1]at h;exact absurd h a
theorem dG{a:Type}{l:List a}{k j:Nat}{d v:a}(b:k<l.length):(l.set k v).getD j d=if j=k then v else l.getD j d:=by
 simp only[afz,List.getElem?_set];by_cases h:k=j;·subst h;simp[b]
 rw[ap h,ap λe=>h e.symm]
theorem gN.new{g:G.be}{n:Nat}{F:List Th}{a:List Bool}{os:List (List bK)}{c:List AV}{f:List Nat}{l:Option Nat}{wr:Bool}(h:gN g n F a os c f l wr){k:Nat}(N:k<n)(u:a.getD k false=false){o:List bK}(hl:fF g k o)(O:o.length+iL a<n+1){v:AV}{q:List Th}(z:∀t∈F,t∈q)(A:tR 2 (fY o) o.length v∈q):gN g n q (a.set k true) (os.set k o) (c.set k v) (f++[k]) l wr:=by
 obtain⟨h1,h2,h3,B,C,D,E,H,r,I,s⟩:=h;have M:=pH ab u;have d:∀j,(a.set k true).getD j false=if j=k then true else a.getD j false:=λj=>dG ab;have i:∀j,(os.set k o).getD j []=if j=k then o else os.getD j []:=λj=>dG ab;have x:∀j,(c.set k v).getD j .b9=if j=k then v else c.getD j .b9:=λj=>dG ab;have J:∀j,a.getD j false=true->j≠k:=λj hj e=>by rw[e,u]at hj;cases hj
 refine⟨by simpa using h1,by simpa using h2,by simpa using h3,?_,λb hb=>?_,λb hb=>?_,λb hb=>?_,λb hb p=>?_,λb hb=>?_,λb hb=>?_,s⟩
 .rw[d];split;·rfl
  exact B
 .rw[d]at hb;rw[i];split;·rename_i e;rw[e];exact hl
  rename_i e;rw[ap e]at hb;exact C b hb
 .rw[d];rcases ae8.1 hb with hb|hb
  .split;·rfl
   exact D b hb
  rw[abx]at hb;rw[aJ hb]
 .rw[d]at hb;rw[i,x];split;·exact A
  rename_i e;rw[ap e]at hb;exact z _ (E b hb)
 .rw[d]at p;split at p;·cases p
  rename_i e;rw[i,x,ap e,ap e];exact H b hb p
 .rw[d]at hb;rw[i];split;·omega
  rename_i e;rw[ap e]at hb;have:=r b hb;omega
 rw[d]at hb;split at hb;·rename_i e;left;rw[e];simp
 rename_i e;rw[i,ap e];rcases I b hb with h|h|h;·exact .inl (afD _ h)
 .exact .inr (.inl h)
 refine .inr (.inr λw K=>?_);obtain⟨y,L⟩:=h w K;have m:=J _ y;rw[d,i,ap m,ap m];exact⟨y,L⟩
theorem gN.yV{g:G.be}{n:Nat}{F:List Th}{a:List Bool}{os:List (List bK)}{d:List AV}{c:List Nat}{f:Option Nat}{wr:Bool}(h:gN g n F a os d c f wr)(hd:∃b o i,fF g b o/\fF g b i/\o≠i):gN g n F a os d c f true:={h with dn:=λb hb=>(h.dn b hb).imp id (Or.imp id λh w j=>⟨(h w j).1,λe=>(by cases e)⟩),df:=λ_=>hd}
section
theorem abQ{j w:List bK}{nv v:AV}(p:∀H,jP H j nv->jP H w v){H:ah}{G:List af}(E:(tR 2 (fY j) j.length nv).P H G):(tR 2 (fY w) w.length v).P H G:=by
 obtain⟨h1,h2,h3⟩:=E;refine⟨p H h1,λi o J K I C=>?_,h3⟩;apply afO;intro hi;have D:jP (H.set i .none) j nv:=by
  rcases h1 with E|⟨s,u,cap,ex,x,y,z,q,aM,fz,k,r,B⟩;·exact .inl E
  have t:s≠i:=λI=>hi (I▸h2 _ _ _ _ _ k);exact .inr ⟨s,u,cap,ex,x,y,z,q,aM,fz,k,by rw[ah.aC,ap t];exact r,B⟩
 have k:=p _ D;subst C;rcases k with⟨E,_⟩|⟨s,u,cap,ex,x,y,z,q,aM,fz,k,r,B⟩;·cases E
 injection k with k;subst k;rw[ah.aC,aJ rfl]at r;cases r
section
variable{g:G.be}{d f:AV}{c l m h e:af}{n:Nat}{A H:ah}{us F:List Th}{come:List Bool}{os:List (List bK)}{a:List AV}{b:List Nat}{nw:Option Nat}{wr:Bool}
def D1(g:G.be)(d:AV)(c h e:af)(n:Nat)(come:List Bool)(a:List AV)(F:List Th)(wr:Bool):List Th:=[tB V3 c [.str g.i7,aI g.i4,aI g.bc,d,.slice h 0 n n true,.slice e 0 n n true,.bool wr],tS G4 1 a n true (.slice e 0 n n true),tS 4 1 (come.map .bool) n true (.slice h 0 n n true),tZ F]
def oK(g:G.be)(d:AV)(m l c h e:af)(n:Nat)(come:List Bool)(a:List AV)(b:List Nat)(f:AV)(F:List Th)(wr:Bool):List Th:=tB eM m [f]::tU 3 (b.map aN) f::tB j6 l [.aE c 0]::D1 g d c h e n come a F wr
theorem abR(U:aq A H (oK g d m l c h e n come a b f F wr++us))(i:gN g n F come os a b nw wr):uu H c d os a:=by
 have k:bx H c 3=some d:=by obtain⟨_,j⟩:=U.get 3 rfl;exact tB.cell j rfl
 have o:bx H c 5=some (.slice e 0 n n true):=by obtain⟨_,j⟩:=U.get 3 rfl;exact tB.cell j rfl
 have p:c.am<H.next.am:=by obtain⟨_,j⟩:=U.get 3 rfl;obtain⟨_,_,_,_,_,t⟩:=j;exact t
 refine⟨p,k,⟨_,o,by rw[i.ol];exact U.sl 4⟩,by rw[i.sl,i.ol],λs hb=>?_⟩;have q:s<n:=by rw[<-i.ol];exact hb
 have u:os.getD s []=os[s]:=bB hb _;cases r:come.getD s false with|true=>obtain⟨v,t,_⟩:=U.jO 6 rfl (i.fz s r);rw[u]at t;exact t|false=>obtain⟨h1,h2⟩:=i.nz s q r;rw[u]at h1;rw[h1,h2];exact .inl ⟨rfl,rfl,rfl⟩
def HJ(g:G.be)(d:AV)(m l c h e:af)(n:Nat)(o:Nat)(i:List bK)(nv:AV)(p k:Nat)(j:List Th):Prop:=
 ∃come os a b f F wr,j=oK g d m l c h e n come a b f F wr/\gN g n F come os a b (some o) wr/\come.getD o false=true/\os.getD o []=i/\a.getD o .b9=nv/\b.length+iL come=p/\∀w∈(cU g o i).take k,come.getD w.1.toNat false=true/\(wr=false->os.getD w.1.toNat []=w.2)
theorem gN.pop{v:Nat}(u:gN g n F come os a (v::b) none wr):gN g n F come os a b (some v) wr:=by
 obtain⟨h1,h2,h3,o,p,q,r,s,j,t,k⟩:=u;refine⟨h1,h2,h3,o,p,λx i=>q x (aco _ i),r,s,j,λx i=>?_,k⟩;rcases t x i with u|u|u
 .rcases acn.1 u with rfl|u;·exact .inr (.inl rfl)
  exact .inl u
 .cases u
 exact .inr (.inr u)
theorem gN.done{y:Nat}(v:gN g n F come os a b (some y) wr)(k:∀w∈cU g y (os.getD y []),come.getD w.1.toNat false=true/\(wr=false->os.getD w.1.toNat []=w.2)):gN g n F come os a b none wr:=by
 obtain⟨h1,h2,h3,o,p,q,r,s,i,t,j⟩:=v;refine⟨h1,h2,h3,o,p,q,r,s,i,λx u=>?_,j⟩;rcases t x u with v|v|v;·exact .inl v
 .injection v with v;subst v;exact .inr (.inr k)
 exact .inr (.inr v)
theorem gN.HK{F':List Th}(j:gN g n F come os a b nw wr)(i:∀t∈F,t∈F'):gN g n F' come os a b nw wr:={j with fz:=λk hb=>i _ (j.fz k hb)}
theorem abT{D k:Nat}{i:List bK}{nv:AV}{args:List AV}{o:List Th}(q:gN g n F come os a b (some D) wr)(hb:come.getD D false=true)(r:os.getD D []=i)(s:a.getD D .b9=nv)(t:Hz (cU g D i) i nv k args o)(U:aq A H (o++oK g d m l c h e n come a b f F wr++us)):∃(E:k<(cU g D i).length)(v:AV),args=[aI (cU g D i)[k].1,v]/\v.bC=true/\v.dg=true/\v.cells=[v]/\aq A H (oK g d m l c h e n come a b f (tR 2 (fY (cU g D i)[k].2) (cU g D i)[k].2.length v::F) wr++us):=by
 obtain⟨u,v,w,h1,h2,h3,x⟩:=t;refine⟨u,v,w,h1,h2,h3,?_⟩;rcases x with⟨rfl,j⟩|rfl;·have p:=q.fz D hb;rw[r,s]at p;have hl:=(U.fI 6 rfl).abs p (t':=tR 2 (fY (cU g D i)[k].2) (cU g D i)[k].2.length v) λG E=>abQ j E;exact hl.cJ (af6 (l₁:=[_,_,_,_,_,_])).symm
 have y:=U.as 0 rfl λC z=>tS.kR z;have B:aq A H (_::tZ F::([tB eM m [f],tU 3 (b.map aN) f,tB j6 l [.aE c 0],_,_,_]++us)):=y.cJ (agz _ (af6 (l₁:=[_,_,_,_,_,_])));exact B.kw.cJ (af6 (l₁:=[_,_,_,_,_,_])).symm
def Ni:bg:=(.seq (.region [O p6 (.aR (T t8))]) (.region [O p7 (.aR (T ua))]))
def Nj:bg:=(.block 3 (.block 4 (.seq (.region [O m9 (.bi (T p3)),O ub (.nilCheck (T m9)),O uc (.jd 4 (T ub)),O ud (.bi (T uc)),O wx (.aR (T p6)),O wz (.ch 1 (T ud) (T wx)),O wA (.bi (T wz)),O ue (.unary .not (T wA)),O rY (.aR (T ue))]) (.cond (T rY) (.seq (.region [O qH (.bi (T p3)),O oD (.nilCheck (T qH)),O pB (.jd 4 (T oD)),O rZ (.bi (T pB)),O wB (.aR (T p6)),O wC (.bi (T p3)),O wD (.nilCheck (T wC)),O sa (.jd 5 (T wD)),O sc (.bi (T sa)),O qI (.aR (T p6)),O uf (.aR (T p7)),O ug (.ch 1 (T rZ) (T wB)),N (.store 1 (T ug) (C (.bool true))),O wE (.ch 1 (T sc) (T qI)),N (.store 1 (T wE) (T uf))]) (.region [O wF (.bi (T p4)),O wG (.aR (T p6)),O wH (.buildSlice 3 1 [(i 3 0)] [(0,1,(T wG))]),O wI (.append 3 8 1 [(i 3 0)] false (T wF) (T wH)),N (.store 1 (T p4) (T wI))])) (.seq (.region [O uh (.bi (T p3)),O ui (.nilCheck (T uh)),O wK (.jd 5 (T ui)),O wL (.bi (T wK)),O wM (.aR (T p6)),O wN (.ch 1 (T wL) (T wM)),O wO (.bi (T wN)),O wP (.aR (T p7)),O uj (.call (C (.func Mj [] [])) [(T wO),(T wP)]),O uk (.unary .not (T uj)),O wJ (.aR (T uk))]) (.cond (T wJ) (.region [O wQ (.bi (T p3)),O wR (.nilCheck (T wQ)),O wS (.jd 6 (T wR)),N (.store 1 (T wS) (C (.bool true)))]) .skip))))))
theorem abU(T:Tb ac)(hB:G.Sm g)(P:pG g)(aw:n<=900){ca k:Nat}{i:List bK}{nv:AV}{cn:Nat}(ax:n=g.aj.length)(hm:cn<=n){args:List AV}{ws ts:List Th}{cp:af}{o1 o2:bL}{fv:AV}{Dn:bU->List Th->Prop}(hk:k<(cU g ca i).length)(Q:Hz (cU g ca i) i nv k args ws)(hJ:HJ g d m l c h e n ca i nv cn k ts)(U:aq A H (ws++ts++tX cp o1::us)):Ru ac (Hq ac cp o1 o2 Nj (yR A cp o2 us (HJ g d m l c h e n ca i nv cn (k+1)) Dn)) [.code Ni] (uq [t8,ua] args [(tY,fv),(p3,.aE l 0),(p4,.aE m 0)]) H:=by
 obtain⟨come,os,a,b,f,F,wr,rfl,q,z,hn,hv,K,R⟩:=hJ;have ay:=hB.nb;obtain⟨_,v,rfl,a6,a8,a',U⟩:=abT q z hn hv Q U;have r:=q.eh ca z;rw[hn]at r;have L:(cU g ca i)[k]∈cU g ca i:=adq hk;obtain⟨⟨ba,bb⟩,_,bd⟩:=D0 P (r.ok P).1 (r.ok P).2 _ L;have S:=q.iM ca z;rw[hn]at S;have C:=fF.step r L;obtain⟨t,I⟩:∃t:Nat,(cU g ca i)[k].1=(t:Int):=⟨(cU g ca i)[k].1.toNat,ab⟩;have V:t<n:=ab;have W:(cU g ca i).take (k+1)=(cU g ca i).take k++[(cU g ca i)[k]]:=by rw[afK]
 rw[I,afs]at C;generalize X:(cU g ca i)[k].2=s at*;have q:=q.HK (F':=tR 2 (fY s) s.length v::F) λt I=>aco _ I;have M:tR 2 (fY s) s.length v∈tR 2 (fY s) s.length v::F:=abL .. ;generalize tR 2 (fY s) s.length v::F=J at*;have Y:=q.cl;have Z:=q.sl;have D:∀(p:List Bool)(x:List (List bK))(y:Bool),(∀j,come.getD j false=true->p.getD j false=true/\x.getD j []=os.getD j [])->(y=false->wr=false)->p.getD t false=true->(y=false->x.getD t []=s)->∀w∈(cU g ca i).take (k+1),p.getD w.1.toNat false=true/\(y=false->x.getD w.1.toNat []=w.2):=λp x y h1 h2 h3 h4 w B=>by
  rw[W]at B;rcases ae8.1 B with B|B;·obtain⟨a1,a2⟩:=R w B;obtain⟨b1,b2⟩:=h1 _ a1;exact⟨b1,λcd=>by rw[b2];exact a2 (h2 cd)⟩
  rw[abx]at B;subst B;rw[I,afs,X];exact⟨h3,h4⟩
 rw[I];unfold Ni;refine au ?_;refine Ru.dS U λH2 U=>?_;unfold Nj;refine ai ?_;cases o:come.getD t false with
 |false=>
  refine RO.dM U 5 (v:=.bool false) (hv:=by rw[mY false ab,o]) ?_;have bv:=pH (k:=t) ab o;have E:ca≠t:=λcd=>by rw[cd,o]at z;cases z
  refine ai ?_;refine RO.kq U 5 true Y (λH3 U=>?_) (k:=t);refine ai ?_;refine RO.DX U 4 Z (λH4 U=>?_) (k:=t);refine ai ?_;refine RO.abz U 1 (aN t) (λu H5 N U b0 b3 b4=>?_) (hb:=by simp only[afJ];omega) (hn:=by simp only[afJ];omega);refine RO.ez U 0 (λH6 U=>?_);refine ai ?_;refine Ru.bw (ts:=oK g d m l c h e n (come.set t true) (a.set t v) (b++[t]) N J wr) (by simpa[oK,D1]using U) ⟨come.set t true,os.set t s,a.set t v,b++[t],N,J,wr,rfl,q.new V o C ab (λ_ cf=>cf) M,?_,?_,?_,?_,?_⟩;·rw[dG ab,ap E];exact z
  .rw[dG (by rw[q.ol];omega),ap E];exact hn
  .rw[dG ab,ap E];exact hv
  .rw[afq,af2];omega
  refine D _ _ wr (λj hj=>?_) id ?_ (λ_=>?_)
  .have O:j≠t:=λcd=>by rw[cd,o]at hj;cases hj
   rw[dG ab,ap O,dG (by rw[q.ol];omega),ap O];exact⟨hj,rfl⟩
  .rw[dG ab,aJ rfl]
  rw[dG (by rw[q.ol];omega),aJ rfl]
 |true=>
  refine RO.dM U 5 (v:=.bool true) (hv:=by rw[mY false ab,o]) ?_;have ag:=q.eh t o;have av:a[0+t*1]?=some (a.getD t .b9):=by rw[show 0+t*1=t by omega,bB ab];simp
  refine ai ?_;have⟨f8,h8,_⟩:=U.jO 6 rfl (q.fz t o);have⟨f9,h9,_⟩:=U.jO 6 rfl M;have⟨b6,_,_,_⟩:=h8.all;have b':=q.iM t o;refine RO.dM U 4 (hv:=av) ?_;refine ai ?_;refine RO.cl (abP T h8 h9 ab λb7 h7=>?_);cases b7 with|true=>refine ai ?_;exact Ru.bw U ⟨come,os,a,b,f,J,wr,rfl,q,z,hn,hv,K,D _ _ wr (λ_ cf=>⟨cf,rfl⟩) id o λ_=>h7.1 rfl⟩|false=>refine ai ?_;refine RO.ez U 3 (λH3 U=>?_);refine ai ?_;refine Ru.bw (ts:=oK g d m l c h e n come a b f J true) (by simpa[oK,D1]using U) ⟨come,os,a,b,f,J,true,rfl,q.yV ⟨t,_,_,ag,C,λcd=>by have:=h7.2 cd;cases this⟩,z,hn,hv,K,D _ _ true (λ_ cf=>⟨cf,rfl⟩) (λcd=>by cases cd) o λcd=>(by cases cd)⟩
end
end
section
theorem dn{P:Nat->Prop}(b:∀k,(∀j,j<k->P j)->P k)(k:Nat):P k:=Nat.strongRecOn k b
theorem yW:∀n,iL (aeN n false)=n|0=>rfl|n+1=>by have:=yW n;simp only[iL,List.replicate_succ]at*;simp[this]
theorem gN.zero{g:G.be}{n:Nat}(o:0<n)(F:List Th)(m:tR 2 (fY []) 0 .aH∈F):gN g n F ((aeN n false).set 0 true) (aeN n []) (aeN n .aH) [0] none false:=by
 have j:∀b,(aeN n ([]:List bK)).getD b []=[]:=λb=>by simp[afz,agr];split<;>rfl
 have k:∀b,((aeN n false).set 0 true).getD b false=true->b=0:=λb hb=>by
  rw[dG (by simpa using o)]at hb;split at hb;·assumption
  simp[afz,agr]at hb;split at hb<;>cases hb
 refine⟨aF,aF,aF,by rw[dG (by simpa using o),aJ rfl],λb hb=>?_,λb hb=>?_,λb hb=>?_,λb hb _=>⟨j b,?_⟩,λb hb=>?_,λb hb=>?_,λo=>(by cases o)⟩;·rw[k b hb,j];exact .zero
 .rw[abx]at hb;subst hb;rw[dG (by simpa using o),aJ rfl]
 .rw[k b hb,j,bB (by simpa using o)];simpa using m
 .rw[bB (by simpa using hb)];simp
 .have l:=pH (come:=aeN n false) (k:=0) (by simpa using o) (by rw[bB (by simpa using o)];simp);rw[yW]at l;rw[j];simp only[List.length_nil];omega
 rw[k b hb];exact .inl (abx.2 rfl)
section
variable{g:G.be}{a f:AV}{c h i d e:af}{A H:ah}{us F:List Th}
theorem abV(T:Tb ac)(O:G.Sm g)(L:pG g)(R:g.aj.length<=900){cs:List AV}(hg:gu H g cs){K:KT}(hK:∀x c d e come os o a F us wr,cP 7 ji H g.aj a->gN g g.aj.length F come os o [] none wr->aq H x (D1 g a c d e g.aj.length come o F wr++us)->K (.aE c 0) x):YN ac Mh [.agg cs] H K:=by
 have ay:=hg.one;obtain⟨a,rfl,bW⟩:=hg;have⟨hd,_,_,N⟩:=bW.all;have a2:=O.nb;have t:=L.ne;refine YF.code T.Zg aF ?_;refine au ?_;refine RO.dp (aq.ct H) λH1 q U=>?_;have U:=(U.qE G3 2).as 0 rfl λfp hp=>tS.kR hp;have U:=U.pE.cJ (agm ..);have U:=U.kw;refine ai ?_;refine RO.dj U 1 ?_;refine ai ?_;refine RO.ls U (n:=g.aj.length) (λH2 d U=>?_) (hz:=by rw[io];simp);refine au ?_;refine RO.abt U 2 0 (λH3 U=>?_);refine ai ?_;refine RO.ls U (n:=g.aj.length) (λH4 e U=>?_) (hz:=by rw[io];simp);have er:eo [AV.bool false] g.aj.length=(aeN g.aj.length false).map .bool:=by rw[io,ag7]
 rw[er,io]at U;refine au ?_;refine RO.dp U (λH5 c U=>?_) (v:=.agg [.str g.i7,aI g.i4,aI g.bc,a,.slice d 0 g.aj.length g.aj.length true,.slice e 0 g.aj.length g.aj.length true,.bool false]);refine ai ?_;refine RO.ff U λH6 h U=>?_;refine ai ?_;refine RO.kq U 3 true (agx ..) (λH7 U=>?_) (k:=0) (ho:=by rw[agx];exact t);refine ai ?_;refine RO.kr U 1 (λH8 qt U=>?_) (n:=1) (ws:=[aN 0]);refine RO.ff U λH9 i U=>?_;have U:=U.toU 1 rfl;refine ai ?_;refine Ru.nm λS M hS hM=>?_;refine Ru.bT hM (dn (P:=λm=>∀P C come os o n f F wr,n.length+iL come=m->m<=g.aj.length->gN g g.aj.length F come os o n none wr->aq H P (oK g a i h c d e g.aj.length come o n f F wr++(fJ C++[tB eg q [.str g.i7,aI g.i4,aI g.bc,a]]))->Ru ac ⟨mV [.tmp p2] K,C,none⟩ S ([]++pk M [p3,p4]) P) (λm ih P C come os o n f F wr V Q s U=>?_) _ H9 [] _ _ _ [0] _ _ false rfl ?_ (gN.zero t _ (abL ..)) U);rotate_left;·have:=pH (come:=aeN g.aj.length false) (k:=0) (by simpa using t) (by rw[bB (by simpa using t)];simp);rw[yW]at this;simp only[af2];omega
 subst hS;subst hM;refine Ru.loop ?_;have⟨a6,_,_,a8⟩:=(U.MY (e:=3) (vs:=n.map aN) (sv:=f) 1).all;refine ai ?_;refine Ru.cond (λy=>?_) (λy=>?_)
 .obtain⟨b,p,rfl⟩:∃b p,n=b::p:=by cases n with|nil=>simp at y|cons b r=>exact⟨b,r,rfl⟩
  simp only[afB]at V;have u:come.getD b false=true:=s.td b (abL ..);have w:=s.eh b u;have W:=HI u aF;have s:=s.pop;refine ai ?_;refine RO.AN (aZ.refl _) (U.MY 1) (λq5 o5 X _=>?_) (j:=0) (hj:=by simp);refine RO.bi ?_ (hc:=X);refine ai ?_;refine RO.aby U 1 (v:=aN b) (vs:=p.map aN) (λE U h1 h2 h3=>?_);refine RO.ez U 0 (λa' U=>?_);refine ai ?_;refine RO.cl (Ng T λY q1 q2 hl=>?_);have U:aq H Y ([tB 3 q2 [aN b],tB j6 q1 [.aE c 0]]++oK g a i h c d e g.aj.length come o p E F wr++(fJ C++[tB eg q [.str g.i7,aI g.i4,aI g.bc,a]])):=U.eO hl;refine ai ?_;refine Ru.wk (L:=[(tY,.func DN [] [.aE q1 0,.aE q2 0]),(p3,.aE h 0),(p4,.aE i 0)]) ?_;refine Ru.so (J:=HJ g a i h c d e g.aj.length b (os.getD b []) (o.getD b .b9) (p.length+iL come)) (Dn:=λ_ _=>False) U (Nh T O bW (b:=b) (now:=os.getD b []) (nv:=o.getD b .b9) (w.oG L) (w.ok L).2 (by have:=s.iM b u;omega)) (λH2 hg=>⟨os,o,(abR U.tail.tail s).cq hg,by rw[s.ol,<-s.cl];exact W,(bB _ _).symm,rfl⟩) ⟨come,os,o,p,E,F,wr,rfl,s,u,rfl,rfl,rfl,aF⟩ (λk args ws ba=>by obtain⟨_,v,rfl,_⟩:=ba;rfl) (λk ts us H D U=>?_) (λk args ws ts us l o1 o2 H hk Z D U=>abU T O L R rfl ab hk Z D U) (λx ag dm D U=>?_) (λj x ag dm _ ba=>ba.elim);·obtain⟨come,os,o,n,f,F,wr,rfl,s,hc,N,hv,_⟩:=D;have Q:=s.fz b hc;rw[N,hv]at Q;obtain⟨bb,ba,_⟩:=U.jO 6 rfl Q;exact ba
  obtain⟨z,av,J,B,aw,F',ax,rfl,s,hc,N,hv,a1,I⟩:=D;rw[agT]at I;have s:=s.done (by rw[N];exact I);refine ai ?_;exact Ru.wk (ih _ ab x (dm::C) z av J B aw F' ax rfl ab s U)
 have ht:n=[]:=by cases n with|nil=>rfl|cons b r=>simp at y
 subst ht;refine Ru.exitTo ?_;refine ai ?_;refine Ru.kS (M:=C) (ts:=oK g a i h c d e g.aj.length come o [] f F wr++[tB eg q [.str g.i7,aI g.i4,aI g.bc,a]]) (U.cJ ?_) λx U=>⟨[.aE c 0],?_,hK x c d e come os o a F [tB eg q [.str g.i7,aI g.i4,aI g.bc,a]] wr bW s U.tail.tail.tail⟩;·rw[<-afu,<-afu];exact afV.append_right _
 exact⟨rfl,rfl,trivial⟩
end
end
section
structure GX(g:G.be)(H:ah)(xq:af)(vb cv:AV)(come:List Bool)(os:List (List bK))(svs:List AV):Prop where
 iZ:uu H xq vb os svs
 bl:cP 7 ji H g.aj vb
 c0:bx H xq 0=some (.str g.i7)
 c1:bx H xq 1=some (aI g.i4)
 c2:bx H xq 2=some (aI g.bc)
 c4:bx H xq 4=some cv
 c6:bx H xq 6=some (.bool false)
 cm:Sl H 1 (come.map .bool) come.length cv
theorem GX.cq{g:G.be}{H b:ah}{a:af}{d e:AV}{come:List Bool}{os:List (List bK)}{c:List AV}(h:GX g H a d e come os c)(hg:aZ H b):GX g b a d e come os c:=by have hl:=h.iZ.lt;obtain⟨h1,h2,h3,f,i,j,k,l⟩:=h;exact⟨h1.cq hg,cY.block.lx hg h2,by rw[hg.bx hl];exact h3,by rw[hg.bx hl];exact f,by rw[hg.bx hl];exact i,by rw[hg.bx hl];exact j,by rw[hg.bx hl];exact k,hg.sl l⟩
structure dw(g:G.be)(come:List Bool)(os:List (List bK)):Prop where
 cl:come.length=g.aj.length
 ol:os.length=g.aj.length
 c0:come.getD 0 false=true
 eh:∀b,come.getD b false=true->fF g b (os.getD b [])
 dn:∀b,come.getD b false=true->∀w∈cU g b (os.getD b []),come.getD w.1.toNat false=true
theorem gN.HL{g:G.be}{n:Nat}{F:List Th}{come:List Bool}{os:List (List bK)}{c:List AV}(h:gN g n F come os c [] none false)(f:pG g){b:Nat}{o:List bK}(hl:fF g b o):come.getD b false=true/\os.getD b []=o:=by
 induction hl with
 |zero=>exact⟨h.c0,(h.eh 0 h.c0).nil f rfl⟩
 | @step b o w _ i j=>
  obtain⟨h1,h2⟩:=j;rcases h.dn b h1 with h3|h3|h3;·cases h3
  .cases h3
  obtain⟨k,l⟩:=h3 w (by rw[h2];exact i);exact⟨k,l rfl⟩
theorem gN.abW{g:G.be}{F:List Th}{come:List Bool}{os:List (List bK)}{c:List AV}(h:gN g g.aj.length F come os c [] none false)(b:pG g)(k:g.aj.length<=900):fK g:=⟨λh1 h2=>(h.HL b h1).2.symm.trans (h.HL b h2).2,λh1 w f=>(by have:=(D0 b (h1.ok b).1 (h1.ok b).2 w f).1;omega),λh1=>h1.oG b,λh1=>⟨(h1.ok b).2,by obtain⟨i,j⟩:=h.HL b h1;have:=h.iM _ i;rw[j]at this;omega⟩⟩
theorem abX(T:Tb ac){g:G.be}{H:ah}(t:G.Sm g)(q:pG g)(l:g.aj.length<=900){cs:List AV}(hg:gu H g cs){K:KT}(u:∀i a d e come os c,aZ H i->fK g->GX g i a d e come os c->dw g come os->K (.aE a 0) i)(x:∀i a,aZ H i->a.am<i.next.am->bx i a 6=some (.bool true)->(∃b o r,fF g b o/\fF g b r/\o≠r)->K (.aE a 0) i):YN ac Mh [.agg cs] H K:=by
 refine abV T t q l hg λi a s y come os c d F us wr bW j U=>?_;have k:∀(o:Nat)(v:AV),([.str g.i7,aI g.i4,aI g.bc,d,.slice s 0 g.aj.length g.aj.length true,.slice y 0 g.aj.length g.aj.length true,.bool wr]:List AV)[o]?=some v->bx i a o=some v:=λo v h=>by obtain⟨_,p⟩:=U.get 0 rfl;exact tB.cell p h
 have m:a.am<i.next.am:=by obtain⟨_,p⟩:=U.get 0 rfl;obtain⟨_,_,_,_,_,h⟩:=p;exact h
 cases wr with
 |true=>exact x i a U.gr m (k 6 _ rfl) (j.df rfl)
 |false=>
  have n:=j.ol;refine u i a d (.slice s 0 g.aj.length g.aj.length true) come os c U.gr (j.abW q l) ⟨⟨m,k 3 _ rfl,⟨_,k 5 _ rfl,by rw[n];exact U.sl 1⟩,by rw[j.sl,n],λb hb=>?_⟩,cY.block.lx U.gr bW,k 0 _ rfl,k 1 _ rfl,k 2 _ rfl,k 4 _ rfl,k 6 _ rfl,by rw[j.cl];exact U.sl 2⟩ ⟨j.cl,n,j.c0,j.eh,λb hb=>?_⟩;·have A:os.getD b []=os[b]:=bB hb _;cases k:come.getD b false with|true=>obtain⟨f,h,_⟩:=U.jO 3 rfl (j.fz b k);rw[A]at h;exact h|false=>obtain⟨h1,h2⟩:=j.nz b (by rw[<-n];exact hb) k;rw[A]at h1;rw[h1,h2];exact .inl ⟨rfl,rfl,rfl⟩
  rcases j.dn b hb with h|h|h;·cases h
  .cases h
  exact λw z=>(h w z).1
section
variable{g:G.be}{d e:AV}{a:af}{H:ah}{come:List Bool}{os:List (List bK)}{c:List AV}
def ky(g:G.be)(b:Nat)(f:List bK):List Nat:=(cU g b f).map λw=>w.1.toNat
theorem D2{b:Nat}{now:List bK}(f:G.Sm g)(hb:b<g.aj.length):(cU g b now).length<=12:=by
 have:=(f.bl _ (adq hb)).2.2.2.2.1;simp only[cU,bB hb];split;·simp
 split;·split<;>simp
 simp;omega
theorem HM(T:Tb ac)(F:G.Sm g)(n:fK g)(q:GX g H a d e come os c)(r:dw g come os){b:Nat}(hb:come.getD b false=true){K:KT}(h:∀i v,aq H i [tS 3 1 ((ky g b (os.getD b [])).map aN) (ky g b (os.getD b [])).length true v]->K v i):YN ac WC [.aE a 0,aN b] H K:=by
 have f:=r.eh b hb;have x:=HI hb aF;have m:b<os.length:=by rw[r.ol,<-r.cl];exact x
 have y:∀w∈cU g b (os.getD b []),aI w.1=aN w.1.toNat:=λw M=>by obtain⟨h0,_⟩:=n.HH f w M;obtain⟨t,N⟩:∃t:Nat,w.1=(t:Int):=⟨w.1.toNat,ab⟩;rw[N];rfl
 have z:jP H (os.getD b []) (c.getD b .b9):=by rw[bB m];exact q.iZ.bz b m
 have V:(cU g b (os.getD b [])).length<=100000:=by have:=D2 (now:=os.getD b []) F (n.bm f).lt;omega
 refine YF.code T.Zp aF ?_;refine au ?_;refine RO.eL (aq.ct H) λW s U=>?_;refine au ?_;refine RO.cl (Ng T λu I J hl=>?_);have U:aq H u ([tB 3 J [aN b],tB j6 I [.aE a 0]]++[tS 3 1 [] 0 true .aH,tB eM s [.aH]]++[]):=(U.qE 3 1).eO hl;refine au ?_;refine Ru.wk (L:=[(p8,.func DN [] [.aE I 0,.aE J 0]),(p4,.aE s 0)]) ?_;refine Ru.so (J:=λk ts=>∃v,v.bC=true/\v.dg=true/\v.cells=[v]/\ts=[tS 3 1 (((ky g b (os.getD b [])).take k).map aN) k true v,tB eM s [v]]) (Dn:=λ_ _=>False) U (Nh T F q.bl (b:=b) (now:=os.getD b []) (nv:=c.getD b .b9) (n.bm f) (n.oJ f).1 (by have:=(n.oJ f).2;omega)) (λu hg=>⟨os,c,q.iZ.cq (U.gr.trans hg),m,(bB m _).symm,rfl⟩) ⟨_,rfl,rfl,rfl,rfl⟩ (λk args ws h=>by obtain⟨_,v,rfl,_⟩:=h;rfl) (λk ts us i p U=>U.gr.sl z) (λk args ws ts us l o1 o2 i X A p U=>?_) (λi B L p U=>?_) (λj i B L _ h=>h.elim)
 .obtain⟨v,hd,h1,O,rfl⟩:=p;obtain⟨o,w,rfl,_⟩:=A;have U:=U.sub ((List.sublist_append_right _ _).append_right _);have P:=y _ (adq o);rw[P];refine au ?_;refine Ru.dS U λu U=>?_;refine ai ?_;refine RO.push U 0 (λw i Q U=>?_) (ws:=[aN (cU g b (os.getD b []))[k].1.toNat]);have⟨C,D,E,_⟩:=(U.sl 0 rfl).all;refine RO.ez U 1 (λR U=>?_);refine ai ?_;refine Ru.bw (ts:=[_,_]) U ⟨Q,C,D,E,?_⟩;have Y:(ky g b (os.getD b [])).take (k+1)=(ky g b (os.getD b [])).take k++[(cU g b (os.getD b []))[k].1.toNat]:=by rw[List.take_succ];congr 1;rw[ky,af0,agi o];rfl
  rw[Y,afS];rfl
 obtain⟨v,hd,h1,O,rfl⟩:=p;have S:(cU g b (os.getD b [])).length=(ky g b (os.getD b [])).length:=by rw[ky,afJ]
 rw[S,agT]at U;refine ai ?_;refine RO.ez U 1 (λR U=>?_);refine ai ?_;refine Ru.kS (M:=[L]) (ts:=[_,_]) (U.cJ (af6 (l₁:=[_,_]))) λi U=>⟨[v],⟨⟨_,_,rfl,U.one 1⟩,trivial⟩,h i v (U.sub (List.Sublist.cons₂ _ (List.nil_sublist _)))⟩
end
end
end
section
structure i6(W:Nat->List Nat)(P:Nat->Prop)(been been':List Bool)(new:List Nat):Prop where
 len:been'.length=been.length
 bn:∀x,been'.getD x false=true↔been.getD x false=true\/x∈new
 nd:new.Nodup
 fr:∀x∈new,been.getD x false=false
 cl:∀x∈new,∀w∈W x,been'.getD w false=true
 sg:∀b8 x post,new=b8++x::post->P x\/∃y∈post,x∈W y
variable{W:Nat->List Nat}{P Q:Nat->Prop}{a b c:List Bool}{d n2:List Nat}{k:Nat}
theorem i6.nil:i6 W P a a []:=⟨rfl,λx=>by simp,ag9,λ_ h=>by simp at h,λ_ h=>by simp at h,λb8 x e h=>by cases b8<;>cases h⟩
theorem i6.mono(h:i6 W P a b d)(g:∀x,P x->Q x):i6 W Q a b d:=⟨h.len,h.bn,h.nd,h.fr,h.cl,λb8 x f e=>(h.sg b8 x f e).imp_left (g x)⟩
theorem i6.mZ(h:i6 W P a b d)(h2:i6 W P b c n2):i6 W P a c (d++n2):=by
 refine⟨h2.len.trans h.len,λx=>?_,afY.2 ⟨h.nd,h2.nd,λx f y j e=>?_⟩,λx f=>?_,λx f w m=>?_,λb8 x g e=>?_⟩;·rw[h2.bn,h.bn,ae8,or_assoc]
 .subst e;have h3:=h2.fr x j;rw[(h.bn x).2 (.inr f)]at h3;cases h3
 .rcases ae8.1 f with f|f;·exact h.fr x f
  have h3:=h2.fr x f;cases n:a.getD x false with|false=>rfl|true=>rw[(h.bn x).2 (.inl n)]at h3;cases h3
 .rcases ae8.1 f with f|f;·exact(h2.bn w).2 (.inl (h.cl x f w m))
  exact h2.cl x f w m
 rcases List.append_eq_append_iff.1 e with⟨l,rfl,i⟩|⟨l,rfl,i⟩;·exact h2.sg l x g i
 cases l with
 |nil=>exact h2.sg [] x g (by simpa using i.symm)
 |cons y l=>
  simp only[agb,afM]at i;obtain⟨rfl,rfl⟩:=i;rcases h.sg b8 x l rfl with h3|⟨y,j,h3⟩;·exact .inl h3
  exact .inr ⟨y,afD _ j,h3⟩
theorem i6.aB(hb:a.getD k false=false)(o:k<a.length)(h:i6 W (·∈W k) (a.set k true) c d)(p:∀w∈W k,c.getD w false=true):i6 W (·=k) a c (d++[k]):=by
 have e:∀x,(a.set k true).getD x false=true↔x=k\/a.getD x false=true:=λx=>by
  rw[dG o];by_cases h:x=k;·simp[h]
  simp[h]
 have m:k∉d:=λq=>by have:=h.fr k q;rw[(e k).2 (.inl rfl)]at this;cases this
 refine⟨by rw[h.len];simp,λx=>?_,afY.2 ⟨h.nd,aF,λx f y j e=>?_⟩,λx f=>?_,λx f w i=>?_,λb8 x n e=>?_⟩
 .rw[h.bn,e,ae8,abx];constructor
  .rintro((h|h)|h);·exact .inr (.inr h)
   .exact .inl h
   exact .inr (.inl h)
  rintro(h|h|h);·exact .inl (.inr h)
  .exact .inr h
  exact .inl (.inl h)
 .rw[abx]at j;exact m (by rw[<-j,<-e];exact f)
 .rcases ae8.1 f with f|f;·have h3:=h.fr x f;cases r:a.getD x false with|false=>rfl|true=>rw[(e x).2 (.inr r)]at h3;cases h3
  rw[abx]at f;subst f;exact hb
 .rcases ae8.1 f with f|f;·exact h.cl x f w i
  rw[abx]at f;subst f;exact p w i
 rcases List.append_eq_append_iff.1 e with⟨l,rfl,g⟩|⟨l,rfl,g⟩;·cases l with|nil=>simp only[agq,afM]at g;exact .inl g.1.symm|cons y l=>simp at g
 cases l with
 |nil=>simp only[agq,afM]at g;exact .inl g.1
 |cons y l=>
  simp only[agb,afM]at g;obtain⟨rfl,rfl⟩:=g;rcases h.sg b8 x l rfl with h3|⟨y,j,h3⟩;·exact .inr ⟨k,aF,h3⟩
  exact .inr ⟨y,afD _ j,h3⟩
theorem i6.iL(h:i6 W P a b d)(j:∀x∈d,x<a.length):d.length+iL b=iL a:=by
 have h1:=h.len;have h2:=h.bn;have h3:=h.nd;have m:=h.fr;clear h;induction d generalizing a with
 |nil=>
  have:b=a:=by apply List.ext_getElem h1;intro i hi hj;have:=h2 i;simp only[afy,or_false]at this;rw[bB hi,bB hj]at this;cases n:b[i]<;>cases o:a[i]<;>simp[n,o]at this⊢
  subst this;simp
 |cons x l p=>
  have g:=j x (abL ..);have q:=m x (abL ..);have hs:=pH g q;have r:∀y,b.getD y false=true↔(a.set x true).getD y false=true\/y∈l:=λy=>by
   rw[h2,dG g,acn];by_cases h:y=x;·simp[h]
   simp[h]
  have s:∀y∈l,(a.set x true).getD y false=false:=λy f=>by rw[dG g,ap λe=>(agf.1 h3).1 (by rw[<-e];exact f)];exact m y (aco _ f)
  have t:=p (a:=a.set x true) (λy f=>by simpa using j y (aco _ f)) (by simpa using h1) r (agf.1 h3).2 s;simp only[afB];omega
inductive ki(W:Nat->List Nat):List Nat->List Bool->List Bool->List Nat->Prop
 |nil{a:List Bool}:ki W [] a a []
 |skip{b:Nat}{l:List Nat}{a c:List Bool}{n:List Nat}(h:a.getD b false=true)(r:ki W l a c n):ki W (b::l) a c n
 |go{b:Nat}{l:List Nat}{a a1 c:List Bool}{n1 n2:List Nat}(h:a.getD b false=false)(r1:ki W (W b) (a.set b true) a1 n1)(r2:ki W l a1 c n2):ki W (b::l) a c (n1++b::n2)
theorem ki.mZ{l e:List Nat}(h:ki W l a b d)(h2:ki W e b c n2):ki W (l++e) a c (d++n2):=by induction h with|nil=>exact h2|skip h _ g=>exact .skip h (g h2)|go h i _ _ f=>have:=ki.go (l:=_++e) h i (f h2);simpa only[afu,agb]using this
theorem ki.one(h:a.getD k false=false)(r:ki W (W k) (a.set k true) c d):ki W [k] a c (d++[k]):=.go h r .nil
end
section
variable{ac:Nat->aX}
section
section
variable{g:G.be}{h i:AV}{d q1 a b c f:af}{H:ah}{come:List Bool}{os:List (List bK)}{j:List AV}
def wW(g:G.be)(os:List (List bK))(e:Nat):List Nat:=ky g e (os.getD e [])
theorem dw.lC(m:dw g come os){l w:Nat}(hb:come.getD l false=true)(e:w∈wW g os l):come.getD w false=true:=by simp only[wW,ky,afE]at e;obtain⟨x,k,rfl⟩:=e;exact m.dn l hb x k
theorem dw.lt(k:dw g come os){e:Nat}(hb:come.getD e false=true):e<g.aj.length:=by rw[<-k.cl];exact HI hb aF
def Nk(q1 a b c:af):AV:=.func WB [] [.aE a 0,.aE q1 0,.aE c 0,.aE b 0]
def yX(d q1 a b c f:af)(n:Nat)(e:List Bool)(da:List Nat)(k:AV):List Th:=[tS 3 1 (da.map aN) da.length true k,tB V4 c [Nk q1 a b c],tB eM b [k],tB rU a [.slice f 0 n n true],tB j6 q1 [.aE d 0],tS 4 1 (e.map .bool) n true (.slice f 0 n n true)]
theorem abY(T:Tb ac)(Q:G.Sm g)(hE:fK g)(hX:GX g H d h i come os j)(E:dw g come os):∀(m bb:Nat)(l:List Bool)(da:List Nat)(C:AV)(D:ah)(us:List Th)(K:KT),iL l<=m->come.getD bb false=true->l.length=g.aj.length->da.length+iL l<=g.aj.length->aq H D (yX d q1 a b c f g.aj.length l da C++us)->(∀H2 s new R ws,ki (wW g os) [bb] l s new->i6 (wW g os) (·=bb) l s new->s.getD bb false=true->(∀x∈new,come.getD x false=true)->aq H H2 (yX d q1 a b c f g.aj.length s (da++new) R++(ws++us))->K (fL []) H2)->YF ac (Nk q1 a b c) [aN bb] D K:=by
 intro m;induction m with
 |zero=>intro bb l da C D us K hm hb hl ho U bd;have I:=E.lt hb;refine YF.code T.Mw aF ?_;refine ai ?_;cases p:l.getD bb false with|true=>refine RO.dM U 5 (v:=.bool true) (hv:=by rw[mY false ab,p]) ?_;refine ai ?_;refine Ru.mW (vs:=[]) trivial (bd D l [] C [] (.skip p .nil) i6.nil p (λ_ bd=>by simp at bd) (by rw[agk];exact U))|false=>have:=pH (k:=bb) ab p;omega
 |succ m ih=>
  intro bb l da C D us K hm hb hl ho U bd;have ax:=Q.nb;have I:=E.lt hb;refine YF.code T.Mw aF ?_;refine ai ?_;cases p:l.getD bb false with
  |true=>refine RO.dM U 5 (v:=.bool true) (hv:=by rw[mY false ab,p]) ?_;refine ai ?_;refine Ru.mW (vs:=[]) trivial (bd D l [] C [] (.skip p .nil) i6.nil p (λ_ bd=>by simp at bd) (by rw[agk];exact U))
  |false=>
   have ay:=pH (k:=bb) ab p;have aw:(wW g os bb).length<=12:=by have:=D2 (now:=os.getD bb []) Q I;simpa[wW,ky]using this
   refine RO.dM U 5 (v:=.bool false) (hv:=by rw[mY false ab,p]) ?_;refine ai ?_;refine RO.kq U 5 true hl (λH3 U=>?_) (k:=bb);refine ai ?_;refine RO.cl (HM T Q hE (hX.cq U.gr) E hb λH4 v J=>?_);have U:=U.eO J;change aq H H4 ([tS 3 1 ((wW g os bb).map aN) (wW g os bb).length true v]++(yX d q1 a b c f g.aj.length (l.set bb true) da C++us))at U;have U:=aq.eG (xs:=[_]) (by rw[afu];exact U);have⟨a1,_,_,a2⟩:=(J.sl (e:=3) (size:=1) (sv:=v) (vs:=(wW g os bb).map aN) (n:=(wW g os bb).length) (full:=true) 0).all;refine ai ?_;refine Ru.nm λS M hS hM=>?_;refine Ru.bT hM (up (P:=λk=>∀F n new z ws,ki (wW g os) ((wW g os bb).take k) (l.set bb true) n new->i6 (wW g os) (·∈wW g os bb) (l.set bb true) n new->(∀x∈new,come.getD x false=true)->(∀w∈(wW g os bb).take k,n.getD w false=true)->aq H F (yX d q1 a b c f g.aj.length n (da++new) z++(tS 3 1 ((wW g os bb).map aN) (wW g os bb).length true v::(ws++us)))->Ru ac _ S ([(Ah,aN k)]++pk M [p0,p3,p4,iK,jA]) F) (wW g os bb).length (λk hk V F n new z ws A P hc hw U=>?_) 0 ab _ _ [] _ [] .nil i6.nil (λ_ bd=>by simp at bd) (λ_ bd=>by simp at bd) (by rw[agk];exact U));have a6:=P.iL λx t=>by rw[agC,hl];exact E.lt (hc x t)
   have W:n.length=g.aj.length:=by rw[P.len,agC,hl]
   subst hS;subst hM;refine Ru.loop ?_;refine au ?_;refine Ru.cond (λX=>?_) (λX=>?_)
   .refine ai ?_;refine RO.fO (aZ.refl F) (U.sl (e:=3) (size:=1) (sv:=v) (vs:=(wW g os bb).map aN) (n:=(wW g os bb).length) (full:=true) 6) (λq o hj Y=>?_);refine RO.bi ?_ (hc:=Y);refine ai ?_;refine RO.cl (ih ((wW g os bb)[k]) n (da++new) z F _ _ ab (E.lC hb (adq hj)) W (by rw[afq];omega) U λH5 u y Z B O L ag av U=>?_);refine ai ?_;have g1:∀x∈new++y,come.getD x false=true:=λx t=>by
     rcases ae8.1 t with t|t;·exact hc x t
     exact av x t
    have g2:∀w∈(wW g os bb).take (k+1),u.getD w false=true:=λw r=>by
     rw[List.take_succ,agi hj]at r;rcases ae8.1 r with r|r;·exact(L.bn w).2 (.inl (hw w r))
     simp at r;rw[r];exact ag
    have U:=U.cJ (List.Perm.append_left _ (af6 (l₁:=B)));rw[afu da,<-afu B]at U;exact Ru.wk (V (k+1) ab ab H5 u (new++y) Z (B++ws) (by rw[(afK hj).symm];exact A.mZ O) (P.mZ (L.mono λx bd=>by rw[bd];exact adq hj)) g1 g2 U)
   refine Ru.exitTo ?_;refine ai ?_;refine RO.push U 0 (λw H6 v2 U=>?_) (ws:=[aN bb]) (hb:=by rw[afq];omega) (hn:=by rw[afq];omega);have⟨a8,a',ba,_⟩:=(U.sl (e:=3) (size:=1) (n:=(da++new).length+1) (full:=true) (sv:=v2) 0).all;refine RO.ez U 2 (λH7 U=>?_);refine ai ?_;have N:=i6.aB p ab P (λw r=>hw w (by rw[afF ab];exact r));refine Ru.aB (vs:=[]) trivial (bd H7 n (new++[bb]) v2 (tS 3 1 ((wW g os bb).map aN) (wW g os bb).length true v::ws) (.one p (by rw[afF ab]at A;exact A)) N ((N.bn bb).2 (.inr aF)) (λx t=>?_) ?_)
   .rcases ae8.1 t with t|t;·exact hc x t
    rw[abx]at t;rw[t];exact hb
   have e:((da++(new++[bb])).map aN)=(da++new).map aN++[aN bb]:=aF;have e2:(da++(new++[bb])).length=(da++new).length+1:=by simp;omega
   simp only[yX,e,e2];exact U
end
end
section
theorem abZ{l:List Nat}{i j x f b:Nat}(hi:i<l.length)(hj:j<l.length):((l.set i f).set j b).getD x 0=if x=j then b else if x=i then f else l.getD x 0:=by rw[dG (by simpa using hj),dG hi]
theorem ab0(T:Tb ac){A H:ah}{us:List Th}{l:List Nat}{n cap:Nat}{q:af}{ex:Bool}(o:l.length=n)(h0:0<n)(z:n<1000000)(U:aq A H (tS 3 1 (l.map aN) n true (.slice q 0 n cap ex)::us)){K:KT}(s:∀p,aq A p (tS 3 1 (l.reverse.map aN) n true (.slice q 0 n cap ex)::us)->K (fL []) p):YN ac WD [.slice q 0 n cap ex] H K:=by
 refine YF.code T.Zq aF ?_;refine au ?_;refine RO.arith (v:=aN (n - 1)) ?_ (hv:=ou (k:=n) ab ab);refine au ?_;refine Ru.nm λS M t r=>?_;refine Ru.bT r (up (P:=λk=>∀i b,b.length=n->(∀x,x<n->b.getD x 0=if x<k\/n<=x+k then l.getD (n - 1 - x) 0 else l.getD x 0)->aq A i (tS 3 1 (b.map aN) n true (.slice q 0 n cap ex)::us)->Ru ac _ S ([(p2,aN k),(p3,aN (n - 1 - k))]++pk M [p0]) i) (n - 1) (λk B u i b f h U=>?_) 0 ab _ l o (λx h=>by rw[ap ab]) U);subst t;subst r;refine Ru.loop ?_;refine au ?_;refine Ru.cond (λj=>?_) (λj=>?_)
 .refine ai ?_;refine RO.dM U 0 (hv:=mY 0 ab) ?_;refine ai ?_;refine RO.dM U 0 (hv:=mY 0 ab) ?_;refine ai ?_;refine RO.kq (f:=aN) U 0 (b.getD (n - 1 - k) 0) f (λC U=>?_) (k:=k);refine ai ?_;refine RO.kq (f:=aN) (zs:=b.set k (b.getD (n - 1 - k) 0)) (n:=n) U 0 (b.getD k 0) (by rw[agC];exact f) (λv U=>?_) (k:=n - 1 - k) (ho:=by rw[agC];omega);refine ai ?_;refine RO.arith (v:=aN (n - 1 - (k+1))) ?_ (hv:=by rw[show n - 1 - (k+1)=n - 1 - k - 1 by omega];exact ou (k:=n - 1 - k) ab ab);refine au ?_;have w:∀x,x<n->((b.set k (b.getD (n - 1 - k) 0)).set (n - 1 - k) (b.getD k 0)).getD x 0=if x<k+1\/n<=x+(k+1)then l.getD (n - 1 - x) 0 else l.getD x 0:=λx m=>by
   rw[abZ ab ab];by_cases h1:x=n - 1 - k;·rw[aJ h1,aJ ab,h k ab,ap ab,h1];congr 1;omega
   rw[ap h1];by_cases h2:x=k;·rw[aJ h2,aJ ab,h _ ab,ap ab,h2]
   rw[ap h2,h x m];by_cases h3:x<k\/n<=x+k;·rw[aJ h3,aJ ab]
   rw[ap h3,ap ab]
  have y:((b.set k (b.getD (n - 1 - k) 0)).set (n - 1 - k) (b.getD k 0)).length=n:=by simpa using f
  exact Ru.wk (u (k+1) ab ab v _ y w U)
 refine Ru.exitTo ?_;refine au ?_;have D:b=l.reverse:=by
  apply List.ext_getElem (by simp[f,o]);intro x h1 h2;have h3:=h x ab;rw[bB h1]at h3;rw[h3,List.getElem_reverse];split;·rw[bB ab];congr 1;omega
  rw[bB ab];congr 1;omega
 subst D;exact Ru.aB (vs:=[]) trivial (s _ U)
section
variable{g:G.be}{c d:AV}{a:af}{H:ah}{come:List Bool}{os:List (List bK)}{e:List AV}
structure nu(g:G.be)(come:List Bool)(os:List (List bK))(aA:List Nat):Prop where
 nd:aA.Nodup
 mem:∀b,b∈aA↔come.getD b false=true
 hd:∃rest,aA=0::rest
 aM:∀b8 x post,aA=b8++x::post->x=0\/∃y∈b8,x∈wW g os y
 sr:∃been,ki (wW g os) [0] (aeN g.aj.length false) been aA.reverse
theorem i6.aA(q:fK g)(m:dw g come os){f:List Bool}{new:List Nat}(r:ki (wW g os) [0] (aeN g.aj.length false) f new)(h:i6 (wW g os) (·=0) (aeN g.aj.length false) f new)(h0:f.getD 0 false=true)(n:∀x∈new,come.getD x false=true):nu g come os new.reverse:=by
 have j:∀x,f.getD x false=true↔x∈new:=λx=>by
  rw[h.bn];constructor
  .rintro(h|h);·simp[afz,agr]at h;split at h<;>cases h
   exact h
  exact .inr
 have hl:∀b o,fF g b o->b∈new:=λb o hl=>by induction hl with|zero=>exact(j 0).1 h0| @step b o w hb s p=>have u:=q.DZ hb (m.eh b (n b p));refine(j _).1 (h.cl b p _ ?_);simp only[wW,ky,<-u];exact afI s
 refine⟨List.pairwise_reverse.2 (h.nd.imp λh=>h.symm),λb=>?_,?_,λb8 x i u=>?_,f,by rw[List.reverse_reverse];exact r⟩;·rw[ag3];exact⟨n b,λhb=>hl b _ (m.eh b hb)⟩
 .have h1:=(j 0).1 h0;rcases List.eq_nil_or_concat new with rfl|⟨l,x,rfl⟩;·simp at h1
  rcases h.sg l x [] aF with h2|⟨y,k,_⟩;·exact⟨l.reverse,by simp[h2]⟩
  simp at k
 have t:new=i.reverse++x::b8.reverse:=by have:=congrArg List.reverse u;simpa using this
 rcases h.sg _ _ _ t with h2|⟨y,k,h2⟩;·exact .inl h2
 exact .inr ⟨y,ag3.1 k,h2⟩
theorem Nl(T:Tb ac)(n:G.Sm g)(o:fK g)(f:GX g H a c d come os e)(b:dw g come os){K:KT}(h:∀p v aA,nu g come os aA->aq H p [tS 3 1 (aA.map aN) aA.length true v]->K v p):YN ac Ws [.aE a 0] H K:=by
 have F:=n.nb;have I:=b.lt b.c0;have⟨hd,_,_,J⟩:=f.bl.all;have i:=f.iZ.bm;have j:=f.iZ.lt;refine YF.code T.Zd aF ?_;refine au ?_;refine RO.dp (aq.ct H) λL w U=>?_;refine ai ?_;refine RO.bi ?_ (hc:=by rw[U.gr.bx j];exact i);refine ai ?_;refine RO.ls U (n:=g.aj.length) (λM y U=>?_) (hz:=by rw[io];simp);have er:eo [AV.bool false] g.aj.length=(aeN g.aj.length false).map .bool:=by rw[io,ag7]
 rw[er]at U;refine RO.ff U λN z U=>?_;refine ai ?_;refine RO.eL U λO A U=>?_;refine ai ?_;refine RO.eL U λP B U=>?_;refine ai ?_;refine RO.ez U 0 (λC U=>?_);refine ai ?_;have U:=(U.qE 3 1);have U:aq H C (yX a w z A B y g.aj.length (aeN g.aj.length false) [] .aH++[]):=U.cJ (List.Perm.append_left [_,_,_,_] (agm ..));refine RO.cl (abY T n o f b _ 0 _ [] _ _ [] _ (adv _) b.c0 aF (by rw[yW];simp) U λQ u new R S k s hb hc U=>?_);have t:=s.aA o b k hb hc;have l:0<new.length:=by obtain⟨r,D⟩:=t.hd;have:=congrArg List.length D;simp at this;omega
 rw[agq]at U;obtain⟨q,cap,ex,rfl⟩:=U.rQ 0 rfl ab;have m:=s.iL λx E=>by rw[agx];exact b.lt (hc x E)
 rw[yW]at m;refine ai ?_;refine RO.cl (ab0 T rfl l ab U λV U=>?_);refine ai ?_;have W:new.reverse.length=new.length:=aF;rw[<-W]at U;rw[<-W];exact Ru.aP (h _ _ _ t (U.sub (agL _ (List.nil_sublist _))))
end
end
theorem Nn{n:Nat}(h:n<18446744073709551616):(ck 7).wrap (.ofNat n)=.ofNat n:=by show IntKind.wrap (ck 7) _=_;have a:(ck 7).bits=64:=rfl;have b:(ck 7).signed=false:=rfl;unfold IntKind.wrap;simp only[a,b,Bool.false_and,abe,bD];have c:(2:Int)^64=18446744073709551616:=bo;rw[c,afm];omega
theorem c7{n:Nat}(h:n<18446744073709551616):fG 7 (.ofNat n)=.ofNat n:=TY (Nn h)
theorem m7{a b c:Nat}(h:a*b=c)(d:c<18446744073709551616):eR .mul 7 (.ofNat a) (.ofNat b)=some (.int 7 (.ofNat c)):=by show some (AV.int 7 (fG 7 (.ofNat (a*b))))=_;rw[h,c7 d]
theorem a7{a b c:Nat}(h:a+b=c)(d:c<18446744073709551616):eR .add 7 (.ofNat a) (.ofNat b)=some (.int 7 (.ofNat c)):=by show some (AV.int 7 (fG 7 (.ofNat (a+b))))=_;rw[h,c7 d]
theorem n7{a:Nat}(h:a<4294967296):eR .and 7 (.ofNat a) (.ofNat 4294967295)=some (.int 7 (.ofNat a)):=by
 have e:(agj (ck 7).bits (.ofNat a)&&&agj (ck 7).bits (.ofNat 4294967295)).toNat=a:=by
  show(agj 64 (.ofNat a)&&&agj 64 (.ofNat 4294967295)).toNat=a;rw[BitVec.toNat_and];have b:(agj 64 (age a)).toNat=a:=by show(agj 64 ((a:Nat):Int)).toNat=a;rw[BitVec.ofInt_natCast,BitVec.toNat_ofNat];omega
  rw[b,show(agj 64 (age 4294967295)).toNat=2^32 - 1 from rfl,Nat.and_two_pow_sub_one_eq_mod];omega
 simp only[eR,e,kD];exact congrArg (λx=>some (AV.int 7 x)) (Nn ab)
theorem s7{a:Nat}(h:a<4294967296):Bg .shr (.int 7 (.ofNat a)) (.int 7 (.ofNat 32))=some (.int 7 (.ofNat 0)):=by
 show some (AV.int 7 ((age a).fdiv (2^32)))=_;have:(age a).fdiv (2^32)=0:=by rw[Int.fdiv_eq_ediv_of_nonneg _ bo];exact Int.ediv_eq_zero_of_lt aF (by simp;omega)
 rw[this];rfl
theorem RO.shift{c:Cx}{s:List SI}{L:Kn}{H:ah}{d:Option af}{l:List bA}{op:BinOp}{x y:aL}{a b v:AV}(h:RO ac c l s (bq L d v) H)(f:aW L x=a:=by exact cw)(g:aW L y=b:=by exact cw)(i:a.bC=true:=by rfl)(hb:b.bC=true:=by rfl)(hv:Bg op a b=some v):RO ac c (⟨d,.shift op x y,none,[],[]⟩::l) s L H:=RO.op (λaa e=>by simp only[aD,e.gv f i,e.gv g hb,hv];rfl) h
theorem ab1(T:Tb ac){H:ah}{n:Nat}(b:n<4294967296){K:KT}(a:K (.tuple [.int 7 (.ofNat 0),.int 7 (.ofNat n)]) H):YN ac W3 [.int 7 (.ofNat 1),.int 7 (.ofNat n)] H K:=by refine YF.code T.Z1 aF ?_;refine au ?_;refine RO.arith ?_ (hv:=n7 (a:=1) ab);refine au ?_;refine RO.shift ?_ (hv:=s7 (a:=1) ab);refine au ?_;refine RO.arith ?_ (hv:=n7 (a:=n) ab);refine au ?_;refine RO.shift ?_ (hv:=s7 (a:=n) ab);refine au ?_;refine RO.arith ?_ (hv:=m7 (a:=1) (b:=n) (c:=n) ab ab);refine au ?_;refine RO.arith ?_ (hv:=m7 (a:=0) (b:=n) (c:=0) ab ab);refine au ?_;refine RO.shift ?_ (hv:=s7 (a:=n) ab);refine au ?_;refine RO.arith ?_ (hv:=a7 (a:=0) (b:=0) (c:=0) ab ab);refine au ?_;refine RO.arith ?_ (hv:=n7 (a:=0) ab);refine au ?_;refine RO.shift ?_ (hv:=s7 (a:=0) ab);refine au ?_;refine RO.arith ?_ (hv:=m7 (a:=1) (b:=0) (c:=0) ab ab);refine au ?_;refine RO.arith ?_ (hv:=a7 (a:=0) (b:=0) (c:=0) ab ab);refine au ?_;refine RO.arith ?_ (hv:=m7 (a:=0) (b:=0) (c:=0) ab ab);refine au ?_;refine RO.arith ?_ (hv:=a7 (a:=0) (b:=0) (c:=0) ab ab);refine au ?_;refine RO.shift ?_ (hv:=s7 (a:=0) ab);refine au ?_;refine RO.arith ?_ (hv:=a7 (a:=0) (b:=0) (c:=0) ab ab);refine au ?_;refine RO.arith ?_ (hv:=m7 (a:=1) (b:=n) (c:=n) ab ab);refine au ?_;exact Ru.mz a
theorem No(T:Tb ac){H:ah}{n:Nat}(a:n<4294967296){K:KT}(b:K (.tuple [.int 7 (.ofNat 0),.int 7 (.ofNat n)]) H):YN ac WT [.int 7 (.ofNat 1),.int 7 (.ofNat n)] H K:=by refine YF.code T.ZJ aF ?_;refine au ?_;refine RO.cl (ab1 T a ?_);refine au ?_;exact Ru.mz b
end
end Go.al.R
namespace Go.al
section
variable{ac:Nat->aX}{c:Cx}{s:List SI}{L:Kn}{A H:ah}{d:Option af}{l:List bA}{ts:List Th}{q:af}{e n m k o i cap cp size:Nat}{u z yv:AV}{full ex ex':Bool}
def jQ(u z:AV)(size k n:Nat):List AV:=aeN (k*size) u++aeN ((n - k)*size) z
theorem HN(h:k<=n):(jQ u z size k n).length=n*size:=by simp only[jQ,afq,agx,<-ag8];congr 1;omega
theorem Np(h:k<=n){j:Nat}(hj:j<n*size):(jQ u z size k n)[j]?=some (if j<k*size then u else z):=by
 rw[jQ,List.getElem?_append];simp only[agx];split;·rw[agr,aJ (by assumption)]
 have:(n - k)*size=n*size - k*size:=Nat.sub_mul .. ;rw[agr,aJ ab]
theorem Nq:jQ u z size n n=aeN (n*size) u:=by simp[jQ]
theorem RO.D3(U:aq A H ts)(i:Nat){x y:aL}(hi:ts[i]?=some (tS e size (jQ u z size k n) n full (.slice q 0 n cap ex)))(g:k<=n)(hu:u.dg=true)(hs:Sl H size (aeN (m*size) u) m yv)(w:min m (n - k)≠0)(B:o=k*size)(h:∀f,aq A f (ts.set i (tS e size (jQ u z size (k+min m (n - k)) n) n full (.slice q 0 n cap ex)))->RO ac c l s (bq L d (.int 3 (.ofNat (min m (n - k))))) f)(C:aW L x=.slice q o (n - k) cp ex':=by exact cw)(D:aW L y=yv:=by exact cw):RO ac c (⟨d,.copy size x y,none,[],[]⟩::l) s L H:=by
 obtain⟨G,v,_,p⟩:=U.iJ i hi;have b:n<=cap:=by
  rcases v with⟨_,_,_,h⟩|⟨I,J,aM,cap,ex',rfl,h2,_,K,_⟩;·cases h
  injection h2 with _ _ _ h2;omega
 have a:k+min m (n - k)<=n:=ab;have r:(aeN (m*size) u).take (min m (n - k)*size)=aeN (min m (n - k)*size) u:=by rw[List.take_replicate,<-Nat.mul_min_mul_right];congr 1;have:=afN size (Nat.min_le_left m (n - k));omega
 have E:cL (aeN (min m (n - k)*size) u)=true:=by generalize min m (n - k)*size=t;induction t with|zero=>rfl|succ t F=>rw[List.replicate_succ];exact ao hu F
 have M:(k+min m (n - k))*size=k*size+min m (n - k)*size:=ag8 .. ;have N:(k+min m (n - k))*size<=n*size:=afN _ a;have O:n*size<=cap*size:=afN _ b;obtain⟨f,h1,h2,h3⟩:=cM.rP v (o:=o) (ws:=aeN (min m (n - k)*size) u) (us:=jQ u z size (k+min m (n - k)) n) (by rw[agx];omega) E (by rw[HN g,HN a]) λj hj=>by
  rw[HN g]at hj;rw[Np a hj,Np g hj,agx,B];by_cases h1:k*size<=j/\j<k*size+min m (n - k)*size;·rw[aJ h1,agr,aJ ab,aJ ab]
  rw[ap h1];by_cases h2:j<k*size;·rw[aJ h2,aJ ab]
  rw[ap h2,ap ab]
 exact RO.copy C D hs.bC hs.gh w (by rw[r];exact h1) (h f (p h2 h3))
end
end Go.al
namespace Go.al.R
section
variable{ac:Nat->aX}
theorem ab2(T:Tb ac){H:ah}{n:Nat}{u xv:AV}(hu:u.dg=true)(hs:Sl H 1 (aeN (1*1) u) 1 xv)(r:n<=1000000){K:KT}(e:∀f q,aq H f [tS 3 1 (aeN (n*1) u) n true (.slice q 0 n n true)]->K (.slice q 0 n n true) f):YN ac Wz [xv,aN n] H K:=by
 have⟨hd,_,_,p⟩:=hs.all;refine YF.code T.Zn aF ?_;refine au ?_;refine RO.jT ?_;refine au ?_;refine RO.jT ?_;refine RO.cl (No T (n:=n) ab ?_) (ha:=by show[AV.int 7 (fG 7 (.ofNat 1)),AV.int 7 (fG 7 (.ofNat n))]=_;rw[c7 ab,c7 ab]);refine ai ?_;refine Ru.cond (λ(h:9223372036854775807<n)=>by omega) (λ_=>?_);refine ai ?_;refine RO.jT ?_;rw[mA (n:=.ofNat n) (by rw[afm];omega) (by rw[afm];omega)];refine RO.ls (aq.ct H) (n:=n) (λs q U=>?_) (hz:=by rw[io];simp);have b:eo [.int 3 (.ofNat 0)] n=jQ u (.int 3 (.ofNat 0)) 1 0 n:=by rw[io];simp[jQ]
 rw[b]at U;refine au ?_;rcases agX n with rfl|i;·refine RO.LY (xv:=.slice q 0 0 0 true) rfl rfl hd (U.gr.sl hs).gh ⟨0,rfl,aF⟩ ?_;refine au ?_;refine Ru.loop ?_;refine au ?_;refine Ru.exitTo ?_;refine au ?_;exact Ru.aP (e _ q U)
 refine RO.D3 U 0 rfl (Nat.zero_le n) hu (m:=1) (U.gr.sl hs) ab (o:=0) ab (λj U=>?_);rw[show min 1 (n - 0)=1 by omega,afC]at*;refine au ?_;refine Ru.nm λS M l g=>?_;refine Ru.bT g (up (P:=λk=>1<=k->∀c,aq H c [tS 3 1 (jQ u (.int 3 (.ofNat 0)) 1 k n) n true (.slice q 0 n n true)]->Ru ac _ S ([(p8,aN k)]++pk M [p7]) c) n (λk t m h1 c U=>?_) 1 ab (adv _) _ U);subst l;subst g;refine Ru.loop ?_;refine au ?_;refine Ru.cond (λd=>?_) (λd=>?_)
 .refine au ?_;refine RO.gD (m:=n) (b:=n) (a:=k) rfl rfl rfl (by show l9 (aN k) n=_;exact mX ab) rfl ?_;refine au ?_;refine RO.ng (U.sl 0 rfl) (b:=k) ?_;have o:(jQ u (.int 3 (.ofNat 0)) 1 k n).take (k*1)=aeN (k*1) u:=by rw[jQ,List.take_append_of_le_length aF,afF aF]
  have a:=DW (U.sl 0 rfl) (b:=k) ab;rw[o]at a;refine RO.D3 U 0 rfl ab hu a ab (o:=if true&&decide (n=k)then 0 else 0+k*1) (by rw[ap (by simp;omega)];omega) (λj U=>?_);refine RO.add ?_ (a:=.ofNat k) (b:=.ofNat (min k (n - k))) (h1:=by simp;omega) (h2:=by simp;omega);refine au ?_;exact Ru.wk (m (k+min k (n - k)) ab ab ab _ U)
 refine Ru.exitTo ?_;refine au ?_;have:k=n:=ab;subst this;rw[Nq]at U;exact Ru.aP (e _ q U)
theorem HO(z:AV):∀n,eo [z,z] n=aeN (n*2) z|0=>rfl|n+1=>by rw[show(n+1)*2=n*2+1+1 by omega,List.replicate_succ,List.replicate_succ,<-HO z n];rfl
theorem ab3(T:Tb ac){H:ah}{n:Nat}{u xv:AV}(hu:u.dg=true)(hs:Sl H 2 (aeN (1*2) u) 1 xv)(r:n<=1000000){K:KT}(e:∀f q,aq H f [tS oC 2 (aeN (n*2) u) n true (.slice q 0 n n true)]->K (.slice q 0 n n true) f):YN ac Xa [xv,aN n] H K:=by
 have⟨hd,_,_,p⟩:=hs.all;refine YF.code T.aac aF ?_;refine au ?_;refine RO.jT ?_;refine au ?_;refine RO.jT ?_;refine RO.cl (No T (n:=n) ab ?_) (ha:=by show[AV.int 7 (fG 7 (.ofNat 1)),AV.int 7 (fG 7 (.ofNat n))]=_;rw[c7 ab,c7 ab]);refine ai ?_;refine Ru.cond (λ(h:9223372036854775807<n)=>by omega) (λ_=>?_);refine ai ?_;refine RO.jT ?_;rw[mA (n:=.ofNat n) (by rw[afm];omega) (by rw[afm];omega)];refine RO.ls (aq.ct H) (n:=n) (λs q U=>?_) (hz:=by rw[HO];simp);have b:eo [.int 3 (.ofNat 0),.int 3 (.ofNat 0)] n=jQ u (.int 3 (.ofNat 0)) 2 0 n:=by rw[HO];simp[jQ]
 rw[b]at U;refine au ?_;rcases agX n with rfl|i;·refine RO.LY (xv:=.slice q 0 0 0 true) rfl rfl hd (U.gr.sl hs).gh ⟨0,rfl,aF⟩ ?_;refine au ?_;refine Ru.loop ?_;refine au ?_;refine Ru.exitTo ?_;refine au ?_;exact Ru.aP (e _ q U)
 refine RO.D3 U 0 rfl (Nat.zero_le n) hu (m:=1) (U.gr.sl hs) ab (o:=0) ab (λj U=>?_);rw[show min 1 (n - 0)=1 by omega,afC]at*;refine au ?_;refine Ru.nm λS M l g=>?_;refine Ru.bT g (up (P:=λk=>1<=k->∀c,aq H c [tS oC 2 (jQ u (.int 3 (.ofNat 0)) 2 k n) n true (.slice q 0 n n true)]->Ru ac _ S ([(p8,aN k)]++pk M [p7]) c) n (λk t m h1 c U=>?_) 1 ab (adv _) _ U);subst l;subst g;refine Ru.loop ?_;refine au ?_;refine Ru.cond (λd=>?_) (λd=>?_)
 .refine au ?_;refine RO.gD (m:=n) (b:=n) (a:=k) rfl rfl rfl (by show l9 (aN k) n=_;exact mX ab) rfl ?_;refine au ?_;refine RO.ng (U.sl 0 rfl) (b:=k) ?_;have o:(jQ u (.int 3 (.ofNat 0)) 2 k n).take (k*2)=aeN (k*2) u:=by rw[jQ,List.take_append_of_le_length aF,afF aF]
  have a:=DW (U.sl 0 rfl) (b:=k) ab;rw[o]at a;refine RO.D3 U 0 rfl ab hu a ab (o:=if true&&decide (n=k)then 0 else 0+k*2) (by rw[ap (by simp;omega)];omega) (λj U=>?_);refine RO.add ?_ (a:=.ofNat k) (b:=.ofNat (min k (n - k))) (h1:=by simp;omega) (h2:=by simp;omega);refine au ?_;exact Ru.wk (m (k+min k (n - k)) ab ab ab _ U)
 refine Ru.exitTo ?_;refine au ?_;have:k=n:=ab;subst this;rw[Nq]at U;exact Ru.aP (e _ q U)
end
section
inductive iF(W:Nat->List Nat)(d:Nat):Nat->Prop
 |zero(h:0≠d):iF W d 0
 |step{a x:Nat}(h:iF W d a)(hx:x∈W a)(hn:x≠d):iF W d x
def dX(W:Nat->List Nat)(d b:Nat):Prop:=¬iF W d b
theorem dX.b8{W:Nat->List Nat}{d a b:Nat}(h:dX W d b)(c:b∈W a)(f:d≠b):dX W d a:=λg=>h (.step g c λe=>f e.symm)
theorem dX.zero{W:Nat->List Nat}{d:Nat}(h:dX W d 0):d=0:=afO λa=>h (.zero λe=>a e.symm)
structure Rk(W:Nat->List Nat)(aA ranks:List Nat):Prop where
 nd:aA.Nodup
 hd:∃rest,aA=0::rest
 aM:∀b8 x post,aA=b8++x::post->x=0\/∃y∈b8,x∈W y
 rk:∀i(h:i<aA.length),ranks.getD aA[i] 0=i
variable{W:Nat->List Nat}{aA ranks:List Nat}{up:List Int}
theorem Rk.inj(h:Rk W aA ranks){a b:Nat}(c:a∈aA)(hb:b∈aA)(e:ranks.getD a 0=ranks.getD b 0):a=b:=by obtain⟨i,hi,rfl⟩:=afr c;obtain⟨j,hj,rfl⟩:=afr hb;rw[h.rk i hi,h.rk j hj]at e;subst e;rfl
theorem Rk.at(h:Rk W aA ranks){a:Nat}(b:a∈aA):∃hl:ranks.getD a 0<aA.length,aA[ranks.getD a 0]=a:=by obtain⟨i,hi,rfl⟩:=afr b;have e:=h.rk i hi;generalize ranks.getD aA[i] 0=j at*;subst e;exact⟨hi,rfl⟩
theorem Rk.b8(h:Rk W aA ranks){b:Nat}(hb:b∈aA)(h0:b≠0):∃y∈aA,b∈W y/\ranks.getD y 0<ranks.getD b 0:=by
 obtain⟨hl,e⟩:=h.at hb;have c:aA=aA.take (ranks.getD b 0)++b::aA.drop (ranks.getD b 0+1):=by conv=>lhs;rw[<-agy (ranks.getD b 0) aA,afv hl,e]
 rcases h.aM _ _ _ c with h1|⟨y,a,d⟩;·exact absurd h1 h0
 refine⟨y,agQ a,d,?_⟩;obtain⟨i,hi,rfl⟩:=afr a;rw[afH]at hi;rw[List.getElem_take,h.rk i ab];omega
theorem Rk.zero(h:Rk W aA ranks):0∈aA/\ranks.getD 0 0=0:=by obtain⟨r,a⟩:=h.hd;have:=h.rk 0 (by rw[a];simp);simp only[a,List.getElem_cons_zero]at this;exact⟨by rw[a];simp,this⟩
theorem Rk.dO(h:Rk W aA ranks){d:Nat}:∀(n b:Nat),ranks.getD b 0=n->b∈aA->dX W d b->ranks.getD d 0<=n:=λn=>by
 induction n using Nat.strongRecOn with
 |ind n c=>
  intro b i hb hd;by_cases a:d=b;·subst a;omega
  by_cases h0:b=0;·subst h0;exact absurd hd.zero a
  obtain⟨y,e,f,g⟩:=h.b8 hb h0;have:=c _ ab y rfl e (hd.b8 f a);omega
structure ny(W:Nat->List Nat)(aA ranks:List Nat)(n:Nat)(up:List Int):Prop where
 len:up.length=n
 u0:up.getD 0 (-1)=0
 rg:∀b, -1<=up.getD b (-1)
 ok:∀b,b≠0->0<=up.getD b (-1)->b∈aA/\∃a:Nat,up.getD b (-1)=a/\a∈aA/\ranks.getD a 0<ranks.getD b 0/\0<=up.getD a (-1)/\∀d,dX W d b->d≠b->dX W d a
inductive ev(up:List Int)(m:Nat):Nat->Prop
 |refl:ev up m m
 |step{a c:Nat}(h:up.getD a (-1)=(c:Int))(h0:a≠0)(hc:ev up m c):ev up m a
theorem ev.trans{up:List Int}{a b c:Nat}(h1:ev up a b)(h2:ev up b c):ev up a c:=by induction h2 with|refl=>exact h1|step h h0 _ d=>exact .step h h0 d
def nB(up:List Int)(b x:Nat):Prop:=x≠0->∃m:Nat,up.getD x (-1)=(m:Int)/\ev up m b
structure uv(W:Nat->List Nat)(aA ranks:List Nat)(up:List Int)(a b m:Nat):Prop where
 mem:m∈aA
 df:0<=up.getD m (-1)
 ra:ranks.getD m 0<=ranks.getD a 0
 rb:ranks.getD m 0<=ranks.getD b 0
 dO:∀d,dX W d a->dX W d b->dX W d m
 Nr:ev up m a
 HP:ev up m b
theorem uv.swap{a b m:Nat}(h:uv W aA ranks up a b m):uv W aA ranks up b a m:=⟨h.mem,h.df,h.rb,h.ra,λd h1 h2=>h.dO d h2 h1,h.HP,h.Nr⟩
theorem ny.Nt{n:Nat}(h:ny W aA ranks n up)(i:Rk W aA ranks){a b:Nat}(o:a∈aA)(hb:b∈aA)(j:0<=up.getD a (-1))(k:a≠b)(p:ranks.getD b 0<=ranks.getD a 0):∃c:Nat,up.getD a (-1)=c/\c∈aA/\0<=up.getD c (-1)/\ranks.getD c 0<ranks.getD a 0/\∀m,uv W aA ranks up c b m->uv W aA ranks up a b m:=by
 have l:ranks.getD b 0<ranks.getD a 0:=Nat.lt_of_le_of_ne p λe=>k (i.inj o hb e.symm);have h0:a≠0:=λe=>by subst e;rw[i.zero.2]at l;omega
 obtain⟨_,c,h1,h2,h3,q,r⟩:=h.ok a h0 j;refine⟨c,h1,h2,q,h3,λm f=>⟨f.mem,f.df,by have:=f.ra;omega,f.rb,λd hd g=>f.dO d (r d hd λe=>?_) g,.step h1 h0 f.Nr,f.HP⟩⟩;subst e;have:=i.dO _ b rfl hb g;omega
theorem ny.set{n:Nat}(h:ny W aA ranks n up)(s:Rk W aA ranks){to b:Nat}(j:to∈aA)(r:to<n)(h0:to≠0)(g:b∈aA)(k:0<=up.getD b (-1))(m:ranks.getD b 0<ranks.getD to 0)(hd:∀d,dX W d to->d≠to->dX W d b):ny W aA ranks n (up.set to (b:Int)):=by
 have hl:=h.len;have e:∀x,(up.set to (b:Int)).getD x (-1)=if x=to then(b:Int)else up.getD x (-1):=λx=>dG ab;have l:∀x,0<=up.getD x (-1)->0<=(up.set to (b:Int)).getD x (-1):=λx i=>by
  rw[e];split;·omega
  exact i
 refine⟨by simpa using hl,by rw[e,ap λe=>h0 e.symm];exact h.u0,λx=>?_,λx i c=>?_⟩
 .rw[e];split;·omega
  exact h.rg x
 rw[e]at c⊢;split;·rename_i f;subst f;exact⟨j,b,rfl,g,m,l _ k,hd⟩
 rename_i f;rw[ap f]at c;obtain⟨h1,a,h2,h3,o,p,q⟩:=h.ok x i c;exact⟨h1,a,h2,h3,o,l _ p,q⟩
def nC(ranks:List Nat)(n:Nat)(up:List Int):Nat:=(up.map λx=>if x<0 then n else ranks.getD x.toNat 0).sum
theorem ab4{l:List Nat}{k x:Nat}(b:k<l.length):(l.set k x).sum+l[k]=l.sum+x:=by induction l generalizing k with|nil=>simp at b|cons a l c=>cases k with|zero=>simp;omega|succ k=>have:=c (k:=k) (by simpa using b);simp;omega
theorem Nu{n k now:Nat}(a:k<up.length)(hl:ranks.getD now 0<if up.getD k (-1)<0 then n else ranks.getD (up.getD k (-1)).toNat 0):nC ranks n (up.set k (now:Int))<nC ranks n up:=by unfold nC;rw[List.map_set];have h1:=ab4 (l:=up.map λx=>if x<0 then n else ranks.getD x.toNat 0) (k:=k) (x:=ranks.getD now 0) (by simpa using a);rw[bB a]at hl;simp only[agw]at h1;rw[ap (show¬((now:Int)<0)by omega),afs];omega
end
section
variable{ac:Nat->aX}
section
variable{W:Nat->List Nat}{aA ranks:List Nat}{up:List Int}{n:Nat}{A H:ah}{us:List Th}{a b c d:af}{L:Kn}
theorem pI{e:List Int}{k:Nat}(z:Int)(f:k<e.length):(e.map aI)[0+k*1]?=some (aI (e.getD k z)):=mY z f
def uw(c d a b:af)(n:Nat)(ranks:List Nat)(up:List Int):List Th:=[tB eM c [.slice a 0 n n true],tB eM d [.slice b 0 n n true],tS 3 1 (ranks.map aN) n true (.slice a 0 n n true),tS 3 1 (up.map aI) n true (.slice b 0 n n true)]
theorem ab5(T:Tb ac)(r:Rk W aA ranks)(p:ny W aA ranks n up)(x:ranks.length=n)(C:n<=1000000)(l:∀D∈aA,D<n)(U:aq A H (uw c d a b n ranks up++us)){E D:Nat}(j:E∈aA)(hb:D∈aA)(g:0<=up.getD E (-1))(i:0<=up.getD D (-1)){K:KT}(k:∀m,uv W aA ranks up E D m->K (aN m) H):YF ac (.func WE [] [.aE c 0,.aE d 0]) [aN E,aN D] H K:=by
 have y:=p.len;refine YF.code T.Zr aF ?_;refine ai ?_;refine Ru.nm λS M u s=>?_;refine Ru.bT s (dn (P:=λm=>∀E D,ranks.getD E 0+ranks.getD D 0=m->E∈aA->D∈aA->0<=up.getD E (-1)->0<=up.getD D (-1)->(∀m,uv W aA ranks up E D m->K (aN m) H)->Ru ac _ S ([(p0,aN E),(p1,aN D)]++pk M [p2,p3]) H) (λm t E D o j hb g i k=>?_) _ E D rfl j hb g i k);have z:=l E j;have B:=l D hb;subst u;subst s;refine Ru.loop ?_;refine ai ?_;refine Ru.cond (λf=>?_) (λf=>?_)
 .have f:E≠D:=by simpa using f
  refine ai ?_;refine RO.dM U 2 (hv:=mY 0 ab) ?_;refine ai ?_;refine RO.dM U 2 (hv:=mY 0 ab) ?_;refine ai ?_;refine Ru.cond (λv=>?_) (λv=>?_);·obtain⟨F,h1,h2,h3,w,q⟩:=p.Nt r hb j i (λe=>f e.symm) ab;refine ai ?_;refine RO.dM U 3 (v:=aN F) (hv:=by rw[pI (-1) ab,h1];rfl) ?_;refine ai ?_;exact Ru.wk (t _ ab F E rfl h2 j h3 g λm o=>k m (q m o).swap)
  obtain⟨F,h1,h2,h3,w,q⟩:=p.Nt r j hb g f ab;refine ai ?_;refine RO.dM U 3 (v:=aN F) (hv:=by rw[pI (-1) ab,h1];rfl) ?_;refine ai ?_;exact Ru.wk (t _ ab F D rfl h2 hb h3 i λm o=>k m (q m o))
 have f:E=D:=by simpa using f
 subst f;refine Ru.exitTo ?_;refine ai ?_;exact Ru.aP (k E ⟨j,g,adv _,adv _,λ_ h _=>h,.refl,.refl⟩)
end
end
end Go.al.R
end
