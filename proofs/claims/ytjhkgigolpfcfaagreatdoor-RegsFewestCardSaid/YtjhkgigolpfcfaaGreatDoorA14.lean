/- A part of the proof. No conditions. -/
import Derived.Test.YtjhkgigolpfcfaaGreatDoorA09
set_option linter.all false
set_option maxHeartbeats 16000000
open List renaming mem_singleton->aep,mem_cons_of_mem->aey,mem_cons_self->aeU,replicate->ahr,length_map->akg,nodup_cons->akz,length_cons->akA,length_singleton->akC,length_take->akF,nodup_append->akI,nodup_nil->alD
open Nat renaming le_of_ble_eq_true->akc
open Int renaming ofNat->ak1
open List.Sublist renaming cons_cons->alh
open List.Perm renaming cons->akO,swap->akS
open BitVec renaming ofInt->ak5
noncomputable section
namespace Go.am.R
section
variable{ac:Nat->aG}
section
abbrev bV:=Int×Nat
def jl:List bV->List AV
 |[]=>[]
 |o::l=>aI o.1::aU o.2::jl l
theorem O':∀{l:List bV}{k:Nat}(h:k<l.length),((jl l).drop (k*2)).take 2=[aI l[k].1,aU l[k].2]|o::l,0,_=>rfl|o::l,k+1,h=>by have:=O' (l:=l) (k:=k) (by simpa using h);grind[jl]
theorem Pa:∀(a b:List bV),jl (a++b)=jl a++jl b|[],b=>rfl|o::a,b=>by simp only[akV,jl,Pa a b]
theorem Pb:∀(l:List bV)(b:Nat),(jl l).take (b*2)=jl (l.take b)|[],b=>by simp[jl]|o::l,0=>by rfl|o::l,b+1=>by rw[show(b+1)*2=b*2+2 by omega];simp only[jl,als,Pb l b]
def OpA:ai->bV->List AV->Prop:=λ_ o cs=>cs=[aI o.1,aU o.2]
abbrev mh(H:ai)(l:List bV)(v:AV):Prop:=Sl H 2 (jl l) l.length v
theorem mh.r{H:ai}{l:List bV}{v:AV}(h:mh H l v):dV 2 OpA H l v:=⟨_,h,λk a=>O' a⟩
structure CO(g:G.bu)(l:List bV):Prop where
 ok:∀o∈l,0<=o.1/\o.1<g.al.length/\(g.al.getD o.1.toNat default).aA.go.length=3
def na(g:G.bu)(o:bV):Int:=((g.al.getD o.1.toNat default).aA.go.getD 2 default).block
structure yP(H:ai)(xq:ab)(vb:AV)(os:List (List bV))(svs:List AV):Prop where
 lt:xq.an<H.next.an
 aH:bh H xq 3=some vb
 jY:∃ov,bh H xq 5=some ov/\Sl H 1 svs os.length ov
 len:svs.length=os.length
 bH:∀b(h:b<os.length),mh H os[b] (svs.getD b .co)
theorem yP.cI{H H':ai}{f:ab}{m:AV}{os:List (List bV)}{p:List AV}(h:yP H f m os p)(g:bm H H'):yP H' f m os p:=⟨ako h.lt g.nx,by rw[g.bh h.lt];exact h.aH,by obtain⟨a,h1,h2⟩:=h.jY;exact⟨a,by rw[g.bh h.lt];exact h1,g.sl h2⟩,h.len,λb hb=>g.sl (h.bH b hb)⟩
theorem RO.vu{c:Cx}{s:List SI}{L:Kn}{B H:ai}{d:Option ab}{l:List be}{a:List AV}{n j kd:Nat}{b:AV}{x y:aJ}(hg:bm B H)(hs:Sl B 1 a n b)(h:∀q o,bh H q o=some (a.getD j .co)->q.an<H.next.an->RO ac c l s (bC L d (.az q o)) H)(e:bf L x=b:=by exact cw)(g:bf L y=.int kd (.ofNat j):=by exact cw)(hj:j<n:=by first|assumption|omega):RO ac c (⟨d,.dG 1 x y,none,[],[]⟩::l) s L H:=by have hs:=hg.sl hs;have hl:=hs.length;obtain⟨i,o,cap,ex,rfl,_,hi,hat,_⟩:=hs.at af;refine RO.dG (h i (o+j*1) ?_ hi) e g hj;grind
section
variable{g:G.bu}{m:AV}{f:ab}{A H:ai}{us:List Th}{os:List (List bV)}{p:List AV}
theorem Pc(T:Tb ac)(N:G.Sm g)(hb:dV 7 kj A g.al m)(v:bm A H)(d:yP H f m os p){b:Nat}(i:b<os.length)(y:CO g os[b])(C:os[b].length<=1000){K:KT}(c:K (match os[b].getLast? with|some o=>.tuple [aI (na g o),.bool true]|none=>.tuple [.int 3 (.negSucc 0),.bool false]) H):YN ac Xy [.az f 0,aN b] H K:=by
 obtain⟨O,D,j⟩:=d.jY;have hs:=d.bH b i;have⟨E,_,_,F⟩:=hs.all;have I:=d.aH;refine YF.code T.acy aB ?_;refine ah ?_;refine RO.vu (bm.refl H) j λq o hc _=>?_;refine ah ?_;refine Ru.cond (λ(h:os[b].length=0)=>?_) (λ(h:¬os[b].length=0)=>?_);·have e:os[b]=[]:=akM h;rw[e]at c;refine ah ?_;exact Ru.tk c
 obtain⟨o,w⟩:∃o,os[b].getLast?=some o:=by cases h2:os[b].getLast? with|none=>rw[List.getLast?_eq_none_iff]at h2;rw[h2]at h;simp at h|some o=>exact⟨o,rfl⟩
 rw[w]at c;have a:os[b][os[b].length - 1]?=some o:=by rw[<-List.getLast?_eq_getElem?];exact w
 obtain⟨P,a⟩:=akR.1 a;obtain⟨h1,h2,h3⟩:=y.ok o (by rw[<-a];exact agB _);obtain⟨t,x⟩:∃t:Nat,o.1=(t:Int):=⟨o.1.toNat,af⟩;simp only[na,x,aj3]at h3 c;have k:t<g.al.length:=af;rw[bF k]at h3 c;refine ah ?_;refine RO.arith (v:=aN (os[b].length - 1)) ?_ (hv:=px af af);refine ah ?_;refine RO.cZ (bm.refl H) (mh.r hs) (λQ o1 c1 J l _ hat _=>?_);subst l;rw[a,x]at hat;refine ah ?_;refine RO.cZ v hb (λz o2 c2 L n _ hat _=>?_);obtain⟨R,S,V,rfl,_,_,W,X,B,rfl,_,_,s⟩:=n;refine ah ?_;refine RO.aW (i:=z) (o:=o2+2+4) (v:=B) ?_ (hc:=hat 6 _ rfl);refine RO.cZ v s (λY o3 Z M u _ hat _=>?_) (hj:=by omega);obtain⟨v3,rfl,_⟩:=u;refine ah ?_;refine Ru.tk ?_;rw[bF af]at c;exact c
def cS(g:G.bu)(b:Nat)(a:List bV):List (Int×List bV):=
 let j:=(g.al.getD b default).aA
 if j.op=67 then[((j.go.getD 0 default).block,a++[((b:Int),0)]),((j.go.getD 1 default).block,a++[((b:Int),1)])]
 else if j.op=68 then(match a.getLast? with|some o=>[(na g o,a.take (a.length - 1))]|none=>[])
 else j.go.map λe=>(e.block,a)
def Ji(W:List (Int×List bV))(a:List bV)(nv:AV)(k:Nat)(args:List AV)(b:List Th):Prop:=
 ∃(h:k<W.length)(v:AV),args=[aI W[k].1,v]/\v.bB=true/\v.ee=true/\v.cells=[v]/\((b=[]/\∀H,mh H a nv->mh H W[k].2 v)\/b=[tS Ii 2 (jl W[k].2) W[k].2.length true v])
structure Jj(g:G.bu)(b:Nat):Prop where
 lt:b<g.al.length
 tri:(g.al.getD b default).aA.op=67->(g.al.getD b default).aA.go.length=3
theorem Pd(T:Tb ac){b:Nat}{K:KT}(d:∀H' a c,aj H H' [tB 3 c [aN b],tB mE a [.az f 0]]->K (.func Ez [] [.az a 0,.az c 0]) H'):YN ac Xm [.az f 0,aN b] H K:=by refine YF.code T.acf aB ?_;refine au ?_;refine RO.dL (aj.dc H) λH1 a U=>?_;refine RO.dL U λe c U=>?_;refine au ?_;exact Ru.aV (d _ a c U)
end
end
section
def wR(v:AV)(n:Nat):AV:=match v with|.slice i o _ _ _=>.slice i o n n true|v=>v
theorem aet(T:Tb ac){B H:ai}{size n:Nat}{e:List AV}{v:AV}(hs:Sl B size e n v):YN ac XA [v] H λf H'=>f=wR v n/\H'=H:=by
 have⟨hd,_,_,h⟩:=hs.all;refine YF.code T.acB aB ?_;refine au ?_;rcases hs with⟨rfl,rfl,rfl⟩|⟨i,o,cap,ex,j,m,k,g,aM,fz,rfl,hg,l,hl,p,hi,b⟩;·refine RO.Cb (m:=0) (b:=0) (a:=0) rfl rfl rfl rfl ?_;refine au ?_;exact Ru.aV ⟨rfl,rfl⟩
 refine RO.HW (m:=n) (b:=n) (a:=0) (v:=.slice i o n n true) rfl (by show oJ (aN n) cap=_;exact tu b) (by show oJ (aN n) n=_;exact tu (afb n)) rfl aB aB ?_;refine au ?_;exact Ru.aV ⟨rfl,rfl⟩
theorem Jk{H:ai}{size n:Nat}{b:List AV}{v:AV}(hs:Sl H size b n v):(wR v n=.aS/\b=[]/\n=0)\/∃i o,wR v n=.slice i o n n true/\Sl H size b n (wR v n):=by
 rcases hs with⟨rfl,rfl,rfl⟩|⟨i,o,cap,ex,g,m,h,e,aM,fz,rfl,hg,j,hl,k,hi,f⟩;·exact .inl ⟨rfl,rfl,rfl⟩
 exact .inr ⟨i,o,rfl,.inr ⟨i,o,n,true,g,m,h,e,aM,fz,rfl,hg,j,hl,k,hi,afb n⟩⟩
section
variable{g:G.bu}{d:AV}{a:ab}{A H:ai}{us:List Th}{os:List (List bV)}{c:List AV}
theorem Pe(T:Tb ac)(hB:G.Sm g)(hb:dV 7 kj A g.al d){b:Nat}{now:List bV}{nv:AV}{P I:ab}(hE:Jj g b)(hO:CO g now)(a1:now.length<=1000):yI ac A (.func Ez [] [.az P 0,.az I 0]) (cS g b now).length (Ji (cS g b now) now nv) [tB 3 I [aN b],tB mE P [.az a 0]] (λH=>∃os c,yP H a d os c/\∃h:b<os.length,os[b]=now/\c.getD b .co=nv) (λH=>mh H now nv):=by
 intro y J D m us H K cn cp cv V j s U hR f;obtain⟨os,c,Q,W,aw,X⟩:=hR;subst aw;have hA:=U.gr;obtain⟨ov,a2,L⟩:=Q.jY;have hs:=Q.bH b W;rw[X]at hs;have⟨a3,_,_,cx⟩:=L.all;have⟨Y,a4,a5,cy⟩:=hs.all;have⟨cE,cK,_,c3⟩:=hb.all;have c5:=Q.aH;have a6:bh H P 0=some (.az a 0):=by obtain⟨_,p⟩:=U.get 1 rfl;exact tB.cell p rfl
 have a8:bh H I 0=some (aN b):=by obtain⟨_,p⟩:=U.get 0 rfl;exact tB.cell p rfl
 have a9:P.an<H.next.an:=by obtain⟨_,p⟩:=U.get 1 rfl;obtain⟨_,_,_,_,_,h⟩:=p;exact h
 have a':I.an<H.next.an:=by obtain⟨_,p⟩:=U.get 0 rfl;obtain⟨_,_,_,_,_,h⟩:=p;exact h
 obtain⟨x,E⟩:=hE;rw[bF x]at E;refine YF.code T.acA aB ?_;refine ah ?_;refine RO.cZ hA hb (λq3 o3 dz c8 Z _ hat hrd=>?_);have cf:=Z.one;obtain⟨vp,vs,jc,rfl,_,_,hj⟩:=Z;have c9:=hj.one;obtain⟨va,vk,vg,rfl,c',dm,t⟩:=hj;have⟨ag,_,_,dr⟩:=t.all;refine ah ?_;refine RO.gw ?_ (hc:=I' (k:=2) (m:=5) hrd bA);refine ah ?_;refine RO.vu (bm.refl H) L λq4 o4 ar ba=>?_;rw[X]at ar;refine ah ?_;refine RO.gI (aj.dc H) λH1 q5 hl=>?_;refine RO.Ja hl 0 (λH2 hl=>⟨λaa i=>?_,?_⟩);·have hg:=hl.gr;refine il i rfl rfl Y hs.bX (by rw[hg.bh ba];exact ar) (il (v:=aN b) i rfl rfl rfl (by simp[iy,gz,fQ]) (by rw[hg.bh a'];exact a8) (il i rfl rfl a3 L.bX (by rw[hg.bh Q.lt];exact a2) (il (v:=.az a 0) i rfl rfl rfl (by simp[iy,gz,ab.ip]) (by rw[hg.bh a9];exact a6) rfl)))
 have bb:=hl.gr;have U:=U.fC hl;refine ah ?_;have B:(g.al.getD b default).aA=(g.al[b]).aA:=by rw[bF x]
 refine Ru.cond (λ(q:(g.al[b]).aA.op=67)=>?_) (λ(q:¬(g.al[b]).aA.op=67)=>?_)
 .have h3:=E q;have bc:∀k(h:k<2),∃h':k<(cS g b os[b]).length,(cS g b os[b])[k]=(((g.al[b]).aA.go[k]'af).block,os[b]++[((b:Int),k)]):=λk h=>by
   have n:cS g b os[b]=[(((g.al[b]).aA.go[0]'af).block,os[b]++[((b:Int),0)]),(((g.al[b]).aA.go[1]'af).block,os[b]++[((b:Int),1)])]:=by simp only[cS,B,aK q];rw[bF af,bF af]
   refine⟨by rw[n];simpa using h,?_⟩;simp only[n];match k,h with|0,_=>rfl|1,_=>rfl
  have bd:(cS g b os[b]).length=2:=by simp only[cS,B,aK q];rfl
  refine ah ?_;refine RO.lf U 1 (λH3 q6 U=>?_);refine ah ?_;refine Ru.nm λS M hS R=>?_;refine Ru.cC R (up (P:=λk=>∀C m,J k m->aj A C (tS 5 1 [aU 0,aU 1] 2 true (.slice q6 0 2 2 true)::tB tx q5 _::([tB 3 I [aN b],tB mE P [.az a 0]]++m++us))->Ru ac _ S ([(dB,aN k)]++pk M [p0,p2,p4,p5,dt,cJ]) C) 2 (λk hk ih C m s U=>?_) 0 af _ m s U);subst hS;subst R;refine Ru.loop ?_;refine au ?_;refine Ru.cond (λ(r:k<2)=>?_) (λ(r:¬k<2)=>?_)
  .obtain⟨u,av⟩:=bc k r;have ds:=V k m _ C s (aj.gF (xs:=[_,_,_,_]) U);refine ah ?_;refine RO.fD U 0 ?_ (v:=aU k) (hv:=by match k,r with|0,_=>rfl|1,_=>rfl);refine ah ?_;refine RO.Jd U.gr t (λq8 o8 dD dv he _ z=>?_) (hj:=by omega);obtain⟨v8,rfl,_⟩:=he;refine ah ?_;refine RO.aW ?_ (hc:=z 0 _ rfl U.gr);refine ah ?_;refine RO.lf U 2 (ws:=[aN b,aU k]) (λH4 q9 U=>?_);refine RO.Jb (v:=wR nv os[b].length) (λH0 _ _=>aet T hs) (λHU O bv=>?_);have U:=U.bX bv O;have bS:=V k m _ HU s (aj.gF (xs:=[_,_,_,_,_]) U);have ax:bh HU I 0=some (aN b):=by obtain⟨_,p⟩:=U.get 3 rfl;exact tB.cell p rfl
   have ay:bh HU q5 4=some vg:=by obtain⟨_,p⟩:=U.get 2 rfl;exact tB.cell p rfl
   refine⟨λaa i=>il (v:=aN b) i rfl rfl rfl (by simp[iy,gz,fQ]) ax (il (v:=aI ((g.al[b]).aA.go[k]'af).block) i rfl rfl rfl (by simp[iy,gz,fQ]) (z 0 _ rfl U.gr) (il i rfl rfl ag (t.bX) ay rfl)),?_⟩;refine RO.Jc U (Jk bS) (U.sl 0) (λH5 v5 _ U=>?_);have a0:bh H5 q5 4=some vg:=by obtain⟨_,p⟩:=U.get 3 rfl;exact tB.cell p rfl
   refine⟨λaa i=>il (v:=aI ((g.al[b]).aA.go[k]'af).block) i rfl rfl rfl (by simp[iy,gz,fQ]) (z 0 _ rfl U.gr) (il i rfl rfl ag (t.bX) a0 rfl),?_⟩;have b0:Sl H5 2 (jl os[b]++[aN b,aU k]) (os[b].length+1) v5:=U.sl 0;have⟨b3,b4,b5,_⟩:=b0.all;have e5:jl (os[b]++[((b:Int),k)])=jl os[b]++[aN b,aU k]:=Pa _ _;have e6:(os[b]++[((b:Int),k)]).length=os[b].length+1:=aB;rw[<-e5,<-e6]at U;refine ah ?_;refine RO.cl ((j k [aI ((g.al[b]).aA.go[k]'af).block,v5] [_] m _ _ u ⟨u,v5,by rw[av],b3,b4,b5,.inr (by rw[av])⟩ s (U.cM (akO _ (vt (xs:=[_,_,_,_,_]))))).mono ?_);rintro v H3⟨w,U,hc⟩;rcases hc with⟨rfl,h⟩|⟨rfl,h⟩;·refine ah ?_;exact Ru.wk (ih (k+1) af af _ _ h (aj.kO (xs:=[_,_,_,_,_]) U).tail)
   refine ah ?_;exact Ru.mD (vs:=[]) trivial (f _ w _ (by rw[<-aj2]at U;exact U.skip) (.inr h))
  refine Ru.exitTo ?_;refine ah ?_;refine Ru.aA (vs:=[]) trivial (f _ m _ U.tail.tail.tail.tail (.inl ?_));rw[bd,show 2=k by omega];exact s
 refine ah ?_;refine Ru.cond (λ(N:(g.al[b]).aA.op=68)=>?_) (λ(N:¬(g.al[b]).aA.op=68)=>?_)
 .have n:cS g b os[b]=match os[b].getLast? with|some o=>[(na g o,os[b].take (os[b].length - 1))]|none=>[]:=by simp only[cS,B,aq q,aK N]<;>rfl
  refine ah ?_;refine RO.cl (Pc T hB hb U.gr (Q.cI bb) W hO a1 ?_);cases l:os[b].getLast? with
  |none=>rw[l]at n;simp only at n;rw[n]at f;refine ah ?_;exact Ru.aA (vs:=[]) trivial (f _ _ _ U.tail.tail.tail (.inl s))
  |some o=>
   rw[l]at n;simp only at n;obtain⟨hx,_⟩:0<os[b].length/\True:=⟨by cases hh:os[b]with|nil=>rw[hh]at l;simp at l|cons _ _=>simp,trivial⟩;refine ah ?_;refine RO.arith (v:=aN (os[b].length - 1)) ?_ (hv:=px af af);refine RO.pc hs (b:=os[b].length - 1) ?_;have F:∀H',mh H' os[b] nv->mh H' (os[b].take (os[b].length - 1)) (pc nv (os[b].length - 1)):=λH' h=>by
    have e:(os[b].take (os[b].length - 1)).length=os[b].length - 1:=by rw[akF];omega
    show Sl H' 2 (jl _) _ _;rw[e,<-Pb];exact CF h af
   have⟨b6,b',ca,_⟩:=(F _ hs).all;rw[n]at j f;refine RO.cl ((j 0 [aI (na g o),pc nv (os[b].length - 1)] [] m _ _ aB ⟨aB,_,rfl,b6,b',ca,.inl ⟨rfl,F⟩⟩ s (aj.gF (xs:=[_,_,_]) U)).mono ?_);rintro v H3⟨w,U,hc⟩;refine ah ?_;refine Ru.aA (vs:=[]) trivial (f _ w _ (by rw[<-aj2]at U;exact U.skip) ?_);rcases hc with⟨_,h⟩|⟨_,h⟩;·exact .inl h
   exact .inr h
 have n:cS g b os[b]=(g.al[b]).aA.go.map λe=>(e.block,os[b]):=by simp only[cS,B,aq q,aq N]
 have dx:=hB.bl _ (agB x);refine ah ?_;refine Ru.nm λS M hS R=>?_;refine Ru.cC R (up (P:=λk=>∀C m,J k m->aj A C (tB tx q5 _::([tB 3 I [aN b],tB mE P [.az a 0]]++m++us))->Ru ac _ S ([(cH,aN k)]++pk M [p0,p5,cW,cV]) C) (g.al[b]).aA.go.length (λk hk ih C m s U=>?_) 0 af _ m s U);subst hS;subst R;refine Ru.loop ?_;refine au ?_;refine Ru.cond (λr=>?_) (λr=>?_)
 .refine au ?_;refine RO.cZ U.gr t λq6 o6 c6 dy he _ hat hrd=>?_;have cd:=he.one;obtain⟨v6,rfl,_⟩:=he;refine ah ?_;refine RO.fx U λH5 q7 U=>?_;refine ah ?_;have u:k<(cS g b os[b]).length:=by rw[n,akg];exact r
  refine RO.cl ((j k [aI ((g.al[b]).aA.go[k]).block,nv] [] m _ _ u ⟨u,nv,by simp only[n,akN],Y,a4,a5,.inl ⟨rfl,λH' h=>by simp only[n,akN];exact h⟩⟩ s (aj.gF (xs:=[_,_,_,_]) U)).mono ?_);rintro v H3⟨w,U,hc⟩;rcases hc with⟨rfl,h⟩|⟨rfl,h⟩;·refine ah ?_;exact Ru.wk (ih (k+1) af af _ _ h (aj.kO (xs:=[_,_,_,_]) U).tail)
  refine ah ?_;exact Ru.mD (vs:=[]) trivial (f _ w _ (by rw[<-aj2]at U;exact U.skip) (.inr h))
 refine Ru.exitTo ?_;refine ah ?_;refine Ru.aA (vs:=[]) trivial (f _ m _ U.tail.tail.tail (.inl ?_));rw[n,akg,show(g.al[b]).aA.go.length=k by omega];exact s
end
end
theorem aeu(x:Int)(s:Nat):eA 64 (.fi [(0,1,false,.int),(1,1,false,.int)]) (.agg [aI x,aU s]) (.agg [aI x,aU s])=some true:=by simp[eA,eA.go,uo,fQ]
theorem aev(T:Tb ac){H:ai}{l:List bV}{v w:AV}(d:mh H l v)(e:mh H l w)(hl:l.length<=1000){K:KT}(g:K (.bool true) H):YN ac N0 [v,w] H K:=by
 have⟨hd,_,_,o⟩:=d.all;have⟨m,_,_,n⟩:=e.all;refine YF.code T.acv aB ?_;refine au ?_;refine Ru.cond (λh=>absurd rfl h) (λ_=>?_);refine au ?_;refine Ru.nm λS M i f=>?_;refine Ru.cC f (up (P:=λk=>Ru ac _ S ([(aX,aN k)]++pk M [p0,p1,aR,aY]) H) l.length (λk p j=>?_) 0 af);subst i;subst f;refine Ru.loop ?_;refine au ?_;refine Ru.cond (λa=>?_) (λa=>?_);·refine au ?_;refine RO.cZ (bm.refl H) (mh.r d) λq o1 c1 _ b _ hat hrd=>?_;subst b;refine ah ?_;refine RO.cZ (bm.refl H) (mh.r e) λs o2 c2 _ c _ hat hrd=>?_;subst c;refine ah ?_;refine RO.eq (t:=true) ?_ (ht:=aeu _ _);refine ah ?_;exact Ru.wk (j (k+1) af af)
 refine Ru.exitTo ?_;refine au ?_;exact Ru.aV g
inductive lN(g:G.bu):Nat->List bV->Prop
 |zero:lN g 0 []
 |step{b:Nat}{o:List bV}{w:Int×List bV}(h:lN g b o)(hw:w∈cS g b o):lN g w.1.toNat w.2
structure jm(g:G.bu):Prop where
 E1:∀{b o o'},lN g b o->lN g b o'->o=o'
 CP:∀{b o},lN g b o->∀w∈cS g b o,0<=w.1/\w.1<g.al.length
 aH:∀{b o},lN g b o->Jj g b
 jY:∀{b o},lN g b o->CO g o/\o.length<=900
def lr(a:List Bool):Nat:=(a.filter λb=>!b).length
theorem wS{come:List Bool}{k:Nat}(b:k<come.length)(h:come.getD k false=false):lr (come.set k true)+1=lr come:=by unfold lr;induction come generalizing k with|nil=>simp at b|cons a l c=>cases k with|zero=>simp only[List.getD_cons_zero]at h;subst h;simp|succ k=>have:=c (k:=k) (by simpa using b) (by simpa using h);cases a<;>simp<;>omega
structure lO(g:G.bu)(n:Nat)(F:List Th)(come:List Bool)(os:List (List bV))(svs:List AV)(todo:List Nat)(now:Option Nat):Prop where
 cl:come.length=n
 ol:os.length=n
 sl:svs.length=n
 c0:come.getD 0 false=true
 dO:∀b,come.getD b false=true->lN g b (os.getD b [])
 td:∀b∈todo,come.getD b false=true
 fz:∀b,come.getD b false=true->tR 2 (jl (os.getD b [])) (os.getD b []).length (svs.getD b .co)∈F
 nz:∀b,b<n->come.getD b false=false->os.getD b []=[]/\svs.getD b .co=.aS
 dn:∀b,come.getD b false=true->b∈todo\/now=some b\/∀w∈cS g b (os.getD b []),come.getD w.1.toNat false=true
theorem E2{a:Type}{l:List a}{k:Nat}{d v:a}(h:l.getD k d=v)(b:d≠v):k<l.length:=by grind
theorem fu{a:Type}{l:List a}{k j:Nat}{d v:a}(b:k<l.length):(l.set k v).getD j d=if j=k then v else l.getD j d:=by grind
theorem lO.new{g:G.bu}{n:Nat}{F:List Th}{a:List Bool}{os:List (List bV)}{c:List AV}{d:List Nat}{e:Option Nat}(h:lO g n F a os c d e){k:Nat}(i:k<n)(l:a.getD k false=false){o:List bV}(hl:lN g k o){v:AV}{f:List Th}(m:∀t∈F,t∈f)(p:tR 2 (jl o) o.length v∈f):lO g n f (a.set k true) (os.set k o) (c.set k v) (d++[k]) e:=by
 obtain⟨h1,h2,h3,q,r,s,u,w,x⟩:=h;have e1:∀j,(a.set k true).getD j false=if j=k then true else a.getD j false:=λj=>fu af;have e2:∀j,(os.set k o).getD j []=if j=k then o else os.getD j []:=λj=>fu af;have y:∀j,(c.set k v).getD j .co=if j=k then v else c.getD j .co:=λj=>fu af;refine⟨by grind,by grind,by grind,?_,λb hb=>?_,λb hb=>?_,λb hb=>?_,λb hb z=>?_,λb hb=>?_⟩;·grind
 .grind
 .grind
 .grind
 all_goals grind
section
theorem aew{b w:List bV}{nv v:AV}(j:∀H,mh H b nv->mh H w v){H:ai}{f:List ab}(I:(tR 2 (jl b) b.length nv).P H f):(tR 2 (jl w) w.length v).P H f:=by
 obtain⟨h1,h2,h3⟩:=I;refine⟨j H h1,λi o m c e E=>?_,h3⟩;apply akx;intro hi;have G:mh (H.set i .none) b nv:=by
  rcases h1 with I|⟨n,u,cap,ex,x,A,C,k,aM,fz,g,l,D⟩;·exact .inl I
  have t:n≠i:=λe=>hi (e▸h2 _ _ _ _ _ g);exact .inr ⟨n,u,cap,ex,x,A,C,k,aM,fz,g,by rw[ai.aF,aq t];exact l,D⟩
 have g:=j _ G;subst E;rcases g with⟨I,_⟩|⟨n,u,cap,ex,x,A,C,k,aM,fz,g,l,D⟩;·cases I
 injection g with g;subst g;rw[ai.aF,aK rfl]at l;cases l
section
variable{g:G.bu}{p s:AV}{h y z r q:ab}{n:Nat}{A H:ai}{us F:List Th}{come:List Bool}{os:List (List bV)}{a:List AV}{d:List Nat}{B:Option Nat}
def Jl(g:G.bu)(p:AV)(h r q:ab)(n:Nat)(come:List Bool)(a:List AV)(F:List Th):List Th:=[tB V' h [.str g.name,aI g.params,aI g.bp,p,.slice r 0 n n true,.slice q 0 n n true,.bool false],tS Ij 1 a n true (.slice q 0 n n true),tS 4 1 (come.map .bool) n true (.slice r 0 n n true),tZ F]
def vA(g:G.bu)(p:AV)(z y h r q:ab)(n:Nat)(come:List Bool)(a:List AV)(d:List Nat)(s:AV)(F:List Th):List Th:=tB eH z [s]::tU 3 (d.map aN) s::tB mE y [.az h 0]::Jl g p h r q n come a F
theorem aex(U:aj A H (vA g p z y h r q n come a d s F++us))(c:lO g n F come os a d B):yP H h p os a:=by
 have j:bh H h 3=some p:=by obtain⟨_,i⟩:=U.get 3 rfl;exact tB.cell i rfl
 have k:bh H h 5=some (.slice q 0 n n true):=by obtain⟨_,i⟩:=U.get 3 rfl;exact tB.cell i rfl
 have l:h.an<H.next.an:=by obtain⟨_,i⟩:=U.get 3 rfl;obtain⟨_,_,_,_,_,t⟩:=i;exact t
 refine⟨l,j,⟨_,k,by rw[c.ol];exact U.sl 4⟩,by rw[c.sl,c.ol],λb hb=>?_⟩;have m:b<n:=by rw[<-c.ol];exact hb
 have e:os.getD b []=os[b]:=bF hb _;cases o:come.getD b false with|true=>obtain⟨f,t,_⟩:=U.mf 6 rfl (c.fz b o);rw[e]at t;exact t|false=>obtain⟨h1,h2⟩:=c.nz b m o;rw[e]at h1;rw[h1,h2];exact .inl ⟨rfl,rfl,rfl⟩
def Jn(g:G.bu)(p:AV)(z y h r q:ab)(n:Nat)(b:Nat)(c:List bV)(nv:AV)(m k:Nat)(e:List Th):Prop:=
 ∃come os a d s F,e=vA g p z y h r q n come a d s F/\lO g n F come os a d (some b)/\come.getD b false=true/\os.getD b []=c/\a.getD b .co=nv/\d.length+lr come=m/\∀w∈(cS g b c).take k,come.getD w.1.toNat false=true
theorem lO.pop{b:Nat}(m:lO g n F come os a (b::d) none):lO g n F come os a d (some b):=by
 obtain⟨h1,h2,h3,e,f,i,j,k,l⟩:=m;refine⟨h1,h2,h3,e,f,λx c=>i x (aey _ c),j,k,λx c=>?_⟩;rcases l x c with m|m|m
 .rcases aeV.1 m with rfl|m;·exact .inr (.inl rfl)
  exact .inl m
 .cases m
 exact .inr (.inr m)
theorem lO.done{b:Nat}(o:lO g n F come os a d (some b))(c:∀w∈cS g b (os.getD b []),come.getD w.1.toNat false=true):lO g n F come os a d none:=by
 obtain⟨h1,h2,h3,e,f,i,j,k,l⟩:=o;refine⟨h1,h2,h3,e,f,i,j,k,λx m=>?_⟩;rcases l x m with o|o|o;·exact .inl o
 .injection o with o;subst o;exact .inr (.inr c)
 exact .inr (.inr o)
theorem lO.Jo{F':List Th}(m:lO g n F come os a d B)(c:∀t∈F,t∈F'):lO g n F' come os a d B:=by obtain⟨h1,h2,h3,e,f,i,j,k,l⟩:=m;exact⟨h1,h2,h3,e,f,i,λb hb=>c _ (j b hb),k,l⟩
theorem aez{b k:Nat}{c:List bV}{nv:AV}{args:List AV}{i:List Th}(l:lO g n F come os a d (some b))(hb:come.getD b false=true)(m:os.getD b []=c)(o:a.getD b .co=nv)(t:Ji (cS g b c) c nv k args i)(U:aj A H (i++vA g p z y h r q n come a d s F++us)):∃(I:k<(cS g b c).length)(v:AV),args=[aI (cS g b c)[k].1,v]/\v.bB=true/\v.ee=true/\v.cells=[v]/\aj A H (vA g p z y h r q n come a d s (tR 2 (jl (cS g b c)[k].2) (cS g b c)[k].2.length v::F)++us):=by
 obtain⟨u,v,w,h1,h2,h3,x⟩:=t;refine⟨u,v,w,h1,h2,h3,?_⟩;rcases x with⟨rfl,e⟩|rfl;·have j:=l.fz b hb;rw[m,o]at j;have hl:=(U.gk 6 rfl).OO j (t':=tR 2 (jl (cS g b c)[k].2) (cS g b c)[k].2.length v) λf I=>aew e I;exact hl.cM (akj (l₁:=[_,_,_,_,_,_])).symm
 have C:=U.as 0 rfl λG D=>tS.mg D;have E:aj A H (_::tZ F::([tB eH z [s],tU 3 (d.map aN) s,tB mE y [.az h 0],_,_,_]++us)):=C.cM (akO _ (akj (l₁:=[_,_,_,_,_,_])));exact E.lq.cM (akj (l₁:=[_,_,_,_,_,_])).symm
def Pf:bt:=(.seq (.region [O p6 (.bg (T bZ))]) (.region [O p7 (.bg (T dl))]))
def Pg:bt:=(.block 3 (.block 4 (.seq (.region [O du (.aW (T p3)),O dw (.nilCheck (T du)),O dg (.j6 4 (T dw)),O da (.aW (T dg)),O dj (.bg (T p6)),O dq (.dG 1 (T da) (T dj)),O dA (.aW (T dq)),O dt (.unary .not (T dA)),O dh (.bg (T dt))]) (.cond (T dh) (.seq (.region [O cJ (.aW (T p3)),O dB (.nilCheck (T cJ)),O dH (.j6 4 (T dB)),O dX (.aW (T dH)),O dM (.bg (T p6)),O dk (.aW (T p3)),O cR (.nilCheck (T dk)),O dY (.j6 5 (T cR)),O dZ (.aW (T dY)),O dR (.bg (T p6)),O eM (.bg (T p7)),O d9 (.dG 1 (T dX) (T dM)),N (.store 1 (T d9) (C (.bool true))),O eI (.dG 1 (T dZ) (T dR)),N (.store 1 (T eI) (T eM))]) (.region [O eN (.aW (T p4)),O eg (.bg (T p6)),O ep (.buildSlice 3 1 [(i 3 0)] [(0,1,(T eg))]),O fy (.append 3 8 1 [(i 3 0)] false (T eN) (T ep)),N (.store 1 (T p4) (T fy))])) (.seq (.region [O fg (.aW (T p3)),O eO (.nilCheck (T fg)),O gp (.j6 5 (T eO)),O eJ (.aW (T gp)),O fJ (.bg (T p6)),O fU (.dG 1 (T eJ) (T fJ)),O gf (.aW (T fU)),O fK (.bg (T p7)),O eR (.call (C (.func N0 [] [])) [(T gf),(T fK)]),O fV (.unary .not (T eR)),O fS (.bg (T fV))]) (.cond (T fS) (.region [O ff (.aW (T p3)),O fL (.nilCheck (T ff)),O fW (.j6 6 (T fL)),N (.store 1 (T fW) (C (.bool true)))]) .skip))))))
theorem aeA(T:Tb ac)(hB:G.Sm g)(P:jm g){b k:Nat}{c:List bV}{nv:AV}{m:Nat}(ax:n=g.al.length)(hm:m<=n){args:List AV}{ws ts:List Th}{l:ab}{o1 o2:cq}{fv:AV}{Dn:cP->List Th->Prop}(hk:k<(cS g b c).length)(S:Ji (cS g b c) c nv k args ws)(hJ:Jn g p z y h r q n b c nv m k ts)(U:aj A H (ws++ts++tX l o1::us)):Ru ac (EV ac l o1 o2 Pg (yJ A l o2 us (Jn g p z y h r q n b c nv m (k+1)) Dn)) [.code Pf] (AT [bZ,dl] args [(cD,fv),(p3,.az y 0),(p4,.az z 0)]) H:=by
 obtain⟨come,os,a,d,s,F,rfl,o,J,hn,hv,V,W⟩:=hJ;have ay:=hB.nb;obtain⟨_,v,rfl,a0,a1,a2,U⟩:=aez o J hn hv S U;have x:=o.dO b J;rw[hn]at x;have L:(cS g b c)[k]∈cS g b c:=agB hk;obtain⟨a3,a4⟩:=P.CP x _ L;have D:=lN.step x L;obtain⟨t,K⟩:∃t:Nat,(cS g b c)[k].1=(t:Int):=⟨(cS g b c)[k].1.toNat,af⟩;have X:t<n:=af;have Y:(cS g b c).take (k+1)=(cS g b c).take k++[(cS g b c)[k]]:=by rw[akd]
 rw[K,aj3]at D;generalize a5:(cS g b c)[k].2=C at*;have o:=o.Jo (F':=tR 2 (jl C) C.length v::F) λt K=>aey _ K;have M:tR 2 (jl C) C.length v∈tR 2 (jl C) C.length v::F:=aeU .. ;generalize tR 2 (jl C) C.length v::F=Q at*;have Z:=o.cl;have ag:=o.sl;have N:∀f:List Bool,(∀j,come.getD j false=true->f.getD j false=true)->f.getD t false=true->∀w∈(cS g b c).take (k+1),f.getD w.1.toNat false=true:=λf h1 h2 w E=>by
  rw[Y]at E;rcases ahp.1 E with E|E;·exact h1 _ (W w E)
  rw[aep]at E;subst E;rw[K,aj3];exact h2
 rw[K];unfold Pf;refine au ?_;refine Ru.dN U λH2 U=>?_;unfold Pg;refine ah ?_;cases i:come.getD t false with
 |false=>
  refine RO.fD U 5 (v:=.bool false) (hv:=by rw[qR false af,i]) ?_;have a6:=wS (k:=t) af i;have I:b≠t:=λe=>by rw[e,i]at J;cases J
  refine ah ?_;refine RO.lC U 5 true Z (λH3 U=>?_) (k:=t);refine ah ?_;refine RO.yK U 4 ag (λH4 U=>?_) (k:=t);refine ah ?_;refine RO.aef U 1 (aN t) (λu H5 O U a8 a9 a'=>?_) (hb:=by simp only[akg];omega) (hn:=by simp only[akg];omega);refine RO.gG U 0 (λH6 U=>?_);refine ah ?_;refine Ru.bG (ts:=vA g p z y h r q n (come.set t true) (a.set t v) (d++[t]) O Q) (by simpa[vA,Jl]using U) ⟨come.set t true,os.set t C,a.set t v,d++[t],O,Q,rfl,o.new X i D (λ_ bb=>bb) M,?_,?_,?_,?_,?_⟩;·rw[fu af,aq I];exact J
  .rw[fu (by rw[o.ol];omega),aq I];exact hn
  .rw[fu af,aq I];exact hv
  .rw[aj8,akC];omega
  refine N _ (λj hj=>?_) ?_
  .rw[fu af];split;·rfl
   exact hj
  rw[fu af,aK rfl]
 |true=>
  refine RO.fD U 5 (v:=.bool true) (hv:=by rw[qR false af,i]) ?_;have ar:=o.dO t i;have av:=P.E1 ar D;have aw:a[0+t*1]?=some (a.getD t .co):=by rw[show 0+t*1=t by omega,bF af];simp
  refine ah ?_;have⟨f8,R,_⟩:=U.mf 6 rfl (o.fz t i);have⟨f9,h9,_⟩:=U.mf 6 rfl M;rw[av]at R;have⟨ba,_,_,_⟩:=R.all;refine RO.fD U 4 (hv:=aw) ?_;refine ah ?_;refine RO.cl (aev T R h9 (by have:=(P.jY D).2;omega) ?_);refine ah ?_;exact Ru.bG U ⟨come,os,a,d,s,Q,rfl,o,J,hn,hv,V,N _ (λ_ bb=>bb) i⟩
end
end
section
theorem dn{P:Nat->Prop}(b:∀k,(∀j,j<k->P j)->P k)(k:Nat):P k:=Nat.strongRecOn k b
theorem E3:∀n,lr (ahr n false)=n|0=>rfl|n+1=>by simp[lr,List.replicate_succ]
theorem lO.zero{g:G.bu}{n:Nat}(l:0<n)(F:List Th)(k:tR 2 (jl []) 0 .aS∈F):lO g n F ((ahr n false).set 0 true) (ahr n []) (ahr n .aS) [0] none:=by
 have f:∀b,(ahr n ([]:List bV)).getD b []=[]:=λb=>by simp[akm,ak8];split<;>rfl
 have j:∀b,((ahr n false).set 0 true).getD b false=true->b=0:=λb hb=>by
  rw[fu (by simpa using l)]at hb;split at hb;·assumption
  simp[akm,ak8]at hb;split at hb<;>cases hb
 refine⟨aB,aB,aB,by grind,λb hb=>?_,λb hb=>?_,λb hb=>?_,λb hb _=>⟨f b,?_⟩,λb hb=>?_⟩;·rw[j b hb,f];exact .zero
 all_goals grind
section
variable{g:G.bu}{a h:AV}{c i o d e:ab}{A H:ai}{us F:List Th}
theorem aeB(T:Tb ac)(N:G.Sm g)(J:jm g)(w:0<g.al.length){cs:List AV}(hg:iG H g cs){K:KT}(hK:∀H' c d e come os p a F us,dV 7 kj H g.al a->lO g g.al.length F come os p [] none->aj H H' (Jl g a c d e g.al.length come p F++us)->K (.az c 0) H'):YN ac NW [.agg cs] H K:=by
 obtain⟨a,rfl,cA⟩:=hg;have⟨hd,_,_,L⟩:=cA.all;have av:=N.nb;refine YF.code T.acd aB ?_;refine au ?_;refine RO.dL (aj.dc H) λH1 q U=>?_;have U:=(U.py Ii 2).as 0 rfl λfp hp=>tS.mg hp;have U:=U.rl.cM (akS ..);have U:=U.lq;refine ah ?_;refine RO.eQ U 1 ?_;refine ah ?_;refine RO.oT U (n:=g.al.length) (λH2 d U=>?_) (hz:=by rw[iZ];simp);refine au ?_;refine RO.aec U 2 0 (λH3 U=>?_);refine ah ?_;refine RO.oT U (n:=g.al.length) (λH4 e U=>?_) (hz:=by rw[iZ];simp);have er:fO [AV.bool false] g.al.length=(ahr g.al.length false).map .bool:=by rw[iZ,alz]
 rw[er,iZ]at U;refine au ?_;refine RO.dL U (λH5 c U=>?_) (v:=.agg [.str g.name,aI g.params,aI g.bp,a,.slice d 0 g.al.length g.al.length true,.slice e 0 g.al.length g.al.length true,.bool false]);refine ah ?_;refine RO.fx U λH6 i U=>?_;refine ah ?_;refine RO.lC U 3 true (ak9 ..) (λH7 U=>?_) (k:=0) (ho:=by rw[ak9];exact w);refine ah ?_;refine RO.lf U 1 (λH8 qt U=>?_) (n:=1) (ws:=[aN 0]);refine RO.fx U λH9 o U=>?_;have U:=U.toU 1 rfl;refine ah ?_;refine Ru.nm λS M hS hM=>?_;refine Ru.cC hM (dn (P:=λm=>∀O B come os p n h F,n.length+lr come=m->m<=g.al.length->lO g g.al.length F come os p n none->aj H O (vA g a o i c d e g.al.length come p n h F++(i9 B++[tB fI q [.str g.name,aI g.params,aI g.bp,a]]))->Ru ac ⟨pu [.tmp p2] K,B,none⟩ S ([]++pk M [p3,p4]) O) (λm ih O B come os p n h F Q P t U=>?_) _ H9 [] _ _ _ [0] _ _ rfl ?_ (lO.zero w _ (aeU ..)) U);rotate_left;·have:=wS (come:=ahr g.al.length false) (k:=0) (by simpa using w) (by rw[bF (by simpa using w)];simp);rw[E3]at this;simp only[akC];omega
 subst hS;subst hM;refine Ru.loop ?_;have⟨aw,_,_,ax⟩:=(U.OS (e:=3) (vs:=n.map aN) (sv:=h) 1).all;refine ah ?_;refine Ru.cond (λx=>?_) (λx=>?_)
 .obtain⟨b,s,rfl⟩:∃b s,n=b::s:=by cases n with|nil=>simp at x|cons b r=>exact⟨b,r,rfl⟩
  simp only[akA]at Q;have y:come.getD b false=true:=t.td b (aeU ..);have u:=t.dO b y;have R:=E2 y aB;have t:=t.pop;refine ah ?_;refine RO.vu (bm.refl _) (U.OS 1) (λq5 o5 V _=>?_) (j:=0) (hj:=by simp);refine RO.aW ?_ (hc:=V);refine ah ?_;refine RO.aee U 1 (v:=aN b) (vs:=s.map aN) (λD U h1 h2 h3=>?_);refine RO.gG U 0 (λay U=>?_);refine ah ?_;refine RO.cl (Pd T λW q1 q2 hl=>?_);have U:aj H W ([tB 3 q2 [aN b],tB mE q1 [.az c 0]]++vA g a o i c d e g.al.length come p s D F++(i9 B++[tB fI q [.str g.name,aI g.params,aI g.bp,a]])):=U.fC hl;refine ah ?_;refine Ru.wk (L:=[(cD,.func Ez [] [.az q1 0,.az q2 0]),(p3,.az i 0),(p4,.az o 0)]) ?_;refine Ru.pG (J:=Jn g a o i c d e g.al.length b (os.getD b []) (p.getD b .co) (s.length+lr come)) (Dn:=λ_ _=>False) U (Pe T N cA (b:=b) (now:=os.getD b []) (nv:=p.getD b .co) (J.aH u) (J.jY u).1 (by have:=(J.jY u).2;omega)) (λH2 hg=>⟨os,p,(aex U.tail.tail t).cI hg,by rw[t.ol,<-t.cl];exact R,(bF _ _).symm,rfl⟩) ⟨come,os,p,s,D,F,rfl,t,y,rfl,rfl,rfl,aB⟩ (λk args ws a0=>by obtain⟨_,v,rfl,_⟩:=a0;rfl) (λk ts us H C U=>?_) (λk args ws ts us l o1 o2 H hk X C U=>aeA T N J rfl af hk X C U) (λH' Y dm C U=>?_) (λj H' Y dm _ a0=>a0.elim);·obtain⟨come,os,p,n,h,F,rfl,t,hc,L,hv,_⟩:=C;have P:=t.fz b hc;rw[L,hv]at P;obtain⟨f,a0,_⟩:=U.mf 6 rfl P;exact a0
  obtain⟨z,Z,I,A,ag,F',rfl,t,hc,L,hv,ar,E⟩:=C;rw[ak7]at E;have t:=t.done (by rw[L];exact E);refine ah ?_;exact Ru.wk (ih _ af H' (dm::B) z Z I A ag F' rfl af t U)
 have ht:n=[]:=by cases n with|nil=>rfl|cons b r=>simp at x
 subst ht;refine Ru.exitTo ?_;refine ah ?_;refine Ru.mI (M:=B) (ts:=vA g a o i c d e g.al.length come p [] h F++[tB fI q [.str g.name,aI g.params,aI g.bp,a]]) (U.cM ?_) λH' U=>⟨[.az c 0],?_,hK H' c d e come os p a F [tB fI q [.str g.name,aI g.params,aI g.bp,a]] cA t U.tail.tail.tail⟩;·rw[<-aj2,<-aj2];exact akH.append_right _
 exact⟨rfl,rfl,trivial⟩
end
end
section
structure GX(g:G.bu)(H:ai)(xq:ab)(vb cv:AV)(come:List Bool)(os:List (List bV))(svs:List AV):Prop where
 kS:yP H xq vb os svs
 bl:dV 7 kj H g.al vb
 c0:bh H xq 0=some (.str g.name)
 c1:bh H xq 1=some (aI g.params)
 c2:bh H xq 2=some (aI g.bp)
 c4:bh H xq 4=some cv
 c6:bh H xq 6=some (.bool false)
 cm:Sl H 1 (come.map .bool) come.length cv
theorem GX.cI{g:G.bu}{H H':ai}{a:ab}{d h:AV}{come:List Bool}{os:List (List bV)}{c:List AV}(k:GX g H a d h come os c)(hg:bm H H'):GX g H' a d h come os c:=by have hl:=k.kS.lt;obtain⟨h1,h2,h3,b,e,f,i,j⟩:=k;exact⟨h1.cI hg,dQ.block.jU hg h2,by rw[hg.bh hl];exact h3,by rw[hg.bh hl];exact b,by rw[hg.bh hl];exact e,by rw[hg.bh hl];exact f,by rw[hg.bh hl];exact i,hg.sl j⟩
structure cX(g:G.bu)(come:List Bool)(os:List (List bV)):Prop where
 cl:come.length=g.al.length
 ol:os.length=g.al.length
 c0:come.getD 0 false=true
 dO:∀b,come.getD b false=true->lN g b (os.getD b [])
 dn:∀b,come.getD b false=true->∀w∈cS g b (os.getD b []),come.getD w.1.toNat false=true
theorem aeC(T:Tb ac){g:G.bu}{H:ai}(q:G.Sm g)(r:jm g)(m:0<g.al.length){cs:List AV}(hg:iG H g cs){K:KT}(s:∀H' a d h come os c,bm H H'->GX g H' a d h come os c->cX g come os->K (.az a 0) H'):YN ac NW [.agg cs] H K:=by
 refine aeB T q r m hg λH' a p t come os c d F us cA j U=>?_;have i:∀(o:Nat)(v:AV),([.str g.name,aI g.params,aI g.bp,d,.slice p 0 g.al.length g.al.length true,.slice t 0 g.al.length g.al.length true,.bool false]:List AV)[o]?=some v->bh H' a o=some v:=λo v u=>by obtain⟨_,l⟩:=U.get 0 rfl;exact tB.cell l u
 have n:a.an<H'.next.an:=by obtain⟨_,l⟩:=U.get 0 rfl;obtain⟨_,_,_,_,_,u⟩:=l;exact u
 have k:=j.ol;refine s H' a d (.slice p 0 g.al.length g.al.length true) come os c U.gr ⟨⟨n,i 3 _ rfl,⟨_,i 5 _ rfl,by rw[k];exact U.sl 1⟩,by rw[j.sl,k],λb hb=>?_⟩,dQ.block.jU U.gr cA,i 0 _ rfl,i 1 _ rfl,i 2 _ rfl,i 4 _ rfl,i 6 _ rfl,by rw[j.cl];exact U.sl 2⟩ ⟨j.cl,k,j.c0,j.dO,λb hb=>?_⟩;·have e:os.getD b []=os[b]:=bF hb _;cases i:come.getD b false with|true=>obtain⟨f,u,_⟩:=U.mf 3 rfl (j.fz b i);rw[e]at u;exact u|false=>obtain⟨h1,h2⟩:=j.nz b (by rw[<-k];exact hb) i;rw[e]at h1;rw[h1,h2];exact .inl ⟨rfl,rfl,rfl⟩
 rcases j.dn b hb with u|u|u;·cases u
 .cases u
 exact u
section
variable{g:G.bu}{d h:AV}{a:ab}{H:ai}{come:List Bool}{os:List (List bV)}{c:List AV}
def mK(g:G.bu)(b:Nat)(e:List bV):List Nat:=(cS g b e).map λw=>w.1.toNat
theorem E4{b:Nat}{now:List bV}(e:G.Sm g)(hb:b<g.al.length):(cS g b now).length<=12:=by have:=(e.bl _ (agB hb)).2.2.2.2.1;grind[cS,bF]
theorem Jp(T:Tb ac)(E:G.Sm g)(m:jm g)(p:GX g H a d h come os c)(q:cX g come os){b:Nat}(hb:come.getD b false=true){K:KT}(W:∀H' v,aj H H' [tS 3 1 ((mK g b (os.getD b [])).map aN) (mK g b (os.getD b [])).length true v]->K v H'):YN ac Xa [.az a 0,aN b] H K:=by
 have f:=q.dO b hb;have u:=E2 hb aB;have i:b<os.length:=by rw[q.ol,<-q.cl];exact u
 have x:∀w∈cS g b (os.getD b []),aI w.1=aN w.1.toNat:=λw M=>by obtain⟨h0,_⟩:=m.CP f w M;obtain⟨t,N⟩:∃t:Nat,w.1=(t:Int):=⟨w.1.toNat,af⟩;rw[N];rfl
 have y:mh H (os.getD b []) (c.getD b .co):=by rw[bF i];exact p.kS.bH b i
 have S:(cS g b (os.getD b [])).length<=100000:=by have:=E4 (now:=os.getD b []) E (m.aH f).lt;omega
 refine YF.code T.ab2 aB ?_;refine au ?_;refine RO.gI (aj.dc H) λH1 r U=>?_;refine au ?_;refine RO.cl (Pd T λs F I hl=>?_);have U:aj H s ([tB 3 I [aN b],tB mE F [.az a 0]]++[tS 3 1 [] 0 true .aS,tB eH r [.aS]]++[]):=(U.py 3 1).fC hl;refine au ?_;refine Ru.wk (L:=[(p8,.func Ez [] [.az F 0,.az I 0]),(p4,.az r 0)]) ?_;refine Ru.pG (J:=λk ts=>∃v,v.bB=true/\v.ee=true/\v.cells=[v]/\ts=[tS 3 1 (((mK g b (os.getD b [])).take k).map aN) k true v,tB eH r [v]]) (Dn:=λ_ _=>False) U (Pe T E p.bl (b:=b) (now:=os.getD b []) (nv:=c.getD b .co) (m.aH f) (m.jY f).1 (by have:=(m.jY f).2;omega)) (λs hg=>⟨os,c,p.kS.cI (U.gr.trans hg),i,(bF i _).symm,rfl⟩) ⟨_,rfl,rfl,rfl,rfl⟩ (λk args ws W=>by obtain⟨_,v,rfl,_⟩:=W;rfl) (λk ts us H' o U=>U.gr.sl y) (λk args ws ts us l o1 o2 H' V z o U=>?_) (λH' A J o U=>?_) (λj H' A J _ W=>W.elim)
 .obtain⟨v,hd,h1,O,rfl⟩:=o;obtain⟨n,w,rfl,_⟩:=z;have U:=U.sub ((List.sublist_append_right _ _).append_right _);have P:=x _ (agB n);rw[P];refine au ?_;refine Ru.dN U λs U=>?_;refine ah ?_;refine RO.push U 0 (λw H' L U=>?_) (ws:=[aN (cS g b (os.getD b []))[k].1.toNat]);have⟨B,C,D,_⟩:=(U.sl (e:=3) (size:=1) (n:=k+1) (full:=true) (sv:=L) 0).all;refine RO.gG U 1 (λQ U=>?_);refine ah ?_;refine Ru.bG (ts:=[_,_]) U ⟨L,B,C,D,?_⟩;have e:(mK g b (os.getD b [])).take (k+1)=(mK g b (os.getD b [])).take k++[(cS g b (os.getD b []))[k].1.toNat]:=by rw[List.take_succ];congr 1;rw[mK,aks,akP n];rfl
  rw[e,akE];rfl
 obtain⟨v,hd,h1,O,rfl⟩:=o;have R:(cS g b (os.getD b [])).length=(mK g b (os.getD b [])).length:=by rw[mK,akg]
 rw[R,ak7]at U;refine ah ?_;refine RO.gG U 1 (λQ U=>?_);refine ah ?_;refine Ru.mI (M:=[J]) (ts:=[_,_]) (U.cM (akj (l₁:=[_,_]))) λH' U=>⟨[v],⟨⟨_,_,rfl,U.one 1⟩,trivial⟩,W H' v (U.sub (List.Sublist.cons₂ _ (List.nil_sublist _)))⟩
end
end
end
section
structure kT(W:Nat->List Nat)(P:Nat->Prop)(been been':List Bool)(new:List Nat):Prop where
 len:been'.length=been.length
 bn:∀x,been'.getD x false=true↔been.getD x false=true\/x∈new
 nd:new.Nodup
 fr:∀x∈new,been.getD x false=false
 cl:∀x∈new,∀w∈W x,been'.getD w false=true
 sg:∀cO x post,new=cO++x::post->P x\/∃y∈post,x∈W y
variable{W:Nat->List Nat}{P Q:Nat->Prop}{a b c:List Bool}{d n2:List Nat}{k:Nat}
theorem kT.nil:kT W P a a []:=⟨rfl,λx=>by simp,alD,λ_ h=>by grind,λ_ h=>by grind,λcO x b h=>by simp_all⟩
theorem kT.mono(h:kT W P a b d)(f:∀x,P x->Q x):kT W Q a b d:=⟨h.len,h.bn,h.nd,h.fr,h.cl,λcO x c e=>(h.sg cO x c e).imp_left (f x)⟩
theorem kT.wz(h:kT W P a b d)(h2:kT W P b c n2):kT W P a c (d++n2):=by
 refine⟨h2.len.trans h.len,λx=>?_,akI.2 ⟨h.nd,h2.nd,λx f y i e=>?_⟩,λx f=>?_,λx f w j=>?_,λcO x g e=>?_⟩;·rw[h2.bn,h.bn,ahp,or_assoc]
 .subst e;have h3:=h2.fr x i;rw[(h.bn x).2 (.inr f)]at h3;cases h3
 .rcases ahp.1 f with f|f;·exact h.fr x f
  have h3:=h2.fr x f;cases k:a.getD x false with|false=>rfl|true=>rw[(h.bn x).2 (.inl k)]at h3;cases h3
 .rcases ahp.1 f with f|f;·exact(h2.bn w).2 (.inl (h.cl x f w j))
  exact h2.cl x f w j
 rcases List.append_eq_append_iff.1 e with⟨l,rfl,e2⟩|⟨l,rfl,e2⟩;·exact h2.sg l x g e2
 cases l with
 |nil=>exact h2.sg [] x g (by simpa using e2.symm)
 |cons y l=>
  simp only[akV,akn]at e2;obtain⟨rfl,rfl⟩:=e2;rcases h.sg cO x l rfl with h3|⟨y,i,h3⟩;·exact .inl h3
  exact .inr ⟨y,akf _ i,h3⟩
theorem kT.aA(hb:a.getD k false=false)(m:k<a.length)(h:kT W (·∈W k) (a.set k true) c d)(n:∀w∈W k,c.getD w false=true):kT W (·=k) a c (d++[k]):=by
 have e:∀x,(a.set k true).getD x false=true↔x=k\/a.getD x false=true:=λx=>by
  rw[fu m];by_cases h:x=k;·simp[h]
  simp[h]
 have i:k∉d:=λo=>by have:=h.fr k o;rw[(e k).2 (.inl rfl)]at this;cases this
 refine⟨by rw[h.len];simp,λx=>?_,akI.2 ⟨h.nd,aB,λx b y g e=>?_⟩,λx b=>?_,λx b w f=>?_,λcO x j e=>?_⟩
 .rw[h.bn,e,ahp,aep];constructor
  .rintro((h|h)|h);·exact .inr (.inr h)
   .exact .inl h
   exact .inr (.inl h)
  rintro(h|h|h);·exact .inl (.inr h)
  .exact .inr h
  exact .inl (.inl h)
 .rw[aep]at g;exact i (by rw[<-g,<-e];exact b)
 .rcases ahp.1 b with b|b;·have h3:=h.fr x b;cases p:a.getD x false with|false=>rfl|true=>rw[(e x).2 (.inr p)]at h3;cases h3
  rw[aep]at b;subst b;exact hb
 .rcases ahp.1 b with b|b;·exact h.cl x b w f
  rw[aep]at b;subst b;exact n w f
 rcases List.append_eq_append_iff.1 e with⟨l,rfl,e2⟩|⟨l,rfl,e2⟩;·cases l with|nil=>simp only[ak0,akn]at e2;exact .inl e2.1.symm|cons y l=>simp at e2
 cases l with
 |nil=>simp only[ak0,akn]at e2;exact .inl e2.1
 |cons y l=>
  simp only[akV,akn]at e2;obtain⟨rfl,rfl⟩:=e2;rcases h.sg cO x l rfl with h3|⟨y,g,h3⟩;·exact .inr ⟨k,aB,h3⟩
  exact .inr ⟨y,akf _ g,h3⟩
theorem kT.lr(h:kT W P a b d)(g:∀x∈d,x<a.length):d.length+lr b=lr a:=by
 have h1:=h.len;have h2:=h.bn;have h3:=h.nd;have j:=h.fr;clear h;induction d generalizing a with
 |nil=>
  have:b=a:=by apply alg h1;intro i hi hj;have:=h2 i;simp only[aki,or_false]at this;rw[bF hi,bF hj]at this;cases k:b[i]<;>cases m:a[i]<;>simp[k,m]at this⊢
  subst this;simp
 |cons x l n=>
  have f:=g x (aeU ..);have o:=j x (aeU ..);have hs:=wS f o;have e1:∀y,b.getD y false=true↔(a.set x true).getD y false=true\/y∈l:=λy=>by
   rw[h2,fu f,aeV];by_cases h:y=x;·simp[h]
   simp[h]
  have e2:∀y∈l,(a.set x true).getD y false=false:=λy c=>by rw[fu f,aq λe=>(akz.1 h3).1 (by rw[<-e];exact c)];exact j y (aey _ c)
  have p:=n (a:=a.set x true) (λy c=>by simpa using g y (aey _ c)) (by simpa using h1) e1 (akz.1 h3).2 e2;simp only[akA];omega
end
section
variable{ac:Nat->aG}
section
section
variable{g:G.bu}{j l:AV}{h a c d f i:ab}{H:ai}{come:List Bool}{os:List (List bV)}{p:List AV}
def wW(g:G.bu)(os:List (List bV))(b:Nat):List Nat:=mK g b (os.getD b [])
theorem cX.ls(m:cX g come os){b w:Nat}(hb:come.getD b false=true)(e:w∈wW g os b):come.getD w false=true:=by simp only[wW,mK,akk]at e;obtain⟨x,k,rfl⟩:=e;exact m.dn b hb x k
theorem cX.lt(e:cX g come os){b:Nat}(hb:come.getD b false=true):b<g.al.length:=by rw[<-e.cl];exact E2 hb aB
def Ph(a c d f:ab):AV:=.func W9 [] [.az c 0,.az a 0,.az f 0,.az d 0]
def AX(h a c d f i:ab)(n:Nat)(e:List Bool)(b:List Nat)(g:AV):List Th:=[tS 3 1 (b.map aN) b.length true g,tB Wa f [Ph a c d f],tB eH d [g],tB Wb c [.slice i 0 n n true],tB mE a [.az h 0],tS 4 1 (e.map .bool) n true (.slice i 0 n n true)]
theorem aeD(T:Tb ac)(Q:G.Sm g)(hE:jm g)(hX:GX g H h j l come os p)(F:cX g come os):∀(m b:Nat)(n:List Bool)(s:List Nat)(E:AV)(H':ai)(us:List Th)(K:KT),lr n<=m->come.getD b false=true->n.length=g.al.length->s.length+lr n<=g.al.length->aj H H' (AX h a c d f i g.al.length n s E++us)->(∀H2 y new R ws,kT (wW g os) (·=b) n y new->y.getD b false=true->(∀x∈new,come.getD x false=true)->aj H H2 (AX h a c d f i g.al.length y (s++new) R++(ws++us))->K (iL []) H2)->YF ac (Ph a c d f) [aN b] H' K:=by
 intro m;induction m with
 |zero=>intro b n s E H' us K hm hb hl ho U a5;have J:=F.lt hb;refine YF.code T.Ox aB ?_;refine ah ?_;cases t:n.getD b false with|true=>refine RO.fD U 5 (v:=.bool true) (hv:=by rw[qR false af,t]) ?_;refine ah ?_;refine Ru.mD (vs:=[]) trivial (a5 H' n [] E [] kT.nil t (λ_ a5=>by simp at a5) (by rw[akT];exact U))|false=>have:=wS (k:=b) af t;omega
 |succ m ih=>
  intro b n s E H' us K hm hb hl ho U a5;have aw:=Q.nb;have J:=F.lt hb;refine YF.code T.Ox aB ?_;refine ah ?_;cases t:n.getD b false with
  |true=>refine RO.fD U 5 (v:=.bool true) (hv:=by rw[qR false af,t]) ?_;refine ah ?_;refine Ru.mD (vs:=[]) trivial (a5 H' n [] E [] kT.nil t (λ_ a5=>by simp at a5) (by rw[akT];exact U))
  |false=>
   have ax:=wS (k:=b) af t;have av:(wW g os b).length<=12:=by have:=E4 (now:=os.getD b []) Q J;simpa[wW,mK]using this
   refine RO.fD U 5 (v:=.bool false) (hv:=by rw[qR false af,t]) ?_;refine ah ?_;refine RO.lC U 5 true hl (λH3 U=>?_) (k:=b);refine ah ?_;refine RO.cl (Jp T Q hE (hX.cI U.gr) F hb λH4 v L=>?_);have U:=U.fC L;change aj H H4 ([tS 3 1 ((wW g os b).map aN) (wW g os b).length true v]++(AX h a c d f i g.al.length (n.set b true) s E++us))at U;have U:=aj.gF (xs:=[_]) (by rw[aj2];exact U);have⟨ay,_,_,a0⟩:=(L.sl (e:=3) (size:=1) (sv:=v) (vs:=(wW g os b).map aN) (n:=(wW g os b).length) (full:=true) 0).all;refine ah ?_;refine Ru.nm λS M hS hM=>?_;refine Ru.cC hM (up (P:=λk=>∀I r new C ws,kT (wW g os) (·∈wW g os b) (n.set b true) r new->(∀x∈new,come.getD x false=true)->(∀w∈(wW g os b).take k,r.getD w false=true)->aj H I (AX h a c d f i g.al.length r (s++new) C++(tS 3 1 ((wW g os b).map aN) (wW g os b).length true v::(ws++us)))->Ru ac _ S ([(bJ,aN k)]++pk M [p0,p3,p4,aZ,br]) I) (wW g os b).length (λk hk V I r new C ws P hc hw U=>?_) 0 af _ _ [] _ [] kT.nil (λ_ a5=>by simp at a5) (λ_ a5=>by simp at a5) (by rw[akT];exact U));have a1:=P.lr λx z=>by rw[ak4,hl];exact F.lt (hc x z)
   have W:r.length=g.al.length:=by rw[P.len,ak4,hl]
   subst hS;subst hM;refine Ru.loop ?_;refine au ?_;refine Ru.cond (λX=>?_) (λX=>?_)
   .refine ah ?_;refine RO.lg (bm.refl I) (U.sl (e:=3) (size:=1) (sv:=v) (vs:=(wW g os b).map aN) (n:=(wW g os b).length) (full:=true) 6) (λq o hj Y=>?_);refine RO.aW ?_ (hc:=Y);refine ah ?_;refine RO.cl (ih ((wW g os b)[k]) r (s++new) C I _ _ af (F.ls hb (agB hj)) W (by rw[aj8];omega) U λH5 A B Z D N ag ar U=>?_);refine ah ?_;have g1:∀x∈new++B,come.getD x false=true:=λx z=>by
     rcases ahp.1 z with z|z;·exact hc x z
     exact ar x z
    have g2:∀w∈(wW g os b).take (k+1),A.getD w false=true:=λw u=>by
     rw[List.take_succ,akP hj]at u;rcases ahp.1 u with u|u;·exact(N.bn w).2 (.inl (hw w u))
     simp at u;rw[u];exact ag
    have U:=U.cM (List.Perm.append_left _ (akj (l₁:=D)));rw[aj2 s,<-aj2 D]at U;exact Ru.wk (V (k+1) af af H5 A (new++B) Z (D++ws) (P.wz (N.mono λx a5=>by rw[a5];exact agB hj)) g1 g2 U)
   refine Ru.exitTo ?_;refine ah ?_;refine RO.push U 0 (λw H6 v2 U=>?_) (ws:=[aN b]) (hb:=by rw[aj8];omega) (hn:=by rw[aj8];omega);have⟨a2,a3,a4,_⟩:=(U.sl (e:=3) (size:=1) (n:=(s++new).length+1) (full:=true) (sv:=v2) 0).all;refine RO.gG U 2 (λH7 U=>?_);refine ah ?_;have O:=kT.aA t af P (λw u=>hw w (by rw[akl af];exact u));refine Ru.aA (vs:=[]) trivial (a5 H7 r (new++[b]) v2 (tS 3 1 ((wW g os b).map aN) (wW g os b).length true v::ws) O ((O.bn b).2 (.inr aB)) (λx z=>?_) ?_)
   .rcases ahp.1 z with z|z;·exact hc x z
    rw[aep]at z;rw[z];exact hb
   have e:((s++(new++[b])).map aN)=(s++new).map aN++[aN b]:=aB;have e2:(s++(new++[b])).length=(s++new).length+1:=by simp;omega
   simp only[AX,e,e2];exact U
end
end
section
theorem aeE{l:List Nat}{i j x a b:Nat}(hi:i<l.length)(hj:j<l.length):((l.set i a).set j b).getD x 0=if x=j then b else if x=i then a else l.getD x 0:=by grind
theorem aeF(T:Tb ac){A H:ai}{us:List Th}{l:List Nat}{n cap:Nat}{q:ab}{ex:Bool}(o:l.length=n)(h0:0<n)(y:n<1000000)(U:aj A H (tS 3 1 (l.map aN) n true (.slice q 0 n cap ex)::us)){K:KT}(r:∀H',aj A H' (tS 3 1 (l.reverse.map aN) n true (.slice q 0 n cap ex)::us)->K (iL []) H'):YN ac Xb [.slice q 0 n cap ex] H K:=by
 refine YF.code T.ab3 aB ?_;refine au ?_;refine RO.arith (v:=aN (n - 1)) ?_ (hv:=px (k:=n) af af);refine au ?_;refine Ru.nm λS M s p=>?_;refine Ru.cC p (up (P:=λk=>∀i a,a.length=n->(∀x,x<n->a.getD x 0=if x<k\/n<=x+k then l.getD (n - 1 - x) 0 else l.getD x 0)->aj A i (tS 3 1 (a.map aN) n true (.slice q 0 n cap ex)::us)->Ru ac _ S ([(p2,aN k),(p3,aN (n - 1 - k))]++pk M [p0]) i) (n - 1) (λk z t i a b g U=>?_) 0 af _ l o (λx g=>by rw[aq af]) U);subst s;subst p;refine Ru.loop ?_;refine au ?_;refine Ru.cond (λj=>?_) (λj=>?_)
 .refine tn ?_;refine RO.fD U 0 (hv:=qR 0 af) ?_;refine tn ?_;refine RO.fD U 0 (hv:=qR 0 af) ?_;refine tn ?_;refine RO.lC (f:=aN) U 0 (a.getD (n - 1 - k) 0) b (λB U=>?_) (k:=k);refine tn ?_;refine RO.lC (f:=aN) (zs:=a.set k (a.getD (n - 1 - k) 0)) (n:=n) U 0 (a.getD k 0) (by rw[ak4];exact b) (λu U=>?_) (k:=n - 1 - k) (ho:=by rw[ak4];omega);refine tn ?_;refine RO.arith (v:=aN (n - 1 - (k+1))) ?_ (hv:=by rw[show n - 1 - (k+1)=n - 1 - k - 1 by omega];exact px (k:=n - 1 - k) af af);refine au ?_;have v:∀x,x<n->((a.set k (a.getD (n - 1 - k) 0)).set (n - 1 - k) (a.getD k 0)).getD x 0=if x<k+1\/n<=x+(k+1)then l.getD (n - 1 - x) 0 else l.getD x 0:=λx m=>by
   rw[aeE af af];by_cases h1:x=n - 1 - k;·rw[aK h1,aK af,g k af,aq af,h1];congr 1;omega
   rw[aq h1];by_cases h2:x=k;·rw[aK h2,aK af,g _ af,aq af,h2]
   rw[aq h2,g x m];by_cases h3:x<k\/n<=x+k;·rw[aK h3,aK af]
   rw[aq h3,aq af]
  have w:((a.set k (a.getD (n - 1 - k) 0)).set (n - 1 - k) (a.getD k 0)).length=n:=by simpa using b
  exact Ru.wk (t (k+1) af af u _ w v U)
 refine Ru.exitTo ?_;refine au ?_;have e:a=l.reverse:=by
  apply alg (by simp[b,o]);intro x h1 h2;have h3:=g x af;rw[bF h1]at h3;rw[h3,List.getElem_reverse];split;·rw[bF af];congr 1;omega
  rw[bF af];congr 1;omega
 subst e;exact Ru.aA (vs:=[]) trivial (r _ U)
section
variable{g:G.bu}{d f:AV}{c:ab}{H:ai}{come:List Bool}{os:List (List bV)}{h:List AV}
structure e9(g:G.bu)(come:List Bool)(os:List (List bV))(ak:List Nat):Prop where
 nd:ak.Nodup
 mem:∀b,b∈ak↔come.getD b false=true
 hd:∃rest,ak=0::rest
 aM:∀cO x post,ak=cO++x::post->x=0\/∃y∈cO,x∈wW g os y
theorem kT.ak(q:jm g)(k:cX g come os){a:List Bool}{n:Nat}{new:List Nat}(t:kT (wW g os) (·=0) (ahr n false) a new)(h0:a.getD 0 false=true)(m:∀x∈new,come.getD x false=true):e9 g come os new.reverse:=by
 have j:∀x,a.getD x false=true↔x∈new:=λx=>by
  rw[t.bn];constructor
  .rintro(t|t);·simp[akm,ak8]at t;split at t<;>cases t
   exact t
  exact .inr
 have hl:∀b o,lN g b o->b∈new:=λb o hl=>by induction hl with|zero=>exact(j 0).1 h0| @step b o w hb r p=>have e:=q.E1 hb (k.dO b (m b p));refine(j _).1 (t.cl b p _ ?_);simp only[wW,mK,<-e];exact akp r
 refine⟨List.pairwise_reverse.2 (t.nd.imp λt=>t.symm),λb=>?_,?_,λcO x i e=>?_⟩;·rw[List.mem_reverse];exact⟨m b,λhb=>hl b _ (k.dO b hb)⟩
 .have h1:=(j 0).1 h0;rcases List.eq_nil_or_concat new with rfl|⟨l,x,rfl⟩;·grind
  rcases t.sg l x [] aB with h2|⟨y,s,_⟩;all_goals grind
 have e2:new=i.reverse++x::cO.reverse:=by have:=congrArg List.reverse e;simpa using this
 rcases t.sg _ _ _ e2 with h2|⟨y,s,h2⟩;all_goals grind
theorem Jq(T:Tb ac)(m:G.Sm g)(n:jm g)(a:GX g H c d f come os h)(b:cX g come os){K:KT}(R:∀H' v ak,e9 g come os ak->aj H H' [tS 3 1 (ak.map aN) ak.length true v]->K v H'):YN ac WT [.az c 0] H K:=by
 have E:=m.nb;have⟨hd,_,_,F⟩:=a.bl.all;have i:=a.kS.aH;have j:=a.kS.lt;refine YF.code T.abI aB ?_;refine au ?_;refine RO.dL (aj.dc H) λH1 t U=>?_;refine ah ?_;refine RO.aW ?_ (hc:=by rw[U.gr.bh j];exact i);refine ah ?_;refine RO.oT U (n:=g.al.length) (λI u U=>?_) (hz:=by rw[iZ];simp);have w:fO [AV.bool false] g.al.length=(ahr g.al.length false).map .bool:=by rw[iZ,alz]
 rw[w]at U;refine RO.fx U λJ y U=>?_;refine ah ?_;refine RO.gI U λL z U=>?_;refine ah ?_;refine RO.gI U λM A U=>?_;refine ah ?_;refine RO.gG U 0 (λB U=>?_);refine ah ?_;have U:=(U.py 3 1);have U:aj H B (AX c t y z A u g.al.length (ahr g.al.length false) [] .aS++[]):=U.cM (List.Perm.append_left [_,_,_,_] (akS ..));refine RO.cl (aeD T m n a b _ 0 _ [] _ _ [] _ (afb _) b.c0 aB (by rw[E3];simp) U λN s new O P o hb hc U=>?_);have p:=o.ak n b hb hc;have k:0<new.length:=by obtain⟨r,C⟩:=p.hd;have:=congrArg List.length C;simp at this;omega
 rw[ak0]at U;obtain⟨q,cap,ex,rfl⟩:=U.uT 0 rfl af;have l:=o.lr λx D=>by rw[ak9];exact b.lt (hc x D)
 rw[E3]at l;refine ah ?_;refine RO.cl (aeF T rfl k af U λQ U=>?_);refine ah ?_;have e:new.reverse.length=new.length:=aB;rw[<-e]at U;rw[<-e];exact Ru.aV (R _ _ _ p (U.sub (alh _ (List.nil_sublist _))))
end
end
theorem Pj{n:Nat}(h:n<18446744073709551616):(ck 7).wrap (.ofNat n)=.ofNat n:=by have e1:(ck 7).bits=64:=rfl;have e2:(ck 7).signed=false:=rfl;unfold IntKind.wrap;grind
theorem c7{n:Nat}(h:n<18446744073709551616):iJ 7 (.ofNat n)=.ofNat n:=VZ (Pj h)
theorem m7{a b c:Nat}(h:a*b=c)(d:c<18446744073709551616):iK .mul 7 (.ofNat a) (.ofNat b)=some (.int 7 (.ofNat c)):=by show some (AV.int 7 (iJ 7 (.ofNat (a*b))))=_;rw[h,c7 d]
theorem a7{a b c:Nat}(h:a+b=c)(d:c<18446744073709551616):iK .add 7 (.ofNat a) (.ofNat b)=some (.int 7 (.ofNat c)):=by show some (AV.int 7 (iJ 7 (.ofNat (a+b))))=_;rw[h,c7 d]
theorem n7{a:Nat}(h:a<4294967296):iK .and 7 (.ofNat a) (.ofNat 4294967295)=some (.int 7 (.ofNat a)):=by
 have e:(ak5 (ck 7).bits (.ofNat a)&&&ak5 (ck 7).bits (.ofNat 4294967295)).toNat=a:=by
  show(ak5 64 (.ofNat a)&&&ak5 64 (.ofNat 4294967295)).toNat=a;rw[BitVec.toNat_and];have e1:(ak5 64 (ak1 a)).toNat=a:=by show(ak5 64 ((a:Nat):Int)).toNat=a;rw[BitVec.ofInt_natCast,BitVec.toNat_ofNat];omega
  rw[e1,show(ak5 64 (ak1 4294967295)).toNat=2^32 - 1 from rfl,Nat.and_two_pow_sub_one_eq_mod];omega
 simp only[iK,e,ny];exact congrArg (λx=>some (AV.int 7 x)) (Pj af)
theorem s7{a:Nat}(h:a<4294967296):De .shr (.int 7 (.ofNat a)) (.int 7 (.ofNat 32))=some (.int 7 (.ofNat 0)):=by show some (AV.int 7 ((ak1 a).fdiv (2^32)))=_;grind
theorem RO.shift{c:Cx}{s:List SI}{L:Kn}{H:ai}{d:Option ab}{l:List be}{op:BinOp}{x y:aJ}{a b v:AV}(h:RO ac c l s (bC L d v) H)(f:bf L x=a:=by exact cw)(g:bf L y=b:=by exact cw)(i:a.bB=true:=by rfl)(hb:b.bB=true:=by rfl)(hv:De op a b=some v):RO ac c (⟨d,.shift op x y,none,[],[]⟩::l) s L H:=RO.op (λaa e=>by simp only[aE,e.gv f i,e.gv g hb,hv];rfl) h
theorem aeG(T:Tb ac){H:ai}{n:Nat}(b:n<4294967296){K:KT}(a:K (.tuple [.int 7 (.ofNat 0),.int 7 (.ofNat n)]) H):YN ac Xi [.int 7 (.ofNat 1),.int 7 (.ofNat n)] H K:=by refine YF.code T.ab9 aB ?_;refine au ?_;refine RO.arith ?_ (hv:=n7 (a:=1) af);refine au ?_;refine RO.shift ?_ (hv:=s7 (a:=1) af);refine au ?_;refine RO.arith ?_ (hv:=n7 (a:=n) af);refine au ?_;refine RO.shift ?_ (hv:=s7 (a:=n) af);refine au ?_;refine RO.arith ?_ (hv:=m7 (a:=1) (b:=n) (c:=n) af af);refine au ?_;refine RO.arith ?_ (hv:=m7 (a:=0) (b:=n) (c:=0) af af);refine au ?_;refine RO.shift ?_ (hv:=s7 (a:=n) af);refine au ?_;refine RO.arith ?_ (hv:=a7 (a:=0) (b:=0) (c:=0) af af);refine au ?_;refine RO.arith ?_ (hv:=n7 (a:=0) af);refine au ?_;refine RO.shift ?_ (hv:=s7 (a:=0) af);refine au ?_;refine RO.arith ?_ (hv:=m7 (a:=1) (b:=0) (c:=0) af af);refine au ?_;refine RO.arith ?_ (hv:=a7 (a:=0) (b:=0) (c:=0) af af);refine au ?_;refine RO.arith ?_ (hv:=m7 (a:=0) (b:=0) (c:=0) af af);refine au ?_;refine RO.arith ?_ (hv:=a7 (a:=0) (b:=0) (c:=0) af af);refine au ?_;refine RO.shift ?_ (hv:=s7 (a:=0) af);refine au ?_;refine RO.arith ?_ (hv:=a7 (a:=0) (b:=0) (c:=0) af af);refine au ?_;refine RO.arith ?_ (hv:=m7 (a:=1) (b:=n) (c:=n) af af);refine au ?_;exact Ru.tk a
theorem Pk(T:Tb ac){H:ai}{n:Nat}(a:n<4294967296){K:KT}(b:K (.tuple [.int 7 (.ofNat 0),.int 7 (.ofNat n)]) H):YN ac W6 [.int 7 (.ofNat 1),.int 7 (.ofNat n)] H K:=by refine YF.code T.abX aB ?_;refine au ?_;refine RO.cl (aeG T a ?_);refine au ?_;exact Ru.tk b
end
end Go.am.R
namespace Go.am
section
variable{ac:Nat->aG}{c:Cx}{s:List SI}{L:Kn}{A H:ai}{d:Option ab}{l:List be}{ts:List Th}{q:ab}{e n m k o i cap f size:Nat}{u z a:AV}{full ex b:Bool}
def mi(u z:AV)(size k n:Nat):List AV:=ahr (k*size) u++ahr ((n - k)*size) z
theorem Jr(h:k<=n):(mi u z size k n).length=n*size:=by simp only[mi,aj8,ak9,<-alB];grind
theorem Pl(h:k<=n){j:Nat}(hj:j<n*size):(mi u z size k n)[j]?=some (if j<k*size then u else z):=by rw[mi,List.getElem?_append];simp only[ak9];split;all_goals simp_all[ak8,aK,Nat.sub_mul]
theorem Pm:mi u z size n n=ahr (n*size) u:=by simp[mi]
theorem RO.E5(U:aj A H ts)(i:Nat){x y:aJ}(hi:ts[i]?=some (tS e size (mi u z size k n) n full (.slice q 0 n cap ex)))(r:k<=n)(hu:u.ee=true)(hs:Sl H size (ahr (m*size) u) m a)(C:min m (n - k)≠0)(D:o=k*size)(h:∀H',aj A H' (ts.set i (tS e size (mi u z size (k+min m (n - k)) n) n full (.slice q 0 n cap ex)))->RO ac c l s (bC L d (.int 3 (.ofNat (min m (n - k))))) H')(E:bf L x=.slice q o (n - k) f b:=by exact cw)(F:bf L y=a:=by exact cw):RO ac c (⟨d,.copy size x y,none,[],[]⟩::l) s L H:=by
 obtain⟨J,B,_,v⟩:=U.ki i hi;have p:n<=cap:=by
  rcases B with⟨_,_,_,h⟩|⟨K,M,aM,cap,b,rfl,h2,_,N,_⟩;·cases h
  injection h2 with _ _ _ h2;omega
 have g:k+min m (n - k)<=n:=af;have w:(ahr (m*size) u).take (min m (n - k)*size)=ahr (min m (n - k)*size) u:=by rw[List.take_replicate,<-Nat.mul_min_mul_right];congr 1;have:=aky size (Nat.min_le_left m (n - k));omega
 have G:dS (ahr (min m (n - k)*size) u)=true:=by generalize min m (n - k)*size=t;induction t with|zero=>rfl|succ t I=>rw[List.replicate_succ];exact ao hu I
 have e1:(k+min m (n - k))*size=k*size+min m (n - k)*size:=alB .. ;have e2:(k+min m (n - k))*size<=n*size:=aky _ g;have O:n*size<=cap*size:=aky _ p;obtain⟨H',h1,h2,h3⟩:=dU.wx B (o:=o) (ws:=ahr (min m (n - k)*size) u) (us:=mi u z size (k+min m (n - k)) n) (by rw[ak9];omega) G (by rw[Jr r,Jr g]) λj hj=>by
  rw[Jr r]at hj;rw[Pl g hj,Pl r hj,ak9,D];by_cases h1:k*size<=j/\j<k*size+min m (n - k)*size;·rw[aK h1,ak8,aK af,aK af]
  rw[aq h1];by_cases h2:j<k*size;·rw[aK h2,aK af]
  rw[aq h2,aq af]
 exact RO.copy E F hs.bB hs.je C (by rw[w];exact h1) (h H' (v h2 h3))
end
end Go.am
namespace Go.am.R
section
variable{ac:Nat->aG}
theorem Pn(T:Tb ac){H:ai}{n:Nat}{u xv:AV}(hu:u.ee=true)(hs:Sl H 1 (ahr (1*1) u) 1 xv)(o:n<=1000000){K:KT}(e:∀H' q,aj H H' [tS 3 1 (ahr (n*1) u) n true (.slice q 0 n n true)]->K (.slice q 0 n n true) H'):YN ac WP [xv,aN n] H K:=by
 have⟨hd,_,_,m⟩:=hs.all;refine YF.code T.abE aB ?_;refine au ?_;refine RO.kX ?_;refine au ?_;refine RO.kX ?_;refine RO.cl (Pk T (n:=n) af ?_) (ha:=by show[AV.int 7 (iJ 7 (.ofNat 1)),AV.int 7 (iJ 7 (.ofNat n))]=_;rw[c7 af,c7 af]);refine ah ?_;refine Ru.cond (λ(h:9223372036854775807<n)=>by omega) (λ_=>?_);refine ah ?_;refine RO.kX ?_;rw[pY (n:=.ofNat n) (by rw[aj5];omega) (by rw[aj5];omega)];refine RO.oT (aj.dc H) (n:=n) (λH1 q U=>?_) (hz:=by rw[iZ];simp);have b:fO [.int 3 (.ofNat 0)] n=mi u (.int 3 (.ofNat 0)) 1 0 n:=by rw[iZ];simp[mi]
 rw[b]at U;refine au ?_;rcases Nat.eq_zero_or_pos n with rfl|g;·refine RO.Nx (xv:=.slice q 0 0 0 true) rfl rfl hd (U.gr.sl hs).je ⟨0,rfl,aB⟩ ?_;refine au ?_;refine Ru.loop ?_;refine au ?_;refine Ru.exitTo ?_;refine au ?_;exact Ru.aV (e _ q U)
 refine RO.E5 U 0 rfl (Nat.zero_le n) hu (m:=1) (U.gr.sl hs) af (o:=0) af (λi U=>?_);rw[show min 1 (n - 0)=1 by omega,akh]at*;refine au ?_;refine Ru.nm λS M j f=>?_;refine Ru.cC f (up (P:=λk=>1<=k->∀c,aj H c [tS 3 1 (mi u (.int 3 (.ofNat 0)) 1 k n) n true (.slice q 0 n n true)]->Ru ac _ S ([(p8,aN k)]++pk M [p7]) c) n (λk p l h1 c U=>?_) 1 af (afb _) _ U);subst j;subst f;refine Ru.loop ?_;refine au ?_;refine Ru.cond (λd=>?_) (λd=>?_)
 .refine au ?_;refine RO.im (m:=n) (b:=n) (a:=k) rfl rfl rfl (by show oJ (aN k) n=_;exact tu af) rfl ?_;refine au ?_;refine RO.pc (U.sl (e:=3) (size:=1) (n:=n) (full:=true) 0) (b:=k) ?_;have e1:(mi u (.int 3 (.ofNat 0)) 1 k n).take (k*1)=ahr (k*1) u:=by rw[mi,List.take_append_of_le_length aB,akl aB]
  have a:=CF (U.sl (e:=3) (size:=1) (n:=n) (full:=true) (sv:=.slice q 0 n n true) 0) (b:=k) af;rw[e1]at a;refine RO.E5 U 0 rfl af hu a af (o:=if true&&decide (n=k)then 0 else 0+k*1) (by rw[aq (by simp;omega)];omega) (λi U=>?_);refine RO.add ?_ (a:=.ofNat k) (b:=.ofNat (min k (n - k))) (h1:=by simp;omega) (h2:=by simp;omega);refine au ?_;exact Ru.wk (l (k+min k (n - k)) af af af _ U)
 refine Ru.exitTo ?_;refine au ?_;have:k=n:=af;subst this;rw[Pm]at U;exact Ru.aV (e _ q U)
theorem Js(z:AV):∀n,fO [z,z] n=ahr (n*2) z|0=>rfl|n+1=>by rw[show(n+1)*2=n*2+1+1 by omega,List.replicate_succ,List.replicate_succ,<-Js z n];rfl
theorem aeH(T:Tb ac){H:ai}{n:Nat}{u xv:AV}(hu:u.ee=true)(hs:Sl H 2 (ahr (1*2) u) 1 xv)(o:n<=1000000){K:KT}(e:∀H' q,aj H H' [tS nN 2 (ahr (n*2) u) n true (.slice q 0 n n true)]->K (.slice q 0 n n true) H'):YN ac XI [xv,aN n] H K:=by
 have⟨hd,_,_,m⟩:=hs.all;refine YF.code T.acT aB ?_;refine au ?_;refine RO.kX ?_;refine au ?_;refine RO.kX ?_;refine RO.cl (Pk T (n:=n) af ?_) (ha:=by show[AV.int 7 (iJ 7 (.ofNat 1)),AV.int 7 (iJ 7 (.ofNat n))]=_;rw[c7 af,c7 af]);refine ah ?_;refine Ru.cond (λ(h:9223372036854775807<n)=>by omega) (λ_=>?_);refine ah ?_;refine RO.kX ?_;rw[pY (n:=.ofNat n) (by rw[aj5];omega) (by rw[aj5];omega)];refine RO.oT (aj.dc H) (n:=n) (λH1 q U=>?_) (hz:=by rw[Js];simp);have b:fO [.int 3 (.ofNat 0),.int 3 (.ofNat 0)] n=mi u (.int 3 (.ofNat 0)) 2 0 n:=by rw[Js];simp[mi]
 rw[b]at U;refine au ?_;rcases Nat.eq_zero_or_pos n with rfl|g;·refine RO.Nx (xv:=.slice q 0 0 0 true) rfl rfl hd (U.gr.sl hs).je ⟨0,rfl,aB⟩ ?_;refine au ?_;refine Ru.loop ?_;refine au ?_;refine Ru.exitTo ?_;refine au ?_;exact Ru.aV (e _ q U)
 refine RO.E5 U 0 rfl (Nat.zero_le n) hu (m:=1) (U.gr.sl hs) af (o:=0) af (λi U=>?_);rw[show min 1 (n - 0)=1 by omega,akh]at*;refine au ?_;refine Ru.nm λS M j f=>?_;refine Ru.cC f (up (P:=λk=>1<=k->∀c,aj H c [tS nN 2 (mi u (.int 3 (.ofNat 0)) 2 k n) n true (.slice q 0 n n true)]->Ru ac _ S ([(p8,aN k)]++pk M [p7]) c) n (λk p l h1 c U=>?_) 1 af (afb _) _ U);subst j;subst f;refine Ru.loop ?_;refine au ?_;refine Ru.cond (λd=>?_) (λd=>?_)
 .refine au ?_;refine RO.im (m:=n) (b:=n) (a:=k) rfl rfl rfl (by show oJ (aN k) n=_;exact tu af) rfl ?_;refine au ?_;refine RO.pc (U.sl (e:=nN) (size:=2) (n:=n) (full:=true) 0) (b:=k) ?_;have e1:(mi u (.int 3 (.ofNat 0)) 2 k n).take (k*2)=ahr (k*2) u:=by rw[mi,List.take_append_of_le_length aB,akl aB]
  have a:=CF (U.sl (e:=nN) (size:=2) (n:=n) (full:=true) (sv:=.slice q 0 n n true) 0) (b:=k) af;rw[e1]at a;refine RO.E5 U 0 rfl af hu a af (o:=if true&&decide (n=k)then 0 else 0+k*2) (by rw[aq (by simp;omega)];omega) (λi U=>?_);refine RO.add ?_ (a:=.ofNat k) (b:=.ofNat (min k (n - k))) (h1:=by simp;omega) (h2:=by simp;omega);refine au ?_;exact Ru.wk (l (k+min k (n - k)) af af af _ U)
 refine Ru.exitTo ?_;refine au ?_;have:k=n:=af;subst this;rw[Pm]at U;exact Ru.aV (e _ q U)
end
end Go.am.R
end
