/- A part of the proof. No conditions. -/
import Derived.Test.YtjhkgigolpfcfaaGreatDoorA12
set_option linter.all false
set_option maxHeartbeats 16000000
open List renaming mem_singleton->aep,mem_cons_of_mem->aey,mem_cons_self->aeU,replicate->ahr,length_map->akg,nodup_cons->akz,length_cons->akA,length_singleton->akC,length_take->akF,nodup_append->akI,nodup_nil->alD
open Nat renaming le_of_ble_eq_true->akc
open Int renaming ofNat->ak1
open List.Sublist renaming cons_cons->alh
open List.Perm renaming cons->akO,swap->akS
open BitVec renaming ofInt->ak5
noncomputable section
namespace Go.am.R
section
variable{ac:Nat->aG}
section
abbrev bV:=Int×Nat
def jl:List bV->List AV
 |[]=>[]
 |o::l=>aI o.1::aU o.2::jl l
theorem O':∀{l:List bV}{k:Nat}(h:k<l.length),((jl l).drop (k*2)).take 2=[aI l[k].1,aU l[k].2]|o::l,0,_=>rfl|o::l,k+1,h=>by have:=O' (l:=l) (k:=k) (by simpa using h);grind[jl]
theorem Pa:∀(a b:List bV),jl (a++b)=jl a++jl b|[],b=>rfl|o::a,b=>by simp only[akV,jl,Pa a b]
theorem Pb:∀(l:List bV)(b:Nat),(jl l).take (b*2)=jl (l.take b)|[],b=>by simp[jl]|o::l,0=>by rfl|o::l,b+1=>by rw[show(b+1)*2=b*2+2 by omega];simp only[jl,als,Pb l b]
def OpA:ai->bV->List AV->Prop:=λ_ o cs=>cs=[aI o.1,aU o.2]
abbrev mh(H:ai)(l:List bV)(v:AV):Prop:=Sl H 2 (jl l) l.length v
theorem mh.r{H:ai}{l:List bV}{v:AV}(h:mh H l v):dV 2 OpA H l v:=⟨_,h,λk a=>O' a⟩
structure CO(g:G.bu)(l:List bV):Prop where
 ok:∀o∈l,0<=o.1/\o.1<g.al.length/\(g.al.getD o.1.toNat default).aA.go.length=3
def na(g:G.bu)(o:bV):Int:=((g.al.getD o.1.toNat default).aA.go.getD 2 default).block
structure yP(H:ai)(xq:ab)(vb:AV)(os:List (List bV))(svs:List AV):Prop where
 lt:xq.an<H.next.an
 aH:bh H xq 3=some vb
 jY:∃ov,bh H xq 5=some ov/\Sl H 1 svs os.length ov
 len:svs.length=os.length
 bH:∀b(h:b<os.length),mh H os[b] (svs.getD b .co)
theorem yP.cI{H a:ai}{f:ab}{m:AV}{os:List (List bV)}{p:List AV}(h:yP H f m os p)(g:bm H a):yP a f m os p:=⟨ako h.lt g.nx,by rw[g.bh h.lt];exact h.aH,by obtain⟨c,h1,h2⟩:=h.jY;exact⟨c,by rw[g.bh h.lt];exact h1,g.sl h2⟩,h.len,λb hb=>g.sl (h.bH b hb)⟩
theorem RO.vu{c:Cx}{s:List SI}{L:Kn}{B H:ai}{d:Option ab}{l:List be}{a:List AV}{n j kd:Nat}{b:AV}{x y:aJ}(hg:bm B H)(hs:Sl B 1 a n b)(h:∀q o,bh H q o=some (a.getD j .co)->q.an<H.next.an->RO ac c l s (bC L d (.az q o)) H)(e:bf L x=b:=by exact cw)(g:bf L y=.int kd (.ofNat j):=by exact cw)(hj:j<n:=by first|assumption|omega):RO ac c (⟨d,.dG 1 x y,none,[],[]⟩::l) s L H:=by have hs:=hg.sl hs;have hl:=hs.length;obtain⟨i,o,cap,ex,rfl,_,hi,hat,_⟩:=hs.at af;refine RO.dG (h i (o+j*1) ?_ hi) e g hj;grind
section
variable{g:G.bu}{m:AV}{f:ab}{A H:ai}{us:List Th}{os:List (List bV)}{p:List AV}
theorem Pc(T:Tb ac)(N:G.Sm g)(hb:dV 7 kj A g.al m)(v:bm A H)(d:yP H f m os p){b:Nat}(i:b<os.length)(y:CO g os[b])(C:os[b].length<=1000){K:KT}(c:K (match os[b].getLast? with|some o=>.tuple [aI (na g o),.bool true]|none=>.tuple [.int 3 (.negSucc 0),.bool false]) H):YN ac Xy [.az f 0,aN b] H K:=by
 obtain⟨O,D,j⟩:=d.jY;have hs:=d.bH b i;have⟨E,_,_,F⟩:=hs.all;have I:=d.aH;refine YF.code T.acy aB ?_;refine ah ?_;refine RO.vu (bm.refl H) j λq o hc _=>?_;refine ah ?_;refine Ru.cond (λ(h:os[b].length=0)=>?_) (λ(h:¬os[b].length=0)=>?_);·have e:os[b]=[]:=akM h;rw[e]at c;refine ah ?_;exact Ru.tk c
 obtain⟨o,w⟩:∃o,os[b].getLast?=some o:=by cases h2:os[b].getLast? with|none=>rw[List.getLast?_eq_none_iff]at h2;rw[h2]at h;simp at h|some o=>exact⟨o,rfl⟩
 rw[w]at c;have a:os[b][os[b].length - 1]?=some o:=by rw[<-List.getLast?_eq_getElem?];exact w
 obtain⟨P,a⟩:=akR.1 a;obtain⟨h1,h2,h3⟩:=y.ok o (by rw[<-a];exact agB _);obtain⟨t,x⟩:∃t:Nat,o.1=(t:Int):=⟨o.1.toNat,af⟩;simp only[na,x,aj3]at h3 c;have k:t<g.al.length:=af;rw[bF k]at h3 c;refine ah ?_;refine RO.arith (v:=aN (os[b].length - 1)) ?_ (hv:=px af af);refine ah ?_;refine RO.cZ (bm.refl H) (mh.r hs) (λQ o1 c1 J l _ hat _=>?_);subst l;rw[a,x]at hat;refine ah ?_;refine RO.cZ v hb (λz o2 c2 L n _ hat _=>?_);obtain⟨R,S,V,rfl,_,_,W,X,B,rfl,_,_,s⟩:=n;refine ah ?_;refine RO.aW (i:=z) (o:=o2+2+4) (v:=B) ?_ (hc:=hat 6 _ rfl);refine RO.cZ v s (λY o3 Z M u _ hat _=>?_) (hj:=by omega);obtain⟨v3,rfl,_⟩:=u;refine ah ?_;refine Ru.tk ?_;rw[bF af]at c;exact c
def cS(g:G.bu)(b:Nat)(a:List bV):List (Int×List bV):=
 let j:=(g.al.getD b default).aA
 if j.op=67 then[((j.go.getD 0 default).block,a++[((b:Int),0)]),((j.go.getD 1 default).block,a++[((b:Int),1)])]
 else if j.op=68 then(match a.getLast? with|some o=>[(na g o,a.take (a.length - 1))]|none=>[])
 else j.go.map λe=>(e.block,a)
def Ji(W:List (Int×List bV))(a:List bV)(nv:AV)(k:Nat)(args:List AV)(b:List Th):Prop:=
 ∃(h:k<W.length)(v:AV),args=[aI W[k].1,v]/\v.bB=true/\v.ee=true/\v.cells=[v]/\((b=[]/\∀H,mh H a nv->mh H W[k].2 v)\/b=[tS Ii 2 (jl W[k].2) W[k].2.length true v])
structure Jj(g:G.bu)(b:Nat):Prop where
 lt:b<g.al.length
 tri:(g.al.getD b default).aA.op=67->(g.al.getD b default).aA.go.length=3
theorem Pd(T:Tb ac){b:Nat}{K:KT}(e:∀d a c,aj H d [tB 3 c [aN b],tB mE a [.az f 0]]->K (.func Ez [] [.az a 0,.az c 0]) d):YN ac Xm [.az f 0,aN b] H K:=by refine YF.code T.acf aB ?_;refine au ?_;refine RO.dL (aj.dc H) λH1 a U=>?_;refine RO.dL U λg c U=>?_;refine au ?_;exact Ru.aV (e _ a c U)
end
end
section
def wR(v:AV)(n:Nat):AV:=match v with|.slice i o _ _ _=>.slice i o n n true|v=>v
theorem aet(T:Tb ac){B H:ai}{size n:Nat}{e:List AV}{v:AV}(hs:Sl B size e n v):YN ac XA [v] H λf g=>f=wR v n/\g=H:=by
 have⟨hd,_,_,j⟩:=hs.all;refine YF.code T.acB aB ?_;refine au ?_;rcases hs with⟨rfl,rfl,rfl⟩|⟨i,o,cap,ex,k,m,l,h,aM,fz,rfl,hg,p,hl,q,hi,b⟩;·refine RO.Cb (m:=0) (b:=0) (a:=0) rfl rfl rfl rfl ?_;refine au ?_;exact Ru.aV ⟨rfl,rfl⟩
 refine RO.HW (m:=n) (b:=n) (a:=0) (v:=.slice i o n n true) rfl (by show oJ (aN n) cap=_;exact tu b) (by show oJ (aN n) n=_;exact tu (afb n)) rfl aB aB ?_;refine au ?_;exact Ru.aV ⟨rfl,rfl⟩
theorem Jk{H:ai}{size n:Nat}{b:List AV}{v:AV}(hs:Sl H size b n v):(wR v n=.aS/\b=[]/\n=0)\/∃i o,wR v n=.slice i o n n true/\Sl H size b n (wR v n):=by
 rcases hs with⟨rfl,rfl,rfl⟩|⟨i,o,cap,ex,g,m,h,e,aM,fz,rfl,hg,j,hl,k,hi,f⟩;·exact .inl ⟨rfl,rfl,rfl⟩
 exact .inr ⟨i,o,rfl,.inr ⟨i,o,n,true,g,m,h,e,aM,fz,rfl,hg,j,hl,k,hi,afb n⟩⟩
section
variable{g:G.bu}{d:AV}{a:ab}{A H:ai}{us:List Th}{os:List (List bV)}{c:List AV}
theorem Pe(T:Tb ac)(hB:G.Sm g)(hb:dV 7 kj A g.al d){b:Nat}{now:List bV}{nv:AV}{P I:ab}(hE:Jj g b)(hO:CO g now)(a3:now.length<=1000):yI ac A (.func Ez [] [.az P 0,.az I 0]) (cS g b now).length (Ji (cS g b now) now nv) [tB 3 I [aN b],tB mE P [.az a 0]] (λH=>∃os c,yP H a d os c/\∃h:b<os.length,os[b]=now/\c.getD b .co=nv) (λH=>mh H now nv):=by
 intro y J D m us H K cx cy cE W j s U hR f;obtain⟨os,c,Q,X,ay,Y⟩:=hR;subst ay;have hA:=U.gr;obtain⟨ov,a4,L⟩:=Q.jY;have hs:=Q.bH b X;rw[Y]at hs;have⟨a5,_,_,c3⟩:=L.all;have⟨Z,a6,a8,c5⟩:=hs.all;have⟨c8,c9,_,c'⟩:=hb.all;have dm:=Q.aH;have a9:bh H P 0=some (.az a 0):=by obtain⟨_,p⟩:=U.get 1 rfl;exact tB.cell p rfl
 have a':bh H I 0=some (aN b):=by obtain⟨_,p⟩:=U.get 0 rfl;exact tB.cell p rfl
 have ba:P.an<H.next.an:=by obtain⟨_,p⟩:=U.get 1 rfl;obtain⟨_,_,_,_,_,h⟩:=p;exact h
 have bb:I.an<H.next.an:=by obtain⟨_,p⟩:=U.get 0 rfl;obtain⟨_,_,_,_,_,h⟩:=p;exact h
 obtain⟨x,E⟩:=hE;rw[bF x]at E;refine YF.code T.acA aB ?_;refine ah ?_;refine RO.cZ hA hb (λq3 o3 d3 dr ag _ hat hrd=>?_);have cv:=ag.one;obtain⟨vp,vs,jc,rfl,_,_,hj⟩:=ag;have ds:=hj.one;obtain⟨va,vk,vg,rfl,dv,dx,t⟩:=hj;have⟨av,_,_,dy⟩:=t.all;refine ah ?_;refine RO.gw ?_ (hc:=I' (k:=2) (m:=5) hrd bA);refine ah ?_;refine RO.vu (bm.refl H) L λq4 o4 aw bc=>?_;rw[Y]at aw;refine ah ?_;refine RO.gI (aj.dc H) λH1 q5 hl=>?_;refine RO.Ja hl 0 (λH2 hl=>⟨λaa i=>?_,?_⟩);·have hg:=hl.gr;refine il i rfl rfl Z hs.bX (by rw[hg.bh bc];exact aw) (il (v:=aN b) i rfl rfl rfl (by simp[iy,gz,fQ]) (by rw[hg.bh bb];exact a') (il i rfl rfl a5 L.bX (by rw[hg.bh Q.lt];exact a4) (il (v:=.az a 0) i rfl rfl rfl (by simp[iy,gz,ab.ip]) (by rw[hg.bh ba];exact a9) rfl)))
 have bd:=hl.gr;have U:=U.fC hl;refine ah ?_;have B:(g.al.getD b default).aA=(g.al[b]).aA:=by rw[bF x]
 refine Ru.cond (λ(q:(g.al[b]).aA.op=67)=>?_) (λ(q:¬(g.al[b]).aA.op=67)=>?_)
 .have h3:=E q;have bv:∀k(h:k<2),∃h':k<(cS g b os[b]).length,(cS g b os[b])[k]=(((g.al[b]).aA.go[k]'af).block,os[b]++[((b:Int),k)]):=λk h=>by
   have n:cS g b os[b]=[(((g.al[b]).aA.go[0]'af).block,os[b]++[((b:Int),0)]),(((g.al[b]).aA.go[1]'af).block,os[b]++[((b:Int),1)])]:=by simp only[cS,B,aK q];rw[bF af,bF af]
   refine⟨by rw[n];simpa using h,?_⟩;simp only[n];match k,h with|0,_=>rfl|1,_=>rfl
  have b0:(cS g b os[b]).length=2:=by simp only[cS,B,aK q];rfl
  refine ah ?_;refine RO.lf U 1 (λH3 q6 U=>?_);refine ah ?_;refine Ru.nm λS M hS R=>?_;refine Ru.cC R (up (P:=λk=>∀C m,J k m->aj A C (tS 5 1 [aU 0,aU 1] 2 true (.slice q6 0 2 2 true)::tB tx q5 _::([tB 3 I [aN b],tB mE P [.az a 0]]++m++us))->Ru ac _ S ([(dB,aN k)]++pk M [p0,p2,p4,p5,dt,cJ]) C) 2 (λk hk ih C m s U=>?_) 0 af _ m s U);subst hS;subst R;refine Ru.loop ?_;refine au ?_;refine Ru.cond (λ(r:k<2)=>?_) (λ(r:¬k<2)=>?_)
  .obtain⟨u,ax⟩:=bv k r;have dz:=W k m _ C s (aj.gF (xs:=[_,_,_,_]) U);refine ah ?_;refine RO.fD U 0 ?_ (v:=aU k) (hv:=by match k,r with|0,_=>rfl|1,_=>rfl);refine ah ?_;refine RO.Jd U.gr t (λq8 o8 d4 d0 he _ z=>?_) (hj:=by omega);obtain⟨v8,rfl,_⟩:=he;refine ah ?_;refine RO.aW ?_ (hc:=z 0 _ rfl U.gr);refine ah ?_;refine RO.lf U 2 (ws:=[aN b,aU k]) (λH4 q9 U=>?_);refine RO.Jb (v:=wR nv os[b].length) (λH0 _ _=>aet T hs) (λHU O b3=>?_);have U:=U.bX b3 O;have b4:=W k m _ HU s (aj.gF (xs:=[_,_,_,_,_]) U);have a0:bh HU I 0=some (aN b):=by obtain⟨_,p⟩:=U.get 3 rfl;exact tB.cell p rfl
   have a1:bh HU q5 4=some vg:=by obtain⟨_,p⟩:=U.get 2 rfl;exact tB.cell p rfl
   refine⟨λaa i=>il (v:=aN b) i rfl rfl rfl (by simp[iy,gz,fQ]) a0 (il (v:=aI ((g.al[b]).aA.go[k]'af).block) i rfl rfl rfl (by simp[iy,gz,fQ]) (z 0 _ rfl U.gr) (il i rfl rfl av (t.bX) a1 rfl)),?_⟩;refine RO.Jc U (Jk b4) (U.sl 0) (λH5 v5 _ U=>?_);have a2:bh H5 q5 4=some vg:=by obtain⟨_,p⟩:=U.get 3 rfl;exact tB.cell p rfl
   refine⟨λaa i=>il (v:=aI ((g.al[b]).aA.go[k]'af).block) i rfl rfl rfl (by simp[iy,gz,fQ]) (z 0 _ rfl U.gr) (il i rfl rfl av (t.bX) a2 rfl),?_⟩;have b5:Sl H5 2 (jl os[b]++[aN b,aU k]) (os[b].length+1) v5:=U.sl 0;have⟨b6,b',ca,_⟩:=b5.all;have e5:jl (os[b]++[((b:Int),k)])=jl os[b]++[aN b,aU k]:=Pa _ _;have e6:(os[b]++[((b:Int),k)]).length=os[b].length+1:=aB;rw[<-e5,<-e6]at U;refine ah ?_;refine RO.cl ((j k [aI ((g.al[b]).aA.go[k]'af).block,v5] [_] m _ _ u ⟨u,v5,by rw[ax],b6,b',ca,.inr (by rw[ax])⟩ s (U.cM (akO _ (vt (xs:=[_,_,_,_,_]))))).mono ?_);rintro v H3⟨w,U,hc⟩;rcases hc with⟨rfl,h⟩|⟨rfl,h⟩;·refine ah ?_;exact Ru.wk (ih (k+1) af af _ _ h (aj.kO (xs:=[_,_,_,_,_]) U).tail)
   refine ah ?_;exact Ru.mD (vs:=[]) trivial (f _ w _ (by rw[<-aj2]at U;exact U.skip) (.inr h))
  refine Ru.exitTo ?_;refine ah ?_;refine Ru.aA (vs:=[]) trivial (f _ m _ U.tail.tail.tail.tail (.inl ?_));rw[b0,show 2=k by omega];exact s
 refine ah ?_;refine Ru.cond (λ(N:(g.al[b]).aA.op=68)=>?_) (λ(N:¬(g.al[b]).aA.op=68)=>?_)
 .have n:cS g b os[b]=match os[b].getLast? with|some o=>[(na g o,os[b].take (os[b].length - 1))]|none=>[]:=by simp only[cS,B,aq q,aK N]<;>rfl
  refine ah ?_;refine RO.cl (Pc T hB hb U.gr (Q.cI bd) X hO a3 ?_);cases l:os[b].getLast? with
  |none=>rw[l]at n;simp only at n;rw[n]at f;refine ah ?_;exact Ru.aA (vs:=[]) trivial (f _ _ _ U.tail.tail.tail (.inl s))
  |some o=>
   rw[l]at n;simp only at n;obtain⟨hx,_⟩:0<os[b].length/\True:=⟨by cases hh:os[b]with|nil=>rw[hh]at l;simp at l|cons _ _=>simp,trivial⟩;refine ah ?_;refine RO.arith (v:=aN (os[b].length - 1)) ?_ (hv:=px af af);refine RO.pc hs (b:=os[b].length - 1) ?_;have F:∀V,mh V os[b] nv->mh V (os[b].take (os[b].length - 1)) (pc nv (os[b].length - 1)):=λV h=>by
    have e:(os[b].take (os[b].length - 1)).length=os[b].length - 1:=by rw[akF];omega
    show Sl V 2 (jl _) _ _;rw[e,<-Pb];exact CF h af
   have⟨cd,cf,cn,_⟩:=(F _ hs).all;rw[n]at j f;refine RO.cl ((j 0 [aI (na g o),pc nv (os[b].length - 1)] [] m _ _ aB ⟨aB,_,rfl,cd,cf,cn,.inl ⟨rfl,F⟩⟩ s (aj.gF (xs:=[_,_,_]) U)).mono ?_);rintro v H3⟨w,U,hc⟩;refine ah ?_;refine Ru.aA (vs:=[]) trivial (f _ w _ (by rw[<-aj2]at U;exact U.skip) ?_);rcases hc with⟨_,h⟩|⟨_,h⟩;·exact .inl h
   exact .inr h
 have n:cS g b os[b]=(g.al[b]).aA.go.map λe=>(e.block,os[b]):=by simp only[cS,B,aq q,aq N]
 have d1:=hB.bl _ (agB x);refine ah ?_;refine Ru.nm λS M hS R=>?_;refine Ru.cC R (up (P:=λk=>∀C m,J k m->aj A C (tB tx q5 _::([tB 3 I [aN b],tB mE P [.az a 0]]++m++us))->Ru ac _ S ([(cH,aN k)]++pk M [p0,p5,cW,cV]) C) (g.al[b]).aA.go.length (λk hk ih C m s U=>?_) 0 af _ m s U);subst hS;subst R;refine Ru.loop ?_;refine au ?_;refine Ru.cond (λr=>?_) (λr=>?_)
 .refine au ?_;refine RO.cZ U.gr t λq6 o6 c6 d2 he _ hat hrd=>?_;have cp:=he.one;obtain⟨v6,rfl,_⟩:=he;refine ah ?_;refine RO.fx U λH5 q7 U=>?_;refine ah ?_;have u:k<(cS g b os[b]).length:=by rw[n,akg];exact r
  refine RO.cl ((j k [aI ((g.al[b]).aA.go[k]).block,nv] [] m _ _ u ⟨u,nv,by simp only[n,akN],Z,a6,a8,.inl ⟨rfl,λV h=>by simp only[n,akN];exact h⟩⟩ s (aj.gF (xs:=[_,_,_,_]) U)).mono ?_);rintro v H3⟨w,U,hc⟩;rcases hc with⟨rfl,h⟩|⟨rfl,h⟩;·refine ah ?_;exact Ru.wk (ih (k+1) af af _ _ h (aj.kO (xs:=[_,_,_,_]) U).tail)
  refine ah ?_;exact Ru.mD (vs:=[]) trivial (f _ w _ (by rw[<-aj2]at U;exact U.skip) (.inr h))
 refine Ru.exitTo ?_;refine ah ?_;refine Ru.aA (vs:=[]) trivial (f _ m _ U.tail.tail.tail (.inl ?_));rw[n,akg,show(g.al[b]).aA.go.length=k by omega];exact s
end
end
theorem aeu(x y:Int)(s r:Nat):eA 64 (.fi [(0,1,false,.int),(1,1,false,.int)]) (.agg [aI x,aU s]) (.agg [aI y,aU r])=some (decide (x=y/\s=r)):=by
 by_cases h1:x=y
 .by_cases h2:s=r;·simp[eA,eA.go,uo,fQ,h1,h2]
  have e:((s:Int)==(r:Int))=false:=by rw[beq_eq_false_iff_ne];omega
  simp[eA,eA.go,uo,fQ,h1,h2,e]
 have e:(x==y)=false:=by rw[beq_eq_false_iff_ne];exact h1
 simp[eA,eA.go,uo,fQ,h1,e]
theorem Dd{a:Type}{l:List a}{k:Nat}{d:a}(h:k<l.length):l.getD k d∈l:=by rw[bF h];exact agB h
theorem aev(T:Tb ac){H:ai}{l m:List bV}{v w:AV}(n:mh H l v)(o:mh H m w)(hl:l.length<=1000){K:KT}(a:∀b:Bool,(b=true↔l=m)->K (.bool b) H):YN ac N0 [v,w] H K:=by
 have⟨hd,_,_,z⟩:=n.all;have⟨u,_,_,x⟩:=o.all;refine YF.code T.acv aB ?_;refine au ?_;refine Ru.cond (λh=>?_) (λh=>?_);·refine au ?_;exact Ru.aV (a false ⟨λh=>(by cases h),λe=>absurd (by rw[e]) h⟩)
 have d:l.length=m.length:=by simpa using h
 refine au ?_;refine Ru.nm λS M s p=>?_;refine Ru.cC p (up (P:=λk=>(∀j(h:j<l.length)(A:j<m.length),j<k->l[j]=m[j])->Ru ac _ S ([(aX,aN k)]++pk M [p0,p1,aR,aY]) H) l.length (λk B t q=>?_) 0 af (λj _ _ hj=>by omega));subst s;subst p;refine Ru.loop ?_;refine au ?_;refine Ru.cond (λf=>?_) (λf=>?_)
 .refine au ?_;refine RO.cZ (bm.refl H) (mh.r n) λC o1 c1 _ g _ hat hrd=>?_;subst g;refine ah ?_;refine RO.cZ (bm.refl H) (mh.r o) λD o2 c2 y i _ hat hrd=>?_;subst i;refine ah ?_;refine RO.eq ?_ (ht:=aeu _ _ _ _);refine ah ?_;have he:(l[k].1=m[k].1/\l[k].2=m[k].2)↔l[k]=m[k]:=⟨λh=>Prod.ext h.1 h.2,λh=>by rw[h];exact⟨rfl,rfl⟩⟩;refine Ru.kN (λh=>?_) (λh=>?_)
  .have h:¬(l[k].1=m[k].1/\l[k].2=m[k].2):=λc=>by rw[decide_eq_true c]at h;simp at h
   refine ah ?_;exact Ru.aV (a false ⟨λh=>(by cases h),λe=>absurd (he.2 (by simp only[e])) h⟩)
  have h:l[k].1=m[k].1/\l[k].2=m[k].2:=akx λc=>by rw[decide_eq_false c]at h;simp at h
  refine ah ?_;exact Ru.wk (t (k+1) af af λj h1 h2 hj=>by
   by_cases e:j=k;·subst e;exact he.1 h
   exact q j h1 h2 af)
 refine Ru.exitTo ?_;refine au ?_;exact Ru.aV (a true ⟨λ_=>alg d λj h1 h2=>q j h1 h2 af,λ_=>rfl⟩)
inductive lN(g:G.bu):Nat->List bV->Prop
 |zero:lN g 0 []
 |step{b:Nat}{o:List bV}{w:Int×List bV}(h:lN g b o)(hw:w∈cS g b o):lN g w.1.toNat w.2
structure jm(g:G.bu):Prop where
 E1:∀{b o o'},lN g b o->lN g b o'->o=o'
 CP:∀{b o},lN g b o->∀w∈cS g b o,0<=w.1/\w.1<g.al.length
 aH:∀{b o},lN g b o->Jj g b
 jY:∀{b o},lN g b o->CO g o/\o.length<=900
structure kW(g:G.bu):Prop where
 ne:0<g.al.length
 t3:∀b,b<g.al.length->(g.al.getD b default).aA.op=67->(g.al.getD b default).aA.go.length=3
 rg:∀b,b<g.al.length->∀e∈(g.al.getD b default).aA.go,1<=e.block/\e.block<g.al.length
theorem yD{g:G.bu}(d:kW g){b:Nat}(hb:b<g.al.length){o:List bV}(f:CO g o):∀w∈cS g b o,(1<=w.1/\w.1<g.al.length)/\CO g w.2/\w.2.length<=o.length+1:=by
 intro w a;simp only[cS]at a;split at a
 .rename_i i;have h3:=d.t3 b hb i;have h:CO g (o++[((b:Int),0)])/\CO g (o++[((b:Int),1)]):=by
   constructor<;>refine⟨λx c=>?_⟩<;>rcases ahp.1 c with c|c;·exact f.ok x c
   .rw[aep]at c;subst c;exact⟨aB,by simpa using hb,by simpa using h3⟩
   .exact f.ok x c
   rw[aep]at c;subst c;exact⟨aB,by simpa using hb,by simpa using h3⟩
  have j:=d.rg b hb ((g.al.getD b default).aA.go.getD 0 default) (Dd af);have e1:=d.rg b hb ((g.al.getD b default).aA.go.getD 1 default) (Dd af);rcases aeV.1 a with rfl|a;·exact⟨j,h.1,aB⟩
  rw[aep]at a;subst a;exact⟨e1,h.2,aB⟩
 split at a
 .split at a;·rename_i x c;rw[aep]at a;subst a;obtain⟨h1,h2,h3⟩:=f.ok x (List.mem_of_getLast? c);refine⟨d.rg x.1.toNat af _ (Dd af),⟨λy k=>f.ok y (List.mem_of_mem_take k)⟩,by simp;omega⟩
  cases a
 obtain⟨e,he,rfl⟩:=akk.1 a;exact⟨d.rg b hb e he,f,aB⟩
theorem lN.ok{g:G.bu}(a:kW g){b:Nat}{o:List bV}(h:lN g b o):b<g.al.length/\CO g o:=by induction h with|zero=>exact⟨a.ne,⟨λx d=>(by cases d)⟩⟩|step _ e c=>obtain⟨⟨h1,h2⟩,h3,_⟩:=yD a c.1 c.2 _ e;exact⟨af,h3⟩
theorem lN.nil{g:G.bu}(a:kW g){b:Nat}{o:List bV}(h:lN g b o)(hb:b=0):o=[]:=by cases h with|zero=>rfl|step h c=>obtain⟨h3,d⟩:=h.ok a;have:=(yD a h3 d _ c).1;omega
theorem lN.CC{g:G.bu}(a:kW g){b:Nat}{o:List bV}(h:lN g b o):Jj g b:=⟨(h.ok a).1,a.t3 b (h.ok a).1⟩
def lr(a:List Bool):Nat:=(a.filter λb=>!b).length
theorem wS{come:List Bool}{k:Nat}(b:k<come.length)(h:come.getD k false=false):lr (come.set k true)+1=lr come:=by unfold lr;induction come generalizing k with|nil=>simp at b|cons a l c=>cases k with|zero=>simp only[List.getD_cons_zero]at h;subst h;simp|succ k=>have:=c (k:=k) (by simpa using b) (by simpa using h);cases a<;>simp<;>omega
structure lO(g:G.bu)(n:Nat)(F:List Th)(come:List Bool)(os:List (List bV))(svs:List AV)(todo:List Nat)(now:Option Nat)(wr:Bool):Prop where
 cl:come.length=n
 ol:os.length=n
 sl:svs.length=n
 c0:come.getD 0 false=true
 dO:∀b,come.getD b false=true->lN g b (os.getD b [])
 td:∀b∈todo,come.getD b false=true
 fz:∀b,come.getD b false=true->tR 2 (jl (os.getD b [])) (os.getD b []).length (svs.getD b .co)∈F
 nz:∀b,b<n->come.getD b false=false->os.getD b []=[]/\svs.getD b .co=.aS
 jx:∀b,come.getD b false=true->(os.getD b []).length+lr come<n
 dn:∀b,come.getD b false=true->b∈todo\/now=some b\/∀w∈cS g b (os.getD b []),come.getD w.1.toNat false=true/\(wr=false->os.getD w.1.toNat []=w.2)
 df:wr=true->∃b o o',lN g b o/\lN g b o'/\o≠o'
theorem E2{b:Type}{l:List b}{k:Nat}{d v:b}(h:l.getD k d=v)(a:d≠v):k<l.length:=by
 rcases akW k l.length with h1|h1;·exact h1
 rw[akm,List.getElem?_eq_none h1]at h;exact absurd h a
theorem fu{a:Type}{l:List a}{k j:Nat}{d v:a}(b:k<l.length):(l.set k v).getD j d=if j=k then v else l.getD j d:=by
 simp only[akm,List.getElem?_set];by_cases h:k=j;·subst h;simp[b]
 rw[aq h,aq λe=>h e.symm]
theorem lO.new{g:G.bu}{n:Nat}{F:List Th}{a:List Bool}{os:List (List bV)}{c:List AV}{d:List Nat}{f:Option Nat}{wr:Bool}(h:lO g n F a os c d f wr){k:Nat}(L:k<n)(r:a.getD k false=false){o:List bV}(hl:lN g k o)(M:o.length+lr a<n+1){v:AV}{m:List Th}(x:∀t∈F,t∈m)(y:tR 2 (jl o) o.length v∈m):lO g n m (a.set k true) (os.set k o) (c.set k v) (d++[k]) f wr:=by
 obtain⟨h1,h2,h3,z,A,B,C,D,p,E,q⟩:=h;have K:=wS af r;have e1:∀j,(a.set k true).getD j false=if j=k then true else a.getD j false:=λj=>fu af;have e2:∀j,(os.set k o).getD j []=if j=k then o else os.getD j []:=λj=>fu af;have s:∀j,(c.set k v).getD j .co=if j=k then v else c.getD j .co:=λj=>fu af;have H:∀j,a.getD j false=true->j≠k:=λj hj e=>by rw[e,r]at hj;cases hj
 refine⟨by simpa using h1,by simpa using h2,by simpa using h3,?_,λb hb=>?_,λb hb=>?_,λb hb=>?_,λb hb l=>?_,λb hb=>?_,λb hb=>?_,q⟩
 .rw[e1];split;·rfl
  exact z
 .rw[e1]at hb;rw[e2];split;·rename_i e;rw[e];exact hl
  rename_i e;rw[aq e]at hb;exact A b hb
 .rw[e1];rcases ahp.1 hb with hb|hb
  .split;·rfl
   exact B b hb
  rw[aep]at hb;rw[aK hb]
 .rw[e1]at hb;rw[e2,s];split;·exact y
  rename_i e;rw[aq e]at hb;exact x _ (C b hb)
 .rw[e1]at l;split at l;·cases l
  rename_i e;rw[e2,s,aq e,aq e];exact D b hb l
 .rw[e1]at hb;rw[e2];split;·omega
  rename_i e;rw[aq e]at hb;have:=p b hb;omega
 rw[e1]at hb;split at hb;·rename_i e;left;rw[e];simp
 rename_i e;rw[e2,aq e];rcases E b hb with h|h|h;·exact .inl (akf _ h)
 .exact .inr (.inl h)
 refine .inr (.inr λw I=>?_);obtain⟨u,J⟩:=h w I;have i:=H _ u;rw[e1,e2,aq i,aq i];exact⟨u,J⟩
theorem lO.tQ{g:G.bu}{n:Nat}{F:List Th}{a:List Bool}{os:List (List bV)}{d:List AV}{c:List Nat}{f:Option Nat}{wr:Bool}(h:lO g n F a os d c f wr)(hd:∃b o i,lN g b o/\lN g b i/\o≠i):lO g n F a os d c f true:={h with dn:=λb hb=>(h.dn b hb).imp id (Or.imp id λh w j=>⟨(h w j).1,λe=>(by cases e)⟩),df:=λ_=>hd}
section
theorem aew{b w:List bV}{nv v:AV}(j:∀H,mh H b nv->mh H w v){H:ai}{f:List ab}(I:(tR 2 (jl b) b.length nv).P H f):(tR 2 (jl w) w.length v).P H f:=by
 obtain⟨h1,h2,h3⟩:=I;refine⟨j H h1,λi o m c e E=>?_,h3⟩;apply akx;intro hi;have G:mh (H.set i .none) b nv:=by
  rcases h1 with I|⟨n,u,cap,ex,x,A,C,k,aM,fz,g,l,D⟩;·exact .inl I
  have t:n≠i:=λe=>hi (e▸h2 _ _ _ _ _ g);exact .inr ⟨n,u,cap,ex,x,A,C,k,aM,fz,g,by rw[ai.aF,aq t];exact l,D⟩
 have g:=j _ G;subst E;rcases g with⟨I,_⟩|⟨n,u,cap,ex,x,A,C,k,aM,fz,g,l,D⟩;·cases I
 injection g with g;subst g;rw[ai.aF,aK rfl]at l;cases l
section
variable{g:G.bu}{p r:AV}{h y z s q:ab}{n:Nat}{A H:ai}{us F:List Th}{come:List Bool}{os:List (List bV)}{a:List AV}{d:List Nat}{B:Option Nat}{wr:Bool}
def Jl(g:G.bu)(p:AV)(h s q:ab)(n:Nat)(come:List Bool)(a:List AV)(F:List Th)(wr:Bool):List Th:=[tB V' h [.str g.name,aI g.params,aI g.bp,p,.slice s 0 n n true,.slice q 0 n n true,.bool wr],tS Ij 1 a n true (.slice q 0 n n true),tS 4 1 (come.map .bool) n true (.slice s 0 n n true),tZ F]
def vA(g:G.bu)(p:AV)(z y h s q:ab)(n:Nat)(come:List Bool)(a:List AV)(d:List Nat)(r:AV)(F:List Th)(wr:Bool):List Th:=tB eH z [r]::tU 3 (d.map aN) r::tB mE y [.az h 0]::Jl g p h s q n come a F wr
theorem aex(U:aj A H (vA g p z y h s q n come a d r F wr++us))(c:lO g n F come os a d B wr):yP H h p os a:=by
 have j:bh H h 3=some p:=by obtain⟨_,i⟩:=U.get 3 rfl;exact tB.cell i rfl
 have k:bh H h 5=some (.slice q 0 n n true):=by obtain⟨_,i⟩:=U.get 3 rfl;exact tB.cell i rfl
 have l:h.an<H.next.an:=by obtain⟨_,i⟩:=U.get 3 rfl;obtain⟨_,_,_,_,_,t⟩:=i;exact t
 refine⟨l,j,⟨_,k,by rw[c.ol];exact U.sl 4⟩,by rw[c.sl,c.ol],λb hb=>?_⟩;have m:b<n:=by rw[<-c.ol];exact hb
 have e:os.getD b []=os[b]:=bF hb _;cases o:come.getD b false with|true=>obtain⟨f,t,_⟩:=U.mf 6 rfl (c.fz b o);rw[e]at t;exact t|false=>obtain⟨h1,h2⟩:=c.nz b m o;rw[e]at h1;rw[h1,h2];exact .inl ⟨rfl,rfl,rfl⟩
def Jn(g:G.bu)(p:AV)(z y h s q:ab)(n:Nat)(b:Nat)(c:List bV)(nv:AV)(m k:Nat)(e:List Th):Prop:=
 ∃come os a d r F wr,e=vA g p z y h s q n come a d r F wr/\lO g n F come os a d (some b) wr/\come.getD b false=true/\os.getD b []=c/\a.getD b .co=nv/\d.length+lr come=m/\∀w∈(cS g b c).take k,come.getD w.1.toNat false=true/\(wr=false->os.getD w.1.toNat []=w.2)
theorem lO.pop{b:Nat}(t:lO g n F come os a (b::d) none wr):lO g n F come os a d (some b) wr:=by
 obtain⟨h1,h2,h3,i,j,k,l,m,e,o,f⟩:=t;refine⟨h1,h2,h3,i,j,λx c=>k x (aey _ c),l,m,e,λx c=>?_,f⟩;rcases o x c with t|t|t
 .rcases aeV.1 t with rfl|t;·exact .inr (.inl rfl)
  exact .inl t
 .cases t
 exact .inr (.inr t)
theorem lO.done{b:Nat}(u:lO g n F come os a d (some b) wr)(f:∀w∈cS g b (os.getD b []),come.getD w.1.toNat false=true/\(wr=false->os.getD w.1.toNat []=w.2)):lO g n F come os a d none wr:=by
 obtain⟨h1,h2,h3,i,j,k,l,m,c,o,e⟩:=u;refine⟨h1,h2,h3,i,j,k,l,m,c,λx t=>?_,e⟩;rcases o x t with u|u|u;·exact .inl u
 .injection u with u;subst u;exact .inr (.inr f)
 exact .inr (.inr u)
theorem lO.Jo{F':List Th}(e:lO g n F come os a d B wr)(c:∀t∈F,t∈F'):lO g n F' come os a d B wr:={e with fz:=λb hb=>c _ (e.fz b hb)}
theorem aez{b k:Nat}{c:List bV}{nv:AV}{args:List AV}{i:List Th}(l:lO g n F come os a d (some b) wr)(hb:come.getD b false=true)(m:os.getD b []=c)(o:a.getD b .co=nv)(t:Ji (cS g b c) c nv k args i)(U:aj A H (i++vA g p z y h s q n come a d r F wr++us)):∃(I:k<(cS g b c).length)(v:AV),args=[aI (cS g b c)[k].1,v]/\v.bB=true/\v.ee=true/\v.cells=[v]/\aj A H (vA g p z y h s q n come a d r (tR 2 (jl (cS g b c)[k].2) (cS g b c)[k].2.length v::F) wr++us):=by
 obtain⟨u,v,w,h1,h2,h3,x⟩:=t;refine⟨u,v,w,h1,h2,h3,?_⟩;rcases x with⟨rfl,e⟩|rfl;·have j:=l.fz b hb;rw[m,o]at j;have hl:=(U.gk 6 rfl).OO j (t':=tR 2 (jl (cS g b c)[k].2) (cS g b c)[k].2.length v) λf I=>aew e I;exact hl.cM (akj (l₁:=[_,_,_,_,_,_])).symm
 have C:=U.as 0 rfl λG D=>tS.mg D;have E:aj A H (_::tZ F::([tB eH z [r],tU 3 (d.map aN) r,tB mE y [.az h 0],_,_,_]++us)):=C.cM (akO _ (akj (l₁:=[_,_,_,_,_,_])));exact E.lq.cM (akj (l₁:=[_,_,_,_,_,_])).symm
def Pf:bt:=(.seq (.region [O p6 (.bg (T bZ))]) (.region [O p7 (.bg (T dl))]))
def Pg:bt:=(.block 3 (.block 4 (.seq (.region [O du (.aW (T p3)),O dw (.nilCheck (T du)),O dg (.j6 4 (T dw)),O da (.aW (T dg)),O dj (.bg (T p6)),O dq (.dG 1 (T da) (T dj)),O dA (.aW (T dq)),O dt (.unary .not (T dA)),O dh (.bg (T dt))]) (.cond (T dh) (.seq (.region [O cJ (.aW (T p3)),O dB (.nilCheck (T cJ)),O dH (.j6 4 (T dB)),O dX (.aW (T dH)),O dM (.bg (T p6)),O dk (.aW (T p3)),O cR (.nilCheck (T dk)),O dY (.j6 5 (T cR)),O dZ (.aW (T dY)),O dR (.bg (T p6)),O eM (.bg (T p7)),O d9 (.dG 1 (T dX) (T dM)),N (.store 1 (T d9) (C (.bool true))),O eI (.dG 1 (T dZ) (T dR)),N (.store 1 (T eI) (T eM))]) (.region [O eN (.aW (T p4)),O eg (.bg (T p6)),O ep (.buildSlice 3 1 [(i 3 0)] [(0,1,(T eg))]),O fy (.append 3 8 1 [(i 3 0)] false (T eN) (T ep)),N (.store 1 (T p4) (T fy))])) (.seq (.region [O fg (.aW (T p3)),O eO (.nilCheck (T fg)),O gp (.j6 5 (T eO)),O eJ (.aW (T gp)),O fJ (.bg (T p6)),O fU (.dG 1 (T eJ) (T fJ)),O gf (.aW (T fU)),O fK (.bg (T p7)),O eR (.call (C (.func N0 [] [])) [(T gf),(T fK)]),O fV (.unary .not (T eR)),O fS (.bg (T fV))]) (.cond (T fS) (.region [O ff (.aW (T p3)),O fL (.nilCheck (T ff)),O fW (.j6 6 (T fL)),N (.store 1 (T fW) (C (.bool true)))]) .skip))))))
theorem aeA(T:Tb ac)(hB:G.Sm g)(W:kW g)(a4:n<=900){b k:Nat}{c:List bV}{nv:AV}{m:Nat}(a5:n=g.al.length)(hm:m<=n){args:List AV}{ws ts:List Th}{l:ab}{o1 o2:cq}{fv:AV}{Dn:cP->List Th->Prop}(hk:k<(cS g b c).length)(X:Ji (cS g b c) c nv k args ws)(hJ:Jn g p z y h s q n b c nv m k ts)(U:aj A H (ws++ts++tX l o1::us)):Ru ac (EV ac l o1 o2 Pg (yJ A l o2 us (Jn g p z y h s q n b c nv m (k+1)) Dn)) [.code Pf] (AT [bZ,dl] args [(cD,fv),(p3,.az y 0),(p4,.az z 0)]) H:=by
 obtain⟨come,os,a,d,r,F,wr,rfl,o,I,hn,hv,P,Y⟩:=hJ;have a6:=hB.nb;obtain⟨_,v,rfl,a8,a9,a',U⟩:=aez o I hn hv X U;have x:=o.dO b I;rw[hn]at x;have Q:(cS g b c)[k]∈cS g b c:=agB hk;obtain⟨⟨ba,bb⟩,_,bc⟩:=yD W (x.ok W).1 (x.ok W).2 _ Q;have Z:=o.jx b I;rw[hn]at Z;have K:=lN.step x Q;obtain⟨t,N⟩:∃t:Nat,(cS g b c)[k].1=(t:Int):=⟨(cS g b c)[k].1.toNat,af⟩;have ag:t<n:=af;have av:(cS g b c).take (k+1)=(cS g b c).take k++[(cS g b c)[k]]:=by rw[akd]
 rw[N,aj3]at K;generalize aw:(cS g b c)[k].2=C at*;have o:=o.Jo (F':=tR 2 (jl C) C.length v::F) λt N=>aey _ N;have R:tR 2 (jl C) C.length v∈tR 2 (jl C) C.length v::F:=aeU .. ;generalize tR 2 (jl C) C.length v::F=O at*;have ax:=o.cl;have ay:=o.sl;have L:∀(i:List Bool)(D:List (List bV))(E:Bool),(∀j,come.getD j false=true->i.getD j false=true/\D.getD j []=os.getD j [])->(E=false->wr=false)->i.getD t false=true->(E=false->D.getD t []=C)->∀w∈(cS g b c).take (k+1),i.getD w.1.toNat false=true/\(E=false->D.getD w.1.toNat []=w.2):=λi D E h1 h2 h3 h4 w J=>by
  rw[av]at J;rcases ahp.1 J with J|J;·obtain⟨a2,a3⟩:=Y w J;obtain⟨b1,b2⟩:=h1 _ a2;exact⟨b1,λe=>by rw[b2];exact a3 (h2 e)⟩
  rw[aep]at J;subst J;rw[N,aj3,aw];exact⟨h3,h4⟩
 rw[N];unfold Pf;refine au ?_;refine Ru.dN U λH2 U=>?_;unfold Pg;refine ah ?_;cases f:come.getD t false with
 |false=>
  refine RO.fD U 5 (v:=.bool false) (hv:=by rw[qR false af,f]) ?_;have bd:=wS (k:=t) af f;have M:b≠t:=λe=>by rw[e,f]at I;cases I
  refine ah ?_;refine RO.lC U 5 true ax (λH3 U=>?_) (k:=t);refine ah ?_;refine RO.yK U 4 ay (λH4 U=>?_) (k:=t);refine ah ?_;refine RO.aef U 1 (aN t) (λu H5 S U bv b0 b3=>?_) (hb:=by simp only[akg];omega) (hn:=by simp only[akg];omega);refine RO.gG U 0 (λH6 U=>?_);refine ah ?_;refine Ru.bG (ts:=vA g p z y h s q n (come.set t true) (a.set t v) (d++[t]) S O wr) (by simpa[vA,Jl]using U) ⟨come.set t true,os.set t C,a.set t v,d++[t],S,O,wr,rfl,o.new ag f K af (λ_ b6=>b6) R,?_,?_,?_,?_,?_⟩;·rw[fu af,aq M];exact I
  .rw[fu (by rw[o.ol];omega),aq M];exact hn
  .rw[fu af,aq M];exact hv
  .rw[aj8,akC];omega
  refine L _ _ wr (λj hj=>?_) id ?_ (λ_=>?_)
  .have V:j≠t:=λe=>by rw[e,f]at hj;cases hj
   rw[fu af,aq V,fu (by rw[o.ol];omega),aq V];exact⟨hj,rfl⟩
  .rw[fu af,aK rfl]
  rw[fu (by rw[o.ol];omega),aK rfl]
 |true=>
  refine RO.fD U 5 (v:=.bool true) (hv:=by rw[qR false af,f]) ?_;have a0:=o.dO t f;have a1:a[0+t*1]?=some (a.getD t .co):=by rw[show 0+t*1=t by omega,bF af];simp
  refine ah ?_;have⟨f8,h8,_⟩:=U.mf 6 rfl (o.fz t f);have⟨f9,h9,_⟩:=U.mf 6 rfl R;have⟨b4,_,_,_⟩:=h8.all;have b5:=o.jx t f;refine RO.fD U 4 (hv:=a1) ?_;refine ah ?_;refine RO.cl (aev T h8 h9 af λb7 h7=>?_);cases b7 with|true=>refine ah ?_;exact Ru.bG U ⟨come,os,a,d,r,O,wr,rfl,o,I,hn,hv,P,L _ _ wr (λ_ b6=>⟨b6,rfl⟩) id f λ_=>h7.1 rfl⟩|false=>refine ah ?_;refine RO.gG U 3 (λH3 U=>?_);refine ah ?_;refine Ru.bG (ts:=vA g p z y h s q n come a d r O true) (by simpa[vA,Jl]using U) ⟨come,os,a,d,r,O,true,rfl,o.tQ ⟨t,_,_,a0,K,λe=>by have:=h7.2 e;cases this⟩,I,hn,hv,P,L _ _ true (λ_ b6=>⟨b6,rfl⟩) (λe=>by cases e) f λe=>(by cases e)⟩
end
end
section
theorem dn{P:Nat->Prop}(b:∀k,(∀j,j<k->P j)->P k)(k:Nat):P k:=Nat.strongRecOn k b
theorem E3:∀n,lr (ahr n false)=n|0=>rfl|n+1=>by have:=E3 n;simp only[lr,List.replicate_succ]at*;simp[this]
theorem lO.zero{g:G.bu}{n:Nat}(m:0<n)(F:List Th)(l:tR 2 (jl []) 0 .aS∈F):lO g n F ((ahr n false).set 0 true) (ahr n []) (ahr n .aS) [0] none false:=by
 have f:∀b,(ahr n ([]:List bV)).getD b []=[]:=λb=>by simp[akm,ak8];split<;>rfl
 have j:∀b,((ahr n false).set 0 true).getD b false=true->b=0:=λb hb=>by
  rw[fu (by simpa using m)]at hb;split at hb;·assumption
  simp[akm,ak8]at hb;split at hb<;>cases hb
 refine⟨aB,aB,aB,by rw[fu (by simpa using m),aK rfl],λb hb=>?_,λb hb=>?_,λb hb=>?_,λb hb _=>⟨f b,?_⟩,λb hb=>?_,λb hb=>?_,λm=>(by cases m)⟩;·rw[j b hb,f];exact .zero
 .rw[aep]at hb;subst hb;rw[fu (by simpa using m),aK rfl]
 .rw[j b hb,f,bF (by simpa using m)];simpa using l
 .rw[bF (by simpa using hb)];simp
 .have k:=wS (come:=ahr n false) (k:=0) (by simpa using m) (by rw[bF (by simpa using m)];simp);rw[E3]at k;rw[f];simp only[List.length_nil];omega
 rw[j b hb];exact .inl (aep.2 rfl)
section
variable{g:G.bu}{a h:AV}{c i o d e:ab}{A H:ai}{us F:List Th}
theorem aeB(T:Tb ac)(O:G.Sm g)(L:kW g)(R:g.al.length<=900){cs:List AV}(hg:iG H g cs){K:KT}(hK:∀y c d e come os p a F us wr,dV 7 kj H g.al a->lO g g.al.length F come os p [] none wr->aj H y (Jl g a c d e g.al.length come p F wr++us)->K (.az c 0) y):YN ac NW [.agg cs] H K:=by
 have ay:=hg.one;obtain⟨a,rfl,cA⟩:=hg;have⟨hd,_,_,N⟩:=cA.all;have a1:=O.nb;have u:=L.ne;refine YF.code T.acd aB ?_;refine au ?_;refine RO.dL (aj.dc H) λH1 q U=>?_;have U:=(U.py Ii 2).as 0 rfl λfp hp=>tS.mg hp;have U:=U.rl.cM (akS ..);have U:=U.lq;refine ah ?_;refine RO.eQ U 1 ?_;refine ah ?_;refine RO.oT U (n:=g.al.length) (λH2 d U=>?_) (hz:=by rw[iZ];simp);refine au ?_;refine RO.aec U 2 0 (λH3 U=>?_);refine ah ?_;refine RO.oT U (n:=g.al.length) (λH4 e U=>?_) (hz:=by rw[iZ];simp);have er:fO [AV.bool false] g.al.length=(ahr g.al.length false).map .bool:=by rw[iZ,alz]
 rw[er,iZ]at U;refine au ?_;refine RO.dL U (λH5 c U=>?_) (v:=.agg [.str g.name,aI g.params,aI g.bp,a,.slice d 0 g.al.length g.al.length true,.slice e 0 g.al.length g.al.length true,.bool false]);refine ah ?_;refine RO.fx U λH6 i U=>?_;refine ah ?_;refine RO.lC U 3 true (ak9 ..) (λH7 U=>?_) (k:=0) (ho:=by rw[ak9];exact u);refine ah ?_;refine RO.lf U 1 (λH8 qt U=>?_) (n:=1) (ws:=[aN 0]);refine RO.fx U λH9 o U=>?_;have U:=U.toU 1 rfl;refine ah ?_;refine Ru.nm λS M hS hM=>?_;refine Ru.cC hM (dn (P:=λm=>∀P C come os p n h F wr,n.length+lr come=m->m<=g.al.length->lO g g.al.length F come os p n none wr->aj H P (vA g a o i c d e g.al.length come p n h F wr++(i9 C++[tB fI q [.str g.name,aI g.params,aI g.bp,a]]))->Ru ac ⟨pu [.tmp p2] K,C,none⟩ S ([]++pk M [p3,p4]) P) (λm ih P C come os p n h F wr V Q t U=>?_) _ H9 [] _ _ _ [0] _ _ false rfl ?_ (lO.zero u _ (aeU ..)) U);rotate_left;·have:=wS (come:=ahr g.al.length false) (k:=0) (by simpa using u) (by rw[bF (by simpa using u)];simp);rw[E3]at this;simp only[akC];omega
 subst hS;subst hM;refine Ru.loop ?_;have⟨a2,_,_,a3⟩:=(U.OS (e:=3) (vs:=n.map aN) (sv:=h) 1).all;refine ah ?_;refine Ru.cond (λz=>?_) (λz=>?_)
 .obtain⟨b,s,rfl⟩:∃b s,n=b::s:=by cases n with|nil=>simp at z|cons b r=>exact⟨b,r,rfl⟩
  simp only[akA]at V;have w:come.getD b false=true:=t.td b (aeU ..);have x:=t.dO b w;have W:=E2 w aB;have t:=t.pop;refine ah ?_;refine RO.vu (bm.refl _) (U.OS 1) (λq5 o5 X _=>?_) (j:=0) (hj:=by simp);refine RO.aW ?_ (hc:=X);refine ah ?_;refine RO.aee U 1 (v:=aN b) (vs:=s.map aN) (λE U h1 h2 h3=>?_);refine RO.gG U 0 (λa4 U=>?_);refine ah ?_;refine RO.cl (Pd T λY q1 q2 hl=>?_);have U:aj H Y ([tB 3 q2 [aN b],tB mE q1 [.az c 0]]++vA g a o i c d e g.al.length come p s E F wr++(i9 C++[tB fI q [.str g.name,aI g.params,aI g.bp,a]])):=U.fC hl;refine ah ?_;refine Ru.wk (L:=[(cD,.func Ez [] [.az q1 0,.az q2 0]),(p3,.az i 0),(p4,.az o 0)]) ?_;refine Ru.pG (J:=Jn g a o i c d e g.al.length b (os.getD b []) (p.getD b .co) (s.length+lr come)) (Dn:=λ_ _=>False) U (Pe T O cA (b:=b) (now:=os.getD b []) (nv:=p.getD b .co) (x.CC L) (x.ok L).2 (by have:=t.jx b w;omega)) (λH2 hg=>⟨os,p,(aex U.tail.tail t).cI hg,by rw[t.ol,<-t.cl];exact W,(bF _ _).symm,rfl⟩) ⟨come,os,p,s,E,F,wr,rfl,t,w,rfl,rfl,rfl,aB⟩ (λk args ws a5=>by obtain⟨_,v,rfl,_⟩:=a5;rfl) (λk ts us H D U=>?_) (λk args ws ts us l o1 o2 H hk Z D U=>aeA T O L R rfl af hk Z D U) (λy ag dm D U=>?_) (λj y ag dm _ a5=>a5.elim);·obtain⟨come,os,p,n,h,F,wr,rfl,t,hc,N,hv,_⟩:=D;have Q:=t.fz b hc;rw[N,hv]at Q;obtain⟨f,a5,_⟩:=U.mf 6 rfl Q;exact a5
  obtain⟨A,av,J,B,aw,F',ax,rfl,t,hc,N,hv,a0,I⟩:=D;rw[ak7]at I;have t:=t.done (by rw[N];exact I);refine ah ?_;exact Ru.wk (ih _ af y (dm::C) A av J B aw F' ax rfl af t U)
 have ht:n=[]:=by cases n with|nil=>rfl|cons b r=>simp at z
 subst ht;refine Ru.exitTo ?_;refine ah ?_;refine Ru.mI (M:=C) (ts:=vA g a o i c d e g.al.length come p [] h F wr++[tB fI q [.str g.name,aI g.params,aI g.bp,a]]) (U.cM ?_) λy U=>⟨[.az c 0],?_,hK y c d e come os p a F [tB fI q [.str g.name,aI g.params,aI g.bp,a]] wr cA t U.tail.tail.tail⟩;·rw[<-aj2,<-aj2];exact akH.append_right _
 exact⟨rfl,rfl,trivial⟩
end
end
section
structure GX(g:G.bu)(H:ai)(xq:ab)(vb cv:AV)(come:List Bool)(os:List (List bV))(svs:List AV):Prop where
 kS:yP H xq vb os svs
 bl:dV 7 kj H g.al vb
 c0:bh H xq 0=some (.str g.name)
 c1:bh H xq 1=some (aI g.params)
 c2:bh H xq 2=some (aI g.bp)
 c4:bh H xq 4=some cv
 c6:bh H xq 6=some (.bool false)
 cm:Sl H 1 (come.map .bool) come.length cv
theorem GX.cI{g:G.bu}{H b:ai}{a:ab}{d h:AV}{come:List Bool}{os:List (List bV)}{c:List AV}(l:GX g H a d h come os c)(hg:bm H b):GX g b a d h come os c:=by have hl:=l.kS.lt;obtain⟨h1,h2,h3,e,f,i,j,k⟩:=l;exact⟨h1.cI hg,dQ.block.jU hg h2,by rw[hg.bh hl];exact h3,by rw[hg.bh hl];exact e,by rw[hg.bh hl];exact f,by rw[hg.bh hl];exact i,by rw[hg.bh hl];exact j,hg.sl k⟩
structure cX(g:G.bu)(come:List Bool)(os:List (List bV)):Prop where
 cl:come.length=g.al.length
 ol:os.length=g.al.length
 c0:come.getD 0 false=true
 dO:∀b,come.getD b false=true->lN g b (os.getD b [])
 dn:∀b,come.getD b false=true->∀w∈cS g b (os.getD b []),come.getD w.1.toNat false=true
theorem lO.D2{g:G.bu}{n:Nat}{F:List Th}{come:List Bool}{os:List (List bV)}{c:List AV}(l:lO g n F come os c [] none false)(e:kW g){b:Nat}{o:List bV}(hl:lN g b o):come.getD b false=true/\os.getD b []=o:=by
 induction hl with
 |zero=>exact⟨l.c0,(l.dO 0 l.c0).nil e rfl⟩
 | @step b o w _ f i=>
  obtain⟨h1,h2⟩:=i;rcases l.dn b h1 with h3|h3|h3;·cases h3
  .cases h3
  obtain⟨j,k⟩:=h3 w (by rw[h2];exact f);exact⟨j,k rfl⟩
theorem lO.ZF{g:G.bu}{F:List Th}{come:List Bool}{os:List (List bV)}{c:List AV}(k:lO g g.al.length F come os c [] none false)(b:kW g)(j:g.al.length<=900):jm g:=⟨λh1 h2=>(k.D2 b h1).2.symm.trans (k.D2 b h2).2,λh1 w e=>(by have:=(yD b (h1.ok b).1 (h1.ok b).2 w e).1;omega),λh1=>h1.CC b,λh1=>⟨(h1.ok b).2,by obtain⟨f,i⟩:=k.D2 b h1;have:=k.jx _ f;rw[i]at this;omega⟩⟩
theorem aeC(T:Tb ac){g:G.bu}{H:ai}(t:G.Sm g)(q:kW g)(l:g.al.length<=900){cs:List AV}(hg:iG H g cs){K:KT}(u:∀i a d h come os c,bm H i->jm g->GX g i a d h come os c->cX g come os->K (.az a 0) i)(x:∀i a,bm H i->a.an<i.next.an->bh i a 6=some (.bool true)->(∃b o r,lN g b o/\lN g b r/\o≠r)->K (.az a 0) i):YN ac NW [.agg cs] H K:=by
 refine aeB T t q l hg λi a s y come os c d F us wr cA j U=>?_;have k:∀(o:Nat)(v:AV),([.str g.name,aI g.params,aI g.bp,d,.slice s 0 g.al.length g.al.length true,.slice y 0 g.al.length g.al.length true,.bool wr]:List AV)[o]?=some v->bh i a o=some v:=λo v A=>by obtain⟨_,p⟩:=U.get 0 rfl;exact tB.cell p A
 have m:a.an<i.next.an:=by obtain⟨_,p⟩:=U.get 0 rfl;obtain⟨_,_,_,_,_,A⟩:=p;exact A
 cases wr with
 |true=>exact x i a U.gr m (k 6 _ rfl) (j.df rfl)
 |false=>
  have n:=j.ol;refine u i a d (.slice s 0 g.al.length g.al.length true) come os c U.gr (j.ZF q l) ⟨⟨m,k 3 _ rfl,⟨_,k 5 _ rfl,by rw[n];exact U.sl 1⟩,by rw[j.sl,n],λb hb=>?_⟩,dQ.block.jU U.gr cA,k 0 _ rfl,k 1 _ rfl,k 2 _ rfl,k 4 _ rfl,k 6 _ rfl,by rw[j.cl];exact U.sl 2⟩ ⟨j.cl,n,j.c0,j.dO,λb hb=>?_⟩;·have e:os.getD b []=os[b]:=bF hb _;cases k:come.getD b false with|true=>obtain⟨f,A,_⟩:=U.mf 3 rfl (j.fz b k);rw[e]at A;exact A|false=>obtain⟨h1,h2⟩:=j.nz b (by rw[<-n];exact hb) k;rw[e]at h1;rw[h1,h2];exact .inl ⟨rfl,rfl,rfl⟩
  rcases j.dn b hb with A|A|A;·cases A
  .cases A
  exact λw z=>(A w z).1
section
variable{g:G.bu}{d h:AV}{a:ab}{H:ai}{come:List Bool}{os:List (List bV)}{c:List AV}
def mK(g:G.bu)(b:Nat)(e:List bV):List Nat:=(cS g b e).map λw=>w.1.toNat
theorem E4{b:Nat}{now:List bV}(e:G.Sm g)(hb:b<g.al.length):(cS g b now).length<=12:=by
 have:=(e.bl _ (agB hb)).2.2.2.2.1;simp only[cS,bF hb];split;·simp
 split;·split<;>simp
 simp;omega
theorem Jp(T:Tb ac)(F:G.Sm g)(n:jm g)(q:GX g H a d h come os c)(r:cX g come os){b:Nat}(hb:come.getD b false=true){K:KT}(X:∀i v,aj H i [tS 3 1 ((mK g b (os.getD b [])).map aN) (mK g b (os.getD b [])).length true v]->K v i):YN ac Xa [.az a 0,aN b] H K:=by
 have f:=r.dO b hb;have x:=E2 hb aB;have m:b<os.length:=by rw[r.ol,<-r.cl];exact x
 have y:∀w∈cS g b (os.getD b []),aI w.1=aN w.1.toNat:=λw N=>by obtain⟨h0,_⟩:=n.CP f w N;obtain⟨t,O⟩:∃t:Nat,w.1=(t:Int):=⟨w.1.toNat,af⟩;rw[O];rfl
 have z:mh H (os.getD b []) (c.getD b .co):=by rw[bF m];exact q.kS.bH b m
 have V:(cS g b (os.getD b [])).length<=100000:=by have:=E4 (now:=os.getD b []) F (n.aH f).lt;omega
 refine YF.code T.ab2 aB ?_;refine au ?_;refine RO.gI (aj.dc H) λH1 s U=>?_;refine au ?_;refine RO.cl (Pd T λu I J hl=>?_);have U:aj H u ([tB 3 J [aN b],tB mE I [.az a 0]]++[tS 3 1 [] 0 true .aS,tB eH s [.aS]]++[]):=(U.py 3 1).fC hl;refine au ?_;refine Ru.wk (L:=[(p8,.func Ez [] [.az I 0,.az J 0]),(p4,.az s 0)]) ?_;refine Ru.pG (J:=λk ts=>∃v,v.bB=true/\v.ee=true/\v.cells=[v]/\ts=[tS 3 1 (((mK g b (os.getD b [])).take k).map aN) k true v,tB eH s [v]]) (Dn:=λ_ _=>False) U (Pe T F q.bl (b:=b) (now:=os.getD b []) (nv:=c.getD b .co) (n.aH f) (n.jY f).1 (by have:=(n.jY f).2;omega)) (λu hg=>⟨os,c,q.kS.cI (U.gr.trans hg),m,(bF m _).symm,rfl⟩) ⟨_,rfl,rfl,rfl,rfl⟩ (λk args ws X=>by obtain⟨_,v,rfl,_⟩:=X;rfl) (λk ts us i p U=>U.gr.sl z) (λk args ws ts us l o1 o2 i W A p U=>?_) (λi B L p U=>?_) (λj i B L _ X=>X.elim)
 .obtain⟨v,hd,h1,P,rfl⟩:=p;obtain⟨o,w,rfl,_⟩:=A;have U:=U.sub ((List.sublist_append_right _ _).append_right _);have Q:=y _ (agB o);rw[Q];refine au ?_;refine Ru.dN U λu U=>?_;refine ah ?_;refine RO.push U 0 (λw i M U=>?_) (ws:=[aN (cS g b (os.getD b []))[k].1.toNat]);have⟨C,D,E,_⟩:=(U.sl (e:=3) (size:=1) (n:=k+1) (full:=true) (sv:=M) 0).all;refine RO.gG U 1 (λR U=>?_);refine ah ?_;refine Ru.bG (ts:=[_,_]) U ⟨M,C,D,E,?_⟩;have e:(mK g b (os.getD b [])).take (k+1)=(mK g b (os.getD b [])).take k++[(cS g b (os.getD b []))[k].1.toNat]:=by rw[List.take_succ];congr 1;rw[mK,aks,akP o];rfl
  rw[e,akE];rfl
 obtain⟨v,hd,h1,P,rfl⟩:=p;have S:(cS g b (os.getD b [])).length=(mK g b (os.getD b [])).length:=by rw[mK,akg]
 rw[S,ak7]at U;refine ah ?_;refine RO.gG U 1 (λR U=>?_);refine ah ?_;refine Ru.mI (M:=[L]) (ts:=[_,_]) (U.cM (akj (l₁:=[_,_]))) λi U=>⟨[v],⟨⟨_,_,rfl,U.one 1⟩,trivial⟩,X i v (U.sub (List.Sublist.cons₂ _ (List.nil_sublist _)))⟩
end
end
end
section
structure kT(W:Nat->List Nat)(P:Nat->Prop)(been been':List Bool)(new:List Nat):Prop where
 len:been'.length=been.length
 bn:∀x,been'.getD x false=true↔been.getD x false=true\/x∈new
 nd:new.Nodup
 fr:∀x∈new,been.getD x false=false
 cl:∀x∈new,∀w∈W x,been'.getD w false=true
 sg:∀cO x post,new=cO++x::post->P x\/∃y∈post,x∈W y
variable{W:Nat->List Nat}{P Q:Nat->Prop}{a b c:List Bool}{d n2:List Nat}{k:Nat}
theorem kT.nil:kT W P a a []:=⟨rfl,λx=>by simp,alD,λ_ h=>by grind,λ_ h=>by grind,λcO x b h=>by simp_all⟩
theorem kT.mono(h:kT W P a b d)(f:∀x,P x->Q x):kT W Q a b d:=⟨h.len,h.bn,h.nd,h.fr,h.cl,λcO x c e=>(h.sg cO x c e).imp_left (f x)⟩
theorem kT.wz(h:kT W P a b d)(h2:kT W P b c n2):kT W P a c (d++n2):=by
 refine⟨h2.len.trans h.len,λx=>?_,akI.2 ⟨h.nd,h2.nd,λx f y i e=>?_⟩,λx f=>?_,λx f w j=>?_,λcO x g e=>?_⟩;·rw[h2.bn,h.bn,ahp,or_assoc]
 .subst e;have h3:=h2.fr x i;rw[(h.bn x).2 (.inr f)]at h3;cases h3
 .rcases ahp.1 f with f|f;·exact h.fr x f
  have h3:=h2.fr x f;cases k:a.getD x false with|false=>rfl|true=>rw[(h.bn x).2 (.inl k)]at h3;cases h3
 .rcases ahp.1 f with f|f;·exact(h2.bn w).2 (.inl (h.cl x f w j))
  exact h2.cl x f w j
 rcases List.append_eq_append_iff.1 e with⟨l,rfl,e2⟩|⟨l,rfl,e2⟩;·exact h2.sg l x g e2
 cases l with
 |nil=>exact h2.sg [] x g (by simpa using e2.symm)
 |cons y l=>
  simp only[akV,akn]at e2;obtain⟨rfl,rfl⟩:=e2;rcases h.sg cO x l rfl with h3|⟨y,i,h3⟩;·exact .inl h3
  exact .inr ⟨y,akf _ i,h3⟩
theorem kT.aA(hb:a.getD k false=false)(m:k<a.length)(h:kT W (·∈W k) (a.set k true) c d)(n:∀w∈W k,c.getD w false=true):kT W (·=k) a c (d++[k]):=by
 have e:∀x,(a.set k true).getD x false=true↔x=k\/a.getD x false=true:=λx=>by
  rw[fu m];by_cases h:x=k;·simp[h]
  simp[h]
 have i:k∉d:=λo=>by have:=h.fr k o;rw[(e k).2 (.inl rfl)]at this;cases this
 refine⟨by rw[h.len];simp,λx=>?_,akI.2 ⟨h.nd,aB,λx b y g e=>?_⟩,λx b=>?_,λx b w f=>?_,λcO x j e=>?_⟩
 .rw[h.bn,e,ahp,aep];constructor
  .rintro((h|h)|h);·exact .inr (.inr h)
   .exact .inl h
   exact .inr (.inl h)
  rintro(h|h|h);·exact .inl (.inr h)
  .exact .inr h
  exact .inl (.inl h)
 .rw[aep]at g;exact i (by rw[<-g,<-e];exact b)
 .rcases ahp.1 b with b|b;·have h3:=h.fr x b;cases p:a.getD x false with|false=>rfl|true=>rw[(e x).2 (.inr p)]at h3;cases h3
  rw[aep]at b;subst b;exact hb
 .rcases ahp.1 b with b|b;·exact h.cl x b w f
  rw[aep]at b;subst b;exact n w f
 rcases List.append_eq_append_iff.1 e with⟨l,rfl,e2⟩|⟨l,rfl,e2⟩;·cases l with|nil=>simp only[ak0,akn]at e2;exact .inl e2.1.symm|cons y l=>simp at e2
 cases l with
 |nil=>simp only[ak0,akn]at e2;exact .inl e2.1
 |cons y l=>
  simp only[akV,akn]at e2;obtain⟨rfl,rfl⟩:=e2;rcases h.sg cO x l rfl with h3|⟨y,g,h3⟩;·exact .inr ⟨k,aB,h3⟩
  exact .inr ⟨y,akf _ g,h3⟩
theorem kT.lr(h:kT W P a b d)(g:∀x∈d,x<a.length):d.length+lr b=lr a:=by
 have h1:=h.len;have h2:=h.bn;have h3:=h.nd;have j:=h.fr;clear h;induction d generalizing a with
 |nil=>
  have:b=a:=by apply alg h1;intro i hi hj;have:=h2 i;simp only[aki,or_false]at this;rw[bF hi,bF hj]at this;cases k:b[i]<;>cases m:a[i]<;>simp[k,m]at this⊢
  subst this;simp
 |cons x l n=>
  have f:=g x (aeU ..);have o:=j x (aeU ..);have hs:=wS f o;have e1:∀y,b.getD y false=true↔(a.set x true).getD y false=true\/y∈l:=λy=>by
   rw[h2,fu f,aeV];by_cases h:y=x;·simp[h]
   simp[h]
  have e2:∀y∈l,(a.set x true).getD y false=false:=λy c=>by rw[fu f,aq λe=>(akz.1 h3).1 (by rw[<-e];exact c)];exact j y (aey _ c)
  have p:=n (a:=a.set x true) (λy c=>by simpa using g y (aey _ c)) (by simpa using h1) e1 (akz.1 h3).2 e2;simp only[akA];omega
end
section
variable{ac:Nat->aG}
section
section
variable{g:G.bu}{j l:AV}{h a c d f i:ab}{H:ai}{come:List Bool}{os:List (List bV)}{p:List AV}
def wW(g:G.bu)(os:List (List bV))(b:Nat):List Nat:=mK g b (os.getD b [])
theorem cX.ls(m:cX g come os){b w:Nat}(hb:come.getD b false=true)(e:w∈wW g os b):come.getD w false=true:=by simp only[wW,mK,akk]at e;obtain⟨x,k,rfl⟩:=e;exact m.dn b hb x k
theorem cX.lt(e:cX g come os){b:Nat}(hb:come.getD b false=true):b<g.al.length:=by rw[<-e.cl];exact E2 hb aB
def Ph(a c d f:ab):AV:=.func W9 [] [.az c 0,.az a 0,.az f 0,.az d 0]
def AX(h a c d f i:ab)(n:Nat)(e:List Bool)(b:List Nat)(g:AV):List Th:=[tS 3 1 (b.map aN) b.length true g,tB Wa f [Ph a c d f],tB eH d [g],tB Wb c [.slice i 0 n n true],tB mE a [.az h 0],tS 4 1 (e.map .bool) n true (.slice i 0 n n true)]
theorem aeD(T:Tb ac)(R:G.Sm g)(hE:jm g)(hX:GX g H h j l come os p)(I:cX g come os):∀(m b:Nat)(n:List Bool)(s:List Nat)(E:AV)(F:ai)(us:List Th)(K:KT),lr n<=m->come.getD b false=true->n.length=g.al.length->s.length+lr n<=g.al.length->aj H F (AX h a c d f i g.al.length n s E++us)->(∀H2 y new V ws,kT (wW g os) (·=b) n y new->y.getD b false=true->(∀x∈new,come.getD x false=true)->aj H H2 (AX h a c d f i g.al.length y (s++new) V++(ws++us))->K (iL []) H2)->YF ac (Ph a c d f) [aN b] F K:=by
 intro m;induction m with
 |zero=>intro b n s E F us K hm hb hl ho U a8;have L:=I.lt hb;refine YF.code T.Ox aB ?_;refine ah ?_;cases t:n.getD b false with|true=>refine RO.fD U 5 (v:=.bool true) (hv:=by rw[qR false af,t]) ?_;refine ah ?_;refine Ru.mD (vs:=[]) trivial (a8 F n [] E [] kT.nil t (λ_ a8=>by simp at a8) (by rw[akT];exact U))|false=>have:=wS (k:=b) af t;omega
 |succ m ih=>
  intro b n s E F us K hm hb hl ho U a8;have ay:=R.nb;have L:=I.lt hb;refine YF.code T.Ox aB ?_;refine ah ?_;cases t:n.getD b false with
  |true=>refine RO.fD U 5 (v:=.bool true) (hv:=by rw[qR false af,t]) ?_;refine ah ?_;refine Ru.mD (vs:=[]) trivial (a8 F n [] E [] kT.nil t (λ_ a8=>by simp at a8) (by rw[akT];exact U))
  |false=>
   have a0:=wS (k:=b) af t;have ax:(wW g os b).length<=12:=by have:=E4 (now:=os.getD b []) R L;simpa[wW,mK]using this
   refine RO.fD U 5 (v:=.bool false) (hv:=by rw[qR false af,t]) ?_;refine ah ?_;refine RO.lC U 5 true hl (λH3 U=>?_) (k:=b);refine ah ?_;refine RO.cl (Jp T R hE (hX.cI U.gr) I hb λH4 v N=>?_);have U:=U.fC N;change aj H H4 ([tS 3 1 ((wW g os b).map aN) (wW g os b).length true v]++(AX h a c d f i g.al.length (n.set b true) s E++us))at U;have U:=aj.gF (xs:=[_]) (by rw[aj2];exact U);have⟨a1,_,_,a2⟩:=(N.sl (e:=3) (size:=1) (sv:=v) (vs:=(wW g os b).map aN) (n:=(wW g os b).length) (full:=true) 0).all;refine ah ?_;refine Ru.nm λS M hS hM=>?_;refine Ru.cC hM (up (P:=λk=>∀J r new C ws,kT (wW g os) (·∈wW g os b) (n.set b true) r new->(∀x∈new,come.getD x false=true)->(∀w∈(wW g os b).take k,r.getD w false=true)->aj H J (AX h a c d f i g.al.length r (s++new) C++(tS 3 1 ((wW g os b).map aN) (wW g os b).length true v::(ws++us)))->Ru ac _ S ([(bJ,aN k)]++pk M [p0,p3,p4,aZ,br]) J) (wW g os b).length (λk hk W J r new C ws Q hc hw U=>?_) 0 af _ _ [] _ [] kT.nil (λ_ a8=>by simp at a8) (λ_ a8=>by simp at a8) (by rw[akT];exact U));have a3:=Q.lr λx z=>by rw[ak4,hl];exact I.lt (hc x z)
   have X:r.length=g.al.length:=by rw[Q.len,ak4,hl]
   subst hS;subst hM;refine Ru.loop ?_;refine au ?_;refine Ru.cond (λY=>?_) (λY=>?_)
   .refine ah ?_;refine RO.lg (bm.refl J) (U.sl (e:=3) (size:=1) (sv:=v) (vs:=(wW g os b).map aN) (n:=(wW g os b).length) (full:=true) 6) (λq o hj Z=>?_);refine RO.aW ?_ (hc:=Z);refine ah ?_;refine RO.cl (ih ((wW g os b)[k]) r (s++new) C J _ _ af (I.ls hb (agB hj)) X (by rw[aj8];omega) U λH5 A B ag D O av aw U=>?_);refine ah ?_;have g1:∀x∈new++B,come.getD x false=true:=λx z=>by
     rcases ahp.1 z with z|z;·exact hc x z
     exact aw x z
    have g2:∀w∈(wW g os b).take (k+1),A.getD w false=true:=λw u=>by
     rw[List.take_succ,akP hj]at u;rcases ahp.1 u with u|u;·exact(O.bn w).2 (.inl (hw w u))
     simp at u;rw[u];exact av
    have U:=U.cM (List.Perm.append_left _ (akj (l₁:=D)));rw[aj2 s,<-aj2 D]at U;exact Ru.wk (W (k+1) af af H5 A (new++B) ag (D++ws) (Q.wz (O.mono λx a8=>by rw[a8];exact agB hj)) g1 g2 U)
   refine Ru.exitTo ?_;refine ah ?_;refine RO.push U 0 (λw H6 v2 U=>?_) (ws:=[aN b]) (hb:=by rw[aj8];omega) (hn:=by rw[aj8];omega);have⟨a4,a5,a6,_⟩:=(U.sl (e:=3) (size:=1) (n:=(s++new).length+1) (full:=true) (sv:=v2) 0).all;refine RO.gG U 2 (λH7 U=>?_);refine ah ?_;have P:=kT.aA t af Q (λw u=>hw w (by rw[akl af];exact u));refine Ru.aA (vs:=[]) trivial (a8 H7 r (new++[b]) v2 (tS 3 1 ((wW g os b).map aN) (wW g os b).length true v::ws) P ((P.bn b).2 (.inr aB)) (λx z=>?_) ?_)
   .rcases ahp.1 z with z|z;·exact hc x z
    rw[aep]at z;rw[z];exact hb
   have e:((s++(new++[b])).map aN)=(s++new).map aN++[aN b]:=aB;have e2:(s++(new++[b])).length=(s++new).length+1:=by simp;omega
   simp only[AX,e,e2];exact U
end
end
section
theorem aeE{l:List Nat}{i j x a b:Nat}(hi:i<l.length)(hj:j<l.length):((l.set i a).set j b).getD x 0=if x=j then b else if x=i then a else l.getD x 0:=by grind
theorem aeF(T:Tb ac){A H:ai}{us:List Th}{l:List Nat}{n cap:Nat}{q:ab}{ex:Bool}(o:l.length=n)(h0:0<n)(z:n<1000000)(U:aj A H (tS 3 1 (l.map aN) n true (.slice q 0 n cap ex)::us)){K:KT}(s:∀p,aj A p (tS 3 1 (l.reverse.map aN) n true (.slice q 0 n cap ex)::us)->K (iL []) p):YN ac Xb [.slice q 0 n cap ex] H K:=by
 refine YF.code T.ab3 aB ?_;refine au ?_;refine RO.arith (v:=aN (n - 1)) ?_ (hv:=px (k:=n) af af);refine au ?_;refine Ru.nm λS M t r=>?_;refine Ru.cC r (up (P:=λk=>∀i a,a.length=n->(∀x,x<n->a.getD x 0=if x<k\/n<=x+k then l.getD (n - 1 - x) 0 else l.getD x 0)->aj A i (tS 3 1 (a.map aN) n true (.slice q 0 n cap ex)::us)->Ru ac _ S ([(p2,aN k),(p3,aN (n - 1 - k))]++pk M [p0]) i) (n - 1) (λk B u i a b g U=>?_) 0 af _ l o (λx g=>by rw[aq af]) U);subst t;subst r;refine Ru.loop ?_;refine au ?_;refine Ru.cond (λj=>?_) (λj=>?_)
 .refine tn ?_;refine RO.fD U 0 (hv:=qR 0 af) ?_;refine tn ?_;refine RO.fD U 0 (hv:=qR 0 af) ?_;refine tn ?_;refine RO.lC (f:=aN) U 0 (a.getD (n - 1 - k) 0) b (λC U=>?_) (k:=k);refine tn ?_;refine RO.lC (f:=aN) (zs:=a.set k (a.getD (n - 1 - k) 0)) (n:=n) U 0 (a.getD k 0) (by rw[ak4];exact b) (λv U=>?_) (k:=n - 1 - k) (ho:=by rw[ak4];omega);refine tn ?_;refine RO.arith (v:=aN (n - 1 - (k+1))) ?_ (hv:=by rw[show n - 1 - (k+1)=n - 1 - k - 1 by omega];exact px (k:=n - 1 - k) af af);refine au ?_;have w:∀x,x<n->((a.set k (a.getD (n - 1 - k) 0)).set (n - 1 - k) (a.getD k 0)).getD x 0=if x<k+1\/n<=x+(k+1)then l.getD (n - 1 - x) 0 else l.getD x 0:=λx m=>by
   rw[aeE af af];by_cases h1:x=n - 1 - k;·rw[aK h1,aK af,g k af,aq af,h1];congr 1;omega
   rw[aq h1];by_cases h2:x=k;·rw[aK h2,aK af,g _ af,aq af,h2]
   rw[aq h2,g x m];by_cases h3:x<k\/n<=x+k;·rw[aK h3,aK af]
   rw[aq h3,aq af]
  have y:((a.set k (a.getD (n - 1 - k) 0)).set (n - 1 - k) (a.getD k 0)).length=n:=by simpa using b
  exact Ru.wk (u (k+1) af af v _ y w U)
 refine Ru.exitTo ?_;refine au ?_;have e:a=l.reverse:=by
  apply alg (by simp[b,o]);intro x h1 h2;have h3:=g x af;rw[bF h1]at h3;rw[h3,List.getElem_reverse];split;·rw[bF af];congr 1;omega
  rw[bF af];congr 1;omega
 subst e;exact Ru.aA (vs:=[]) trivial (s _ U)
section
variable{g:G.bu}{d f:AV}{c:ab}{H:ai}{come:List Bool}{os:List (List bV)}{h:List AV}
structure e9(g:G.bu)(come:List Bool)(os:List (List bV))(ak:List Nat):Prop where
 nd:ak.Nodup
 mem:∀b,b∈ak↔come.getD b false=true
 hd:∃rest,ak=0::rest
 aM:∀cO x post,ak=cO++x::post->x=0\/∃y∈cO,x∈wW g os y
theorem kT.ak(q:jm g)(k:cX g come os){a:List Bool}{n:Nat}{new:List Nat}(t:kT (wW g os) (·=0) (ahr n false) a new)(h0:a.getD 0 false=true)(m:∀x∈new,come.getD x false=true):e9 g come os new.reverse:=by
 have j:∀x,a.getD x false=true↔x∈new:=λx=>by
  rw[t.bn];constructor
  .rintro(t|t);·simp[akm,ak8]at t;split at t<;>cases t
   exact t
  exact .inr
 have hl:∀b o,lN g b o->b∈new:=λb o hl=>by induction hl with|zero=>exact(j 0).1 h0| @step b o w hb r p=>have e:=q.E1 hb (k.dO b (m b p));refine(j _).1 (t.cl b p _ ?_);simp only[wW,mK,<-e];exact akp r
 refine⟨List.pairwise_reverse.2 (t.nd.imp λt=>t.symm),λb=>?_,?_,λcO x i e=>?_⟩;·rw[List.mem_reverse];exact⟨m b,λhb=>hl b _ (k.dO b hb)⟩
 .have h1:=(j 0).1 h0;rcases List.eq_nil_or_concat new with rfl|⟨l,x,rfl⟩;·grind
  rcases t.sg l x [] aB with h2|⟨y,s,_⟩;all_goals grind
 have e2:new=i.reverse++x::cO.reverse:=by have:=congrArg List.reverse e;simpa using this
 rcases t.sg _ _ _ e2 with h2|⟨y,s,h2⟩;all_goals grind
theorem Jq(T:Tb ac)(m:G.Sm g)(n:jm g)(a:GX g H c d f come os h)(b:cX g come os){K:KT}(R:∀o v ak,e9 g come os ak->aj H o [tS 3 1 (ak.map aN) ak.length true v]->K v o):YN ac WT [.az c 0] H K:=by
 have E:=m.nb;have⟨hd,_,_,F⟩:=a.bl.all;have i:=a.kS.aH;have j:=a.kS.lt;refine YF.code T.abI aB ?_;refine au ?_;refine RO.dL (aj.dc H) λH1 u U=>?_;refine ah ?_;refine RO.aW ?_ (hc:=by rw[U.gr.bh j];exact i);refine ah ?_;refine RO.oT U (n:=g.al.length) (λI w U=>?_) (hz:=by rw[iZ];simp);have er:fO [AV.bool false] g.al.length=(ahr g.al.length false).map .bool:=by rw[iZ,alz]
 rw[er]at U;refine RO.fx U λJ y U=>?_;refine ah ?_;refine RO.gI U λL z U=>?_;refine ah ?_;refine RO.gI U λM A U=>?_;refine ah ?_;refine RO.gG U 0 (λB U=>?_);refine ah ?_;have U:=(U.py 3 1);have U:aj H B (AX c u y z A w g.al.length (ahr g.al.length false) [] .aS++[]):=U.cM (List.Perm.append_left [_,_,_,_] (akS ..));refine RO.cl (aeD T m n a b _ 0 _ [] _ _ [] _ (afb _) b.c0 aB (by rw[E3];simp) U λN t new O P p hb hc U=>?_);have s:=p.ak n b hb hc;have k:0<new.length:=by obtain⟨r,C⟩:=s.hd;have:=congrArg List.length C;simp at this;omega
 rw[ak0]at U;obtain⟨q,cap,ex,rfl⟩:=U.uT 0 rfl af;have l:=p.lr λx D=>by rw[ak9];exact b.lt (hc x D)
 rw[E3]at l;refine ah ?_;refine RO.cl (aeF T rfl k af U λQ U=>?_);refine ah ?_;have e:new.reverse.length=new.length:=aB;rw[<-e]at U;rw[<-e];exact Ru.aV (R _ _ _ s (U.sub (alh _ (List.nil_sublist _))))
end
end
theorem Pj{n:Nat}(h:n<18446744073709551616):(ck 7).wrap (.ofNat n)=.ofNat n:=by have e1:(ck 7).bits=64:=rfl;have e2:(ck 7).signed=false:=rfl;unfold IntKind.wrap;grind
theorem c7{n:Nat}(h:n<18446744073709551616):iJ 7 (.ofNat n)=.ofNat n:=VZ (Pj h)
theorem m7{a b c:Nat}(h:a*b=c)(d:c<18446744073709551616):iK .mul 7 (.ofNat a) (.ofNat b)=some (.int 7 (.ofNat c)):=by show some (AV.int 7 (iJ 7 (.ofNat (a*b))))=_;rw[h,c7 d]
theorem a7{a b c:Nat}(h:a+b=c)(d:c<18446744073709551616):iK .add 7 (.ofNat a) (.ofNat b)=some (.int 7 (.ofNat c)):=by show some (AV.int 7 (iJ 7 (.ofNat (a+b))))=_;rw[h,c7 d]
theorem n7{a:Nat}(h:a<4294967296):iK .and 7 (.ofNat a) (.ofNat 4294967295)=some (.int 7 (.ofNat a)):=by
 have e:(ak5 (ck 7).bits (.ofNat a)&&&ak5 (ck 7).bits (.ofNat 4294967295)).toNat=a:=by
  show(ak5 64 (.ofNat a)&&&ak5 64 (.ofNat 4294967295)).toNat=a;rw[BitVec.toNat_and];have e1:(ak5 64 (ak1 a)).toNat=a:=by show(ak5 64 ((a:Nat):Int)).toNat=a;rw[BitVec.ofInt_natCast,BitVec.toNat_ofNat];omega
  rw[e1,show(ak5 64 (ak1 4294967295)).toNat=2^32 - 1 from rfl,Nat.and_two_pow_sub_one_eq_mod];omega
 simp only[iK,e,ny];exact congrArg (λx=>some (AV.int 7 x)) (Pj af)
theorem s7{a:Nat}(h:a<4294967296):De .shr (.int 7 (.ofNat a)) (.int 7 (.ofNat 32))=some (.int 7 (.ofNat 0)):=by show some (AV.int 7 ((ak1 a).fdiv (2^32)))=_;grind
theorem RO.shift{c:Cx}{s:List SI}{L:Kn}{H:ai}{d:Option ab}{l:List be}{op:BinOp}{x y:aJ}{a b v:AV}(h:RO ac c l s (bC L d v) H)(f:bf L x=a:=by exact cw)(g:bf L y=b:=by exact cw)(i:a.bB=true:=by rfl)(hb:b.bB=true:=by rfl)(hv:De op a b=some v):RO ac c (⟨d,.shift op x y,none,[],[]⟩::l) s L H:=RO.op (λaa e=>by simp only[aE,e.gv f i,e.gv g hb,hv];rfl) h
theorem aeG(T:Tb ac){H:ai}{n:Nat}(b:n<4294967296){K:KT}(a:K (.tuple [.int 7 (.ofNat 0),.int 7 (.ofNat n)]) H):YN ac Xi [.int 7 (.ofNat 1),.int 7 (.ofNat n)] H K:=by refine YF.code T.ab9 aB ?_;refine au ?_;refine RO.arith ?_ (hv:=n7 (a:=1) af);refine au ?_;refine RO.shift ?_ (hv:=s7 (a:=1) af);refine au ?_;refine RO.arith ?_ (hv:=n7 (a:=n) af);refine au ?_;refine RO.shift ?_ (hv:=s7 (a:=n) af);refine au ?_;refine RO.arith ?_ (hv:=m7 (a:=1) (b:=n) (c:=n) af af);refine au ?_;refine RO.arith ?_ (hv:=m7 (a:=0) (b:=n) (c:=0) af af);refine au ?_;refine RO.shift ?_ (hv:=s7 (a:=n) af);refine au ?_;refine RO.arith ?_ (hv:=a7 (a:=0) (b:=0) (c:=0) af af);refine au ?_;refine RO.arith ?_ (hv:=n7 (a:=0) af);refine au ?_;refine RO.shift ?_ (hv:=s7 (a:=0) af);refine au ?_;refine RO.arith ?_ (hv:=m7 (a:=1) (b:=0) (c:=0) af af);refine au ?_;refine RO.arith ?_ (hv:=a7 (a:=0) (b:=0) (c:=0) af af);refine au ?_;refine RO.arith ?_ (hv:=m7 (a:=0) (b:=0) (c:=0) af af);refine au ?_;refine RO.arith ?_ (hv:=a7 (a:=0) (b:=0) (c:=0) af af);refine au ?_;refine RO.shift ?_ (hv:=s7 (a:=0) af);refine au ?_;refine RO.arith ?_ (hv:=a7 (a:=0) (b:=0) (c:=0) af af);refine au ?_;refine RO.arith ?_ (hv:=m7 (a:=1) (b:=n) (c:=n) af af);refine au ?_;exact Ru.tk a
theorem Pk(T:Tb ac){H:ai}{n:Nat}(a:n<4294967296){K:KT}(b:K (.tuple [.int 7 (.ofNat 0),.int 7 (.ofNat n)]) H):YN ac W6 [.int 7 (.ofNat 1),.int 7 (.ofNat n)] H K:=by refine YF.code T.abX aB ?_;refine au ?_;refine RO.cl (aeG T a ?_);refine au ?_;exact Ru.tk b
end
end Go.am.R
namespace Go.am
section
variable{ac:Nat->aG}{c:Cx}{s:List SI}{L:Kn}{A H:ai}{d:Option ab}{l:List be}{ts:List Th}{q:ab}{e n m k o i cap f size:Nat}{u z a:AV}{full ex b:Bool}
def mi(u z:AV)(size k n:Nat):List AV:=ahr (k*size) u++ahr ((n - k)*size) z
theorem Jr(h:k<=n):(mi u z size k n).length=n*size:=by simp only[mi,aj8,ak9,<-alB];grind
theorem Pl(h:k<=n){j:Nat}(hj:j<n*size):(mi u z size k n)[j]?=some (if j<k*size then u else z):=by rw[mi,List.getElem?_append];simp only[ak9];split;all_goals simp_all[ak8,aK,Nat.sub_mul]
theorem Pm:mi u z size n n=ahr (n*size) u:=by simp[mi]
theorem RO.E5(U:aj A H ts)(i:Nat){x y:aJ}(hi:ts[i]?=some (tS e size (mi u z size k n) n full (.slice q 0 n cap ex)))(v:k<=n)(hu:u.ee=true)(hs:Sl H size (ahr (m*size) u) m a)(D:min m (n - k)≠0)(E:o=k*size)(h:∀r,aj A r (ts.set i (tS e size (mi u z size (k+min m (n - k)) n) n full (.slice q 0 n cap ex)))->RO ac c l s (bC L d (.int 3 (.ofNat (min m (n - k))))) r)(F:bf L x=.slice q o (n - k) f b:=by exact cw)(G:bf L y=a:=by exact cw):RO ac c (⟨d,.copy size x y,none,[],[]⟩::l) s L H:=by
 obtain⟨K,C,_,w⟩:=U.ki i hi;have p:n<=cap:=by
  rcases C with⟨_,_,_,h⟩|⟨M,N,aM,cap,b,rfl,h2,_,O,_⟩;·cases h
  injection h2 with _ _ _ h2;omega
 have g:k+min m (n - k)<=n:=af;have B:(ahr (m*size) u).take (min m (n - k)*size)=ahr (min m (n - k)*size) u:=by rw[List.take_replicate,<-Nat.mul_min_mul_right];congr 1;have:=aky size (Nat.min_le_left m (n - k));omega
 have I:dS (ahr (min m (n - k)*size) u)=true:=by generalize min m (n - k)*size=t;induction t with|zero=>rfl|succ t J=>rw[List.replicate_succ];exact ao hu J
 have e1:(k+min m (n - k))*size=k*size+min m (n - k)*size:=alB .. ;have e2:(k+min m (n - k))*size<=n*size:=aky _ g;have P:n*size<=cap*size:=aky _ p;obtain⟨r,h1,h2,h3⟩:=dU.wx C (o:=o) (ws:=ahr (min m (n - k)*size) u) (us:=mi u z size (k+min m (n - k)) n) (by rw[ak9];omega) I (by rw[Jr v,Jr g]) λj hj=>by
  rw[Jr v]at hj;rw[Pl g hj,Pl v hj,ak9,E];by_cases h1:k*size<=j/\j<k*size+min m (n - k)*size;·rw[aK h1,ak8,aK af,aK af]
  rw[aq h1];by_cases h2:j<k*size;·rw[aK h2,aK af]
  rw[aq h2,aq af]
 exact RO.copy F G hs.bB hs.je D (by rw[B];exact h1) (h r (w h2 h3))
end
end Go.am
namespace Go.am.R
section
variable{ac:Nat->aG}
theorem Pn(T:Tb ac){H:ai}{n:Nat}{u xv:AV}(hu:u.ee=true)(hs:Sl H 1 (ahr (1*1) u) 1 xv)(p:n<=1000000){K:KT}(e:∀f q,aj H f [tS 3 1 (ahr (n*1) u) n true (.slice q 0 n n true)]->K (.slice q 0 n n true) f):YN ac WP [xv,aN n] H K:=by
 have⟨hd,_,_,o⟩:=hs.all;refine YF.code T.abE aB ?_;refine au ?_;refine RO.kX ?_;refine au ?_;refine RO.kX ?_;refine RO.cl (Pk T (n:=n) af ?_) (ha:=by show[AV.int 7 (iJ 7 (.ofNat 1)),AV.int 7 (iJ 7 (.ofNat n))]=_;rw[c7 af,c7 af]);refine ah ?_;refine Ru.cond (λ(h:9223372036854775807<n)=>by omega) (λ_=>?_);refine ah ?_;refine RO.kX ?_;rw[pY (n:=.ofNat n) (by rw[aj5];omega) (by rw[aj5];omega)];refine RO.oT (aj.dc H) (n:=n) (λH1 q U=>?_) (hz:=by rw[iZ];simp);have b:fO [.int 3 (.ofNat 0)] n=mi u (.int 3 (.ofNat 0)) 1 0 n:=by rw[iZ];simp[mi]
 rw[b]at U;refine au ?_;rcases Nat.eq_zero_or_pos n with rfl|i;·refine RO.Nx (xv:=.slice q 0 0 0 true) rfl rfl hd (U.gr.sl hs).je ⟨0,rfl,aB⟩ ?_;refine au ?_;refine Ru.loop ?_;refine au ?_;refine Ru.exitTo ?_;refine au ?_;exact Ru.aV (e _ q U)
 refine RO.E5 U 0 rfl (Nat.zero_le n) hu (m:=1) (U.gr.sl hs) af (o:=0) af (λj U=>?_);rw[show min 1 (n - 0)=1 by omega,akh]at*;refine au ?_;refine Ru.nm λS M l g=>?_;refine Ru.cC g (up (P:=λk=>1<=k->∀c,aj H c [tS 3 1 (mi u (.int 3 (.ofNat 0)) 1 k n) n true (.slice q 0 n n true)]->Ru ac _ S ([(p8,aN k)]++pk M [p7]) c) n (λk r m h1 c U=>?_) 1 af (afb _) _ U);subst l;subst g;refine Ru.loop ?_;refine au ?_;refine Ru.cond (λd=>?_) (λd=>?_)
 .refine au ?_;refine RO.im (m:=n) (b:=n) (a:=k) rfl rfl rfl (by show oJ (aN k) n=_;exact tu af) rfl ?_;refine au ?_;refine RO.pc (U.sl (e:=3) (size:=1) (n:=n) (full:=true) 0) (b:=k) ?_;have e1:(mi u (.int 3 (.ofNat 0)) 1 k n).take (k*1)=ahr (k*1) u:=by rw[mi,List.take_append_of_le_length aB,akl aB]
  have a:=CF (U.sl (e:=3) (size:=1) (n:=n) (full:=true) (sv:=.slice q 0 n n true) 0) (b:=k) af;rw[e1]at a;refine RO.E5 U 0 rfl af hu a af (o:=if true&&decide (n=k)then 0 else 0+k*1) (by rw[aq (by simp;omega)];omega) (λj U=>?_);refine RO.add ?_ (a:=.ofNat k) (b:=.ofNat (min k (n - k))) (h1:=by simp;omega) (h2:=by simp;omega);refine au ?_;exact Ru.wk (m (k+min k (n - k)) af af af _ U)
 refine Ru.exitTo ?_;refine au ?_;have:k=n:=af;subst this;rw[Pm]at U;exact Ru.aV (e _ q U)
theorem Js(z:AV):∀n,fO [z,z] n=ahr (n*2) z|0=>rfl|n+1=>by rw[show(n+1)*2=n*2+1+1 by omega,List.replicate_succ,List.replicate_succ,<-Js z n];rfl
theorem aeH(T:Tb ac){H:ai}{n:Nat}{u xv:AV}(hu:u.ee=true)(hs:Sl H 2 (ahr (1*2) u) 1 xv)(p:n<=1000000){K:KT}(e:∀f q,aj H f [tS nN 2 (ahr (n*2) u) n true (.slice q 0 n n true)]->K (.slice q 0 n n true) f):YN ac XI [xv,aN n] H K:=by
 have⟨hd,_,_,o⟩:=hs.all;refine YF.code T.acT aB ?_;refine au ?_;refine RO.kX ?_;refine au ?_;refine RO.kX ?_;refine RO.cl (Pk T (n:=n) af ?_) (ha:=by show[AV.int 7 (iJ 7 (.ofNat 1)),AV.int 7 (iJ 7 (.ofNat n))]=_;rw[c7 af,c7 af]);refine ah ?_;refine Ru.cond (λ(h:9223372036854775807<n)=>by omega) (λ_=>?_);refine ah ?_;refine RO.kX ?_;rw[pY (n:=.ofNat n) (by rw[aj5];omega) (by rw[aj5];omega)];refine RO.oT (aj.dc H) (n:=n) (λH1 q U=>?_) (hz:=by rw[Js];simp);have b:fO [.int 3 (.ofNat 0),.int 3 (.ofNat 0)] n=mi u (.int 3 (.ofNat 0)) 2 0 n:=by rw[Js];simp[mi]
 rw[b]at U;refine au ?_;rcases Nat.eq_zero_or_pos n with rfl|i;·refine RO.Nx (xv:=.slice q 0 0 0 true) rfl rfl hd (U.gr.sl hs).je ⟨0,rfl,aB⟩ ?_;refine au ?_;refine Ru.loop ?_;refine au ?_;refine Ru.exitTo ?_;refine au ?_;exact Ru.aV (e _ q U)
 refine RO.E5 U 0 rfl (Nat.zero_le n) hu (m:=1) (U.gr.sl hs) af (o:=0) af (λj U=>?_);rw[show min 1 (n - 0)=1 by omega,akh]at*;refine au ?_;refine Ru.nm λS M l g=>?_;refine Ru.cC g (up (P:=λk=>1<=k->∀c,aj H c [tS nN 2 (mi u (.int 3 (.ofNat 0)) 2 k n) n true (.slice q 0 n n true)]->Ru ac _ S ([(p8,aN k)]++pk M [p7]) c) n (λk r m h1 c U=>?_) 1 af (afb _) _ U);subst l;subst g;refine Ru.loop ?_;refine au ?_;refine Ru.cond (λd=>?_) (λd=>?_)
 .refine au ?_;refine RO.im (m:=n) (b:=n) (a:=k) rfl rfl rfl (by show oJ (aN k) n=_;exact tu af) rfl ?_;refine au ?_;refine RO.pc (U.sl (e:=nN) (size:=2) (n:=n) (full:=true) 0) (b:=k) ?_;have e1:(mi u (.int 3 (.ofNat 0)) 2 k n).take (k*2)=ahr (k*2) u:=by rw[mi,List.take_append_of_le_length aB,akl aB]
  have a:=CF (U.sl (e:=nN) (size:=2) (n:=n) (full:=true) (sv:=.slice q 0 n n true) 0) (b:=k) af;rw[e1]at a;refine RO.E5 U 0 rfl af hu a af (o:=if true&&decide (n=k)then 0 else 0+k*2) (by rw[aq (by simp;omega)];omega) (λj U=>?_);refine RO.add ?_ (a:=.ofNat k) (b:=.ofNat (min k (n - k))) (h1:=by simp;omega) (h2:=by simp;omega);refine au ?_;exact Ru.wk (m (k+min k (n - k)) af af af _ U)
 refine Ru.exitTo ?_;refine au ?_;have:k=n:=af;subst this;rw[Pm]at U;exact Ru.aV (e _ q U)
end
section
inductive pI(W:Nat->List Nat)(d:Nat):Nat->Prop
 |zero(h:0≠d):pI W d 0
 |step{a x:Nat}(h:pI W d a)(hx:x∈W a)(hn:x≠d):pI W d x
def gO(W:Nat->List Nat)(d b:Nat):Prop:=¬pI W d b
theorem gO.cO{W:Nat->List Nat}{d a b:Nat}(h:gO W d b)(c:b∈W a)(f:d≠b):gO W d a:=λg=>h (.step g c λe=>f e.symm)
theorem gO.zero{W:Nat->List Nat}{d:Nat}(h:gO W d 0):d=0:=akx λa=>h (.zero λe=>a e.symm)
structure Rk(W:Nat->List Nat)(ak ranks:List Nat):Prop where
 nd:ak.Nodup
 hd:∃rest,ak=0::rest
 aM:∀cO x post,ak=cO++x::post->x=0\/∃y∈cO,x∈W y
 rk:∀i(h:i<ak.length),ranks.getD ak[i] 0=i
variable{W:Nat->List Nat}{ak ranks:List Nat}{up:List Int}
theorem Rk.inj(h:Rk W ak ranks){a b:Nat}(c:a∈ak)(hb:b∈ak)(e:ranks.getD a 0=ranks.getD b 0):a=b:=by obtain⟨i,hi,rfl⟩:=aka c;obtain⟨j,hj,rfl⟩:=aka hb;rw[h.rk i hi,h.rk j hj]at e;subst e;rfl
theorem Rk.at(h:Rk W ak ranks){a:Nat}(b:a∈ak):∃hl:ranks.getD a 0<ak.length,ak[ranks.getD a 0]=a:=by obtain⟨i,hi,rfl⟩:=aka b;have e:=h.rk i hi;generalize ranks.getD ak[i] 0=j at*;subst e;exact⟨hi,rfl⟩
theorem Rk.cO(h:Rk W ak ranks){b:Nat}(hb:b∈ak)(h0:b≠0):∃y∈ak,b∈W y/\ranks.getD y 0<ranks.getD b 0:=by
 obtain⟨hl,e⟩:=h.at hb;have e2:ak=ak.take (ranks.getD b 0)++b::ak.drop (ranks.getD b 0+1):=by conv=>lhs;rw[<-ala (ranks.getD b 0) ak,aj9 hl,e]
 rcases h.aM _ _ _ e2 with h1|⟨y,a,c⟩;·exact absurd h1 h0
 refine⟨y,List.mem_of_mem_take a,c,?_⟩;obtain⟨i,hi,rfl⟩:=aka a;rw[akF]at hi;rw[List.getElem_take,h.rk i af];omega
theorem Rk.zero(h:Rk W ak ranks):0∈ak/\ranks.getD 0 0=0:=by obtain⟨r,a⟩:=h.hd;have:=h.rk 0 (by rw[a];simp);simp only[a,List.getElem_cons_zero]at this;exact⟨by rw[a];simp,this⟩
theorem Rk.fH(h:Rk W ak ranks){d:Nat}:∀(n b:Nat),ranks.getD b 0=n->b∈ak->gO W d b->ranks.getD d 0<=n:=λn=>by
 induction n using Nat.strongRecOn with
 |ind n c=>
  intro b i hb hd;by_cases a:d=b;·subst a;omega
  by_cases h0:b=0;·subst h0;exact absurd hd.zero a
  obtain⟨y,e,f,g⟩:=h.cO hb h0;have:=c _ af y rfl e (hd.cO f a);omega
structure oz(W:Nat->List Nat)(ak ranks:List Nat)(n:Nat)(up:List Int):Prop where
 len:up.length=n
 u0:up.getD 0 (-1)=0
 rg:∀b, -1<=up.getD b (-1)
 ok:∀b,b≠0->0<=up.getD b (-1)->b∈ak/\∃a:Nat,up.getD b (-1)=a/\a∈ak/\ranks.getD a 0<ranks.getD b 0/\0<=up.getD a (-1)/\∀d,gO W d b->d≠b->gO W d a
inductive kw(up:List Int)(m:Nat):Nat->Prop
 |refl:kw up m m
 |step{a c:Nat}(h:up.getD a (-1)=(c:Int))(h0:a≠0)(hc:kw up m c):kw up m a
theorem kw.trans{up:List Int}{a b c:Nat}(h1:kw up a b)(h2:kw up b c):kw up a c:=by induction h2 with|refl=>exact h1|step h h0 _ d=>exact .step h h0 d
def jH(up:List Int)(b x:Nat):Prop:=x≠0->∃m:Nat,up.getD x (-1)=(m:Int)/\kw up m b
structure yQ(W:Nat->List Nat)(ak ranks:List Nat)(up:List Int)(a b m:Nat):Prop where
 mem:m∈ak
 df:0<=up.getD m (-1)
 ra:ranks.getD m 0<=ranks.getD a 0
 rb:ranks.getD m 0<=ranks.getD b 0
 fH:∀d,gO W d a->gO W d b->gO W d m
 L6:kw up m a
 EM:kw up m b
theorem yQ.swap{a b m:Nat}(h:yQ W ak ranks up a b m):yQ W ak ranks up b a m:=⟨h.mem,h.df,h.rb,h.ra,λd h1 h2=>h.fH d h2 h1,h.EM,h.L6⟩
theorem oz.Po{n:Nat}(h:oz W ak ranks n up)(i:Rk W ak ranks){a b:Nat}(o:a∈ak)(hb:b∈ak)(j:0<=up.getD a (-1))(k:a≠b)(p:ranks.getD b 0<=ranks.getD a 0):∃c:Nat,up.getD a (-1)=c/\c∈ak/\0<=up.getD c (-1)/\ranks.getD c 0<ranks.getD a 0/\∀m,yQ W ak ranks up c b m->yQ W ak ranks up a b m:=by
 have l:ranks.getD b 0<ranks.getD a 0:=Nat.lt_of_le_of_ne p λe=>k (i.inj o hb e.symm);have h0:a≠0:=λe=>by subst e;rw[i.zero.2]at l;omega
 obtain⟨_,c,h1,h2,h3,q,r⟩:=h.ok a h0 j;refine⟨c,h1,h2,q,h3,λm f=>⟨f.mem,f.df,by have:=f.ra;omega,f.rb,λd hd g=>f.fH d (r d hd λe=>?_) g,.step h1 h0 f.L6,f.EM⟩⟩;subst e;have:=i.fH _ b rfl hb g;omega
theorem oz.set{n:Nat}(h:oz W ak ranks n up)(s:Rk W ak ranks){to b:Nat}(j:to∈ak)(r:to<n)(h0:to≠0)(g:b∈ak)(k:0<=up.getD b (-1))(m:ranks.getD b 0<ranks.getD to 0)(hd:∀d,gO W d to->d≠to->gO W d b):oz W ak ranks n (up.set to (b:Int)):=by
 have hl:=h.len;have e:∀x,(up.set to (b:Int)).getD x (-1)=if x=to then(b:Int)else up.getD x (-1):=λx=>fu af;have l:∀x,0<=up.getD x (-1)->0<=(up.set to (b:Int)).getD x (-1):=λx i=>by
  rw[e];split;·omega
  exact i
 refine⟨by simpa using hl,by rw[e,aq λe=>h0 e.symm];exact h.u0,λx=>?_,λx i c=>?_⟩
 .rw[e];split;·omega
  exact h.rg x
 rw[e]at c⊢;split;·rename_i f;subst f;exact⟨j,b,rfl,g,m,l _ k,hd⟩
 rename_i f;rw[aq f]at c;obtain⟨h1,a,h2,h3,o,p,q⟩:=h.ok x i c;exact⟨h1,a,h2,h3,o,l _ p,q⟩
def rp(ranks:List Nat)(n:Nat)(up:List Int):Nat:=(up.map λx=>if x<0 then n else ranks.getD x.toNat 0).sum
theorem aeI{l:List Nat}{k x:Nat}(b:k<l.length):(l.set k x).sum+l[k]=l.sum+x:=by induction l generalizing k with|nil=>simp at b|cons a l c=>cases k with|zero=>simp;omega|succ k=>have:=c (k:=k) (by simpa using b);simp;omega
theorem Pp{n k now:Nat}(a:k<up.length)(hl:ranks.getD now 0<if up.getD k (-1)<0 then n else ranks.getD (up.getD k (-1)).toNat 0):rp ranks n (up.set k (now:Int))<rp ranks n up:=by unfold rp;rw[List.map_set];have h1:=aeI (l:=up.map λx=>if x<0 then n else ranks.getD x.toNat 0) (k:=k) (x:=ranks.getD now 0) (by simpa using a);rw[bF a]at hl;simp only[akN]at h1;rw[aq (show¬((now:Int)<0)by omega),aj3];omega
end
section
variable{ac:Nat->aG}
section
variable{W:Nat->List Nat}{ak ranks:List Nat}{up:List Int}{n:Nat}{A H:ai}{us:List Th}{d f g h:ab}{L:Kn}
theorem uf{a:List Int}{k:Nat}(z:Int)(b:k<a.length):(a.map aI)[0+k*1]?=some (aI (a.getD k z)):=qR z b
def yR(g h d f:ab)(n:Nat)(ranks:List Nat)(up:List Int):List Th:=[tB eH g [.slice d 0 n n true],tB eH h [.slice f 0 n n true],tS 3 1 (ranks.map aN) n true (.slice d 0 n n true),tS 3 1 (up.map aI) n true (.slice f 0 n n true)]
theorem aeJ(T:Tb ac)(t:Rk W ak ranks)(r:oz W ak ranks n up)(z:ranks.length=n)(E:n<=1000000)(p:∀b∈ak,b<n)(U:aj A H (yR g h d f n ranks up++us)){a b:Nat}(l:a∈ak)(hb:b∈ak)(j:0<=up.getD a (-1))(k:0<=up.getD b (-1)){K:KT}(o:∀m,yQ W ak ranks up a b m->K (aN m) H):YF ac (.func XH [] [.az g 0,.az h 0]) [aN a,aN b] H K:=by
 have B:=r.len;refine YF.code T.acS aB ?_;refine ah ?_;refine Ru.nm λS M w u=>?_;refine Ru.cC u (dn (P:=λm=>∀a b,ranks.getD a 0+ranks.getD b 0=m->a∈ak->b∈ak->0<=up.getD a (-1)->0<=up.getD b (-1)->(∀m,yQ W ak ranks up a b m->K (aN m) H)->Ru ac _ S ([(p0,aN a),(p1,aN b)]++pk M [p2,p3]) H) (λm v a b q l hb j k o=>?_) _ a b rfl l hb j k o);have C:=p a l;have D:=p b hb;subst w;subst u;refine Ru.loop ?_;refine ah ?_;refine Ru.cond (λi=>?_) (λi=>?_)
 .have i:a≠b:=by simpa using i
  refine ah ?_;refine RO.fD U 2 (hv:=qR 0 af) ?_;refine ah ?_;refine RO.fD U 2 (hv:=qR 0 af) ?_;refine ah ?_;refine Ru.cond (λx=>?_) (λx=>?_);·obtain⟨c,h1,h2,h3,y,s⟩:=r.Po t hb l k (λe=>i e.symm) af;refine ah ?_;refine RO.fD U 3 (v:=aN c) (hv:=by rw[uf (-1) af,h1];rfl) ?_;refine ah ?_;exact Ru.wk (v _ af c a rfl h2 l h3 j λm q=>o m (s m q).swap)
  obtain⟨c,h1,h2,h3,y,s⟩:=r.Po t l hb j i af;refine ah ?_;refine RO.fD U 3 (v:=aN c) (hv:=by rw[uf (-1) af,h1];rfl) ?_;refine ah ?_;exact Ru.wk (v _ af c b rfl h2 hb h3 k λm q=>o m (s m q))
 have i:a=b:=by simpa using i
 subst i;refine Ru.exitTo ?_;refine ah ?_;exact Ru.aV (o a ⟨l,j,afb _,afb _,λ_ F _=>F,.refl,.refl⟩)
end
end
end Go.am.R
end
