/- A part. No conditions. -/
import Derived.Test.YtcipmlnpjkngpaaGreatDoorA14
set_option linter.all false
set_option maxHeartbeats 16000000
open List renaming replicate->aeo
open Int renaming ofNat->afq
open BitVec renaming ofInt->afr
open List.Perm renaming swap->afA,cons->afL
open List.Sublist renaming cons_cons->afN
noncomputable section
namespace Go.ak.R
section
variable{ac:Nat->aX}
section
abbrev bI:=Int×Nat
def fQ:List bI->List AV
 |[]=>[]
 |o::l=>aI o.1::aU o.2::fQ l
theorem Km:∀{l:List bI}{k:Nat}(h:k<l.length),((fQ l).drop (k*2)).take 2=[aI l[k].1,aU l[k].2]|o::l,0,_=>rfl|o::l,k+1,h=>by have:=Km (l:=l) (k:=k) (by simpa using h);rw[show(k+1)*2=k*2+2 by omega];simpa[fQ]using this
theorem Ko:∀(e b:List bI),fQ (e++b)=fQ e++fQ b|[],b=>rfl|o::e,b=>by simp only[afk,fQ,Ko e b]
theorem Kq:∀(l:List bI)(b:Nat),(fQ l).take (b*2)=fQ (l.take b)|[],b=>by simp[fQ]|o::l,0=>by simp[fQ]|o::l,b+1=>by rw[show(b+1)*2=b*2+2 by omega];simp only[fQ,afJ,Kq l b]
def YS:ai->bI->List AV->Prop:=λ_ o cs=>cs=[aI o.1,aU o.2]
abbrev jH(H:ai)(l:List bI)(v:AV):Prop:=Sl H 2 (fQ l) l.length v
theorem jH.r{H:ai}{l:List bI}{v:AV}(h:jH H l v):cK 2 YS H l v:=⟨_,h,λk b=>Km b⟩
structure rY(g:G.aY)(l:List bI):Prop where
 ok:∀o∈l,0<=o.1/\o.1<g.aj.length/\(g.aj.getD o.1.toNat default).aA.go.length=3
def gG(g:G.aY)(o:bI):Int:=((g.aj.getD o.1.toNat default).aA.go.getD 2 default).block
structure tW(H:ai)(xq:af)(vb:AV)(os:List (List bI))(svs:List AV):Prop where
 lt:xq.az<H.next.az
 be:bx H xq 3=some vb
 oq:∃ov,bx H xq 5=some ov/\Sl H 1 svs os.length ov
 len:svs.length=os.length
 bt:∀b(h:b<os.length),jH H os[b] (svs.getD b .ct)
theorem tW.bZ{H e:ai}{a:af}{c:AV}{os:List (List bI)}{d:List AV}(h:tW H a c os d)(g:aZ H e):tW e a c os d:=⟨ae2 h.lt g.nx,by rw[g.bx h.lt];exact h.be,by obtain⟨f,h1,h2⟩:=h.oq;exact⟨f,by rw[g.bx h.lt];exact h1,g.sl h2⟩,h.len,λb hb=>g.sl (h.bt b hb)⟩
theorem RO.yI{m:Cx}{s:List SI}{L:Kn}{B H:ai}{p:Option af}{l:List bu}{b:List AV}{n j kd:Nat}{e:AV}{x y:aK}(hg:aZ B H)(hs:Sl B 1 b n e)(h:∀q o,bx H q o=some (b.getD j .ct)->q.az<H.next.az->RO ac m l s (bj L p (.aD q o)) H)(f:aT L x=e:=by exact cw)(k:aT L y=.int kd (.ofNat j):=by exact cw)(hj:j<n:=by first|assumption|omega):RO ac m (⟨p,.dO 1 x y,none,[],[]⟩::l) s L H:=by have hs:=hg.sl hs;have hl:=hs.length;obtain⟨i,o,cap,ex,rfl,_,hi,hat,_⟩:=hs.at ab;refine RO.dO (h i (o+j*1) ?_ hi) f k hj;rw[af0,bm ab];exact hat j ab
section
variable{g:G.aY}{c:AV}{a:af}{A H:ai}{us:List Th}{os:List (List bI)}{d:List AV}
theorem Kr(T:Tb ac)(R:G.Sm g)(hb:cK 7 i6 A g.aj c)(v:aZ A H)(k:tW H a c os d){b:Nat}(l:b<os.length)(y:rY g os[b])(C:os[b].length<=1000){K:KT}(i:K (match os[b].getLast? with|some o=>.tuple [aI (gG g o),.bool true]|none=>.tuple [.int 3 (.negSucc 0),.bool false]) H):YN ac Va [.aD a 0,aN b] H K:=by
 obtain⟨S,D,j⟩:=k.oq;have hs:=k.bt b l;have⟨E,_,_,F⟩:=j.all;have⟨I,_,_,J⟩:=hs.all;have⟨L,_,_,M⟩:=hb.all;have N:=k.be;refine YF.code T.W4 aC ?_;refine ah ?_;refine RO.yI (aZ.refl H) j λq o hc _=>?_;refine ah ?_;refine Ru.cond (λ(h:os[b].length=0)=>?_) (λ(h:¬os[b].length=0)=>?_);·have e:os[b]=[]:=aeQ h;rw[e]at i;refine ah ?_;exact Ru.i4 i
 obtain⟨o,w⟩:∃o,os[b].getLast?=some o:=by cases h2:os[b].getLast? with|none=>rw[List.getLast?_eq_none_iff]at h2;rw[h2]at h;simp at h|some o=>exact⟨o,rfl⟩
 rw[w]at i;have f:os[b][os[b].length - 1]?=some o:=by rw[<-List.getLast?_eq_getElem?];exact w
 obtain⟨V,f⟩:=ae7.1 f;obtain⟨h1,h2,h3⟩:=y.ok o (by rw[<-f];exact acI _);obtain⟨t,x⟩:∃t:Nat,o.1=(t:Int):=⟨o.1.toNat,ab⟩;simp only[gG,x,aeA]at h3 i;have m:t<g.aj.length:=ab;rw[bm m]at h3 i;refine ah ?_;refine RO.arith (v:=aN (os[b].length - 1)) ?_ (hv:=pj ab ab);refine ah ?_;refine RO.bW (aZ.refl H) (jH.r hs) (λW o1 c1 O n _ hat _=>?_);subst n;rw[f,x]at hat;refine ah ?_;refine RO.bW v hb (λz o2 c2 P p _ hat _=>?_);obtain⟨X,Y,Z,rfl,_,_,va,vk,B,rfl,_,_,s⟩:=p;refine ah ?_;refine RO.bk (i:=z) (o:=o2+2+4) (v:=B) ?_ (hc:=hat 6 _ rfl);refine RO.bW v s (λq3 o3 c3 Q u _ hat _=>?_) (hj:=by omega);obtain⟨v3,rfl,_⟩:=u;refine ah ?_;refine Ru.i4 ?_;rw[bm ab]at i;exact i
def cU(g:G.aY)(b:Nat)(f:List bI):List (Int×List bI):=
 let j:=(g.aj.getD b default).aA
 if j.op=67 then[((j.go.getD 0 default).block,f++[((b:Int),0)]),((j.go.getD 1 default).block,f++[((b:Int),1)])]
 else if j.op=68 then(match f.getLast? with|some o=>[(gG g o,f.take (f.length - 1))]|none=>[])
 else j.go.map λe=>(e.block,f)
def Es(W:List (Int×List bI))(b:List bI)(nv:AV)(k:Nat)(args:List AV)(e:List Th):Prop:=
 ∃(h:k<W.length)(v:AV),args=[aI W[k].1,v]/\v.bq=true/\v.db=true/\v.cells=[v]/\((e=[]/\∀H,jH H b nv->jH H W[k].2 v)\/e=[tS D6 2 (fQ W[k].2) W[k].2.length true v])
structure Et(g:G.aY)(b:Nat):Prop where
 lt:b<g.aj.length
 tri:(g.aj.getD b default).aA.op=67->(g.aj.getD b default).aA.go.length=3
theorem Ks(T:Tb ac){b:Nat}{K:KT}(i:∀h e f,al H h [tB 3 f [aN b],tB iw e [.aD a 0]]->K (.func AX [] [.aD e 0,.aD f 0]) h):YN ac UT [.aD a 0,aN b] H K:=by refine YF.code T.WE aC ?_;refine au ?_;refine RO.cG (al.bY H) λj e U=>?_;refine RO.cG U λk f U=>?_;refine au ?_;exact Ru.aP (i _ e f U)
end
end
section
def yK(v:AV)(n:Nat):AV:=match v with|.slice i o _ _ _=>.slice i o n n true|v=>v
theorem YW(T:Tb ac){B H:ai}{size n:Nat}{e:List AV}{v:AV}(hs:Sl B size e n v):YN ac Vb [v] H λf h=>f=yK v n/\h=H:=by
 have⟨hd,_,_,k⟩:=hs.all;refine YF.code T.W6 aC ?_;refine au ?_;rcases hs with⟨rfl,rfl,rfl⟩|⟨i,o,cap,ex,l,m,p,j,aM,fz,rfl,hg,q,hl,r,hi,b⟩;·refine RO.Az (m:=0) (b:=0) (a:=0) rfl rfl rfl rfl ?_;refine au ?_;exact Ru.aP ⟨rfl,rfl⟩
 refine RO.I4 (m:=n) (b:=n) (a:=0) (v:=.slice i o n n true) rfl (by show lS (aN n) cap=_;exact mK b) (by show lS (aN n) n=_;exact mK (aeq n)) rfl aC aC ?_;refine au ?_;exact Ru.aP ⟨rfl,rfl⟩
theorem YX{H:ai}{size n:Nat}{b:List AV}{v:AV}(hs:Sl H size b n v):(yK v n=.aG/\b=[]/\n=0)\/∃i o,yK v n=.slice i o n n true/\Sl H size b n (yK v n):=by
 rcases hs with⟨rfl,rfl,rfl⟩|⟨i,o,cap,ex,h,m,j,e,aM,fz,rfl,hg,k,hl,l,hi,f⟩;·exact .inl ⟨rfl,rfl,rfl⟩
 exact .inr ⟨i,o,rfl,.inr ⟨i,o,n,true,h,m,j,e,aM,fz,rfl,hg,k,hl,l,hi,aeq n⟩⟩
section
variable{g:G.aY}{d:AV}{a:af}{A H:ai}{us:List Th}{os:List (List bI)}{c:List AV}
theorem Ku(T:Tb ac)(hB:G.Sm g)(hb:cK 7 i6 A g.aj d){b:Nat}{now:List bI}{nv:AV}{P I:af}(hE:Et g b)(hO:rY g now)(a8:now.length<=1000):yG ac A (.func AX [] [.aD P 0,.aD I 0]) (cU g b now).length (Es (cU g b now) now nv) [tB 3 I [aN b],tB iw P [.aD a 0]] (λH=>∃os c,tW H a d os c/\∃h:b<os.length,os[b]=now/\c.getD b .ct=nv) (λH=>jH H now nv):=by
 intro y J D m us H K dr ds dv W j s U hR f;obtain⟨os,c,Q,X,ay,Y⟩:=hR;subst ay;have hA:=U.gr;obtain⟨ov,a',L⟩:=Q.oq;have hs:=Q.bt b X;rw[Y]at hs;have⟨ba,_,_,dx⟩:=L.all;have⟨Z,bb,bd,dy⟩:=hs.all;have⟨dz,d0,_,d1⟩:=hb.all;have d2:=Q.be;have bv:bx H P 0=some (.aD a 0):=by obtain⟨_,p⟩:=U.get 1 rfl;exact tB.cell p rfl
 have b0:bx H I 0=some (aN b):=by obtain⟨_,p⟩:=U.get 0 rfl;exact tB.cell p rfl
 have b3:P.az<H.next.az:=by obtain⟨_,p⟩:=U.get 1 rfl;obtain⟨_,_,_,_,_,h⟩:=p;exact h
 have b4:I.az<H.next.az:=by obtain⟨_,p⟩:=U.get 0 rfl;obtain⟨_,_,_,_,_,h⟩:=p;exact h
 obtain⟨x,E⟩:=hE;rw[bm x]at E;refine YF.code T.W5 aC ?_;refine ah ?_;refine RO.bW hA hb (λq3 o3 c3 d3 ag _ hat hrd=>?_);have dm:=ag.one;obtain⟨vp,vs,jc,rfl,_,_,hj⟩:=ag;have d4:=hj.one;obtain⟨va,vk,vg,rfl,d5,d6,t⟩:=hj;have⟨av,_,_,d7⟩:=t.all;refine ah ?_;refine RO.fL ?_ (hc:=Eu (k:=2) (m:=5) hrd bK);refine ah ?_;refine RO.yI (aZ.refl H) L λq4 o4 aw b6=>?_;rw[Y]at aw;refine ah ?_;refine RO.dM (al.bY H) λH1 q5 hl=>?_;refine RO.yJ hl 0 (λH2 hl=>⟨λaa i=>?_,?_⟩);·have hg:=hl.gr;refine gh i rfl rfl Z hs.bL (by rw[hg.bx b6];exact aw) (gh (v:=aN b) i rfl rfl rfl (by simp[fC,de,eU]) (by rw[hg.bx b4];exact b0) (gh i rfl rfl ba L.bL (by rw[hg.bx Q.lt];exact a') (gh (v:=.aD a 0) i rfl rfl rfl (by simp[fC,de,af.fo]) (by rw[hg.bx b3];exact bv) rfl)))
 have b7:=hl.gr;have U:=U.eK hl;refine ah ?_;have B:(g.aj.getD b default).aA=(g.aj[b]).aA:=by rw[bm x]
 refine Ru.cond (λ(q:(g.aj[b]).aA.op=67)=>?_) (λ(q:¬(g.aj[b]).aA.op=67)=>?_)
 .have h3:=E q;have b':∀k(h:k<2),∃h':k<(cU g b os[b]).length,(cU g b os[b])[k]=(((g.aj[b]).aA.go[k]'ab).block,os[b]++[((b:Int),k)]):=λk h=>by
   have n:cU g b os[b]=[(((g.aj[b]).aA.go[0]'ab).block,os[b]++[((b:Int),0)]),(((g.aj[b]).aA.go[1]'ab).block,os[b]++[((b:Int),1)])]:=by simp only[cU,B,aH q];rw[bm ab,bm ab]
   refine⟨by rw[n];simpa using h,?_⟩;simp only[n];match k,h with|0,_=>rfl|1,_=>rfl
  have ca:(cU g b os[b]).length=2:=by simp only[cU,B,aH q];rfl
  refine ah ?_;refine RO.j9 U 1 (λH3 q6 U=>?_);refine ah ?_;refine Ru.nm λS M hS R=>?_;refine Ru.bM R (up (P:=λk=>∀C m,J k m->al A C (tS 5 1 [aU 0,aU 1] 2 true (.slice q6 0 2 2 true)::tB mf q5 _::([tB 3 I [aN b],tB iw P [.aD a 0]]++m++us))->Ru ac _ S ([(mO,aN k)]++pk M [p0,p2,p4,p5,tJ,qz]) C) 2 (λk hk ih C m s U=>?_) 0 ab _ m s U);subst hS;subst R;refine Ru.loop ?_;refine au ?_;refine Ru.cond (λ(r:k<2)=>?_) (λ(r:¬k<2)=>?_)
  .obtain⟨u,ax⟩:=b' k r;have d':=W k m _ C s (al.eC (xs:=[_,_,_,_]) U);refine ah ?_;refine RO.dh U 0 ?_ (v:=aU k) (hv:=by match k,r with|0,_=>rfl|1,_=>rfl);refine ah ?_;refine RO.YV U.gr t (λq8 o8 c8 ea he _ z=>?_) (hj:=by omega);obtain⟨v8,rfl,_⟩:=he;refine ah ?_;refine RO.bk ?_ (hc:=z 0 _ rfl U.gr);refine ah ?_;refine RO.j9 U 2 (ws:=[aN b,aU k]) (λH4 q9 U=>?_);refine RO.YT (v:=yK nv os[b].length) (λH0 _ _=>YW T hs) (λHU O cd=>?_);have U:=U.bL cd O;have cf:=W k m _ HU s (al.eC (xs:=[_,_,_,_,_]) U);have a1:bx HU I 0=some (aN b):=by obtain⟨_,p⟩:=U.get 3 rfl;exact tB.cell p rfl
   have a2:bx HU q5 4=some vg:=by obtain⟨_,p⟩:=U.get 2 rfl;exact tB.cell p rfl
   refine⟨λaa i=>gh (v:=aN b) i rfl rfl rfl (by simp[fC,de,eU]) a1 (gh (v:=aI ((g.aj[b]).aA.go[k]'ab).block) i rfl rfl rfl (by simp[fC,de,eU]) (z 0 _ rfl U.gr) (gh i rfl rfl av (t.bL) a2 rfl)),?_⟩;refine RO.YU U (YX cf) (U.sl 0) (λH5 v5 _ U=>?_);have a6:bx H5 q5 4=some vg:=by obtain⟨_,p⟩:=U.get 3 rfl;exact tB.cell p rfl
   refine⟨λaa i=>gh (v:=aI ((g.aj[b]).aA.go[k]'ab).block) i rfl rfl rfl (by simp[fC,de,eU]) (z 0 _ rfl U.gr) (gh i rfl rfl av (t.bL) a6 rfl),?_⟩;have cn:Sl H5 2 (fQ os[b]++[aN b,aU k]) (os[b].length+1) v5:=U.sl 0;have⟨cp,cv,cx,_⟩:=cn.all;have e5:fQ (os[b]++[((b:Int),k)])=fQ os[b]++[aN b,aU k]:=Ko _ _;have e6:(os[b]++[((b:Int),k)]).length=os[b].length+1:=aC;rw[<-e5,<-e6]at U;refine ah ?_;refine RO.cl ((j k [aI ((g.aj[b]).aA.go[k]'ab).block,v5] [_] m _ _ u ⟨u,v5,by rw[ax],cp,cv,cx,.inr (by rw[ax])⟩ s (U.cH (afL _ (tY (xs:=[_,_,_,_,_]))))).mono ?_);rintro v H3⟨w,U,hc⟩;rcases hc with⟨rfl,h⟩|⟨rfl,h⟩;·refine ah ?_;exact Ru.wk (ih (k+1) ab ab _ _ h (al.jU (xs:=[_,_,_,_,_]) U).tail)
   refine ah ?_;exact Ru.mI (vs:=[]) trivial (f _ w _ (by rw[<-aeC]at U;exact U.skip) (.inr h))
  refine Ru.exitTo ?_;refine ah ?_;refine Ru.aA (vs:=[]) trivial (f _ m _ U.tail.tail.tail.tail (.inl ?_));rw[ca,show 2=k by omega];exact s
 refine ah ?_;refine Ru.cond (λ(N:(g.aj[b]).aA.op=68)=>?_) (λ(N:¬(g.aj[b]).aA.op=68)=>?_)
 .have n:cU g b os[b]=match os[b].getLast? with|some o=>[(gG g o,os[b].take (os[b].length - 1))]|none=>[]:=by simp only[cU,B,ap q,aH N]<;>rfl
  refine ah ?_;refine RO.cl (Kr T hB hb U.gr (Q.bZ b7) X hO a8 ?_);cases l:os[b].getLast? with
  |none=>rw[l]at n;simp only at n;rw[n]at f;refine ah ?_;exact Ru.aA (vs:=[]) trivial (f _ _ _ U.tail.tail.tail (.inl s))
  |some o=>
   rw[l]at n;simp only at n;obtain⟨hx,_⟩:0<os[b].length/\True:=⟨by cases hh:os[b]with|nil=>rw[hh]at l;simp at l|cons _ _=>simp,trivial⟩;refine ah ?_;refine RO.arith (v:=aN (os[b].length - 1)) ?_ (hv:=pj ab ab);refine RO.mS hs (b:=os[b].length - 1) ?_;have F:∀V,jH V os[b] nv->jH V (os[b].take (os[b].length - 1)) (mS nv (os[b].length - 1)):=λV h=>by
    have e:(os[b].take (os[b].length - 1)).length=os[b].length - 1:=by rw[aeP];omega
    show Sl V 2 (fQ _) _ _;rw[e,<-Kq];exact A8 h ab
   have⟨cy,cR,c9,_⟩:=(F _ hs).all;rw[n]at j f;refine RO.cl ((j 0 [aI (gG g o),mS nv (os[b].length - 1)] [] m _ _ aC ⟨aC,_,rfl,cy,cR,c9,.inl ⟨rfl,F⟩⟩ s (al.eC (xs:=[_,_,_]) U)).mono ?_);rintro v H3⟨w,U,hc⟩;refine ah ?_;refine Ru.aA (vs:=[]) trivial (f _ w _ (by rw[<-aeC]at U;exact U.skip) ?_);rcases hc with⟨_,h⟩|⟨_,h⟩;·exact .inl h
   exact .inr h
 have n:cU g b os[b]=(g.aj[b]).aA.go.map λe=>(e.block,os[b]):=by simp only[cU,B,ap q,ap N]
 have eb:=hB.bl _ (acI x);refine ah ?_;refine Ru.nm λS M hS R=>?_;refine Ru.bM R (up (P:=λk=>∀C m,J k m->al A C (tB mf q5 _::([tB 3 I [aN b],tB iw P [.aD a 0]]++m++us))->Ru ac _ S ([(vX,aN k)]++pk M [p0,p5,s9,vW]) C) (g.aj[b]).aA.go.length (λk hk ih C m s U=>?_) 0 ab _ m s U);subst hS;subst R;refine Ru.loop ?_;refine au ?_;refine Ru.cond (λr=>?_) (λr=>?_)
 .refine au ?_;refine RO.bW U.gr t λq6 o6 c6 ec he _ hat hrd=>?_;have c':=he.one;obtain⟨v6,rfl,_⟩:=he;refine ah ?_;refine RO.eR U λH5 q7 U=>?_;refine ah ?_;have u:k<(cU g b os[b]).length:=by rw[n,aeR];exact r
  refine RO.cl ((j k [aI ((g.aj[b]).aA.go[k]).block,nv] [] m _ _ u ⟨u,nv,by simp only[n,afw],Z,bb,bd,.inl ⟨rfl,λV h=>by simp only[n,afw];exact h⟩⟩ s (al.eC (xs:=[_,_,_,_]) U)).mono ?_);rintro v H3⟨w,U,hc⟩;rcases hc with⟨rfl,h⟩|⟨rfl,h⟩;·refine ah ?_;exact Ru.wk (ih (k+1) ab ab _ _ h (al.jU (xs:=[_,_,_,_]) U).tail)
  refine ah ?_;exact Ru.mI (vs:=[]) trivial (f _ w _ (by rw[<-aeC]at U;exact U.skip) (.inr h))
 refine Ru.exitTo ?_;refine ah ?_;refine Ru.aA (vs:=[]) trivial (f _ m _ U.tail.tail.tail (.inl ?_));rw[n,aeR,show(g.aj[b]).aA.go.length=k by omega];exact s
end
end
theorem Y1(x y:Int)(s r:Nat):cQ 64 (.dw [(0,1,false,.int),(1,1,false,.int)]) (.agg [aI x,aU s]) (.agg [aI y,aU r])=some (decide (x=y/\s=r)):=by
 by_cases h1:x=y
 .by_cases h2:s=r;·simp[cQ,cQ.go,nu,eU,h1,h2]
  have e:((s:Int)==(r:Int))=false:=by rw[beq_eq_false_iff_ne];omega
  simp[cQ,cQ.go,nu,eU,h1,h2,e]
 have e:(x==y)=false:=by rw[beq_eq_false_iff_ne];exact h1
 simp[cQ,cQ.go,nu,eU,h1,e]
theorem Ev{a:Type}{l:List a}{k:Nat}{d:a}(h:k<l.length):l.getD k d∈l:=by rw[bm h];exact acI h
theorem Y2(T:Tb ac){H:ai}{l m:List bI}{v w:AV}(n:jH H l v)(o:jH H m w)(hl:l.length<=1000){K:KT}(a:∀b:Bool,(b=true↔l=m)->K (.bool b) H):YN ac JE [v,w] H K:=by
 have⟨hd,_,_,z⟩:=n.all;have⟨u,_,_,x⟩:=o.all;refine YF.code T.WF aC ?_;refine au ?_;refine Ru.cond (λh=>?_) (λh=>?_);·refine au ?_;exact Ru.aP (a false ⟨λh=>(by cases h),λe=>absurd (by rw[e]) h⟩)
 have d:l.length=m.length:=by simpa using h
 refine au ?_;refine Ru.nm λS M s p=>?_;refine Ru.bM p (up (P:=λk=>(∀j(h:j<l.length)(A:j<m.length),j<k->l[j]=m[j])->Ru ac _ S ([(k6,aN k)]++pk M [p0,p1,fJ,iS]) H) l.length (λk B t q=>?_) 0 ab (λj _ _ hj=>by omega));subst s;subst p;refine Ru.loop ?_;refine au ?_;refine Ru.cond (λf=>?_) (λf=>?_)
 .refine au ?_;refine RO.bW (aZ.refl H) (jH.r n) λC o1 c1 _ g _ hat hrd=>?_;subst g;refine ah ?_;refine RO.bW (aZ.refl H) (jH.r o) λD o2 c2 y i _ hat hrd=>?_;subst i;refine ah ?_;refine RO.eq ?_ (ht:=Y1 _ _ _ _);refine ah ?_;have he:(l[k].1=m[k].1/\l[k].2=m[k].2)↔l[k]=m[k]:=⟨λh=>Prod.ext h.1 h.2,λh=>by rw[h];exact⟨rfl,rfl⟩⟩;refine Ru.eh (λh=>?_) (λh=>?_)
  .have h:¬(l[k].1=m[k].1/\l[k].2=m[k].2):=λc=>by rw[decide_eq_true c]at h;simp at h
   refine ah ?_;exact Ru.aP (a false ⟨λh=>(by cases h),λe=>absurd (he.2 (by simp only[e])) h⟩)
  have h:l[k].1=m[k].1/\l[k].2=m[k].2:=aeW λc=>by rw[decide_eq_false c]at h;simp at h
  refine ah ?_;exact Ru.wk (t (k+1) ab ab λj h1 h2 hj=>by
   by_cases e:j=k;·subst e;exact he.1 h
   exact q j h1 h2 ab)
 refine Ru.exitTo ?_;refine au ?_;exact Ru.aP (a true ⟨λ_=>agb d λj h1 h2=>q j h1 h2 ab,λ_=>rfl⟩)
inductive fy(g:G.aY):Nat->List bI->Prop
 |zero:fy g 0 []
 |step{b:Nat}{o:List bI}{w:Int×List bI}(h:fy g b o)(hw:w∈cU g b o):fy g w.1.toNat w.2
structure ff(g:G.aY):Prop where
 t8:∀{b o o'},fy g b o->fy g b o'->o=o'
 Ew:∀{b o},fy g b o->∀w∈cU g b o,0<=w.1/\w.1<g.aj.length
 be:∀{b o},fy g b o->Et g b
 oq:∀{b o},fy g b o->rY g o/\o.length<=900
structure py(g:G.aY):Prop where
 ne:0<g.aj.length
 t3:∀b,b<g.aj.length->(g.aj.getD b default).aA.op=67->(g.aj.getD b default).aA.go.length=3
 rg:∀b,b<g.aj.length->∀e∈(g.aj.getD b default).aA.go,1<=e.block/\e.block<g.aj.length
theorem Ba{g:G.aY}(d:py g){b:Nat}(hb:b<g.aj.length){o:List bI}(f:rY g o):∀w∈cU g b o,(1<=w.1/\w.1<g.aj.length)/\rY g w.2/\w.2.length<=o.length+1:=by
 intro w a;simp only[cU]at a;split at a
 .rename_i i;have h3:=d.t3 b hb i;have h:rY g (o++[((b:Int),0)])/\rY g (o++[((b:Int),1)]):=by
   constructor<;>refine⟨λx c=>?_⟩<;>rcases aeu.1 c with c|c;·exact f.ok x c
   .rw[aaN]at c;subst c;exact⟨aC,by simpa using hb,by simpa using h3⟩
   .exact f.ok x c
   rw[aaN]at c;subst c;exact⟨aC,by simpa using hb,by simpa using h3⟩
  have j:=d.rg b hb ((g.aj.getD b default).aA.go.getD 0 default) (Ev ab);have k:=d.rg b hb ((g.aj.getD b default).aA.go.getD 1 default) (Ev ab);rcases aer.1 a with rfl|a;·exact⟨j,h.1,aC⟩
  rw[aaN]at a;subst a;exact⟨k,h.2,aC⟩
 split at a
 .split at a;·rename_i x c;rw[aaN]at a;subst a;obtain⟨h1,h2,h3⟩:=f.ok x (List.mem_of_getLast? c);refine⟨d.rg x.1.toNat ab _ (Ev ab),⟨λy l=>f.ok y (af1 l)⟩,by simp;omega⟩
  cases a
 obtain⟨e,he,rfl⟩:=aeK.1 a;exact⟨d.rg b hb e he,f,aC⟩
theorem fy.ok{g:G.aY}(a:py g){b:Nat}{o:List bI}(h:fy g b o):b<g.aj.length/\rY g o:=by induction h with|zero=>exact⟨a.ne,⟨λx d=>(by cases d)⟩⟩|step _ e c=>obtain⟨⟨h1,h2⟩,h3,_⟩:=Ba a c.1 c.2 _ e;exact⟨ab,h3⟩
theorem fy.nil{g:G.aY}(a:py g){b:Nat}{o:List bI}(h:fy g b o)(hb:b=0):o=[]:=by cases h with|zero=>rfl|step h c=>obtain⟨h3,d⟩:=h.ok a;have:=(Ba a h3 d _ c).1;omega
theorem fy.oh{g:G.aY}(a:py g){b:Nat}{o:List bI}(h:fy g b o):Et g b:=⟨(h.ok a).1,a.t3 b (h.ok a).1⟩
def gS(a:List Bool):Nat:=(a.filter λb=>!b).length
theorem ou{come:List Bool}{k:Nat}(b:k<come.length)(h:come.getD k false=false):gS (come.set k true)+1=gS come:=by unfold gS;induction come generalizing k with|nil=>simp at b|cons a l c=>cases k with|zero=>simp only[List.getD_cons_zero]at h;subst h;simp|succ k=>have:=c (k:=k) (by simpa using b) (by simpa using h);cases a<;>simp<;>omega
structure gI(g:G.aY)(n:Nat)(F:List Th)(come:List Bool)(os:List (List bI))(svs:List AV)(todo:List Nat)(now:Option Nat)(wr:Bool):Prop where
 cl:come.length=n
 ol:os.length=n
 sl:svs.length=n
 c0:come.getD 0 false=true
 dY:∀b,come.getD b false=true->fy g b (os.getD b [])
 td:∀b∈todo,come.getD b false=true
 fz:∀b,come.getD b false=true->tR 2 (fQ (os.getD b [])) (os.getD b []).length (svs.getD b .ct)∈F
 nz:∀b,b<n->come.getD b false=false->os.getD b []=[]/\svs.getD b .ct=.aG
 iF:∀b,come.getD b false=true->(os.getD b []).length+gS come<n
 dn:∀b,come.getD b false=true->b∈todo\/now=some b\/∀w∈cU g b (os.getD b []),come.getD w.1.toNat false=true/\(wr=false->os.getD w.1.toNat []=w.2)
 df:wr=true->∃b o o',fy g b o/\fy g b o'/\o≠o'
theorem yL{b:Type}{l:List b}{k:Nat}{d v:b}(h:l.getD k d=v)(a:d≠v):k<l.length:=by
 rcases afg k l.length with h1|h1;·exact h1
 rw[aeD,afH h1]at h;exact absurd h a
theorem dk{a:Type}{l:List a}{k j:Nat}{d v:a}(b:k<l.length):(l.set k v).getD j d=if j=k then v else l.getD j d:=by
 simp only[aeD,List.getElem?_set];by_cases h:k=j;·subst h;simp[b]
 rw[ap h,ap λe=>h e.symm]
theorem gI.new{g:G.aY}{n:Nat}{F:List Th}{a:List Bool}{os:List (List bI)}{c:List AV}{f:List Nat}{l:Option Nat}{wr:Bool}(h:gI g n F a os c f l wr){k:Nat}(N:k<n)(u:a.getD k false=false){o:List bI}(hl:fy g k o)(O:o.length+gS a<n+1){v:AV}{q:List Th}(z:∀t∈F,t∈q)(A:tR 2 (fQ o) o.length v∈q):gI g n q (a.set k true) (os.set k o) (c.set k v) (f++[k]) l wr:=by
 obtain⟨h1,h2,h3,B,C,D,E,H,r,I,s⟩:=h;have M:=ou ab u;have d:∀j,(a.set k true).getD j false=if j=k then true else a.getD j false:=λj=>dk ab;have i:∀j,(os.set k o).getD j []=if j=k then o else os.getD j []:=λj=>dk ab;have x:∀j,(c.set k v).getD j .ct=if j=k then v else c.getD j .ct:=λj=>dk ab;have J:∀j,a.getD j false=true->j≠k:=λj hj e=>by rw[e,u]at hj;cases hj
 refine⟨by simpa using h1,by simpa using h2,by simpa using h3,?_,λb hb=>?_,λb hb=>?_,λb hb=>?_,λb hb p=>?_,λb hb=>?_,λb hb=>?_,s⟩
 .rw[d];split;·rfl
  exact B
 .rw[d]at hb;rw[i];split;·rename_i e;rw[e];exact hl
  rename_i e;rw[ap e]at hb;exact C b hb
 .rw[d];rcases aeu.1 hb with hb|hb
  .split;·rfl
   exact D b hb
  rw[aaN]at hb;rw[aH hb]
 .rw[d]at hb;rw[i,x];split;·exact A
  rename_i e;rw[ap e]at hb;exact z _ (E b hb)
 .rw[d]at p;split at p;·cases p
  rename_i e;rw[i,x,ap e,ap e];exact H b hb p
 .rw[d]at hb;rw[i];split;·omega
  rename_i e;rw[ap e]at hb;have:=r b hb;omega
 rw[d]at hb;split at hb;·rename_i e;left;rw[e];simp
 rename_i e;rw[i,ap e];rcases I b hb with h|h|h;·exact .inl (aeN _ h)
 .exact .inr (.inl h)
 refine .inr (.inr λw K=>?_);obtain⟨y,L⟩:=h w K;have m:=J _ y;rw[d,i,ap m,ap m];exact⟨y,L⟩
theorem gI.wB{g:G.aY}{n:Nat}{F:List Th}{a:List Bool}{os:List (List bI)}{d:List AV}{c:List Nat}{f:Option Nat}{wr:Bool}(h:gI g n F a os d c f wr)(hd:∃b o i,fy g b o/\fy g b i/\o≠i):gI g n F a os d c f true:={h with dn:=λb hb=>(h.dn b hb).imp id (Or.imp id λh w j=>⟨(h w j).1,λe=>(by cases e)⟩),df:=λ_=>hd}
section
theorem Y3{j w:List bI}{nv v:AV}(p:∀H,jH H j nv->jH H w v){H:ai}{G:List af}(E:(tR 2 (fQ j) j.length nv).P H G):(tR 2 (fQ w) w.length v).P H G:=by
 obtain⟨h1,h2,h3⟩:=E;refine⟨p H h1,λi o J K I C=>?_,h3⟩;apply aeW;intro hi;have D:jH (H.set i .none) j nv:=by
  rcases h1 with E|⟨s,u,cap,ex,x,y,z,q,aM,fz,k,r,B⟩;·exact .inl E
  have t:s≠i:=λI=>hi (I▸h2 _ _ _ _ _ k);exact .inr ⟨s,u,cap,ex,x,y,z,q,aM,fz,k,by rw[ai.aJ,ap t];exact r,B⟩
 have k:=p _ D;subst C;rcases k with⟨E,_⟩|⟨s,u,cap,ex,x,y,z,q,aM,fz,k,r,B⟩;·cases E
 injection k with k;subst k;rw[ai.aJ,aH rfl]at r;cases r
section
variable{g:G.aY}{d f:AV}{c l m h e:af}{n:Nat}{A H:ai}{us F:List Th}{come:List Bool}{os:List (List bI)}{a:List AV}{b:List Nat}{nw:Option Nat}{wr:Bool}
def Bb(g:G.aY)(d:AV)(c h e:af)(n:Nat)(come:List Bool)(a:List AV)(F:List Th)(wr:Bool):List Th:=[tB Ub c [.str g.i7,aI g.i4,aI g.aW,d,.slice h 0 n n true,.slice e 0 n n true,.bool wr],tS D7 1 a n true (.slice e 0 n n true),tS 4 1 (come.map .bool) n true (.slice h 0 n n true),tZ F]
def oz(g:G.aY)(d:AV)(m l c h e:af)(n:Nat)(come:List Bool)(a:List AV)(b:List Nat)(f:AV)(F:List Th)(wr:Bool):List Th:=tB fZ m [f]::tU 3 (b.map aN) f::tB iw l [.aD c 0]::Bb g d c h e n come a F wr
theorem Y4(U:al A H (oz g d m l c h e n come a b f F wr++us))(i:gI g n F come os a b nw wr):tW H c d os a:=by
 have k:bx H c 3=some d:=by obtain⟨_,j⟩:=U.get 3 rfl;exact tB.cell j rfl
 have o:bx H c 5=some (.slice e 0 n n true):=by obtain⟨_,j⟩:=U.get 3 rfl;exact tB.cell j rfl
 have p:c.az<H.next.az:=by obtain⟨_,j⟩:=U.get 3 rfl;obtain⟨_,_,_,_,_,t⟩:=j;exact t
 refine⟨p,k,⟨_,o,by rw[i.ol];exact U.sl 4⟩,by rw[i.sl,i.ol],λs hb=>?_⟩;have q:s<n:=by rw[<-i.ol];exact hb
 have u:os.getD s []=os[s]:=bm hb _;cases r:come.getD s false with|true=>obtain⟨v,t,_⟩:=U.mi 6 rfl (i.fz s r);rw[u]at t;exact t|false=>obtain⟨h1,h2⟩:=i.nz s q r;rw[u]at h1;rw[h1,h2];exact .inl ⟨rfl,rfl,rfl⟩
def Ex(g:G.aY)(d:AV)(m l c h e:af)(n:Nat)(o:Nat)(i:List bI)(nv:AV)(p k:Nat)(j:List Th):Prop:=
 ∃come os a b f F wr,j=oz g d m l c h e n come a b f F wr/\gI g n F come os a b (some o) wr/\come.getD o false=true/\os.getD o []=i/\a.getD o .ct=nv/\b.length+gS come=p/\∀w∈(cU g o i).take k,come.getD w.1.toNat false=true/\(wr=false->os.getD w.1.toNat []=w.2)
theorem gI.Y5{v:Nat}(u:gI g n F come os a (v::b) none wr):gI g n F come os a b (some v) wr:=by
 obtain⟨h1,h2,h3,o,p,q,r,s,j,t,k⟩:=u;refine⟨h1,h2,h3,o,p,λx i=>q x (aen _ i),r,s,j,λx i=>?_,k⟩;rcases t x i with u|u|u
 .rcases aer.1 u with rfl|u;·exact .inr (.inl rfl)
  exact .inl u
 .cases u
 exact .inr (.inr u)
theorem gI.done{y:Nat}(v:gI g n F come os a b (some y) wr)(k:∀w∈cU g y (os.getD y []),come.getD w.1.toNat false=true/\(wr=false->os.getD w.1.toNat []=w.2)):gI g n F come os a b none wr:=by
 obtain⟨h1,h2,h3,o,p,q,r,s,i,t,j⟩:=v;refine⟨h1,h2,h3,o,p,q,r,s,i,λx u=>?_,j⟩;rcases t x u with v|v|v;·exact .inl v
 .injection v with v;subst v;exact .inr (.inr k)
 exact .inr (.inr v)
theorem gI.Ey{F':List Th}(j:gI g n F come os a b nw wr)(i:∀t∈F,t∈F'):gI g n F' come os a b nw wr:={j with fz:=λk hb=>i _ (j.fz k hb)}
theorem Y6{D k:Nat}{i:List bI}{nv:AV}{args:List AV}{o:List Th}(q:gI g n F come os a b (some D) wr)(hb:come.getD D false=true)(r:os.getD D []=i)(s:a.getD D .ct=nv)(t:Es (cU g D i) i nv k args o)(U:al A H (o++oz g d m l c h e n come a b f F wr++us)):∃(E:k<(cU g D i).length)(v:AV),args=[aI (cU g D i)[k].1,v]/\v.bq=true/\v.db=true/\v.cells=[v]/\al A H (oz g d m l c h e n come a b f (tR 2 (fQ (cU g D i)[k].2) (cU g D i)[k].2.length v::F) wr++us):=by
 obtain⟨u,v,w,h1,h2,h3,x⟩:=t;refine⟨u,v,w,h1,h2,h3,?_⟩;rcases x with⟨rfl,j⟩|rfl;·have p:=q.fz D hb;rw[r,s]at p;have hl:=(U.eL 6 rfl).YQ p (t':=tR 2 (fQ (cU g D i)[k].2) (cU g D i)[k].2.length v) λG E=>Y3 j E;exact hl.cH (afd (l₁:=[_,_,_,_,_,_])).symm
 have y:=U.as 0 rfl λC z=>tS.lh z;have B:al A H (_::tZ F::([tB fZ m [f],tU 3 (b.map aN) f,tB iw l [.aD c 0],_,_,_]++us)):=y.cH (afL _ (afd (l₁:=[_,_,_,_,_,_])));exact B.kF.cH (afd (l₁:=[_,_,_,_,_,_])).symm
def Kw:bg:=(.seq (.region [O p6 (.bw (T tC))]) (.region [O p7 (.bw (T tD))]))
def Kx:bg:=(.block 3 (.block 4 (.seq (.region [O tE (.bk (T p3)),O tF (.nilCheck (T tE)),O tG (.jx 4 (T tF)),O tH (.bk (T tG)),O vY (.bw (T p6)),O vZ (.dO 1 (T tH) (T vY)),O wc (.bk (T vZ)),O tJ (.unary .not (T wc)),O rP (.bw (T tJ))]) (.cond (T rP) (.seq (.region [O qz (.bk (T p3)),O mO (.nilCheck (T qz)),O pq (.jx 4 (T mO)),O rQ (.bk (T pq)),O wd (.bw (T p6)),O we (.bk (T p3)),O wi (.nilCheck (T we)),O rR (.jx 5 (T wi)),O mP (.bk (T rR)),O qA (.bw (T p6)),O tL (.bw (T p7)),O tN (.dO 1 (T rQ) (T wd)),N (.store 1 (T tN) (C (.bool true))),O wl (.dO 1 (T mP) (T qA)),N (.store 1 (T wl) (T tL))]) (.region [O wm (.bk (T p4)),O tO (.bw (T p6)),O wn (.buildSlice 3 1 [(i 3 0)] [(0,1,(T tO))]),O wt (.append 3 8 1 [(i 3 0)] false (T wm) (T wn)),N (.store 1 (T p4) (T wt))])) (.seq (.region [O yo (.bk (T p3)),O yp (.nilCheck (T yo)),O AJ (.jx 5 (T yp)),O AL (.bk (T AJ)),O AM (.bw (T p6)),O AN (.dO 1 (T AL) (T AM)),O AO (.bk (T AN)),O AP (.bw (T p7)),O AQ (.call (C (.func JE [] [])) [(T AO),(T AP)]),O AR (.unary .not (T AQ)),O AI (.bw (T AR))]) (.cond (T AI) (.region [O AS (.bk (T p3)),O AT (.nilCheck (T AS)),O AU (.jx 6 (T AT)),N (.store 1 (T AU) (C (.bool true)))]) .skip))))))
theorem Y7(T:Tb ac)(hB:G.Sm g)(P:py g)(aw:n<=900){ca k:Nat}{i:List bI}{nv:AV}{cn:Nat}(ax:n=g.aj.length)(hm:cn<=n){args:List AV}{ws ts:List Th}{cp:af}{o1 o2:bO}{fv:AV}{Dn:bU->List Th->Prop}(hk:k<(cU g ca i).length)(Q:Es (cU g ca i) i nv k args ws)(hJ:Ex g d m l c h e n ca i nv cn k ts)(U:al A H (ws++ts++tX cp o1::us)):Ru ac (Er ac cp o1 o2 Kx (wA A cp o2 us (Ex g d m l c h e n ca i nv cn (k+1)) Dn)) [.code Kw] (tV [tC,tD] args [(qy,fv),(p3,.aD l 0),(p4,.aD m 0)]) H:=by
 obtain⟨come,os,a,b,f,F,wr,rfl,q,z,hn,hv,K,R⟩:=hJ;have ay:=hB.nb;obtain⟨_,v,rfl,a6,a8,a',U⟩:=Y6 q z hn hv Q U;have r:=q.dY ca z;rw[hn]at r;have L:(cU g ca i)[k]∈cU g ca i:=acI hk;obtain⟨⟨ba,bb⟩,_,bd⟩:=Ba P (r.ok P).1 (r.ok P).2 _ L;have S:=q.iF ca z;rw[hn]at S;have C:=fy.step r L;obtain⟨t,I⟩:∃t:Nat,(cU g ca i)[k].1=(t:Int):=⟨(cU g ca i)[k].1.toNat,ab⟩;have V:t<n:=ab;have W:(cU g ca i).take (k+1)=(cU g ca i).take k++[(cU g ca i)[k]]:=by rw[aeO]
 rw[I,aeA]at C;generalize X:(cU g ca i)[k].2=s at*;have q:=q.Ey (F':=tR 2 (fQ s) s.length v::F) λt I=>aen _ I;have M:tR 2 (fQ s) s.length v∈tR 2 (fQ s) s.length v::F:=acm .. ;generalize tR 2 (fQ s) s.length v::F=J at*;have Y:=q.cl;have Z:=q.sl;have D:∀(p:List Bool)(x:List (List bI))(y:Bool),(∀j,come.getD j false=true->p.getD j false=true/\x.getD j []=os.getD j [])->(y=false->wr=false)->p.getD t false=true->(y=false->x.getD t []=s)->∀w∈(cU g ca i).take (k+1),p.getD w.1.toNat false=true/\(y=false->x.getD w.1.toNat []=w.2):=λp x y h1 h2 h3 h4 w B=>by
  rw[W]at B;rcases aeu.1 B with B|B;·obtain⟨a1,a2⟩:=R w B;obtain⟨b1,b2⟩:=h1 _ a1;exact⟨b1,λcd=>by rw[b2];exact a2 (h2 cd)⟩
  rw[aaN]at B;subst B;rw[I,aeA,X];exact⟨h3,h4⟩
 rw[I];unfold Kw;refine au ?_;refine Ru.dN U λH2 U=>?_;unfold Kx;refine ah ?_;cases o:come.getD t false with
 |false=>
  refine RO.dh U 5 (v:=.bool false) (hv:=by rw[lE false ab,o]) ?_;have bv:=ou (k:=t) ab o;have E:ca≠t:=λcd=>by rw[cd,o]at z;cases z
  refine ah ?_;refine RO.gF U 5 true Y (λH3 U=>?_) (k:=t);refine ah ?_;refine RO.A9 U 4 Z (λH4 U=>?_) (k:=t);refine ah ?_;refine RO.Y0 U 1 (aN t) (λu H5 N U b0 b3 b4=>?_) (hb:=by simp only[aeR];omega) (hn:=by simp only[aeR];omega);refine RO.eo U 0 (λH6 U=>?_);refine ah ?_;refine Ru.bB (ts:=oz g d m l c h e n (come.set t true) (a.set t v) (b++[t]) N J wr) (by simpa[oz,Bb]using U) ⟨come.set t true,os.set t s,a.set t v,b++[t],N,J,wr,rfl,q.new V o C ab (λ_ cf=>cf) M,?_,?_,?_,?_,?_⟩;·rw[dk ab,ap E];exact z
  .rw[dk (by rw[q.ol];omega),ap E];exact hn
  .rw[dk ab,ap E];exact hv
  .rw[aex,ae8];omega
  refine D _ _ wr (λj hj=>?_) id ?_ (λ_=>?_)
  .have O:j≠t:=λcd=>by rw[cd,o]at hj;cases hj
   rw[dk ab,ap O,dk (by rw[q.ol];omega),ap O];exact⟨hj,rfl⟩
  .rw[dk ab,aH rfl]
  rw[dk (by rw[q.ol];omega),aH rfl]
 |true=>
  refine RO.dh U 5 (v:=.bool true) (hv:=by rw[lE false ab,o]) ?_;have ag:=q.dY t o;have av:a[0+t*1]?=some (a.getD t .ct):=by rw[show 0+t*1=t by omega,bm ab];simp
  refine ah ?_;have⟨f8,h8,_⟩:=U.mi 6 rfl (q.fz t o);have⟨f9,h9,_⟩:=U.mi 6 rfl M;have⟨b6,_,_,_⟩:=h8.all;have b':=q.iF t o;refine RO.dh U 4 (hv:=av) ?_;refine ah ?_;refine RO.cl (Y2 T h8 h9 ab λb7 h7=>?_);cases b7 with|true=>refine ah ?_;exact Ru.bB U ⟨come,os,a,b,f,J,wr,rfl,q,z,hn,hv,K,D _ _ wr (λ_ cf=>⟨cf,rfl⟩) id o λ_=>h7.1 rfl⟩|false=>refine ah ?_;refine RO.eo U 3 (λH3 U=>?_);refine ah ?_;refine Ru.bB (ts:=oz g d m l c h e n come a b f J true) (by simpa[oz,Bb]using U) ⟨come,os,a,b,f,J,true,rfl,q.wB ⟨t,_,_,ag,C,λcd=>by have:=h7.2 cd;cases this⟩,z,hn,hv,K,D _ _ true (λ_ cf=>⟨cf,rfl⟩) (λcd=>by cases cd) o λcd=>(by cases cd)⟩
end
end
section
theorem dn{P:Nat->Prop}(b:∀k,(∀j,j<k->P j)->P k)(k:Nat):P k:=Nat.strongRecOn k b
theorem wC:∀n,gS (aeo n false)=n|0=>rfl|n+1=>by have:=wC n;simp only[gS,List.replicate_succ]at*;simp[this]
theorem gI.zero{g:G.aY}{n:Nat}(o:0<n)(F:List Th)(m:tR 2 (fQ []) 0 .aG∈F):gI g n F ((aeo n false).set 0 true) (aeo n []) (aeo n .aG) [0] none false:=by
 have j:∀b,(aeo n ([]:List bI)).getD b []=[]:=λb=>by simp[aeD,afb];split<;>rfl
 have k:∀b,((aeo n false).set 0 true).getD b false=true->b=0:=λb hb=>by
  rw[dk (by simpa using o)]at hb;split at hb;·assumption
  simp[aeD,afb]at hb;split at hb<;>cases hb
 refine⟨aC,aC,aC,by rw[dk (by simpa using o),aH rfl],λb hb=>?_,λb hb=>?_,λb hb=>?_,λb hb _=>⟨j b,?_⟩,λb hb=>?_,λb hb=>?_,λo=>(by cases o)⟩;·rw[k b hb,j];exact .zero
 .rw[aaN]at hb;subst hb;rw[dk (by simpa using o),aH rfl]
 .rw[k b hb,j,bm (by simpa using o)];simpa using m
 .rw[bm (by simpa using hb)];simp
 .have l:=ou (come:=aeo n false) (k:=0) (by simpa using o) (by rw[bm (by simpa using o)];simp);rw[wC]at l;rw[j];simp only[List.length_nil];omega
 rw[k b hb];exact .inl (aaN.2 rfl)
section
variable{g:G.aY}{a f:AV}{c h i d e:af}{A H:ai}{us F:List Th}
theorem Y8(T:Tb ac)(O:G.Sm g)(L:py g)(R:g.aj.length<=900){cs:List AV}(hg:dS H g cs){K:KT}(hK:∀x c d e come os o a F us wr,cK 7 i6 H g.aj a->gI g g.aj.length F come os o [] none wr->al H x (Bb g a c d e g.aj.length come o F wr++us)->K (.aD c 0) x):YN ac JC [.agg cs] H K:=by
 have ay:=hg.one;obtain⟨a,rfl,bH⟩:=hg;have⟨hd,_,_,N⟩:=bH.all;have a2:=O.nb;have t:=L.ne;refine YF.code T.Wi aC ?_;refine au ?_;refine RO.cG (al.bY H) λH1 q U=>?_;have U:=(U.qp D6 2).as 0 rfl λfp hp=>tS.lh hp;have U:=U.px.cH (afA ..);have U:=U.kF;refine ah ?_;refine RO.cr U 1 ?_;refine ah ?_;refine RO.jn U (n:=g.aj.length) (λH2 d U=>?_) (hz:=by rw[eS];simp);refine au ?_;refine RO.YR U 2 0 (λH3 U=>?_);refine ah ?_;refine RO.jn U (n:=g.aj.length) (λH4 e U=>?_) (hz:=by rw[eS];simp);have er:ep [AV.bool false] g.aj.length=(aeo g.aj.length false).map .bool:=by rw[eS,afS]
 rw[er,eS]at U;refine au ?_;refine RO.cG U (λH5 c U=>?_) (v:=.agg [.str g.i7,aI g.i4,aI g.aW,a,.slice d 0 g.aj.length g.aj.length true,.slice e 0 g.aj.length g.aj.length true,.bool false]);refine ah ?_;refine RO.eR U λH6 h U=>?_;refine ah ?_;refine RO.gF U 3 true (afB ..) (λH7 U=>?_) (k:=0) (ho:=by rw[afB];exact t);refine ah ?_;refine RO.j9 U 1 (λH8 qt U=>?_) (n:=1) (ws:=[aN 0]);refine RO.eR U λH9 i U=>?_;have U:=U.YY 1 rfl;refine ah ?_;refine Ru.nm λS M hS hM=>?_;refine Ru.bM hM (dn (P:=λm=>∀P C come os o n f F wr,n.length+gS come=m->m<=g.aj.length->gI g g.aj.length F come os o n none wr->al H P (oz g a i h c d e g.aj.length come o n f F wr++(eN C++[tB cX q [.str g.i7,aI g.i4,aI g.aW,a]]))->Ru ac ⟨l9 [.tmp p2] K,C,none⟩ S ([]++pk M [p3,p4]) P) (λm ih P C come os o n f F wr V Q s U=>?_) _ H9 [] _ _ _ [0] _ _ false rfl ?_ (gI.zero t _ (acm ..)) U);rotate_left;·have:=ou (come:=aeo g.aj.length false) (k:=0) (by simpa using t) (by rw[bm (by simpa using t)];simp);rw[wC]at this;simp only[ae8];omega
 subst hS;subst hM;refine Ru.loop ?_;have⟨a6,_,_,a8⟩:=(U.Kv (e:=3) (vs:=n.map aN) (sv:=f) 1).all;refine ah ?_;refine Ru.cond (λy=>?_) (λy=>?_)
 .obtain⟨b,p,rfl⟩:∃b p,n=b::p:=by cases n with|nil=>simp at y|cons b r=>exact⟨b,r,rfl⟩
  simp only[aeJ]at V;have u:come.getD b false=true:=s.td b (acm ..);have w:=s.dY b u;have W:=yL u aC;have s:=s.Y5;refine ah ?_;refine RO.yI (aZ.refl _) (U.Kv 1) (λq5 o5 X _=>?_) (j:=0) (hj:=by simp);refine RO.bk ?_ (hc:=X);refine ah ?_;refine RO.YZ U 1 (v:=aN b) (vs:=p.map aN) (λE U h1 h2 h3=>?_);refine RO.eo U 0 (λa' U=>?_);refine ah ?_;refine RO.cl (Ks T λY q1 q2 hl=>?_);have U:al H Y ([tB 3 q2 [aN b],tB iw q1 [.aD c 0]]++oz g a i h c d e g.aj.length come o p E F wr++(eN C++[tB cX q [.str g.i7,aI g.i4,aI g.aW,a]])):=U.eK hl;refine ah ?_;refine Ru.wk (L:=[(qy,.func AX [] [.aD q1 0,.aD q2 0]),(p3,.aD h 0),(p4,.aD i 0)]) ?_;refine Ru.qF (J:=Ex g a i h c d e g.aj.length b (os.getD b []) (o.getD b .ct) (p.length+gS come)) (Dn:=λ_ _=>False) U (Ku T O bH (b:=b) (now:=os.getD b []) (nv:=o.getD b .ct) (w.oh L) (w.ok L).2 (by have:=s.iF b u;omega)) (λH2 hg=>⟨os,o,(Y4 U.tail.tail s).bZ hg,by rw[s.ol,<-s.cl];exact W,(bm _ _).symm,rfl⟩) ⟨come,os,o,p,E,F,wr,rfl,s,u,rfl,rfl,rfl,aC⟩ (λk args ws ba=>by obtain⟨_,v,rfl,_⟩:=ba;rfl) (λk ts us H D U=>?_) (λk args ws ts us l o1 o2 H hk Z D U=>Y7 T O L R rfl ab hk Z D U) (λx ag dm D U=>?_) (λj x ag dm _ ba=>ba.elim);·obtain⟨come,os,o,n,f,F,wr,rfl,s,hc,N,hv,_⟩:=D;have Q:=s.fz b hc;rw[N,hv]at Q;obtain⟨bb,ba,_⟩:=U.mi 6 rfl Q;exact ba
  obtain⟨z,av,J,B,aw,F',ax,rfl,s,hc,N,hv,a1,I⟩:=D;rw[af4]at I;have s:=s.done (by rw[N];exact I);refine ah ?_;exact Ru.wk (ih _ ab x (dm::C) z av J B aw F' ax rfl ab s U)
 have ht:n=[]:=by cases n with|nil=>rfl|cons b r=>simp at y
 subst ht;refine Ru.exitTo ?_;refine ah ?_;refine Ru.ke (M:=C) (ts:=oz g a i h c d e g.aj.length come o [] f F wr++[tB cX q [.str g.i7,aI g.i4,aI g.aW,a]]) (U.cH ?_) λx U=>⟨[.aD c 0],?_,hK x c d e come os o a F [tB cX q [.str g.i7,aI g.i4,aI g.aW,a]] wr bH s U.tail.tail.tail⟩;·rw[<-aeC,<-aeC];exact ae4.append_right _
 exact⟨rfl,rfl,trivial⟩
end
end
section
structure GX(g:G.aY)(H:ai)(xq:af)(vb cv:AV)(come:List Bool)(os:List (List bI))(svs:List AV):Prop where
 iz:tW H xq vb os svs
 bl:cK 7 i6 H g.aj vb
 c0:bx H xq 0=some (.str g.i7)
 c1:bx H xq 1=some (aI g.i4)
 c2:bx H xq 2=some (aI g.aW)
 c4:bx H xq 4=some cv
 c6:bx H xq 6=some (.bool false)
 cm:Sl H 1 (come.map .bool) come.length cv
theorem GX.bZ{g:G.aY}{H b:ai}{a:af}{d e:AV}{come:List Bool}{os:List (List bI)}{c:List AV}(h:GX g H a d e come os c)(hg:aZ H b):GX g b a d e come os c:=by have hl:=h.iz.lt;obtain⟨h1,h2,h3,f,i,j,k,l⟩:=h;exact⟨h1.bZ hg,b8.block.ib hg h2,by rw[hg.bx hl];exact h3,by rw[hg.bx hl];exact f,by rw[hg.bx hl];exact i,by rw[hg.bx hl];exact j,by rw[hg.bx hl];exact k,hg.sl l⟩
structure dq(g:G.aY)(come:List Bool)(os:List (List bI)):Prop where
 cl:come.length=g.aj.length
 ol:os.length=g.aj.length
 c0:come.getD 0 false=true
 dY:∀b,come.getD b false=true->fy g b (os.getD b [])
 dn:∀b,come.getD b false=true->∀w∈cU g b (os.getD b []),come.getD w.1.toNat false=true
theorem gI.Ez{g:G.aY}{n:Nat}{F:List Th}{come:List Bool}{os:List (List bI)}{c:List AV}(h:gI g n F come os c [] none false)(f:py g){b:Nat}{o:List bI}(hl:fy g b o):come.getD b false=true/\os.getD b []=o:=by
 induction hl with
 |zero=>exact⟨h.c0,(h.dY 0 h.c0).nil f rfl⟩
 | @step b o w _ i j=>
  obtain⟨h1,h2⟩:=j;rcases h.dn b h1 with h3|h3|h3;·cases h3
  .cases h3
  obtain⟨k,l⟩:=h3 w (by rw[h2];exact i);exact⟨k,l rfl⟩
theorem gI.Y9{g:G.aY}{F:List Th}{come:List Bool}{os:List (List bI)}{c:List AV}(h:gI g g.aj.length F come os c [] none false)(b:py g)(k:g.aj.length<=900):ff g:=⟨λh1 h2=>(h.Ez b h1).2.symm.trans (h.Ez b h2).2,λh1 w f=>(by have:=(Ba b (h1.ok b).1 (h1.ok b).2 w f).1;omega),λh1=>h1.oh b,λh1=>⟨(h1.ok b).2,by obtain⟨i,j⟩:=h.Ez b h1;have:=h.iF _ i;rw[j]at this;omega⟩⟩
theorem Y'(T:Tb ac){g:G.aY}{H:ai}(t:G.Sm g)(q:py g)(l:g.aj.length<=900){cs:List AV}(hg:dS H g cs){K:KT}(u:∀i a d e come os c,aZ H i->ff g->GX g i a d e come os c->dq g come os->K (.aD a 0) i)(x:∀i a,aZ H i->a.az<i.next.az->bx i a 6=some (.bool true)->(∃b o r,fy g b o/\fy g b r/\o≠r)->K (.aD a 0) i):YN ac JC [.agg cs] H K:=by
 refine Y8 T t q l hg λi a s y come os c d F us wr bH j U=>?_;have k:∀(o:Nat)(v:AV),([.str g.i7,aI g.i4,aI g.aW,d,.slice s 0 g.aj.length g.aj.length true,.slice y 0 g.aj.length g.aj.length true,.bool wr]:List AV)[o]?=some v->bx i a o=some v:=λo v h=>by obtain⟨_,p⟩:=U.get 0 rfl;exact tB.cell p h
 have m:a.az<i.next.az:=by obtain⟨_,p⟩:=U.get 0 rfl;obtain⟨_,_,_,_,_,h⟩:=p;exact h
 cases wr with
 |true=>exact x i a U.gr m (k 6 _ rfl) (j.df rfl)
 |false=>
  have n:=j.ol;refine u i a d (.slice s 0 g.aj.length g.aj.length true) come os c U.gr (j.Y9 q l) ⟨⟨m,k 3 _ rfl,⟨_,k 5 _ rfl,by rw[n];exact U.sl 1⟩,by rw[j.sl,n],λb hb=>?_⟩,b8.block.ib U.gr bH,k 0 _ rfl,k 1 _ rfl,k 2 _ rfl,k 4 _ rfl,k 6 _ rfl,by rw[j.cl];exact U.sl 2⟩ ⟨j.cl,n,j.c0,j.dY,λb hb=>?_⟩;·have A:os.getD b []=os[b]:=bm hb _;cases k:come.getD b false with|true=>obtain⟨f,h,_⟩:=U.mi 3 rfl (j.fz b k);rw[A]at h;exact h|false=>obtain⟨h1,h2⟩:=j.nz b (by rw[<-n];exact hb) k;rw[A]at h1;rw[h1,h2];exact .inl ⟨rfl,rfl,rfl⟩
  rcases j.dn b hb with h|h|h;·cases h
  .cases h
  exact λw z=>(h w z).1
section
variable{g:G.aY}{d e:AV}{a:af}{H:ai}{come:List Bool}{os:List (List bI)}{c:List AV}
def kf(g:G.aY)(b:Nat)(f:List bI):List Nat:=(cU g b f).map λw=>w.1.toNat
theorem Bc{b:Nat}{now:List bI}(f:G.Sm g)(hb:b<g.aj.length):(cU g b now).length<=12:=by
 have:=(f.bl _ (acI hb)).2.2.2.2.1;simp only[cU,bm hb];split;·simp
 split;·split<;>simp
 simp;omega
theorem EA(T:Tb ac)(F:G.Sm g)(n:ff g)(q:GX g H a d e come os c)(r:dq g come os){b:Nat}(hb:come.getD b false=true){K:KT}(h:∀i v,al H i [tS 3 1 ((kf g b (os.getD b [])).map aN) (kf g b (os.getD b [])).length true v]->K v i):YN ac UN [.aD a 0,aN b] H K:=by
 have f:=r.dY b hb;have x:=yL hb aC;have m:b<os.length:=by rw[r.ol,<-r.cl];exact x
 have y:∀w∈cU g b (os.getD b []),aI w.1=aN w.1.toNat:=λw M=>by obtain⟨h0,_⟩:=n.Ew f w M;obtain⟨t,N⟩:∃t:Nat,w.1=(t:Int):=⟨w.1.toNat,ab⟩;rw[N];rfl
 have z:jH H (os.getD b []) (c.getD b .ct):=by rw[bm m];exact q.iz.bt b m
 have V:(cU g b (os.getD b [])).length<=100000:=by have:=Bc (now:=os.getD b []) F (n.be f).lt;omega
 refine YF.code T.Wy aC ?_;refine au ?_;refine RO.dM (al.bY H) λW s U=>?_;refine au ?_;refine RO.cl (Ks T λu I J hl=>?_);have U:al H u ([tB 3 J [aN b],tB iw I [.aD a 0]]++[tS 3 1 [] 0 true .aG,tB fZ s [.aG]]++[]):=(U.qp 3 1).eK hl;refine au ?_;refine Ru.wk (L:=[(p8,.func AX [] [.aD I 0,.aD J 0]),(p4,.aD s 0)]) ?_;refine Ru.qF (J:=λk ts=>∃v,v.bq=true/\v.db=true/\v.cells=[v]/\ts=[tS 3 1 (((kf g b (os.getD b [])).take k).map aN) k true v,tB fZ s [v]]) (Dn:=λ_ _=>False) U (Ku T F q.bl (b:=b) (now:=os.getD b []) (nv:=c.getD b .ct) (n.be f) (n.oq f).1 (by have:=(n.oq f).2;omega)) (λu hg=>⟨os,c,q.iz.bZ (U.gr.trans hg),m,(bm m _).symm,rfl⟩) ⟨_,rfl,rfl,rfl,rfl⟩ (λk args ws h=>by obtain⟨_,v,rfl,_⟩:=h;rfl) (λk ts us i p U=>U.gr.sl z) (λk args ws ts us l o1 o2 i X A p U=>?_) (λi B L p U=>?_) (λj i B L _ h=>h.elim)
 .obtain⟨v,hd,h1,O,rfl⟩:=p;obtain⟨o,w,rfl,_⟩:=A;have U:=U.sub ((List.sublist_append_right _ _).append_right _);have P:=y _ (acI o);rw[P];refine au ?_;refine Ru.dN U λu U=>?_;refine ah ?_;refine RO.push U 0 (λw i Q U=>?_) (ws:=[aN (cU g b (os.getD b []))[k].1.toNat]);have⟨C,D,E,_⟩:=(U.sl 0 rfl).all;refine RO.eo U 1 (λR U=>?_);refine ah ?_;refine Ru.bB (ts:=[_,_]) U ⟨Q,C,D,E,?_⟩;have Y:(kf g b (os.getD b [])).take (k+1)=(kf g b (os.getD b [])).take k++[(cU g b (os.getD b []))[k].1.toNat]:=by rw[List.take_succ];congr 1;rw[kf,ae5,afo o];rfl
  rw[Y,aeZ];rfl
 obtain⟨v,hd,h1,O,rfl⟩:=p;have S:(cU g b (os.getD b [])).length=(kf g b (os.getD b [])).length:=by rw[kf,aeR]
 rw[S,af4]at U;refine ah ?_;refine RO.eo U 1 (λR U=>?_);refine ah ?_;refine Ru.ke (M:=[L]) (ts:=[_,_]) (U.cH (afd (l₁:=[_,_]))) λi U=>⟨[v],⟨⟨_,_,rfl,U.one 1⟩,trivial⟩,h i v (U.sub (List.Sublist.cons₂ _ (agi _)))⟩
end
end
end
section
structure iU(W:Nat->List Nat)(P:Nat->Prop)(been been':List Bool)(new:List Nat):Prop where
 len:been'.length=been.length
 bn:∀x,been'.getD x false=true↔been.getD x false=true\/x∈new
 nd:new.Nodup
 fr:∀x∈new,been.getD x false=false
 cl:∀x∈new,∀w∈W x,been'.getD w false=true
 sg:∀ch x post,new=ch++x::post->P x\/∃y∈post,x∈W y
variable{W:Nat->List Nat}{P Q:Nat->Prop}{a b c:List Bool}{d n2:List Nat}{k:Nat}
theorem iU.nil:iU W P a a []:=⟨rfl,λx=>by simp,List.nodup_nil,λ_ h=>by simp at h,λ_ h=>by simp at h,λch x e h=>by cases ch<;>cases h⟩
theorem iU.mono(h:iU W P a b d)(g:∀x,P x->Q x):iU W Q a b d:=⟨h.len,h.bn,h.nd,h.fr,h.cl,λch x f e=>(h.sg ch x f e).imp_left (g x)⟩
theorem iU.mN(h:iU W P a b d)(h2:iU W P b c n2):iU W P a c (d++n2):=by
 refine⟨h2.len.trans h.len,λx=>?_,afa.2 ⟨h.nd,h2.nd,λx f y j e=>?_⟩,λx f=>?_,λx f w m=>?_,λch x g e=>?_⟩;·rw[h2.bn,h.bn,aeu,or_assoc]
 .subst e;have h3:=h2.fr x j;rw[(h.bn x).2 (.inr f)]at h3;cases h3
 .rcases aeu.1 f with f|f;·exact h.fr x f
  have h3:=h2.fr x f;cases n:a.getD x false with|false=>rfl|true=>rw[(h.bn x).2 (.inl n)]at h3;cases h3
 .rcases aeu.1 f with f|f;·exact(h2.bn w).2 (.inl (h.cl x f w m))
  exact h2.cl x f w m
 rcases List.append_eq_append_iff.1 e with⟨l,rfl,i⟩|⟨l,rfl,i⟩;·exact h2.sg l x g i
 cases l with
 |nil=>exact h2.sg [] x g (by simpa using i.symm)
 |cons y l=>
  simp only[afk,ae1]at i;obtain⟨rfl,rfl⟩:=i;rcases h.sg ch x l rfl with h3|⟨y,j,h3⟩;·exact .inl h3
  exact .inr ⟨y,aeN _ j,h3⟩
theorem iU.aA(hb:a.getD k false=false)(o:k<a.length)(h:iU W (·∈W k) (a.set k true) c d)(p:∀w∈W k,c.getD w false=true):iU W (·=k) a c (d++[k]):=by
 have e:∀x,(a.set k true).getD x false=true↔x=k\/a.getD x false=true:=λx=>by
  rw[dk o];by_cases h:x=k;·simp[h]
  simp[h]
 have m:k∉d:=λq=>by have:=h.fr k q;rw[(e k).2 (.inl rfl)]at this;cases this
 refine⟨by rw[h.len];simp,λx=>?_,afa.2 ⟨h.nd,aC,λx f y j e=>?_⟩,λx f=>?_,λx f w i=>?_,λch x n e=>?_⟩
 .rw[h.bn,e,aeu,aaN];constructor
  .rintro((h|h)|h);·exact .inr (.inr h)
   .exact .inl h
   exact .inr (.inl h)
  rintro(h|h|h);·exact .inl (.inr h)
  .exact .inr h
  exact .inl (.inl h)
 .rw[aaN]at j;exact m (by rw[<-j,<-e];exact f)
 .rcases aeu.1 f with f|f;·have h3:=h.fr x f;cases r:a.getD x false with|false=>rfl|true=>rw[(e x).2 (.inr r)]at h3;cases h3
  rw[aaN]at f;subst f;exact hb
 .rcases aeu.1 f with f|f;·exact h.cl x f w i
  rw[aaN]at f;subst f;exact p w i
 rcases List.append_eq_append_iff.1 e with⟨l,rfl,g⟩|⟨l,rfl,g⟩;·cases l with|nil=>simp only[afz,ae1]at g;exact .inl g.1.symm|cons y l=>simp at g
 cases l with
 |nil=>simp only[afz,ae1]at g;exact .inl g.1
 |cons y l=>
  simp only[afk,ae1]at g;obtain⟨rfl,rfl⟩:=g;rcases h.sg ch x l rfl with h3|⟨y,j,h3⟩;·exact .inr ⟨k,aC,h3⟩
  exact .inr ⟨y,aeN _ j,h3⟩
theorem iU.gS(h:iU W P a b d)(j:∀x∈d,x<a.length):d.length+gS b=gS a:=by
 have h1:=h.len;have h2:=h.bn;have h3:=h.nd;have m:=h.fr;clear h;induction d generalizing a with
 |nil=>
  have:b=a:=by apply agb h1;intro i hi hj;have:=h2 i;simp only[aeS,or_false]at this;rw[bm hi,bm hj]at this;cases n:b[i]<;>cases o:a[i]<;>simp[n,o]at this⊢
  subst this;simp
 |cons x l p=>
  have g:=j x (acm ..);have q:=m x (acm ..);have hs:=ou g q;have r:∀y,b.getD y false=true↔(a.set x true).getD y false=true\/y∈l:=λy=>by
   rw[h2,dk g,aer];by_cases h:y=x;·simp[h]
   simp[h]
  have s:∀y∈l,(a.set x true).getD y false=false:=λy f=>by rw[dk g,ap λe=>(afX.1 h3).1 (by rw[<-e];exact f)];exact m y (aen _ f)
  have t:=p (a:=a.set x true) (λy f=>by simpa using j y (aen _ f)) (by simpa using h1) r (afX.1 h3).2 s;simp only[aeJ];omega
inductive jW(W:Nat->List Nat):List Nat->List Bool->List Bool->List Nat->Prop
 |nil{a:List Bool}:jW W [] a a []
 |skip{b:Nat}{l:List Nat}{a c:List Bool}{n:List Nat}(h:a.getD b false=true)(r:jW W l a c n):jW W (b::l) a c n
 |go{b:Nat}{l:List Nat}{a a1 c:List Bool}{n1 n2:List Nat}(h:a.getD b false=false)(r1:jW W (W b) (a.set b true) a1 n1)(r2:jW W l a1 c n2):jW W (b::l) a c (n1++b::n2)
theorem jW.mN{l e:List Nat}(h:jW W l a b d)(h2:jW W e b c n2):jW W (l++e) a c (d++n2):=by induction h with|nil=>exact h2|skip h _ g=>exact .skip h (g h2)|go h i _ _ f=>have:=jW.go (l:=_++e) h i (f h2);simpa only[aeC,afk]using this
theorem jW.one(h:a.getD k false=false)(r:jW W (W k) (a.set k true) c d):jW W [k] a c (d++[k]):=.go h r .nil
end
section
variable{ac:Nat->aX}
section
section
variable{g:G.aY}{i j:AV}{f a b c d h:af}{H:ai}{come:List Bool}{os:List (List bI)}{l:List AV}
def wW(g:G.aY)(os:List (List bI))(e:Nat):List Nat:=kf g e (os.getD e [])
theorem dq.kG(n:dq g come os){m w:Nat}(hb:come.getD m false=true)(e:w∈wW g os m):come.getD w false=true:=by simp only[wW,kf,aeK]at e;obtain⟨x,k,rfl⟩:=e;exact n.dn m hb x k
theorem dq.lt(k:dq g come os){e:Nat}(hb:come.getD e false=true):e<g.aj.length:=by rw[<-k.cl];exact yL hb aC
def Ky(a b c d:af):AV:=.func UM [] [.aD b 0,.aD a 0,.aD d 0,.aD c 0]
def wD(f a b c d h:af)(n:Nat)(e:List Bool)(bQ:List Nat)(k:AV):List Th:=[tS 3 1 (bQ.map aN) bQ.length true k,tB Uc d [Ky a b c d],tB fZ c [k],tB tu b [.slice h 0 n n true],tB iw a [.aD f 0],tS 4 1 (e.map .bool) n true (.slice h 0 n n true)]
theorem Za(T:Tb ac)(R:G.Sm g)(hE:ff g)(hX:GX g H f i j come os l)(F:dq g come os):∀(m bd:Nat)(n:List Bool)(bQ:List Nat)(D:AV)(E:ai)(us:List Th)(K:KT),gS n<=m->come.getD bd false=true->n.length=g.aj.length->bQ.length+gS n<=g.aj.length->al H E (wD f a b c d h g.aj.length n bQ D++us)->(∀H2 t new V ws,jW (wW g os) [bd] n t new->iU (wW g os) (·=bd) n t new->t.getD bd false=true->(∀x∈new,come.getD x false=true)->al H H2 (wD f a b c d h g.aj.length t (bQ++new) V++(ws++us))->K (fG []) H2)->YF ac (Ky a b c d) [aN bd] E K:=by
 intro m;induction m with
 |zero=>intro bd n bQ D E us K hm hb hl ho U bv;have J:=F.lt hb;refine YF.code T.JT aC ?_;refine ah ?_;cases r:n.getD bd false with|true=>refine RO.dh U 5 (v:=.bool true) (hv:=by rw[lE false ab,r]) ?_;refine ah ?_;refine Ru.mI (vs:=[]) trivial (bv E n [] D [] (.skip r .nil) iU.nil r (λ_ bv=>by simp at bv) (by rw[afu];exact U))|false=>have:=ou (k:=bd) ab r;omega
 |succ m ih=>
  intro bd n bQ D E us K hm hb hl ho U bv;have ay:=R.nb;have J:=F.lt hb;refine YF.code T.JT aC ?_;refine ah ?_;cases r:n.getD bd false with
  |true=>refine RO.dh U 5 (v:=.bool true) (hv:=by rw[lE false ab,r]) ?_;refine ah ?_;refine Ru.mI (vs:=[]) trivial (bv E n [] D [] (.skip r .nil) iU.nil r (λ_ bv=>by simp at bv) (by rw[afu];exact U))
  |false=>
   have a1:=ou (k:=bd) ab r;have ax:(wW g os bd).length<=12:=by have:=Bc (now:=os.getD bd []) R J;simpa[wW,kf]using this
   refine RO.dh U 5 (v:=.bool false) (hv:=by rw[lE false ab,r]) ?_;refine ah ?_;refine RO.gF U 5 true hl (λH3 U=>?_) (k:=bd);refine ah ?_;refine RO.cl (EA T R hE (hX.bZ U.gr) F hb λH4 v L=>?_);have U:=U.eK L;change al H H4 ([tS 3 1 ((wW g os bd).map aN) (wW g os bd).length true v]++(wD f a b c d h g.aj.length (n.set bd true) bQ D++us))at U;have U:=al.eC (xs:=[_]) (by rw[aeC];exact U);have⟨a2,_,_,a6⟩:=(L.sl (e:=3) (size:=1) (sv:=v) (vs:=(wW g os bd).map aN) (n:=(wW g os bd).length) (full:=true) 0).all;refine ah ?_;refine Ru.nm λS M hS hM=>?_;refine Ru.bM hM (up (P:=λk=>∀I p new A ws,jW (wW g os) ((wW g os bd).take k) (n.set bd true) p new->iU (wW g os) (·∈wW g os bd) (n.set bd true) p new->(∀x∈new,come.getD x false=true)->(∀w∈(wW g os bd).take k,p.getD w false=true)->al H I (wD f a b c d h g.aj.length p (bQ++new) A++(tS 3 1 ((wW g os bd).map aN) (wW g os bd).length true v::(ws++us)))->Ru ac _ S ([(rM,aN k)]++pk M [p0,p3,p4,n6,n8]) I) (wW g os bd).length (λk hk W I p new A ws B Q hc hw U=>?_) 0 ab _ _ [] _ [] .nil iU.nil (λ_ bv=>by simp at bv) (λ_ bv=>by simp at bv) (by rw[afu];exact U));have a8:=Q.gS λx u=>by rw[afQ,hl];exact F.lt (hc x u)
   have X:p.length=g.aj.length:=by rw[Q.len,afQ,hl]
   subst hS;subst hM;refine Ru.loop ?_;refine au ?_;refine Ru.cond (λY=>?_) (λY=>?_)
   .refine ah ?_;refine RO.iE (aZ.refl I) (U.sl (e:=3) (size:=1) (sv:=v) (vs:=(wW g os bd).map aN) (n:=(wW g os bd).length) (full:=true) 6) (λq o hj Z=>?_);refine RO.bk ?_ (hc:=Z);refine ah ?_;refine RO.cl (ih ((wW g os bd)[k]) p (bQ++new) A I _ _ ab (F.kG hb (acI hj)) X (by rw[aex];omega) U λH5 y z ag C P N av aw U=>?_);refine ah ?_;have g1:∀x∈new++z,come.getD x false=true:=λx u=>by
     rcases aeu.1 u with u|u;·exact hc x u
     exact aw x u
    have g2:∀w∈(wW g os bd).take (k+1),y.getD w false=true:=λw s=>by
     rw[List.take_succ,afo hj]at s;rcases aeu.1 s with s|s;·exact(N.bn w).2 (.inl (hw w s))
     simp at s;rw[s];exact av
    have U:=U.cH (List.Perm.append_left _ (afd (l₁:=C)));rw[aeC bQ,<-aeC C]at U;exact Ru.wk (W (k+1) ab ab H5 y (new++z) ag (C++ws) (by rw[(aeO hj).symm];exact B.mN P) (Q.mN (N.mono λx bv=>by rw[bv];exact acI hj)) g1 g2 U)
   refine Ru.exitTo ?_;refine ah ?_;refine RO.push U 0 (λw H6 v2 U=>?_) (ws:=[aN bd]) (hb:=by rw[aex];omega) (hn:=by rw[aex];omega);have⟨a',ba,bb,_⟩:=(U.sl (e:=3) (size:=1) (n:=(bQ++new).length+1) (full:=true) (sv:=v2) 0).all;refine RO.eo U 2 (λH7 U=>?_);refine ah ?_;have O:=iU.aA r ab Q (λw s=>hw w (by rw[aeI ab];exact s));refine Ru.aA (vs:=[]) trivial (bv H7 p (new++[bd]) v2 (tS 3 1 ((wW g os bd).map aN) (wW g os bd).length true v::ws) (.one r (by rw[aeI ab]at B;exact B)) O ((O.bn bd).2 (.inr aC)) (λx u=>?_) ?_)
   .rcases aeu.1 u with u|u;·exact hc x u
    rw[aaN]at u;rw[u];exact hb
   have e:((bQ++(new++[bd])).map aN)=(bQ++new).map aN++[aN bd]:=aC;have e2:(bQ++(new++[bd])).length=(bQ++new).length+1:=by simp;omega
   simp only[wD,e,e2];exact U
end
end
section
theorem Zb{l:List Nat}{i j x f b:Nat}(hi:i<l.length)(hj:j<l.length):((l.set i f).set j b).getD x 0=if x=j then b else if x=i then f else l.getD x 0:=by rw[dk (by simpa using hj),dk hi]
theorem Zc(T:Tb ac){A H:ai}{us:List Th}{l:List Nat}{n cap:Nat}{q:af}{ex:Bool}(o:l.length=n)(h0:0<n)(z:n<1000000)(U:al A H (tS 3 1 (l.map aN) n true (.slice q 0 n cap ex)::us)){K:KT}(s:∀p,al A p (tS 3 1 (l.reverse.map aN) n true (.slice q 0 n cap ex)::us)->K (fG []) p):YN ac UO [.slice q 0 n cap ex] H K:=by
 refine YF.code T.Wz aC ?_;refine au ?_;refine RO.arith (v:=aN (n - 1)) ?_ (hv:=pj (k:=n) ab ab);refine au ?_;refine Ru.nm λS M t r=>?_;refine Ru.bM r (up (P:=λk=>∀i b,b.length=n->(∀x,x<n->b.getD x 0=if x<k\/n<=x+k then l.getD (n - 1 - x) 0 else l.getD x 0)->al A i (tS 3 1 (b.map aN) n true (.slice q 0 n cap ex)::us)->Ru ac _ S ([(p2,aN k),(p3,aN (n - 1 - k))]++pk M [p0]) i) (n - 1) (λk B u i b f h U=>?_) 0 ab _ l o (λx h=>by rw[ap ab]) U);subst t;subst r;refine Ru.loop ?_;refine au ?_;refine Ru.cond (λj=>?_) (λj=>?_)
 .refine ah ?_;refine RO.dh U 0 (hv:=lE 0 ab) ?_;refine ah ?_;refine RO.dh U 0 (hv:=lE 0 ab) ?_;refine ah ?_;refine RO.gF (f:=aN) U 0 (b.getD (n - 1 - k) 0) f (λC U=>?_) (k:=k);refine ah ?_;refine RO.gF (f:=aN) (zs:=b.set k (b.getD (n - 1 - k) 0)) (n:=n) U 0 (b.getD k 0) (by rw[afQ];exact f) (λv U=>?_) (k:=n - 1 - k) (ho:=by rw[afQ];omega);refine ah ?_;refine RO.arith (v:=aN (n - 1 - (k+1))) ?_ (hv:=by rw[show n - 1 - (k+1)=n - 1 - k - 1 by omega];exact pj (k:=n - 1 - k) ab ab);refine au ?_;have w:∀x,x<n->((b.set k (b.getD (n - 1 - k) 0)).set (n - 1 - k) (b.getD k 0)).getD x 0=if x<k+1\/n<=x+(k+1)then l.getD (n - 1 - x) 0 else l.getD x 0:=λx m=>by
   rw[Zb ab ab];by_cases h1:x=n - 1 - k;·rw[aH h1,aH ab,h k ab,ap ab,h1];congr 1;omega
   rw[ap h1];by_cases h2:x=k;·rw[aH h2,aH ab,h _ ab,ap ab,h2]
   rw[ap h2,h x m];by_cases h3:x<k\/n<=x+k;·rw[aH h3,aH ab]
   rw[ap h3,ap ab]
  have y:((b.set k (b.getD (n - 1 - k) 0)).set (n - 1 - k) (b.getD k 0)).length=n:=by simpa using f
  exact Ru.wk (u (k+1) ab ab v _ y w U)
 refine Ru.exitTo ?_;refine au ?_;have D:b=l.reverse:=by
  apply agb (by simp[f,o]);intro x h1 h2;have h3:=h x ab;rw[bm h1]at h3;rw[h3,List.getElem_reverse];split;·rw[bm ab];congr 1;omega
  rw[bm ab];congr 1;omega
 subst D;exact Ru.aA (vs:=[]) trivial (s _ U)
section
variable{g:G.aY}{c d:AV}{a:af}{H:ai}{come:List Bool}{os:List (List bI)}{e:List AV}
structure pz(g:G.aY)(come:List Bool)(os:List (List bI))(aB:List Nat):Prop where
 nd:aB.Nodup
 mem:∀b,b∈aB↔come.getD b false=true
 hd:∃rest,aB=0::rest
 aM:∀ch x post,aB=ch++x::post->x=0\/∃y∈ch,x∈wW g os y
 sr:∃been,jW (wW g os) [0] (aeo g.aj.length false) been aB.reverse
theorem iU.aB(q:ff g)(m:dq g come os){f:List Bool}{new:List Nat}(r:jW (wW g os) [0] (aeo g.aj.length false) f new)(h:iU (wW g os) (·=0) (aeo g.aj.length false) f new)(h0:f.getD 0 false=true)(n:∀x∈new,come.getD x false=true):pz g come os new.reverse:=by
 have j:∀x,f.getD x false=true↔x∈new:=λx=>by
  rw[h.bn];constructor
  .rintro(h|h);·simp[aeD,afb]at h;split at h<;>cases h
   exact h
  exact .inr
 have hl:∀b o,fy g b o->b∈new:=λb o hl=>by induction hl with|zero=>exact(j 0).1 h0| @step b o w hb s p=>have u:=q.t8 hb (m.dY b (n b p));refine(j _).1 (h.cl b p _ ?_);simp only[wW,kf,<-u];exact aeX s
 refine⟨List.pairwise_reverse.2 (h.nd.imp λh=>h.symm),λb=>?_,?_,λch x i u=>?_,f,by rw[List.reverse_reverse];exact r⟩;·rw[aga];exact⟨n b,λhb=>hl b _ (m.dY b hb)⟩
 .have h1:=(j 0).1 h0;rcases List.eq_nil_or_concat new with rfl|⟨l,x,rfl⟩;·simp at h1
  rcases h.sg l x [] aC with h2|⟨y,k,_⟩;·exact⟨l.reverse,by simp[h2]⟩
  simp at k
 have t:new=i.reverse++x::ch.reverse:=by have:=congrArg List.reverse u;simpa using this
 rcases h.sg _ _ _ t with h2|⟨y,k,h2⟩;·exact .inl h2
 exact .inr ⟨y,aga.1 k,h2⟩
theorem Kz(T:Tb ac)(n:G.Sm g)(o:ff g)(f:GX g H a c d come os e)(b:dq g come os){K:KT}(h:∀p v aB,pz g come os aB->al H p [tS 3 1 (aB.map aN) aB.length true v]->K v p):YN ac Ux [.aD a 0] H K:=by
 have F:=n.nb;have I:=b.lt b.c0;have⟨hd,_,_,J⟩:=f.bl.all;have i:=f.iz.be;have j:=f.iz.lt;refine YF.code T.Wf aC ?_;refine au ?_;refine RO.cG (al.bY H) λL w U=>?_;refine ah ?_;refine RO.bk ?_ (hc:=by rw[U.gr.bx j];exact i);refine ah ?_;refine RO.jn U (n:=g.aj.length) (λM y U=>?_) (hz:=by rw[eS];simp);have er:ep [AV.bool false] g.aj.length=(aeo g.aj.length false).map .bool:=by rw[eS,afS]
 rw[er]at U;refine RO.eR U λN z U=>?_;refine ah ?_;refine RO.dM U λO A U=>?_;refine ah ?_;refine RO.dM U λP B U=>?_;refine ah ?_;refine RO.eo U 0 (λC U=>?_);refine ah ?_;have U:=(U.qp 3 1);have U:al H C (wD a w z A B y g.aj.length (aeo g.aj.length false) [] .aG++[]):=U.cH (List.Perm.append_left [_,_,_,_] (afA ..));refine RO.cl (Za T n o f b _ 0 _ [] _ _ [] _ (aeq _) b.c0 aC (by rw[wC];simp) U λQ u new R S k s hb hc U=>?_);have t:=s.aB o b k hb hc;have l:0<new.length:=by obtain⟨r,D⟩:=t.hd;have:=congrArg List.length D;simp at this;omega
 rw[afz]at U;obtain⟨q,cap,ex,rfl⟩:=U.md 0 rfl ab;have m:=s.gS λx E=>by rw[afB];exact b.lt (hc x E)
 rw[wC]at m;refine ah ?_;refine RO.cl (Zc T rfl l ab U λV U=>?_);refine ah ?_;have W:new.reverse.length=new.length:=aC;rw[<-W]at U;rw[<-W];exact Ru.aP (h _ _ _ t (U.sub (afN _ (agi _))))
end
end
theorem KA{n:Nat}(h:n<18446744073709551616):(ck 7).wrap (.ofNat n)=.ofNat n:=by show IntKind.wrap (ck 7) _=_;have a:(ck 7).bits=64:=rfl;have b:(ck 7).signed=false:=rfl;unfold IntKind.wrap;simp only[a,b,Bool.false_and,abu,bA];have c:(2:Int)^64=18446744073709551616:=bK;rw[c,aev];omega
theorem c7{n:Nat}(h:n<18446744073709551616):fA 7 (.ofNat n)=.ofNat n:=RM (KA h)
theorem m7{a b c:Nat}(h:a*b=c)(d:c<18446744073709551616):eT .mul 7 (.ofNat a) (.ofNat b)=some (.int 7 (.ofNat c)):=by show some (AV.int 7 (fA 7 (.ofNat (a*b))))=_;rw[h,c7 d]
theorem a7{a b c:Nat}(h:a+b=c)(d:c<18446744073709551616):eT .add 7 (.ofNat a) (.ofNat b)=some (.int 7 (.ofNat c)):=by show some (AV.int 7 (fA 7 (.ofNat (a+b))))=_;rw[h,c7 d]
theorem n7{a:Nat}(h:a<4294967296):eT .and 7 (.ofNat a) (.ofNat 4294967295)=some (.int 7 (.ofNat a)):=by
 have e:(afr (ck 7).bits (.ofNat a)&&&afr (ck 7).bits (.ofNat 4294967295)).toNat=a:=by
  show(afr 64 (.ofNat a)&&&afr 64 (.ofNat 4294967295)).toNat=a;rw[BitVec.toNat_and];have b:(afr 64 (afq a)).toNat=a:=by show(afr 64 ((a:Nat):Int)).toNat=a;rw[BitVec.ofInt_natCast,BitVec.toNat_ofNat];omega
  rw[b,show(afr 64 (afq 4294967295)).toNat=2^32 - 1 from rfl,Nat.and_two_pow_sub_one_eq_mod];omega
 simp only[eT,e,ko];exact congrArg (λx=>some (AV.int 7 x)) (KA ab)
theorem s7{a:Nat}(h:a<4294967296):zm .shr (.int 7 (.ofNat a)) (.int 7 (.ofNat 32))=some (.int 7 (.ofNat 0)):=by
 show some (AV.int 7 ((afq a).fdiv (2^32)))=_;have:(afq a).fdiv (2^32)=0:=by rw[Int.fdiv_eq_ediv_of_nonneg _ bK];exact Int.ediv_eq_zero_of_lt aC (by simp;omega)
 rw[this];rfl
theorem RO.shift{c:Cx}{s:List SI}{L:Kn}{H:ai}{d:Option af}{l:List bu}{op:BinOp}{x y:aK}{a b v:AV}(h:RO ac c l s (bj L d v) H)(f:aT L x=a:=by exact cw)(g:aT L y=b:=by exact cw)(i:a.bq=true:=by rfl)(hb:b.bq=true:=by rfl)(hv:zm op a b=some v):RO ac c (⟨d,.shift op x y,none,[],[]⟩::l) s L H:=RO.op (λaa e=>by simp only[aE,e.gv f i,e.gv g hb,hv];rfl) h
theorem Zd(T:Tb ac){H:ai}{n:Nat}(b:n<4294967296){K:KT}(a:K (.tuple [.int 7 (.ofNat 0),.int 7 (.ofNat n)]) H):YN ac Vf [.int 7 (.ofNat 1),.int 7 (.ofNat n)] H K:=by refine YF.code T.Xa aC ?_;refine au ?_;refine RO.arith ?_ (hv:=n7 (a:=1) ab);refine au ?_;refine RO.shift ?_ (hv:=s7 (a:=1) ab);refine au ?_;refine RO.arith ?_ (hv:=n7 (a:=n) ab);refine au ?_;refine RO.shift ?_ (hv:=s7 (a:=n) ab);refine au ?_;refine RO.arith ?_ (hv:=m7 (a:=1) (b:=n) (c:=n) ab ab);refine au ?_;refine RO.arith ?_ (hv:=m7 (a:=0) (b:=n) (c:=0) ab ab);refine au ?_;refine RO.shift ?_ (hv:=s7 (a:=n) ab);refine au ?_;refine RO.arith ?_ (hv:=a7 (a:=0) (b:=0) (c:=0) ab ab);refine au ?_;refine RO.arith ?_ (hv:=n7 (a:=0) ab);refine au ?_;refine RO.shift ?_ (hv:=s7 (a:=0) ab);refine au ?_;refine RO.arith ?_ (hv:=m7 (a:=1) (b:=0) (c:=0) ab ab);refine au ?_;refine RO.arith ?_ (hv:=a7 (a:=0) (b:=0) (c:=0) ab ab);refine au ?_;refine RO.arith ?_ (hv:=m7 (a:=0) (b:=0) (c:=0) ab ab);refine au ?_;refine RO.arith ?_ (hv:=a7 (a:=0) (b:=0) (c:=0) ab ab);refine au ?_;refine RO.shift ?_ (hv:=s7 (a:=0) ab);refine au ?_;refine RO.arith ?_ (hv:=a7 (a:=0) (b:=0) (c:=0) ab ab);refine au ?_;refine RO.arith ?_ (hv:=m7 (a:=1) (b:=n) (c:=n) ab ab);refine au ?_;exact Ru.i4 a
theorem KB(T:Tb ac){H:ai}{n:Nat}(a:n<4294967296){K:KT}(b:K (.tuple [.int 7 (.ofNat 0),.int 7 (.ofNat n)]) H):YN ac U6 [.int 7 (.ofNat 1),.int 7 (.ofNat n)] H K:=by refine YF.code T.WV aC ?_;refine au ?_;refine RO.cl (Zd T a ?_);refine au ?_;exact Ru.i4 b
end
end Go.ak.R
namespace Go.ak
section
variable{ac:Nat->aX}{c:Cx}{s:List SI}{L:Kn}{A H:ai}{d:Option af}{l:List bu}{ts:List Th}{q:af}{e n m k o i cap cp size:Nat}{u z yv:AV}{full ex ex':Bool}
def jI(u z:AV)(size k n:Nat):List AV:=aeo (k*size) u++aeo ((n - k)*size) z
theorem EB(h:k<=n):(jI u z size k n).length=n*size:=by simp only[jI,aex,afB,<-agh];congr 1;omega
theorem KC(h:k<=n){j:Nat}(hj:j<n*size):(jI u z size k n)[j]?=some (if j<k*size then u else z):=by
 rw[jI,List.getElem?_append];simp only[afB];split;·rw[afb,aH (by assumption)]
 have:(n - k)*size=n*size - k*size:=Nat.sub_mul .. ;rw[afb,aH ab]
theorem KD:jI u z size n n=aeo (n*size) u:=by simp[jI]
theorem RO.Bd(U:al A H ts)(i:Nat){x y:aK}(hi:ts[i]?=some (tS e size (jI u z size k n) n full (.slice q 0 n cap ex)))(g:k<=n)(hu:u.db=true)(hs:Sl H size (aeo (m*size) u) m yv)(w:min m (n - k)≠0)(B:o=k*size)(h:∀f,al A f (ts.set i (tS e size (jI u z size (k+min m (n - k)) n) n full (.slice q 0 n cap ex)))->RO ac c l s (bj L d (.int 3 (.ofNat (min m (n - k))))) f)(C:aT L x=.slice q o (n - k) cp ex':=by exact cw)(D:aT L y=yv:=by exact cw):RO ac c (⟨d,.copy size x y,none,[],[]⟩::l) s L H:=by
 obtain⟨G,v,_,p⟩:=U.iu i hi;have b:n<=cap:=by
  rcases v with⟨_,_,_,h⟩|⟨I,J,aM,cap,ex',rfl,h2,_,K,_⟩;·cases h
  injection h2 with _ _ _ h2;omega
 have a:k+min m (n - k)<=n:=ab;have r:(aeo (m*size) u).take (min m (n - k)*size)=aeo (min m (n - k)*size) u:=by rw[List.take_replicate,<-Nat.mul_min_mul_right];congr 1;have:=aeV size (Nat.min_le_left m (n - k));omega
 have E:cE (aeo (min m (n - k)*size) u)=true:=by generalize min m (n - k)*size=t;induction t with|zero=>rfl|succ t F=>rw[List.replicate_succ];exact ao hu F
 have M:(k+min m (n - k))*size=k*size+min m (n - k)*size:=agh .. ;have N:(k+min m (n - k))*size<=n*size:=aeV _ a;have O:n*size<=cap*size:=aeV _ b;obtain⟨f,h1,h2,h3⟩:=cI.qn v (o:=o) (ws:=aeo (min m (n - k)*size) u) (us:=jI u z size (k+min m (n - k)) n) (by rw[afB];omega) E (by rw[EB g,EB a]) λj hj=>by
  rw[EB g]at hj;rw[KC a hj,KC g hj,afB,B];by_cases h1:k*size<=j/\j<k*size+min m (n - k)*size;·rw[aH h1,afb,aH ab,aH ab]
  rw[ap h1];by_cases h2:j<k*size;·rw[aH h2,aH ab]
  rw[ap h2,ap ab]
 exact RO.copy C D hs.bq hs.fB w (by rw[r];exact h1) (h f (p h2 h3))
end
end Go.ak
namespace Go.ak.R
section
variable{ac:Nat->aX}
theorem Zf(T:Tb ac){H:ai}{n:Nat}{u xv:AV}(hu:u.db=true)(hs:Sl H 1 (aeo (1*1) u) 1 xv)(r:n<=1000000){K:KT}(e:∀f q,al H f [tS 3 1 (aeo (n*1) u) n true (.slice q 0 n n true)]->K (.slice q 0 n n true) f):YN ac UK [xv,aN n] H K:=by
 have⟨hd,_,_,p⟩:=hs.all;refine YF.code T.Ww aC ?_;refine au ?_;refine RO.jM ?_;refine au ?_;refine RO.jM ?_;refine RO.cl (KB T (n:=n) ab ?_) (ha:=by show[AV.int 7 (fA 7 (.ofNat 1)),AV.int 7 (fA 7 (.ofNat n))]=_;rw[c7 ab,c7 ab]);refine ah ?_;refine Ru.cond (λ(h:9223372036854775807<n)=>by omega) (λ_=>?_);refine ah ?_;refine RO.jM ?_;rw[ma (n:=.ofNat n) (by rw[aev];omega) (by rw[aev];omega)];refine RO.jn (al.bY H) (n:=n) (λs q U=>?_) (hz:=by rw[eS];simp);have b:ep [.int 3 (.ofNat 0)] n=jI u (.int 3 (.ofNat 0)) 1 0 n:=by rw[eS];simp[jI]
 rw[b]at U;refine au ?_;rcases af6 n with rfl|i;·refine RO.I1 (xv:=.slice q 0 0 0 true) rfl rfl hd (U.gr.sl hs).fB ⟨0,rfl,aC⟩ ?_;refine au ?_;refine Ru.loop ?_;refine au ?_;refine Ru.exitTo ?_;refine au ?_;exact Ru.aP (e _ q U)
 refine RO.Bd U 0 rfl (Nat.zero_le n) hu (m:=1) (U.gr.sl hs) ab (o:=0) ab (λj U=>?_);rw[show min 1 (n - 0)=1 by omega,aeL]at*;refine au ?_;refine Ru.nm λS M l g=>?_;refine Ru.bM g (up (P:=λk=>1<=k->∀c,al H c [tS 3 1 (jI u (.int 3 (.ofNat 0)) 1 k n) n true (.slice q 0 n n true)]->Ru ac _ S ([(p8,aN k)]++pk M [p7]) c) n (λk t m h1 c U=>?_) 1 ab (aeq _) _ U);subst l;subst g;refine Ru.loop ?_;refine au ?_;refine Ru.cond (λd=>?_) (λd=>?_)
 .refine au ?_;refine RO.gp (m:=n) (b:=n) (a:=k) rfl rfl rfl (by show lS (aN k) n=_;exact mK ab) rfl ?_;refine au ?_;refine RO.mS (U.sl 0 rfl) (b:=k) ?_;have o:(jI u (.int 3 (.ofNat 0)) 1 k n).take (k*1)=aeo (k*1) u:=by rw[jI,List.take_append_of_le_length aC,aeI aC]
  have a:=A8 (U.sl 0 rfl) (b:=k) ab;rw[o]at a;refine RO.Bd U 0 rfl ab hu a ab (o:=if true&&decide (n=k)then 0 else 0+k*1) (by rw[ap (by simp;omega)];omega) (λj U=>?_);refine RO.add ?_ (a:=.ofNat k) (b:=.ofNat (min k (n - k))) (h1:=by simp;omega) (h2:=by simp;omega);refine au ?_;exact Ru.wk (m (k+min k (n - k)) ab ab ab _ U)
 refine Ru.exitTo ?_;refine au ?_;have:k=n:=ab;subst this;rw[KD]at U;exact Ru.aP (e _ q U)
theorem EC(z:AV):∀n,ep [z,z] n=aeo (n*2) z|0=>rfl|n+1=>by rw[show(n+1)*2=n*2+1+1 by omega,List.replicate_succ,List.replicate_succ,<-EC z n];rfl
theorem Zg(T:Tb ac){H:ai}{n:Nat}{u xv:AV}(hu:u.db=true)(hs:Sl H 2 (aeo (1*2) u) 1 xv)(r:n<=1000000){K:KT}(e:∀f q,al H f [tS nY 2 (aeo (n*2) u) n true (.slice q 0 n n true)]->K (.slice q 0 n n true) f):YN ac Vl [xv,aN n] H K:=by
 have⟨hd,_,_,p⟩:=hs.all;refine YF.code T.Xp aC ?_;refine au ?_;refine RO.jM ?_;refine au ?_;refine RO.jM ?_;refine RO.cl (KB T (n:=n) ab ?_) (ha:=by show[AV.int 7 (fA 7 (.ofNat 1)),AV.int 7 (fA 7 (.ofNat n))]=_;rw[c7 ab,c7 ab]);refine ah ?_;refine Ru.cond (λ(h:9223372036854775807<n)=>by omega) (λ_=>?_);refine ah ?_;refine RO.jM ?_;rw[ma (n:=.ofNat n) (by rw[aev];omega) (by rw[aev];omega)];refine RO.jn (al.bY H) (n:=n) (λs q U=>?_) (hz:=by rw[EC];simp);have b:ep [.int 3 (.ofNat 0),.int 3 (.ofNat 0)] n=jI u (.int 3 (.ofNat 0)) 2 0 n:=by rw[EC];simp[jI]
 rw[b]at U;refine au ?_;rcases af6 n with rfl|i;·refine RO.I1 (xv:=.slice q 0 0 0 true) rfl rfl hd (U.gr.sl hs).fB ⟨0,rfl,aC⟩ ?_;refine au ?_;refine Ru.loop ?_;refine au ?_;refine Ru.exitTo ?_;refine au ?_;exact Ru.aP (e _ q U)
 refine RO.Bd U 0 rfl (Nat.zero_le n) hu (m:=1) (U.gr.sl hs) ab (o:=0) ab (λj U=>?_);rw[show min 1 (n - 0)=1 by omega,aeL]at*;refine au ?_;refine Ru.nm λS M l g=>?_;refine Ru.bM g (up (P:=λk=>1<=k->∀c,al H c [tS nY 2 (jI u (.int 3 (.ofNat 0)) 2 k n) n true (.slice q 0 n n true)]->Ru ac _ S ([(p8,aN k)]++pk M [p7]) c) n (λk t m h1 c U=>?_) 1 ab (aeq _) _ U);subst l;subst g;refine Ru.loop ?_;refine au ?_;refine Ru.cond (λd=>?_) (λd=>?_)
 .refine au ?_;refine RO.gp (m:=n) (b:=n) (a:=k) rfl rfl rfl (by show lS (aN k) n=_;exact mK ab) rfl ?_;refine au ?_;refine RO.mS (U.sl 0 rfl) (b:=k) ?_;have o:(jI u (.int 3 (.ofNat 0)) 2 k n).take (k*2)=aeo (k*2) u:=by rw[jI,List.take_append_of_le_length aC,aeI aC]
  have a:=A8 (U.sl 0 rfl) (b:=k) ab;rw[o]at a;refine RO.Bd U 0 rfl ab hu a ab (o:=if true&&decide (n=k)then 0 else 0+k*2) (by rw[ap (by simp;omega)];omega) (λj U=>?_);refine RO.add ?_ (a:=.ofNat k) (b:=.ofNat (min k (n - k))) (h1:=by simp;omega) (h2:=by simp;omega);refine au ?_;exact Ru.wk (m (k+min k (n - k)) ab ab ab _ U)
 refine Ru.exitTo ?_;refine au ?_;have:k=n:=ab;subst this;rw[KD]at U;exact Ru.aP (e _ q U)
end
section
inductive iA(W:Nat->List Nat)(d:Nat):Nat->Prop
 |zero(h:0≠d):iA W d 0
 |step{a x:Nat}(h:iA W d a)(hx:x∈W a)(hn:x≠d):iA W d x
def dZ(W:Nat->List Nat)(d b:Nat):Prop:=¬iA W d b
theorem dZ.ch{W:Nat->List Nat}{d a b:Nat}(h:dZ W d b)(c:b∈W a)(f:d≠b):dZ W d a:=λg=>h (.step g c λe=>f e.symm)
theorem dZ.zero{W:Nat->List Nat}{d:Nat}(h:dZ W d 0):d=0:=aeW λa=>h (.zero λe=>a e.symm)
structure Rk(W:Nat->List Nat)(aB ranks:List Nat):Prop where
 nd:aB.Nodup
 hd:∃rest,aB=0::rest
 aM:∀ch x post,aB=ch++x::post->x=0\/∃y∈ch,x∈W y
 rk:∀i(h:i<aB.length),ranks.getD aB[i] 0=i
variable{W:Nat->List Nat}{aB ranks:List Nat}{up:List Int}
theorem Rk.inj(h:Rk W aB ranks){a b:Nat}(c:a∈aB)(hb:b∈aB)(e:ranks.getD a 0=ranks.getD b 0):a=b:=by obtain⟨i,hi,rfl⟩:=aeB c;obtain⟨j,hj,rfl⟩:=aeB hb;rw[h.rk i hi,h.rk j hj]at e;subst e;rfl
theorem Rk.at(h:Rk W aB ranks){a:Nat}(b:a∈aB):∃hl:ranks.getD a 0<aB.length,aB[ranks.getD a 0]=a:=by obtain⟨i,hi,rfl⟩:=aeB b;have e:=h.rk i hi;generalize ranks.getD aB[i] 0=j at*;subst e;exact⟨hi,rfl⟩
theorem Rk.ch(h:Rk W aB ranks){b:Nat}(hb:b∈aB)(h0:b≠0):∃y∈aB,b∈W y/\ranks.getD y 0<ranks.getD b 0:=by
 obtain⟨hl,e⟩:=h.at hb;have c:aB=aB.take (ranks.getD b 0)++b::aB.drop (ranks.getD b 0+1):=by conv=>lhs;rw[<-afI (ranks.getD b 0) aB,aeE hl,e]
 rcases h.aM _ _ _ c with h1|⟨y,a,d⟩;·exact absurd h1 h0
 refine⟨y,af1 a,d,?_⟩;obtain⟨i,hi,rfl⟩:=aeB a;rw[aeP]at hi;rw[List.getElem_take,h.rk i ab];omega
theorem Rk.zero(h:Rk W aB ranks):0∈aB/\ranks.getD 0 0=0:=by obtain⟨r,a⟩:=h.hd;have:=h.rk 0 (by rw[a];simp);simp only[a,List.getElem_cons_zero]at this;exact⟨by rw[a];simp,this⟩
theorem Rk.dU(h:Rk W aB ranks){d:Nat}:∀(n b:Nat),ranks.getD b 0=n->b∈aB->dZ W d b->ranks.getD d 0<=n:=λn=>by
 induction n using Nat.strongRecOn with
 |ind n c=>
  intro b i hb hd;by_cases a:d=b;·subst a;omega
  by_cases h0:b=0;·subst h0;exact absurd hd.zero a
  obtain⟨y,e,f,g⟩:=h.ch hb h0;have:=c _ ab y rfl e (hd.ch f a);omega
structure mT(W:Nat->List Nat)(aB ranks:List Nat)(n:Nat)(up:List Int):Prop where
 len:up.length=n
 u0:up.getD 0 (-1)=0
 rg:∀b, -1<=up.getD b (-1)
 ok:∀b,b≠0->0<=up.getD b (-1)->b∈aB/\∃a:Nat,up.getD b (-1)=a/\a∈aB/\ranks.getD a 0<ranks.getD b 0/\0<=up.getD a (-1)/\∀d,dZ W d b->d≠b->dZ W d a
inductive ey(up:List Int)(m:Nat):Nat->Prop
 |refl:ey up m m
 |step{a c:Nat}(h:up.getD a (-1)=(c:Int))(h0:a≠0)(hc:ey up m c):ey up m a
theorem ey.trans{up:List Int}{a b c:Nat}(h1:ey up a b)(h2:ey up b c):ey up a c:=by induction h2 with|refl=>exact h1|step h h0 _ d=>exact .step h h0 d
def mU(up:List Int)(b x:Nat):Prop:=x≠0->∃m:Nat,up.getD x (-1)=(m:Int)/\ey up m b
structure ub(W:Nat->List Nat)(aB ranks:List Nat)(up:List Int)(a b m:Nat):Prop where
 mem:m∈aB
 df:0<=up.getD m (-1)
 ra:ranks.getD m 0<=ranks.getD a 0
 rb:ranks.getD m 0<=ranks.getD b 0
 dU:∀d,dZ W d a->dZ W d b->dZ W d m
 KE:ey up m a
 ED:ey up m b
theorem ub.swap{a b m:Nat}(h:ub W aB ranks up a b m):ub W aB ranks up b a m:=⟨h.mem,h.df,h.rb,h.ra,λd h1 h2=>h.dU d h2 h1,h.ED,h.KE⟩
theorem mT.KF{n:Nat}(h:mT W aB ranks n up)(i:Rk W aB ranks){a b:Nat}(o:a∈aB)(hb:b∈aB)(j:0<=up.getD a (-1))(k:a≠b)(p:ranks.getD b 0<=ranks.getD a 0):∃c:Nat,up.getD a (-1)=c/\c∈aB/\0<=up.getD c (-1)/\ranks.getD c 0<ranks.getD a 0/\∀m,ub W aB ranks up c b m->ub W aB ranks up a b m:=by
 have l:ranks.getD b 0<ranks.getD a 0:=Nat.lt_of_le_of_ne p λe=>k (i.inj o hb e.symm);have h0:a≠0:=λe=>by subst e;rw[i.zero.2]at l;omega
 obtain⟨_,c,h1,h2,h3,q,r⟩:=h.ok a h0 j;refine⟨c,h1,h2,q,h3,λm f=>⟨f.mem,f.df,by have:=f.ra;omega,f.rb,λd hd g=>f.dU d (r d hd λe=>?_) g,.step h1 h0 f.KE,f.ED⟩⟩;subst e;have:=i.dU _ b rfl hb g;omega
theorem mT.set{n:Nat}(h:mT W aB ranks n up)(s:Rk W aB ranks){to b:Nat}(j:to∈aB)(r:to<n)(h0:to≠0)(g:b∈aB)(k:0<=up.getD b (-1))(m:ranks.getD b 0<ranks.getD to 0)(hd:∀d,dZ W d to->d≠to->dZ W d b):mT W aB ranks n (up.set to (b:Int)):=by
 have hl:=h.len;have e:∀x,(up.set to (b:Int)).getD x (-1)=if x=to then(b:Int)else up.getD x (-1):=λx=>dk ab;have l:∀x,0<=up.getD x (-1)->0<=(up.set to (b:Int)).getD x (-1):=λx i=>by
  rw[e];split;·omega
  exact i
 refine⟨by simpa using hl,by rw[e,ap λe=>h0 e.symm];exact h.u0,λx=>?_,λx i c=>?_⟩
 .rw[e];split;·omega
  exact h.rg x
 rw[e]at c⊢;split;·rename_i f;subst f;exact⟨j,b,rfl,g,m,l _ k,hd⟩
 rename_i f;rw[ap f]at c;obtain⟨h1,a,h2,h3,o,p,q⟩:=h.ok x i c;exact⟨h1,a,h2,h3,o,l _ p,q⟩
def mV(ranks:List Nat)(n:Nat)(up:List Int):Nat:=(up.map λx=>if x<0 then n else ranks.getD x.toNat 0).sum
theorem KG{l:List Nat}{k x:Nat}(b:k<l.length):(l.set k x).sum+l[k]=l.sum+x:=by induction l generalizing k with|nil=>simp at b|cons a l c=>cases k with|zero=>simp;omega|succ k=>have:=c (k:=k) (by simpa using b);simp;omega
theorem KH{n k now:Nat}(a:k<up.length)(hl:ranks.getD now 0<if up.getD k (-1)<0 then n else ranks.getD (up.getD k (-1)).toNat 0):mV ranks n (up.set k (now:Int))<mV ranks n up:=by unfold mV;rw[List.map_set];have h1:=KG (l:=up.map λx=>if x<0 then n else ranks.getD x.toNat 0) (k:=k) (x:=ranks.getD now 0) (by simpa using a);rw[bm a]at hl;simp only[afw]at h1;rw[ap (show¬((now:Int)<0)by omega),aeA];omega
end
section
variable{ac:Nat->aX}
section
variable{W:Nat->List Nat}{aB ranks:List Nat}{up:List Int}{n:Nat}{A H:ai}{us:List Th}{a b c d:af}{L:Kn}
theorem pB{e:List Int}{k:Nat}(z:Int)(f:k<e.length):(e.map aI)[0+k*1]?=some (aI (e.getD k z)):=lE z f
def uc(c d a b:af)(n:Nat)(ranks:List Nat)(up:List Int):List Th:=[tB fZ c [.slice a 0 n n true],tB fZ d [.slice b 0 n n true],tS 3 1 (ranks.map aN) n true (.slice a 0 n n true),tS 3 1 (up.map aI) n true (.slice b 0 n n true)]
theorem Zh(T:Tb ac)(r:Rk W aB ranks)(p:mT W aB ranks n up)(x:ranks.length=n)(C:n<=1000000)(l:∀D∈aB,D<n)(U:al A H (uc c d a b n ranks up++us)){E D:Nat}(j:E∈aB)(hb:D∈aB)(g:0<=up.getD E (-1))(i:0<=up.getD D (-1)){K:KT}(k:∀m,ub W aB ranks up E D m->K (aN m) H):YF ac (.func UP [] [.aD c 0,.aD d 0]) [aN E,aN D] H K:=by
 have y:=p.len;refine YF.code T.WA aC ?_;refine ah ?_;refine Ru.nm λS M u s=>?_;refine Ru.bM s (dn (P:=λm=>∀E D,ranks.getD E 0+ranks.getD D 0=m->E∈aB->D∈aB->0<=up.getD E (-1)->0<=up.getD D (-1)->(∀m,ub W aB ranks up E D m->K (aN m) H)->Ru ac _ S ([(p0,aN E),(p1,aN D)]++pk M [p2,p3]) H) (λm t E D o j hb g i k=>?_) _ E D rfl j hb g i k);have z:=l E j;have B:=l D hb;subst u;subst s;refine Ru.loop ?_;refine ah ?_;refine Ru.cond (λf=>?_) (λf=>?_)
 .have f:E≠D:=by simpa using f
  refine ah ?_;refine RO.dh U 2 (hv:=lE 0 ab) ?_;refine ah ?_;refine RO.dh U 2 (hv:=lE 0 ab) ?_;refine ah ?_;refine Ru.cond (λv=>?_) (λv=>?_);·obtain⟨F,h1,h2,h3,w,q⟩:=p.KF r hb j i (λe=>f e.symm) ab;refine ah ?_;refine RO.dh U 3 (v:=aN F) (hv:=by rw[pB (-1) ab,h1];rfl) ?_;refine ah ?_;exact Ru.wk (t _ ab F E rfl h2 j h3 g λm o=>k m (q m o).swap)
  obtain⟨F,h1,h2,h3,w,q⟩:=p.KF r j hb g f ab;refine ah ?_;refine RO.dh U 3 (v:=aN F) (hv:=by rw[pB (-1) ab,h1];rfl) ?_;refine ah ?_;exact Ru.wk (t _ ab F D rfl h2 hb h3 i λm o=>k m (q m o))
 have f:E=D:=by simpa using f
 subst f;refine Ru.exitTo ?_;refine ah ?_;exact Ru.aP (k E ⟨j,g,aeq _,aeq _,λ_ h _=>h,.refl,.refl⟩)
end
end
end Go.ak.R
end
