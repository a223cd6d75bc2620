/- A part. No conditions. -/
import Derived.Test.YtodnahjlheaolaaGreatDoorA12
set_option linter.all false
set_option maxHeartbeats 16000000
open List renaming replicate->ab7
open Int renaming ofNat->ah0
open List.Sublist renaming cons_cons->aiy
open List.Perm renaming swap->ah5,cons->ah6
open BitVec renaming ofInt->aik
noncomputable section
namespace Go.al.R
section
variable{ac:Nat->aX}
end
variable{E z:List AV}{a b k n x:Nat}{D X:ai}{W t xv:AV}{m o q s w y:ah}{S:KT}{f:Option ah}{h:List SI}{v:List bD}{d:Cx}{V:G.aM}{F' Z ts u:List Th}{Q come:List Bool}{Y l:List Nat}{p:Bool}{P:Option Nat}{H:Type}{A:Nat->Prop}{W':Nat->List Nat}
section
variable{ac:Nat->aX}
abbrev bp:=Int×Nat
def gR:List bp->List AV
 |[]=>[]
 |o::l=>aI o.1::aU o.2::gR l
theorem Lx:∀{l:List bp}{k:Nat}(h:k<l.length),((gR l).drop (k*2)).take 2=[aI l[k].1,aU l[k].2]|o::l,0,_=>rfl|o::l,k+1,h=>by have:=Lx (l:=l) (k:=k) (by simpa using h);grind[gR]
theorem Ly:∀(e b:List bp),gR (e++b)=gR e++gR b|[],b=>rfl|o::e,b=>by simp only[ah4,gR,Ly e b]
theorem Lz:∀(l:List bp)(b:Nat),(gR l).take (b*2)=gR (l.take b)|[],b=>by simp[gR]|o::l,0=>by rfl|o::l,b+1=>by rw[show(b+1)*2=b*2+2 by omega];simp only[gR,aiu,Lz l b]
def OpA:ai->bp->List AV->Prop:=λ_ o cs=>cs=[aI o.1,aU o.2]
abbrev kn(H:ai)(l:List bp)(v:AV):Prop:=Sl H 2 (gR l) l.length v
theorem kn.r{l:List bp}(h:kn D l W):cQ 2 OpA D l W:=⟨_,h,λk b=>Lx b⟩
structure qN(g:G.aM)(l:List bp):Prop where
 ok:∀o∈l,0<=o.1/\o.1<g.aj.length/\(g.aj.getD o.1.toNat default).aq.go.length=3
def gp(g:G.aM)(o:bp):Int:=((g.aj.getD o.1.toNat default).aq.go.getD 2 default).block
structure vq(H:ai)(xq:ah)(vb:AV)(os:List (List bp))(svs:List AV):Prop where
 lt:xq.ap<H.next.ap
 aE:aY H xq 3=some vb
 jt:∃ov,aY H xq 5=some ov/\Sl H 1 svs os.length ov
 len:svs.length=os.length
 bq:∀b(h:b<os.length),kn H os[b] (svs.getD b .bQ)
theorem vq.bN{os:List (List bp)}(h:vq D w W os E)(g:aR D X):vq X w W os E:=⟨ahC h.lt g.nx,by rw[g.aY h.lt];exact h.aE,by obtain⟨e,h1,h2⟩:=h.jt;exact⟨e,by rw[g.aY h.lt];exact h1,g.sl h2⟩,h.len,λb hb=>g.sl (h.bq b hb)⟩
theorem RO.si{L:Kn}{j:Nat}{k y:aJ}(hg:aR X D)(hs:Sl X 1 E x W)(l:∀q o,aY D q o=some (E.getD j .bQ)->q.ap<D.next.ap->RO ac d v h (bo L f (.aD q o)) D)(b:aT L k=W:=by exact cw)(e:aT L y=.int n (.ofNat j):=by exact cw)(hj:j<x:=by first|assumption|omega):RO ac d (⟨f,.dH 1 k y,none,[],[]⟩::v) h L D:=by have hs:=hg.sl hs;have hl:=hs.length;obtain⟨i,o,cap,ex,rfl,_,hi,hat,_⟩:=hs.at aa;refine RO.dH (l i (o+j*1) ?_ hi) b e hj;grind
section
variable{g:G.aM}{H:ai}{os:List (List bp)}
theorem LA(T:Tb ac)(Q:G.Sm g)(hb:cQ 7 iR D g.aj W)(u:aR D H)(i:vq H w W os E)(j:x<os.length)(z:qN g os[x])(F:os[x].length<=1000)(f:S (match os[x].getLast? with|some o=>.tuple [aI (gp g o),.bool true]|none=>.tuple [.int 3 (.negSucc 0),.bool false]) H):YN ac Xu [.aD w 0,aN x] H S:=by
 have⟨R,I,k⟩:=i.jt;have hs:=i.bq x j;have⟨J,_,_,L⟩:=hs.all;have M:=i.aE;refine YF.code T.Z4 aC (ab ?_);refine RO.si (aR.refl H) k λq o hc _=>ab ?_;refine Ru.cond (λ(h:os[x].length=0)=>?_) (λ(h:¬os[x].length=0)=>?_);·have e:os[x]=[]:=ahz h;rw[e]at f;refine ab ?_;exact Ru.ki f
 obtain⟨o,v⟩:∃o,os[x].getLast?=some o:=by cases h2:os[x].getLast? with|none=>rw[List.getLast?_eq_none_iff]at h2;rw[h2]at h;simp at h|some o=>exact⟨o,rfl⟩
 rw[v]at f;have b:os[x][os[x].length - 1]?=some o:=by rw[<-List.getLast?_eq_getElem?];exact v
 have⟨V,b⟩:=ahY.1 b;obtain⟨h1,h2,h3⟩:=z.ok o (by rw[<-b];exact abO _);obtain⟨t,y⟩:∃t:Nat,o.1=(t:Int):=⟨o.1.toNat,aa⟩;simp only[gp,y,aeY]at h3 f;have l:t<g.aj.length:=aa;rw[aZ l]at h3 f;refine ab ?_;refine RO.arith (v:=aN (os[x].length - 1)) (ab ?_) (hv:=me aa aa);refine RO.bL (aR.refl H) (kn.r hs) (λX o1 c1 N m _ hat _=>?_);subst m;rw[b,y]at hat;refine ab ?_;refine RO.bL u hb (λB o2 c2 O n _ hat _=>?_);obtain⟨Y,Z,jc,rfl,_,_,va,vk,C,rfl,_,_,p⟩:=n;refine ab ?_;refine RO.aW (i:=B) (o:=o2+2+4) (v:=C) (RO.bL u p (λq3 o3 c3 P s _ hat _=>?_) (hj:=by omega)) (hc:=hat 6 _ rfl);obtain⟨v3,rfl,_⟩:=s;refine ab ?_;refine Ru.ki ?_;rw[aZ aa]at f;exact f
def bX(g:G.aM)(b:Nat)(f:List bp):List (Int×List bp):=
 let j:=(g.aj.getD b default).aq
 if j.op=67 then[((j.go.getD 0 default).block,f++[((b:Int),0)]),((j.go.getD 1 default).block,f++[((b:Int),1)])]
 else if j.op=68 then(match f.getLast? with|some o=>[(gp g o,f.take (f.length - 1))]|none=>[])
 else j.go.map λe=>(e.block,f)
def FD(W:List (Int×List bp))(b:List bp)(nv:AV)(k:Nat)(args:List AV)(e:List Th):Prop:=
 ∃(h:k<W.length)(v:AV),args=[aI W[k].1,v]/\v.bk=true/\v.cY=true/\v.cells=[v]/\((e=[]/\∀H,kn H b nv->kn H W[k].2 v)\/e=[tS E6 2 (gR W[k].2) W[k].2.length true v])
structure B8(g:G.aM)(b:Nat):Prop where
 lt:b<g.aj.length
 tri:(g.aj.getD b default).aq.op=67->(g.aj.getD b default).aq.go.length=3
theorem LB(T:Tb ac)(h:∀f b e,ak H f [tB 3 e [aN x],tB kJ b [.aD w 0]]->S (.func BW [] [.aD b 0,.aD e 0]) f):YN ac Xe [.aD w 0,aN x] H S:=by refine YF.code T.ZJ aC (au ?_);refine RO.bZ (ak.bM H) λi b U=>RO.bZ U λj e U=>au ?_;exact Ru.aL (h _ b e U)
end
end
section
variable{ac:Nat->aX}
end
variable{B os:List (List bp)}{L c now:List bp}
section
variable{ac:Nat->aX}
def tJ(v:AV)(n:Nat):AV:=match v with|.slice i o _ _ _=>.slice i o n n true|v=>v
theorem abG(T:Tb ac){v:AV}(hs:Sl X n E x v):YN ac Xw [v] D λe f=>e=tJ v x/\f=D:=by
 have⟨hd,_,_,j⟩:=hs.all;refine YF.code T.Z7 aC (au ?_);rcases hs with⟨rfl,rfl,rfl⟩|⟨i,o,cap,ex,k,m,l,h,aK,fz,rfl,hg,p,hl,q,hi,b⟩;·refine RO.zT (m:=0) (b:=0) (a:=0) rfl rfl rfl rfl (au ?_);exact Ru.aL ⟨rfl,rfl⟩
 refine RO.E0 (m:=x) (b:=x) (a:=0) (v:=.slice i o x x true) rfl (by show lF (aN x) cap=_;exact qE b) (by show lF (aN x) x=_;exact qE (aeE x)) rfl aC aC ?_;refine au ?_;exact Ru.aL ⟨rfl,rfl⟩
theorem FI(hs:Sl D n E x W):(tJ W x=.bj/\E=[]/\x=0)\/∃i o,tJ W x=.slice i o x x true/\Sl D n E x (tJ W x):=by
 rcases hs with⟨rfl,rfl,rfl⟩|⟨i,o,cap,ex,f,m,h,b,aK,fz,rfl,hg,j,hl,k,hi,e⟩;·exact .inl ⟨rfl,rfl,rfl⟩
 exact .inr ⟨i,o,rfl,.inr ⟨i,o,x,true,f,m,h,b,aK,fz,rfl,hg,j,hl,k,hi,aeE x⟩⟩
theorem LD(T:Tb ac)(hB:G.Sm V)(hb:cQ 7 iR X V.aj W){nv:AV}(hE:B8 V b)(hO:qN V now)(bc:now.length<=1000):vm ac X (.func BW [] [.aD o 0,.aD w 0]) (bX V b now).length (FD (bX V b now) now nv) [tB 3 w [aN b],tB kJ o [.aD q 0]] (λD=>∃B E,vq D q W B E/\∃h:b<B.length,B[b]=now/\E.getD b .bQ=nv) (λD=>kn D now nv):=by
 intro y J et m Z D K dv dx dy ag j t U hR f;obtain⟨B,E,Y,av,a8,aw⟩:=hR;subst a8;have hA:=U.gr;obtain⟨ov,bv,P⟩:=Y.jt;have hs:=Y.bq b av;rw[aw]at hs;have⟨b0,_,_,dz⟩:=P.all;have⟨ax,b3,b4,d0⟩:=hs.all;have⟨d1,d2,_,d3⟩:=hb.all;have d4:=Y.aE;have b6:aY D o 0=some (.aD q 0):=by obtain⟨_,p⟩:=U.get 1 rfl;exact tB.cell p rfl
 have b7:aY D w 0=some (aN b):=by obtain⟨_,p⟩:=U.get 0 rfl;exact tB.cell p rfl
 have b':o.ap<D.next.ap:=by obtain⟨_,p⟩:=U.get 1 rfl;obtain⟨_,_,_,_,_,h⟩:=p;exact h
 have ca:w.ap<D.next.ap:=by obtain⟨_,p⟩:=U.get 0 rfl;obtain⟨_,_,_,_,_,h⟩:=p;exact h
 obtain⟨C,N⟩:=hE;rw[aZ C]at N;refine YF.code T.Z6 aC (ab ?_);refine RO.bL hA hb (λq3 o3 c3 d5 ay _ hat hrd=>?_);have ds:=ay.one;obtain⟨vp,vs,jc,rfl,_,_,hj⟩:=ay;have d6:=hj.one;obtain⟨va,vk,vg,rfl,d7,d',u⟩:=hj;have⟨a1,_,_,ea⟩:=u.all;refine ab ?_;refine RO.ee (ab ?_) (hc:=FE (k:=2) (m:=5) hrd bt);refine RO.si (aR.refl D) P λq4 o4 a2 cd=>?_;rw[aw]at a2;refine ab ?_;refine RO.dL (ak.bM D) λH1 q5 hl=>RO.yj hl 0 (λH2 hl=>⟨λaf i=>?_,?_⟩);·have hg:=hl.gr;refine ev i rfl rfl ax hs.bI (by rw[hg.aY cd];exact a2) (ev (v:=aN b) i rfl rfl rfl (by simp[eV,cD,dW]) (by rw[hg.aY ca];exact b7) (ev i rfl rfl b0 P.bI (by rw[hg.aY Y.lt];exact bv) (ev (v:=.aD q 0) i rfl rfl rfl (by simp[eV,cD,ah.ft]) (by rw[hg.aY b'];exact b6) rfl)))
 have cf:=hl.gr;have U:=U.cH hl;refine ab ?_;have I:(V.aj.getD b default).aq=(V.aj[b]).aq:=by rw[aZ C]
 refine Ru.cond (λ(r:(V.aj[b]).aq.op=67)=>?_) (λ(r:¬(V.aj[b]).aq.op=67)=>?_)
 .have h3:=N r;have cn:∀k(h:k<2),∃h':k<(bX V b B[b]).length,(bX V b B[b])[k]=(((V.aj[b]).aq.go[k]'aa).block,B[b]++[((b:Int),k)]):=λk h=>by
   have n:bX V b B[b]=[(((V.aj[b]).aq.go[0]'aa).block,B[b]++[((b:Int),0)]),(((V.aj[b]).aq.go[1]'aa).block,B[b]++[((b:Int),1)])]:=by simp only[bX,I,aF r];rw[aZ aa,aZ aa]
   refine⟨by rw[n];simpa using h,?_⟩;simp only[n];match k,h with|0,_=>rfl|1,_=>rfl
  have cp:(bX V b B[b]).length=2:=by simp only[bX,I,aF r];rfl
  refine ab ?_;refine RO.iE U 1 (λH3 q6 U=>ab ?_);refine Ru.nm λS M hS hM=>Ru.bH hM (up (P:=λk=>∀L m,J k m->ak X L (tS 5 1 [aU 0,aU 1] 2 true (.slice q6 0 2 2 true)::tB mg q5 _::([tB 3 w [aN b],tB kJ o [.aD q 0]]++m++Z))->Ru ac _ S ([(m8,aN k)]++pk M [p0,p2,p4,p5,rZ,og]) L) 2 (λk hk ih L m t U=>?_) 0 aa _ m t U);subst hS;subst hM;refine Ru.loop (au ?_);refine Ru.cond (λ(s:k<2)=>?_) (λ(s:¬k<2)=>?_)
  .obtain⟨x,a6⟩:=cn k s;have eb:=ag k m _ L t (ak.dK (xs:=[_,_,_,_]) U);refine ab ?_;refine RO.cJ U 0 (ab ?_) (v:=aU k) (hv:=by match k,s with|0,_=>rfl|1,_=>rfl);refine RO.FH U.gr u (λq8 o8 ek ec he _ F=>?_) (hj:=by omega);obtain⟨v8,rfl,_⟩:=he;refine ab ?_;refine RO.aW (ab ?_) (hc:=F 0 _ rfl U.gr);refine RO.iE U 2 (ws:=[aN b,aU k]) (λH4 q9 U=>RO.FF (v:=tJ nv B[b].length) (λH0 _ _=>abG T hs) (λHU R cv=>?_));have U:=U.bI cv R;have cx:=ag k m _ HU t (ak.dK (xs:=[_,_,_,_,_]) U);have a':aY HU w 0=some (aN b):=by obtain⟨_,p⟩:=U.get 3 rfl;exact tB.cell p rfl
   have ba:aY HU q5 4=some vg:=by obtain⟨_,p⟩:=U.get 2 rfl;exact tB.cell p rfl
   refine⟨λaf i=>ev (v:=aN b) i rfl rfl rfl (by simp[eV,cD,dW]) a' (ev (v:=aI ((V.aj[b]).aq.go[k]'aa).block) i rfl rfl rfl (by simp[eV,cD,dW]) (F 0 _ rfl U.gr) (ev i rfl rfl a1 (u.bI) ba rfl)),(RO.FG U (FI cx) (U.sl 0) (λH5 v5 _ U=>?_))⟩;have bb:aY H5 q5 4=some vg:=by obtain⟨_,p⟩:=U.get 3 rfl;exact tB.cell p rfl
   refine⟨λaf i=>ev (v:=aI ((V.aj[b]).aq.go[k]'aa).block) i rfl rfl rfl (by simp[eV,cD,dW]) (F 0 _ rfl U.gr) (ev i rfl rfl a1 (u.bI) bb rfl),?_⟩;have cy:Sl H5 2 (gR B[b]++[aN b,aU k]) (B[b].length+1) v5:=U.sl 0;have⟨cE,cR,c8,_⟩:=cy.all;have e5:gR (B[b]++[((b:Int),k)])=gR B[b]++[aN b,aU k]:=Ly _ _;have e6:(B[b]++[((b:Int),k)]).length=B[b].length+1:=aC;rw[<-e5,<-e6]at U;refine ab ?_;refine RO.cl ((j k [aI ((V.aj[b]).aq.go[k]'aa).block,v5] [_] m _ _ x ⟨x,v5,by rw[a6],cE,cR,c8,.inr (by rw[a6])⟩ t (U.bO (ah6 _ (sj (xs:=[_,_,_,_,_]))))).mono ?_);rintro v H3⟨z,U,hc⟩;rcases hc with⟨rfl,h⟩|⟨rfl,h⟩;·refine ab ?_;exact Ru.wk (ih (k+1) aa aa _ _ h (ak.jd (xs:=[_,_,_,_,_]) U).tail)
   refine ab ?_;exact Ru.jo (vs:=[]) trivial (f _ z _ (by rw[<-ae0]at U;exact U.skip) (.inr h))
  refine Ru.exitTo ?_;refine ab ?_;refine Ru.aq (vs:=[]) trivial (f _ m _ U.tail.tail.tail.tail (.inl ?_));rw[cp,show 2=k by omega];exact t
 refine ab ?_;refine Ru.cond (λ(Q:(V.aj[b]).aq.op=68)=>?_) (λ(Q:¬(V.aj[b]).aq.op=68)=>?_)
 .have n:bX V b B[b]=match B[b].getLast? with|some el=>[(gp V el,B[b].take (B[b].length - 1))]|none=>[]:=by simp only[bX,I,an r,aF Q]<;>rfl
  refine ab ?_;refine RO.cl (LA T hB hb U.gr (Y.bN cf) av hO bc ?_);cases l:B[b].getLast? with
  |none=>rw[l]at n;simp only at n;rw[n]at f;refine ab ?_;exact Ru.aq (vs:=[]) trivial (f _ _ _ U.tail.tail.tail (.inl t))
  |some el=>
   rw[l]at n;simp only at n;obtain⟨hx,_⟩:0<B[b].length/\True:=⟨by cases hh:B[b]with|nil=>rw[hh]at l;simp at l|cons _ _=>simp,trivial⟩;refine ab ?_;refine RO.arith (v:=aN (B[b].length - 1)) (RO.lR hs (b:=B[b].length - 1) ?_) (hv:=me aa aa);have O:∀H',kn H' B[b] nv->kn H' (B[b].take (B[b].length - 1)) (lR nv (B[b].length - 1)):=λH' h=>by
    have e:(B[b].take (B[b].length - 1)).length=B[b].length - 1:=by rw[ahU];omega
    show Sl H' 2 (gR _) _ _;rw[e,<-Lz];exact Ae h aa
   have⟨c9,c',dm,_⟩:=(O _ hs).all;rw[n]at j f;refine RO.cl ((j 0 [aI (gp V el),lR nv (B[b].length - 1)] [] m _ _ aC ⟨aC,_,rfl,c9,c',dm,.inl ⟨rfl,O⟩⟩ t (ak.dK (xs:=[_,_,_]) U)).mono ?_);rintro v H3⟨z,U,hc⟩;refine ab ?_;refine Ru.aq (vs:=[]) trivial (f _ z _ (by rw[<-ae0]at U;exact U.skip) ?_);rcases hc with⟨_,h⟩|⟨_,h⟩;·exact .inl h
   exact .inr h
 have n:bX V b B[b]=(V.aj[b]).aq.go.map λe=>(e.block,B[b]):=by simp only[bX,I,an r,an Q]
 have ei:=hB.bl _ (abO C);refine ab ?_;refine Ru.nm λS M hS hM=>Ru.bH hM (up (P:=λk=>∀L m,J k m->ak X L (tB mg q5 _::([tB 3 w [aN b],tB kJ o [.aD q 0]]++m++Z))->Ru ac _ S ([(xJ,aN k)]++pk M [p0,p5,uD,xG]) L) (V.aj[b]).aq.go.length (λk hk ih L m t U=>?_) 0 aa _ m t U);subst hS;subst hM;refine Ru.loop (au ?_);refine Ru.cond (λs=>?_) (λs=>?_)
 .refine au ?_;refine RO.bL U.gr u λq6 o6 c6 ej he _ hat hrd=>?_;have dr:=he.one;obtain⟨v6,rfl,_⟩:=he;refine ab ?_;refine RO.dD U λH5 q7 U=>?_;refine ab ?_;have x:k<(bX V b B[b]).length:=by rw[n,ahs];exact s
  refine RO.cl ((j k [aI ((V.aj[b]).aq.go[k]).block,nv] [] m _ _ x ⟨x,nv,by simp only[n,ahP],ax,b3,b4,.inl ⟨rfl,λH' h=>by simp only[n,ahP];exact h⟩⟩ t (ak.dK (xs:=[_,_,_,_]) U)).mono ?_);rintro v H3⟨z,U,hc⟩;rcases hc with⟨rfl,h⟩|⟨rfl,h⟩;·refine ab ?_;exact Ru.wk (ih (k+1) aa aa _ _ h (ak.jd (xs:=[_,_,_,_]) U).tail)
  refine ab ?_;exact Ru.jo (vs:=[]) trivial (f _ z _ (by rw[<-ae0]at U;exact U.skip) (.inr h))
 refine Ru.exitTo ?_;refine ab ?_;refine Ru.aq (vs:=[]) trivial (f _ m _ U.tail.tail.tail (.inl ?_));rw[n,ahs,show(V.aj[b]).aq.go.length=k by omega];exact t
end
section
variable{ac:Nat->aX}
theorem abK(x y:Int)(s r:Nat):db 64 (.dX [(0,1,false,.int),(1,1,false,.int)]) (.agg [aI x,aU s]) (.agg [aI y,aU r])=some (decide (x=y/\s=r)):=by
 by_cases h1:x=y
 .by_cases h2:s=r;·simp[db,db.go,pX,dW,h1,h2]
  have e:((s:Int)==(r:Int))=false:=by rw[beq_eq_false_iff_ne];omega
  simp[db,db.go,pX,dW,h1,h2,e]
 have e:(x==y)=false:=by rw[beq_eq_false_iff_ne];exact h1
 simp[db,db.go,pX,dW,h1,e]
theorem FJ{l:List H}{d:H}(h:k<l.length):l.getD k d∈l:=by rw[aZ h];exact abO h
theorem abL(T:Tb ac)(m:kn D L W)(n:kn D c t)(hl:L.length<=1000)(a:∀b:Bool,(b=true↔L=c)->S (.bool b) D):YN ac KL [W,t] D S:=by
 have⟨hd,_,_,x⟩:=m.all;have⟨u,_,_,v⟩:=n.all;refine YF.code T.Z1 aC (au ?_);refine Ru.cond (λh=>?_) (λh=>?_);·refine au ?_;exact Ru.aL (a false ⟨λh=>(by cases h),λe=>absurd (by rw[e]) h⟩)
 have f:L.length=c.length:=by simpa using h
 refine au ?_;refine Ru.nm λC M q o=>Ru.bH o (up (P:=λk=>(∀j(h:j<L.length)(y:j<c.length),j<k->L[j]=c[j])->Ru ac _ C ([(iS,aN k)]++pk M [p0,p1,eD,gQ]) D) L.length (λk z s p=>?_) 0 aa (λj _ _ hj=>by omega));subst q;subst o;refine Ru.loop (au ?_);refine Ru.cond (λg=>?_) (λg=>?_)
 .refine au ?_;refine RO.bL (aR.refl D) (kn.r m) λA o1 c1 _ i _ hat hrd=>?_;subst i;refine ab ?_;refine RO.bL (aR.refl D) (kn.r n) λB o2 c2 w l _ hat hrd=>?_;subst l;refine ab ?_;refine RO.eq (ab ?_) (ht:=abK _ _ _ _);have he:(L[k].1=c[k].1/\L[k].2=c[k].2)↔L[k]=c[k]:=⟨λh=>Prod.ext h.1 h.2,λh=>by rw[h];exact⟨rfl,rfl⟩⟩;refine Ru.d9 (λh=>?_) (λh=>?_)
  .have h:¬(L[k].1=c[k].1/\L[k].2=c[k].2):=λd=>by rw[decide_eq_true d]at h;simp at h
   refine ab ?_;exact Ru.aL (a false ⟨λh=>(by cases h),λe=>absurd (he.2 (by simp only[e])) h⟩)
  have h:L[k].1=c[k].1/\L[k].2=c[k].2:=ahF λd=>by rw[decide_eq_false d]at h;simp at h
  refine ab ?_;exact Ru.wk (s (k+1) aa aa λj h1 h2 hj=>by
   by_cases e:j=k;·subst e;exact he.1 h
   exact p j h1 h2 aa)
 refine Ru.exitTo ?_;refine au ?_;exact Ru.aL (a true ⟨λ_=>ain f λj h1 h2=>p j h1 h2 aa,λ_=>rfl⟩)
inductive fQ(g:G.aM):Nat->List bp->Prop
 |zero:fQ g 0 []
 |step{b:Nat}{o:List bp}{w:Int×List bp}(h:fQ g b o)(hw:w∈bX g b o):fQ g w.1.toNat w.2
structure fE(g:G.aM):Prop where
 pO:∀{b o o'},fQ g b o->fQ g b o'->o=o'
 Af:∀{b o},fQ g b o->∀w∈bX g b o,0<=w.1/\w.1<g.aj.length
 aE:∀{b o},fQ g b o->B8 g b
 jt:∀{b o},fQ g b o->qN g o/\o.length<=900
structure qO(g:G.aM):Prop where
 ne:0<g.aj.length
 t3:∀b,b<g.aj.length->(g.aj.getD b default).aq.op=67->(g.aj.getD b default).aq.go.length=3
 rg:∀b,b<g.aj.length->∀e∈(g.aj.getD b default).aq.go,1<=e.block/\e.block<g.aj.length
theorem B9(c:qO V)(hb:x<V.aj.length)(d:qN V L):∀w∈bX V x L,(1<=w.1/\w.1<V.aj.length)/\qN V w.2/\w.2.length<=L.length+1:=by
 intro w a;simp only[bX]at a;split at a
 .rename_i g;have h3:=c.t3 x hb g;have f:qN V (L++[((x:Int),0)])/\qN V (L++[((x:Int),1)]):=by
   constructor<;>refine⟨λk b=>?_⟩<;>rcases ac6.1 b with b|b;·exact d.ok k b
   .rw[abt]at b;subst b;exact⟨aC,by simpa using hb,by simpa using h3⟩
   .exact d.ok k b
   rw[abt]at b;subst b;exact⟨aC,by simpa using hb,by simpa using h3⟩
  have h:=c.rg x hb ((V.aj.getD x default).aq.go.getD 0 default) (FJ aa);have i:=c.rg x hb ((V.aj.getD x default).aq.go.getD 1 default) (FJ aa);rcases ac2.1 a with rfl|a;·exact⟨h,f.1,aC⟩
  rw[abt]at a;subst a;exact⟨i,f.2,aC⟩
 split at a
 .split at a;·rename_i k b;rw[abt]at a;subst a;have⟨h1,h2,h3⟩:=d.ok k (List.mem_of_getLast? b);refine⟨c.rg k.1.toNat aa _ (FJ aa),⟨λy j=>d.ok y (aiK j)⟩,by simp;omega⟩
  cases a
 obtain⟨e,he,rfl⟩:=ahm.1 a;exact⟨c.rg x hb e he,d,aC⟩
theorem fQ.ok(a:qO V)(h:fQ V x L):x<V.aj.length/\qN V L:=by induction h with|zero=>exact⟨a.ne,⟨λe c=>(by cases c)⟩⟩|step _ d b=>have⟨⟨h1,h2⟩,h3,_⟩:=B9 a b.1 b.2 _ d;exact⟨aa,h3⟩
theorem fQ.nil(a:qO V)(h:fQ V x L)(hb:x=0):L=[]:=by cases h with|zero=>rfl|step h b=>have⟨h3,c⟩:=h.ok a;have:=(B9 a h3 c _ b).1;omega
theorem fQ.pN(a:qO V)(h:fQ V x L):B8 V x:=⟨(h.ok a).1,a.t3 x (h.ok a).1⟩
def fX(a:List Bool):Nat:=(a.filter λb=>!b).length
theorem nj(b:k<come.length)(h:come.getD k false=false):fX (come.set k true)+1=fX come:=by unfold fX;induction come generalizing k with|nil=>simp at b|cons a l c=>cases k with|zero=>simp only[List.getD_cons_zero]at h;subst h;simp|succ k=>have:=c (k:=k) (by simpa using b) (by simpa using h);cases a<;>simp<;>omega
structure ig(g:G.aM)(n:Nat)(F:List Th)(come:List Bool)(os:List (List bp))(svs:List AV)(todo:List Nat)(now:Option Nat)(wr:Bool):Prop where
 cl:come.length=n
 ol:os.length=n
 sl:svs.length=n
 c0:come.getD 0 false=true
 cG:∀b,come.getD b false=true->fQ g b (os.getD b [])
 td:∀b∈todo,come.getD b false=true
 fz:∀b,come.getD b false=true->tR 2 (gR (os.getD b [])) (os.getD b []).length (svs.getD b .bQ)∈F
 nz:∀b,b<n->come.getD b false=false->os.getD b []=[]/\svs.getD b .bQ=.bj
 iw:∀b,come.getD b false=true->(os.getD b []).length+fX come<n
 dn:∀b,come.getD b false=true->b∈todo\/now=some b\/∀w∈bX g b (os.getD b []),come.getD w.1.toNat false=true/\(wr=false->os.getD w.1.toNat []=w.2)
 df:wr=true->∃b o o',fQ g b o/\fQ g b o'/\o≠o'
theorem tL{l:List H}{d v:H}(h:l.getD k d=v)(a:d≠v):k<l.length:=by
 rcases aic k l.length with h1|h1;·exact h1
 rw[ahi,ah1 h1]at h;exact absurd h a
theorem dA{l:List H}{d v:H}(a:k<l.length):(l.set k v).getD x d=if x=k then v else l.getD x d:=by
 simp only[ahi,List.getElem?_set];by_cases h:k=x;·subst h;simp[a]
 rw[an h,an λe=>h e.symm]
theorem ig.new(h:ig V n u Q B E Y P p)(I:k<n)(l:Q.getD k false=false)(hl:fQ V k L)(J:L.length+fX Q<n+1)(q:∀t∈u,t∈Z)(r:tR 2 (gR L) L.length W∈Z):ig V n Z (Q.set k true) (B.set k L) (E.set k W) (Y++[k]) P p:=by
 have⟨h1,h2,h3,s,v,x,y,z,g,A,i⟩:=h;have H:=nj aa l;have a:∀j,(Q.set k true).getD j false=if j=k then true else Q.getD j false:=λj=>dA aa;have c:∀j,(B.set k L).getD j []=if j=k then L else B.getD j []:=λj=>dA aa;have m:∀j,(E.set k W).getD j .bQ=if j=k then W else E.getD j .bQ:=λj=>dA aa;have C:∀j,Q.getD j false=true->j≠k:=λj hj e=>by rw[e,l]at hj;cases hj
 refine⟨by simpa using h1,by simpa using h2,by simpa using h3,?_,λb hb=>?_,λb hb=>?_,λb hb=>?_,λb hb f=>?_,λb hb=>?_,λb hb=>?_,i⟩
 .rw[a];split;·rfl
  exact s
 .rw[a]at hb;rw[c];split;·rename_i e;rw[e];exact hl
  rename_i e;rw[an e]at hb;exact v b hb
 .rw[a];rcases ac6.1 hb with hb|hb
  .split;·rfl
   exact x b hb
  rw[abt]at hb;rw[aF hb]
 .rw[a]at hb;rw[c,m];split;·exact r
  rename_i e;rw[an e]at hb;exact q _ (y b hb)
 .rw[a]at f;split at f;·cases f
  rename_i e;rw[c,m,an e,an e];exact z b hb f
 .rw[a]at hb;rw[c];split;·omega
  rename_i e;rw[an e]at hb;have:=g b hb;omega
 rw[a]at hb;split at hb;·rename_i e;left;rw[e];simp
 rename_i e;rw[c,an e];rcases A b hb with h|h|h;·exact .inl (ahj _ h)
 .exact .inr (.inl h)
 refine .inr (.inr λw D=>?_);have⟨o,F⟩:=h w D;have d:=C _ o;rw[a,c,an d,an d];exact⟨o,F⟩
theorem ig.lw(h:ig V x Z Q B E Y P p)(hd:∃b o a,fQ V b o/\fQ V b a/\o≠a):ig V x Z Q B E Y P true:={h with dn:=λb hb=>(h.dn b hb).imp id (Or.imp id λh w c=>⟨(h w c).1,λe=>(by cases e)⟩),df:=λ_=>hd}
section
theorem abM(k:∀D,kn D L W->kn D c t){E:List ah}(C:(tR 2 (gR L) L.length W).P D E):(tR 2 (gR c) c.length t).P D E:=by
 have⟨h1,h2,h3⟩:=C;refine⟨k D h1,λi o I J G z=>?_,h3⟩;apply ahF;intro hi;have B:kn (D.set i .none) L W:=by
  rcases h1 with C|⟨r,u,cap,ex,v,w,x,p,aK,fz,j,q,y⟩;·exact .inl C
  have s:r≠i:=λG=>hi (G▸h2 _ _ _ _ _ j);exact .inr ⟨r,u,cap,ex,v,w,x,p,aK,fz,j,by rw[ai.aG,an s];exact q,y⟩
 have j:=k _ B;subst z;rcases j with⟨C,_⟩|⟨r,u,cap,ex,v,w,x,p,aK,fz,j,q,y⟩;·cases C
 injection j with j;subst j;rw[ai.aG,aF rfl]at q;cases q
section
variable{n:Nat}{us:List Th}
def B'(V:G.aM)(W:AV)(q w o:ah)(n:Nat)(Q:List Bool)(E:List AV)(Z:List Th)(p:Bool):List Th:=[tB V1 q [.str V.i7,aI V.i4,aI V.aO,W,.slice w 0 n n true,.slice o 0 n n true,.bool p],tS E7 1 E n true (.slice o 0 n n true),tS 4 1 (Q.map .bool) n true (.slice w 0 n n true),tZ Z]
def pP(V:G.aM)(t:AV)(q o w s y:ah)(n:Nat)(Q:List Bool)(E:List AV)(Y:List Nat)(W:AV)(Z:List Th)(p:Bool):List Th:=tB cW q [W]::tU 3 (Y.map aN) W::tB kJ o [.aD w 0]::B' V t w s y n Q E Z p
theorem abN(U:ak X D (pP V W s q w y o n Q E Y t Z p++us))(i:ig V n Z Q B E Y P p):vq D w W B E:=by
 have k:aY D w 3=some W:=by obtain⟨_,j⟩:=U.get 3 rfl;exact tB.cell j rfl
 have r:aY D w 5=some (.slice o 0 n n true):=by obtain⟨_,j⟩:=U.get 3 rfl;exact tB.cell j rfl
 have u:w.ap<D.next.ap:=by obtain⟨_,j⟩:=U.get 3 rfl;obtain⟨_,_,_,_,_,C⟩:=j;exact C
 refine⟨u,k,⟨_,r,by rw[i.ol];exact U.sl 4⟩,by rw[i.sl,i.ol],λz hb=>?_⟩;have v:z<n:=by rw[<-i.ol];exact hb
 have G:B.getD z []=B[z]:=aZ hb _;cases x:Q.getD z false with|true=>have⟨I,C,_⟩:=U.jr 6 rfl (i.fz z x);rw[G]at C;exact C|false=>have⟨h1,h2⟩:=i.nz z v x;rw[G]at h1;rw[h1,h2];exact .inl ⟨rfl,rfl,rfl⟩
def FK(V:G.aM)(W:AV)(q o w s y:ah)(n:Nat)(r:Nat)(i:List bp)(nv:AV)(v k:Nat)(j:List Th):Prop:=
 ∃Q os E Y t Z p,j=pP V W q o w s y n Q E Y t Z p/\ig V n Z Q os E Y (some r) p/\Q.getD r false=true/\os.getD r []=i/\E.getD r .bQ=nv/\Y.length+fX Q=v/\∀u∈(bX V r i).take k,Q.getD u.1.toNat false=true/\(p=false->os.getD u.1.toNat []=u.2)
theorem ig.pop(v:ig V n Z Q B E (x::Y) none p):ig V n Z Q B E Y (some x) p:=by
 have⟨h1,h2,h3,o,q,r,s,t,j,u,k⟩:=v;refine⟨h1,h2,h3,o,q,λw i=>r w (ab8 _ i),s,t,j,λw i=>?_,k⟩;rcases u w i with v|v|v
 .rcases ac2.1 v with rfl|v;·exact .inr (.inl rfl)
  exact .inl v
 .cases v
 exact .inr (.inr v)
theorem ig.done(y:ig V n Z Q B E Y (some x) p)(k:∀w∈bX V x (B.getD x []),Q.getD w.1.toNat false=true/\(p=false->B.getD w.1.toNat []=w.2)):ig V n Z Q B E Y none p:=by
 have⟨h1,h2,h3,o,q,r,s,t,i,u,j⟩:=y;refine⟨h1,h2,h3,o,q,r,s,t,i,λz v=>?_,j⟩;rcases u z v with y|y|y;·exact .inl y
 .injection y with y;subst y;exact .inr (.inr k)
 exact .inr (.inr y)
theorem ig.Ca(j:ig V n Z Q B E Y P p)(i:∀t∈Z,t∈F'):ig V n F' Q B E Y P p:={j with fz:=λk hb=>i _ (j.fz k hb)}
theorem abP(r:ig V n Z Q B E Y (some x) p)(hb:Q.getD x false=true)(C:B.getD x []=L)(G:E.getD x .bQ=t)(I:FD (bX V x L) L t k z u)(U:ak D X (u++pP V xv q o w s y n Q E Y W Z p++us)):∃(S:k<(bX V x L).length)(v:AV),z=[aI (bX V x L)[k].1,v]/\v.bk=true/\v.cY=true/\v.cells=[v]/\ak D X (pP V xv q o w s y n Q E Y W (tR 2 (gR (bX V x L)[k].2) (bX V x L)[k].2.length v::Z) p++us):=by
 have⟨J,v,K,h1,h2,h3,M⟩:=I;refine⟨J,v,K,h1,h2,h3,?_⟩;rcases M with⟨rfl,i⟩|rfl;·have j:=r.fz x hb;rw[C,G]at j;have hl:=(U.ep 6 rfl).Lu j (t':=tR 2 (gR (bX V x L)[k].2) (bX V x L)[k].2.length v) λT S=>abM i S;exact hl.bO (ahy (l₁:=[_,_,_,_,_,_])).symm
 have N:=U.as 0 rfl λR O=>tS.iu O;have P:ak D X (_::tZ Z::([tB cW q [W],tU 3 (Y.map aN) W,tB kJ o [.aD w 0],_,_,_]++us)):=N.bO (ah6 _ (ahy (l₁:=[_,_,_,_,_,_])));exact P.ie.bO (ahy (l₁:=[_,_,_,_,_,_])).symm
def LG:bw:=(.seq (.region [O p6 (.bf (T mi))]) (.region [O p7 (.bf (T rY))]))
def LH:bw:=(.block 3 (.block 4 (.seq (.region [O uN (.aW (T p3)),O uO (.nilCheck (T uN)),O uP (.iX 4 (T uO)),O uQ (.aW (T uP)),O tz (.bf (T p6)),O uR (.dH 1 (T uQ) (T tz)),O uS (.aW (T uR)),O rZ (.unary .not (T uS)),O tx (.bf (T rZ))]) (.cond (T tx) (.seq (.region [O og (.aW (T p3)),O m8 (.nilCheck (T og)),O na (.iX 4 (T m8)),O tA (.aW (T na)),O xL (.bf (T p6)),O xM (.aW (T p3)),O uT (.nilCheck (T xM)),O oh (.iX 5 (T uT)),O sa (.aW (T oh)),O sc (.bf (T p6)),O uU (.bf (T p7)),O uV (.dH 1 (T tA) (T xL)),N (.store 1 (T uV) (C (.bool true))),O uW (.dH 1 (T sa) (T sc)),N (.store 1 (T uW) (T uU))]) (.region [O xN (.aW (T p4)),O xP (.bf (T p6)),O xQ (.buildSlice 3 1 [(i 3 0)] [(0,1,(T xP))]),O uX (.append 3 8 1 [(i 3 0)] false (T xN) (T xQ)),N (.store 1 (T p4) (T uX))])) (.seq (.region [O uY (.aW (T p3)),O uZ (.nilCheck (T uY)),O xR (.iX 5 (T uZ)),O xS (.aW (T xR)),O xU (.bf (T p6)),O pJ (.dH 1 (T xS) (T xU)),O xV (.aW (T pJ)),O xW (.bf (T p7)),O xX (.call (C (.func KL [] [])) [(T xV),(T xW)]),O xY (.unary .not (T xX)),O qK (.bf (T xY))]) (.cond (T qK) (.region [O xZ (.aW (T p3)),O x6 (.nilCheck (T xZ)),O u6 (.iX 6 (T x6)),N (.store 1 (T u6) (C (.bool true)))]) .skip))))))
theorem abQ(T:Tb ac)(hB:G.Sm V)(hE:qO V)(b6:n<=900){dx:Nat}(b':n=V.aj.length)(hm:dx<=n){dy:ah}{o1 o2:bR}{fv:AV}{Dn:cC->List Th->Prop}(hk:k<(bX V x L).length)(a1:FD (bX V x L) L xv k z u)(hJ:FK V W o w q s y n x L xv dx k ts)(U:ak D X (u++ts++tX dy o1::us)):Ru ac (B7 ac dy o1 o2 LH (vn D dy o2 us (FK V W o w q s y n x L xv dx (k+1)) Dn)) [.code LG] (yi [mi,rY] z [(rX,fv),(p3,.aD w 0),(p4,.aD o 0)]) X:=by
 obtain⟨Q,B,E,Y,t,Z,p,rfl,C,N,hn,hv,ag,a2⟩:=hJ;have ca:=hB.nb;obtain⟨_,v,rfl,cd,cf,cn,U⟩:=abP C N hn hv a1 U;have I:=C.cG x N;rw[hn]at I;have av:(bX V x L)[k]∈bX V x L:=abO hk;have⟨⟨cp,cv⟩,_,cx⟩:=B9 hE (I.ok hE).1 (I.ok hE).2 _ av;have a6:=C.iw x N;rw[hn]at a6;have P:=fQ.step I av;obtain⟨dm,ht⟩:∃dm:Nat,(bX V x L)[k].1=(dm:Int):=⟨(bX V x L)[k].1.toNat,aa⟩;have a8:dm<n:=aa;have a':(bX V x L).take (k+1)=(bX V x L).take k++[(bX V x L)[k]]:=by rw[ahb]
 rw[ht,aeY]at P;generalize ba:(bX V x L)[k].2=J at*;have C:=C.Ca (F':=tR 2 (gR J) J.length v::Z) λdm ht=>ab8 _ ht;have aw:tR 2 (gR J) J.length v∈tR 2 (gR J) J.length v::Z:=acj .. ;generalize tR 2 (gR J) J.length v::Z=F2 at*;have bb:=C.cl;have bc:=C.sl;have R:∀(r:List Bool)(K:List (List bp))(M:Bool),(∀j,Q.getD j false=true->r.getD j false=true/\K.getD j []=B.getD j [])->(M=false->p=false)->r.getD dm false=true->(M=false->K.getD dm []=J)->∀ds∈(bX V x L).take (k+1),r.getD ds.1.toNat false=true/\(M=false->K.getD ds.1.toNat []=ds.2):=λr K M h1 h2 h3 h4 ds O=>by
  rw[a']at O;rcases ac6.1 O with O|O;·have⟨b3,b4⟩:=a2 ds O;have⟨b1,b2⟩:=h1 _ b3;exact⟨b1,λdr=>by rw[b2];exact b4 (h2 dr)⟩
  rw[abt]at O;subst O;rw[ht,aeY,ba];exact⟨h3,h4⟩
 rw[ht];unfold LG;refine au ?_;refine Ru.cX U λH2 U=>?_;unfold LH;refine ab ?_;cases i:Q.getD dm false with
 |false=>
  refine RO.cJ U 5 (v:=.bool false) (hv:=by rw[nX false aa,i]) ?_;have cy:=nj (k:=dm) aa i;have S:x≠dm:=λdr=>by rw[dr,i]at N;cases N
  refine ab ?_;refine RO.fD U 5 true bb (λH3 U=>ab ?_) (k:=dm);refine RO.vr U 4 bc (λH4 U=>ab ?_) (k:=dm);refine RO.abJ U 1 (aN dm) (λdz H5 ax U cE cR c8=>?_) (hb:=by simp only[ahs];omega) (hn:=by simp only[ahs];omega);refine RO.dO U 0 (λH6 U=>ab ?_);refine Ru.bx (ts:=pP V W o w q s y n (Q.set dm true) (E.set dm v) (Y++[dm]) ax F2 p) (by simpa[pP,B']using U) ⟨Q.set dm true,B.set dm J,E.set dm v,Y++[dm],ax,F2,p,rfl,C.new a8 i P aa (λ_ dv=>dv) aw,?_,?_,?_,?_,?_⟩;·rw[dA aa,an S];exact N
  .rw[dA (by rw[C.ol];omega),an S];exact hn
  .rw[dA aa,an S];exact hv
  .rw[ae8,ahJ];omega
  refine R _ _ p (λj hj=>?_) id ?_ (λ_=>?_)
  .have ay:j≠dm:=λdr=>by rw[dr,i]at hj;cases hj
   rw[dA aa,an ay,dA (by rw[C.ol];omega),an ay];exact⟨hj,rfl⟩
  .rw[dA aa,aF rfl]
  rw[dA (by rw[C.ol];omega),aF rfl]
 |true=>
  refine RO.cJ U 5 (v:=.bool true) (hv:=by rw[nX false aa,i]) ?_;have bv:=C.cG dm i;have b0:E[0+dm*1]?=some (E.getD dm .bQ):=by rw[show 0+dm*1=dm by omega,aZ aa];simp
  refine ab ?_;have⟨f8,h8,_⟩:=U.jr 6 rfl (C.fz dm i);have⟨f9,h9,_⟩:=U.jr 6 rfl aw;have⟨c9,_,_,_⟩:=h8.all;have c':=C.iw dm i;refine RO.cJ U 4 (hv:=b0) (ab ?_);refine RO.cl (abL T h8 h9 aa λb7 h7=>?_);cases b7 with|true=>refine ab ?_;exact Ru.bx U ⟨Q,B,E,Y,t,F2,p,rfl,C,N,hn,hv,ag,R _ _ p (λ_ dv=>⟨dv,rfl⟩) id i λ_=>h7.1 rfl⟩|false=>refine ab ?_;refine RO.dO U 3 (λH3 U=>ab ?_);refine Ru.bx (ts:=pP V W o w q s y n Q E Y t F2 true) (by simpa[pP,B']using U) ⟨Q,B,E,Y,t,F2,true,rfl,C.lw ⟨dm,_,_,bv,P,λdr=>by have:=h7.2 dr;cases this⟩,N,hn,hv,ag,R _ _ true (λ_ dv=>⟨dv,rfl⟩) (λdr=>by cases dr) i λdr=>(by cases dr)⟩
end
end
theorem dn{P:Nat->Prop}(b:∀k,(∀j,j<k->P j)->P k)(k:Nat):P k:=Nat.strongRecOn k b
theorem vt:∀n,fX (ab7 n false)=n|0=>rfl|n+1=>by have:=vt n;simp only[fX,List.replicate_succ]at*;simp[this]
theorem ig.zero(n:0<x)(F:List Th)(m:tR 2 (gR []) 0 .bj∈F):ig V x F ((ab7 x false).set 0 true) (ab7 x []) (ab7 x .bj) [0] none false:=by
 have j:∀b,(ab7 x ([]:List bp)).getD b []=[]:=λb=>by simp[ahi,ahX];split<;>rfl
 have k:∀b,((ab7 x false).set 0 true).getD b false=true->b=0:=λb hb=>by
  rw[dA (by simpa using n)]at hb;split at hb;·assumption
  simp[ahi,ahX]at hb;split at hb<;>cases hb
 refine⟨aC,aC,aC,by rw[dA (by simpa using n),aF rfl],λb hb=>?_,λb hb=>?_,λb hb=>?_,λb hb _=>⟨j b,?_⟩,λb hb=>?_,λb hb=>?_,λn=>(by cases n)⟩;·rw[k b hb,j];exact .zero
 .rw[abt]at hb;subst hb;rw[dA (by simpa using n),aF rfl]
 .rw[k b hb,j,aZ (by simpa using n)];simpa using m
 .rw[aZ (by simpa using hb)];simp
 .have l:=nj (come:=ab7 x false) (k:=0) (by simpa using n) (by rw[aZ (by simpa using n)];simp);rw[vt]at l;rw[j];simp only[List.length_nil];omega
 rw[k b hb];exact .inl (abt.2 rfl)
theorem abR(T:Tb ac)(hB:G.Sm V)(hE:qO V)(ag:V.aj.length<=900)(hg:dc D V E)(hK:∀J w o q come os p W Z u wr,cQ 7 iR D V.aj W->ig V V.aj.length Z come os p [] none wr->ak D J (B' V W w o q V.aj.length come p Z wr++u)->S (.aD w 0) J):YN ac KH [.agg E] D S:=by
 have ba:=hg.one;obtain⟨W,rfl,bz⟩:=hg;have⟨hd,_,_,hn⟩:=bz.all;have bc:=hB.nb;have B:=hE.ne;refine YF.code T.ZI aC (au ?_);refine RO.bZ (ak.bM D) λH1 b6 U=>?_;have U:=(U.mZ E6 2).as 0 rfl λfp hp=>tS.iu hp;have U:=U.lQ.bO (ah5 ..);have U:=U.ie;refine ab ?_;refine RO.bT U 1 (ab ?_);refine RO.jq U (n:=V.aj.length) (λH2 o U=>?_) (hz:=by rw[eE];simp);refine au ?_;refine RO.abE U 2 0 (λH3 U=>?_);refine ab ?_;refine RO.jq U (n:=V.aj.length) (λH4 q U=>?_) (hz:=by rw[eE];simp);have er:dZ [AV.bool false] V.aj.length=(ab7 V.aj.length false).map .bool:=by rw[eE,aio]
 rw[er,eE]at U;refine au ?_;refine RO.bZ U (λH5 w U=>ab ?_) (v:=.agg [.str V.i7,aI V.i4,aI V.aO,W,.slice o 0 V.aj.length V.aj.length true,.slice q 0 V.aj.length V.aj.length true,.bool false]);refine RO.dD U λH6 s U=>?_;refine ab ?_;refine RO.fD U 3 true (aif ..) (λH7 U=>?_) (k:=0) (ho:=by rw[aif];exact B);refine ab ?_;refine RO.iE U 1 (λH8 qt U=>RO.dD U λH9 y U=>?_) (n:=1) (ws:=[aN 0]);have U:=U.toU 1 rfl;refine ab ?_;refine Ru.nm λb7 M hS hM=>Ru.bH hM (dn (P:=λm=>∀HX P come os p n t Z wr,n.length+fX come=m->m<=V.aj.length->ig V V.aj.length Z come os p n none wr->ak D HX (pP V W y s w o q V.aj.length come p n t Z wr++(fK P++[tB cA b6 [.str V.i7,aI V.i4,aI V.aO,W]]))->Ru ac ⟨mc [.tmp p2] S,P,none⟩ b7 ([]++pk M [p3,p4]) HX) (λm ih HX P come os p n t Z wr av hm z U=>?_) _ H9 [] _ _ _ [0] _ _ false rfl ?_ (ig.zero B _ (acj ..)) U);rotate_left;·have:=nj (come:=ab7 V.aj.length false) (k:=0) (by simpa using B) (by rw[aZ (by simpa using B)];simp);rw[vt]at this;simp only[ahJ];omega
 subst hS;subst hM;refine Ru.loop ?_;have⟨bv,_,_,b0⟩:=(U.LF (e:=3) (vs:=n.map aN) (sv:=t) 1).all;refine ab ?_;refine Ru.cond (λL=>?_) (λL=>?_)
 .obtain⟨b,x,rfl⟩:∃b x,n=b::x:=by cases n with|nil=>simp at L|cons b r=>exact⟨b,r,rfl⟩
  simp only[ahK]at av;have C:come.getD b false=true:=z.td b (acj ..);have I:=z.cG b C;have aw:=tL C aC;have z:=z.pop;refine ab ?_;refine RO.si (aR.refl _) (U.LF 1) (λq5 o5 ax _=>RO.aW (ab ?_) (hc:=ax)) (j:=0) (hj:=by simp);refine RO.abI U 1 (v:=aN b) (vs:=x.map aN) (λR U h1 h2 h3=>RO.dO U 0 (λb3 U=>ab ?_));refine RO.cl (LB T λay q1 q2 hl=>?_);have U:ak D ay ([tB 3 q2 [aN b],tB kJ q1 [.aD w 0]]++pP V W y s w o q V.aj.length come p x R Z wr++(fK P++[tB cA b6 [.str V.i7,aI V.i4,aI V.aO,W]])):=U.cH hl;refine ab ?_;refine Ru.wk (L:=[(rX,.func BW [] [.aD q1 0,.aD q2 0]),(p3,.aD s 0),(p4,.aD y 0)]) ?_;refine Ru.mq (J:=FK V W y s w o q V.aj.length b (os.getD b []) (p.getD b .bQ) (x.length+fX come)) (Dn:=λ_ _=>False) U (LD T hB bz (b:=b) (now:=os.getD b []) (nv:=p.getD b .bQ) (I.pN hE) (I.ok hE).2 (by have:=z.iw b C;omega)) (λH2 hg=>⟨os,p,(abN U.tail.tail z).bN hg,by rw[z.ol,<-z.cl];exact aw,(aZ _ _).symm,rfl⟩) ⟨come,os,p,x,R,Z,wr,rfl,z,C,rfl,rfl,rfl,aC⟩ (λk args ws b4=>by obtain⟨_,v,rfl,_⟩:=b4;rfl) (λk ts u D Q U=>?_) (λk args ws ts u l o1 o2 D hk a1 Q U=>abQ T hB hE ag rfl aa hk a1 Q U) (λJ a2 dm Q U=>?_) (λj J a2 dm _ b4=>b4.elim);·obtain⟨come,os,p,n,t,Z,wr,rfl,z,hc,hn,hv,_⟩:=Q;have hm:=z.fz b hc;rw[hn,hv]at hm;obtain⟨b',b4,_⟩:=U.jr 6 rfl hm;exact b4
  obtain⟨N,a6,Y,O,a8,F',a',rfl,z,hc,hn,hv,bb,X⟩:=Q;rw[aid]at X;have z:=z.done (by rw[hn];exact X);refine ab ?_;exact Ru.wk (ih _ aa J (dm::P) N a6 Y O a8 F' a' rfl aa z U)
 have ht:n=[]:=by cases n with|nil=>rfl|cons b r=>simp at L
 subst ht;refine Ru.exitTo ?_;refine ab ?_;refine Ru.jf (M:=P) (ts:=pP V W y s w o q V.aj.length come p [] t Z wr++[tB cA b6 [.str V.i7,aI V.i4,aI V.aO,W]]) (U.bO ?_) λJ U=>⟨[.aD w 0],?_,hK J w o q come os p W Z [tB cA b6 [.str V.i7,aI V.i4,aI V.aO,W]] wr bz z U.tail.tail.tail⟩;·rw[<-ae0,<-ae0];exact ahA.append_right _
 exact⟨rfl,rfl,trivial⟩
structure GX(g:G.aM)(H:ai)(xq:ah)(vb cv:AV)(come:List Bool)(os:List (List bp))(svs:List AV):Prop where
 ju:vq H xq vb os svs
 bl:cQ 7 iR H g.aj vb
 c0:aY H xq 0=some (.str g.i7)
 c1:aY H xq 1=some (aI g.i4)
 c2:aY H xq 2=some (aI g.aO)
 c4:aY H xq 4=some cv
 c6:aY H xq 6=some (.bool false)
 cm:Sl H 1 (come.map .bool) come.length cv
theorem GX.bN(h:GX V D w W t Q B E)(hg:aR D X):GX V X w W t Q B E:=by have hl:=h.ju.lt;have⟨h1,h2,h3,b,f,i,j,k⟩:=h;exact⟨h1.bN hg,bV.block.gK hg h2,by rw[hg.aY hl];exact h3,by rw[hg.aY hl];exact b,by rw[hg.aY hl];exact f,by rw[hg.aY hl];exact i,by rw[hg.aY hl];exact j,hg.sl k⟩
structure b8(g:G.aM)(come:List Bool)(os:List (List bp)):Prop where
 cl:come.length=g.aj.length
 ol:os.length=g.aj.length
 c0:come.getD 0 false=true
 cG:∀b,come.getD b false=true->fQ g b (os.getD b [])
 dn:∀b,come.getD b false=true->∀w∈bX g b (os.getD b []),come.getD w.1.toNat false=true
theorem ig.FL(h:ig V n Z Q B E [] none false)(b:qO V)(hl:fQ V x L):Q.getD x false=true/\B.getD x []=L:=by
 induction hl with
 |zero=>exact⟨h.c0,(h.cG 0 h.c0).nil b rfl⟩
 | @step x L w _ f i=>
  have⟨h1,h2⟩:=i;rcases h.dn x h1 with h3|h3|h3;·cases h3
  .cases h3
  obtain⟨j,k⟩:=h3 w (by rw[h2];exact f);exact⟨j,k rfl⟩
theorem ig.abS(h:ig V V.aj.length Z Q B E [] none false)(b:qO V)(k:V.aj.length<=900):fE V:=⟨λh1 h2=>(h.FL b h1).2.symm.trans (h.FL b h2).2,λh1 w f=>(by have:=(B9 b (h1.ok b).1 (h1.ok b).2 w f).1;omega),λh1=>h1.pN b,λh1=>⟨(h1.ok b).2,by have⟨i,j⟩:=h.FL b h1;have:=h.iw _ i;rw[j]at this;omega⟩⟩
theorem abT(T:Tb ac)(t:G.Sm V)(q:qO V)(l:V.aj.length<=900){cs:List AV}(hg:dc D V cs)(u:∀i a d e come os c,aR D i->fE V->GX V i a d e come os c->b8 V come os->S (.aD a 0) i)(x:∀i a,aR D i->a.ap<i.next.ap->aY i a 6=some (.bool true)->(∃b o r,fQ V b o/\fQ V b r/\o≠r)->S (.aD a 0) i):YN ac KH [.agg cs] D S:=by
 refine abR T t q l hg λi a s y come os c d F us wr bz j U=>?_;have k:∀(o:Nat)(v:AV),([.str V.i7,aI V.i4,aI V.aO,d,.slice s 0 V.aj.length V.aj.length true,.slice y 0 V.aj.length V.aj.length true,.bool wr]:List AV)[o]?=some v->aY i a o=some v:=λo v h=>by obtain⟨_,p⟩:=U.get 0 rfl;exact tB.cell p h
 have m:a.ap<i.next.ap:=by obtain⟨_,p⟩:=U.get 0 rfl;obtain⟨_,_,_,_,_,h⟩:=p;exact h
 cases wr with
 |true=>exact x i a U.gr m (k 6 _ rfl) (j.df rfl)
 |false=>
  have n:=j.ol;refine u i a d (.slice s 0 V.aj.length V.aj.length true) come os c U.gr (j.abS q l) ⟨⟨m,k 3 _ rfl,⟨_,k 5 _ rfl,by rw[n];exact U.sl 1⟩,by rw[j.sl,n],λb hb=>?_⟩,bV.block.gK U.gr bz,k 0 _ rfl,k 1 _ rfl,k 2 _ rfl,k 4 _ rfl,k 6 _ rfl,by rw[j.cl];exact U.sl 2⟩ ⟨j.cl,n,j.c0,j.cG,λb hb=>?_⟩;·have A:os.getD b []=os[b]:=aZ hb _;cases k:come.getD b false with|true=>have⟨f,h,_⟩:=U.jr 3 rfl (j.fz b k);rw[A]at h;exact h|false=>obtain⟨h1,h2⟩:=j.nz b (by rw[<-n];exact hb) k;rw[A]at h1;rw[h1,h2];exact .inl ⟨rfl,rfl,rfl⟩
  rcases j.dn b hb with h|h|h;·cases h
  .cases h
  exact λw z=>(h w z).1
def jU(V:G.aM)(b:Nat)(f:List bp):List Nat:=(bX V b f).map λw=>w.1.toNat
theorem Cb(b:G.Sm V)(hb:x<V.aj.length):(bX V x now).length<=12:=by
 have:=(b.bl _ (abO hb)).2.2.2.2.1;simp only[bX,aZ hb];split;·simp
 split;·split<;>simp
 simp;omega
theorem FM(T:Tb ac)(L:G.Sm V)(n:fE V)(q:GX V D w W t Q B E)(r:b8 V Q B)(hb:Q.getD b false=true)(h:∀i v,ak D i [tS 3 1 ((jU V b (B.getD b [])).map aN) (jU V b (B.getD b [])).length true v]->S v i):YN ac W3 [.aD w 0,aN b] D S:=by
 have f:=r.cG b hb;have x:=tL hb aC;have m:b<B.length:=by rw[r.ol,<-r.cl];exact x
 have y:∀av∈bX V b (B.getD b []),aI av.1=aN av.1.toNat:=λav P=>by have⟨h0,_⟩:=n.Af f av P;obtain⟨aw,R⟩:∃aw:Nat,av.1=(aw:Int):=⟨av.1.toNat,aa⟩;rw[R];rfl
 have z:kn D (B.getD b []) (E.getD b .bQ):=by rw[aZ m];exact q.ju.bq b m
 have ag:(bX V b (B.getD b [])).length<=100000:=by have:=Cb (now:=B.getD b []) L (n.aE f).lt;omega
 refine YF.code T.Zx aC (au ?_);refine RO.dL (ak.bM D) λH1 s U=>au ?_;refine RO.cl (LB T λu M N hl=>?_);have U:ak D u ([tB 3 N [aN b],tB kJ M [.aD w 0]]++[tS 3 1 [] 0 true .bj,tB cW s [.bj]]++[]):=(U.mZ 3 1).cH hl;refine au ?_;refine Ru.wk (L:=[(p8,.func BW [] [.aD M 0,.aD N 0]),(p4,.aD s 0)]) ?_;refine Ru.mq (J:=λk ts=>∃v,v.bk=true/\v.cY=true/\v.cells=[v]/\ts=[tS 3 1 (((jU V b (B.getD b [])).take k).map aN) k true v,tB cW s [v]]) (Dn:=λ_ _=>False) U (LD T L q.bl (b:=b) (now:=B.getD b []) (nv:=E.getD b .bQ) (n.aE f) (n.jt f).1 (by have:=(n.jt f).2;omega)) (λu hg=>⟨B,E,q.ju.bN (U.gr.trans hg),m,(aZ m _).symm,rfl⟩) ⟨_,rfl,rfl,rfl,rfl⟩ (λk args ws h=>by obtain⟨_,v,rfl,_⟩:=h;rfl) (λk ts us i p U=>U.gr.sl z) (λk args ws ts us l o1 o2 i hk A p U=>?_) (λi C O p U=>?_) (λj i C O _ h=>h.elim)
 .obtain⟨v,hd,h1,X,rfl⟩:=p;obtain⟨o,av,rfl,_⟩:=A;have U:=U.sub ((List.sublist_append_right _ _).append_right _);have Y:=y _ (abO o);rw[Y];refine au ?_;refine Ru.cX U λu U=>ab ?_;refine RO.push U 0 (λav i Z U=>?_) (ws:=[aN (bX V b (B.getD b []))[k].1.toNat]);have⟨F,I,J,_⟩:=(U.sl 0 rfl).all;refine RO.dO U 1 (λH3 U=>ab ?_);refine Ru.bx (ts:=[_,_]) U ⟨Z,F,I,J,?_⟩;have ax:(jU V b (B.getD b [])).take (k+1)=(jU V b (B.getD b [])).take k++[(bX V b (B.getD b []))[k].1.toNat]:=by rw[List.take_succ];congr 1;rw[jU,ahB,ah7 o];rfl
  rw[ax,ahx];rfl
 obtain⟨v,hd,h1,X,rfl⟩:=p;have el:(bX V b (B.getD b [])).length=(jU V b (B.getD b [])).length:=by rw[jU,ahs]
 rw[el,aid]at U;refine ab ?_;refine RO.dO U 1 (λH3 U=>ab ?_);refine Ru.jf (M:=[O]) (ts:=[_,_]) (U.bO (ahy (l₁:=[_,_]))) λi U=>⟨[v],⟨⟨_,_,rfl,U.one 1⟩,trivial⟩,h i v (U.sub (List.Sublist.cons₂ _ (aiC _)))⟩
end
section
structure jv(W:Nat->List Nat)(P:Nat->Prop)(been been':List Bool)(new:List Nat):Prop where
 len:been'.length=been.length
 bn:∀x,been'.getD x false=true↔been.getD x false=true\/x∈new
 nd:new.Nodup
 fr:∀x∈new,been.getD x false=false
 cl:∀x∈new,∀w∈W x,been'.getD w false=true
 sg:∀bY x post,new=bY++x::post->P x\/∃y∈post,x∈W y
variable{W:Nat->List Nat}{Q:Nat->Prop}{a b c:List Bool}{d n2:List Nat}
theorem jv.nil:jv W A a a []:=⟨rfl,λx=>by simp,aiP,λ_ h=>by simp at h,λ_ h=>by simp at h,λbY x e h=>by cases bY<;>cases h⟩
theorem jv.mono(h:jv W A a b d)(g:∀x,A x->Q x):jv W Q a b d:=⟨h.len,h.bn,h.nd,h.fr,h.cl,λbY x f e=>(h.sg bY x f e).imp_left (g x)⟩
theorem jv.n6(h:jv W A a b d)(h2:jv W A b c n2):jv W A a c (d++n2):=by
 refine⟨h2.len.trans h.len,λx=>?_,ahZ.2 ⟨h.nd,h2.nd,λx f y j e=>?_⟩,λx f=>?_,λx f w m=>?_,λbY x g e=>?_⟩;·rw[h2.bn,h.bn,ac6,or_assoc]
 .subst e;have h3:=h2.fr x j;rw[(h.bn x).2 (.inr f)]at h3;cases h3
 .rcases ac6.1 f with f|f;·exact h.fr x f
  have h3:=h2.fr x f;cases n:a.getD x false with|false=>rfl|true=>rw[(h.bn x).2 (.inl n)]at h3;cases h3
 .rcases ac6.1 f with f|f;·exact(h2.bn w).2 (.inl (h.cl x f w m))
  exact h2.cl x f w m
 rcases List.append_eq_append_iff.1 e with⟨l,rfl,i⟩|⟨l,rfl,i⟩;·exact h2.sg l x g i
 cases l with
 |nil=>exact h2.sg [] x g (by simpa using i.symm)
 |cons y l=>
  simp only[ah4,ahD]at i;obtain⟨rfl,rfl⟩:=i;rcases h.sg bY x l rfl with h3|⟨y,j,h3⟩;·exact .inl h3
  exact .inr ⟨y,ahj _ j,h3⟩
theorem jv.aq(hb:a.getD x false=false)(o:x<a.length)(h:jv W (·∈W x) (a.set x true) c d)(p:∀w∈W x,c.getD w false=true):jv W (·=x) a c (d++[x]):=by
 have e:∀s,(a.set x true).getD s false=true↔s=x\/a.getD s false=true:=λs=>by
  rw[dA o];by_cases h:s=x;·simp[h]
  simp[h]
 have m:x∉d:=λq=>by have:=h.fr x q;rw[(e x).2 (.inl rfl)]at this;cases this
 refine⟨by rw[h.len];simp,λs=>?_,ahZ.2 ⟨h.nd,aC,λs f y j e=>?_⟩,λs f=>?_,λs f w i=>?_,λbY s n e=>?_⟩
 .rw[h.bn,e,ac6,abt];constructor
  .rintro((h|h)|h);·exact .inr (.inr h)
   .exact .inl h
   exact .inr (.inl h)
  rintro(h|h|h);·exact .inl (.inr h)
  .exact .inr h
  exact .inl (.inl h)
 .rw[abt]at j;exact m (by rw[<-j,<-e];exact f)
 .rcases ac6.1 f with f|f;·have h3:=h.fr s f;cases r:a.getD s false with|false=>rfl|true=>rw[(e s).2 (.inr r)]at h3;cases h3
  rw[abt]at f;subst f;exact hb
 .rcases ac6.1 f with f|f;·exact h.cl s f w i
  rw[abt]at f;subst f;exact p w i
 rcases List.append_eq_append_iff.1 e with⟨l,rfl,g⟩|⟨l,rfl,g⟩;·cases l with|nil=>simp only[aie,ahD]at g;exact .inl g.1.symm|cons y l=>simp at g
 cases l with
 |nil=>simp only[aie,ahD]at g;exact .inl g.1
 |cons y l=>
  simp only[ah4,ahD]at g;obtain⟨rfl,rfl⟩:=g;rcases h.sg bY s l rfl with h3|⟨y,j,h3⟩;·exact .inr ⟨x,aC,h3⟩
  exact .inr ⟨y,ahj _ j,h3⟩
theorem jv.fX(h:jv W A a b d)(j:∀x∈d,x<a.length):d.length+fX b=fX a:=by
 have h1:=h.len;have h2:=h.bn;have h3:=h.nd;have m:=h.fr;clear h;induction d generalizing a with
 |nil=>
  have:b=a:=by apply ain h1;intro i hi hj;have:=h2 i;simp only[ahv,or_false]at this;rw[aZ hi,aZ hj]at this;cases n:b[i]<;>cases o:a[i]<;>simp[n,o]at this⊢
  subst this;simp
 |cons x l p=>
  have g:=j x (acj ..);have q:=m x (acj ..);have hs:=nj g q;have r:∀y,b.getD y false=true↔(a.set x true).getD y false=true\/y∈l:=λy=>by
   rw[h2,dA g,ac2];by_cases h:y=x;·simp[h]
   simp[h]
  have s:∀y∈l,(a.set x true).getD y false=false:=λy f=>by rw[dA g,an λe=>(ahT.1 h3).1 (by rw[<-e];exact f)];exact m y (ab8 _ f)
  have t:=p (a:=a.set x true) (λy f=>by simpa using j y (ab8 _ f)) (by simpa using h1) r (ahT.1 h3).2 s;simp only[ahK];omega
inductive fR(W:Nat->List Nat):List Nat->List Bool->List Bool->List Nat->Prop
 |nil{a:List Bool}:fR W [] a a []
 |skip{b:Nat}{l:List Nat}{a c:List Bool}{n:List Nat}(h:a.getD b false=true)(r:fR W l a c n):fR W (b::l) a c n
 |go{b:Nat}{l:List Nat}{a a1 c:List Bool}{n1 n2:List Nat}(h:a.getD b false=false)(r1:fR W (W b) (a.set b true) a1 n1)(r2:fR W l a1 c n2):fR W (b::l) a c (n1++b::n2)
theorem fR.pO(h:fR W l a b d):∀{c n2},fR W l a c n2->b=c/\d=n2:=by
 induction h with
 |nil=>intro c n2 h;cases h;exact⟨rfl,rfl⟩
 |skip h _ g=>intro c n2 h2;cases h2 with|skip _ r=>exact g r|go h3 _ _=>rw[h]at h3;cases h3
 |go h _ _ e f=>intro c n2 h2;cases h2 with|skip h3 _=>rw[h]at h3;cases h3|go _ i j=>obtain⟨rfl,rfl⟩:=e i;obtain⟨rfl,rfl⟩:=f j;exact⟨rfl,rfl⟩
theorem fR.n6(h:fR W l a b d)(h2:fR W Y b c n2):fR W (l++Y) a c (d++n2):=by induction h with|nil=>exact h2|skip h _ f=>exact .skip h (f h2)|go h g _ _ e=>have:=fR.go (l:=_++Y) h g (e h2);simpa only[ae0,ah4]using this
theorem fR.one(h:a.getD x false=false)(r:fR W (W x) (a.set x true) c d):fR W [x] a c (d++[x]):=.go h r .nil
theorem fR.bI{C:Nat->Prop}(j:∀x,C x->W' x=W x/\∀y∈W x,C y)(h:fR W l a b d):(∀x∈l,C x)->fR W' l a b d:=by induction h with|nil=>exact λ_=>.nil|skip h _ m=>exact λhl=>.skip h (m λx f=>hl x (ab8 _ f))| @go b _ _ _ _ _ _ h _ _ g i=>intro hl;have⟨e,n⟩:=j b (hl b (acj ..));exact .go h (by rw[e];exact g n) (i λx f=>hl x (ab8 _ f))
end
section
variable{ac:Nat->aX}
def wW(V:G.aM)(os:List (List bp))(k:Nat):List Nat:=jU V k (os.getD k [])
theorem b8.il(n:b8 V Q B){m w:Nat}(hb:Q.getD m false=true)(k:w∈wW V B m):Q.getD w false=true:=by simp only[wW,jU,ahm]at k;obtain⟨x,l,rfl⟩:=k;exact n.dn m hb x l
theorem b8.lt(k:b8 V Q B)(hb:Q.getD x false=true):x<V.aj.length:=by rw[<-k.cl];exact tL hb aC
def LI(w o q s:ah):AV:=.func W2 [] [.aD o 0,.aD w 0,.aD s 0,.aD q 0]
def yl(m w o q s y:ah)(n:Nat)(l:List Bool)(k:List Nat)(p:AV):List Th:=[tS 3 1 (k.map aN) k.length true p,tB V2 s [LI w o q s],tB cW q [p],tB n9 o [.slice y 0 n n true],tB kJ w [.aD m 0],tS 4 1 (l.map .bool) n true (.slice y 0 n n true)]
theorem abU(T:Tb ac)(hB:G.Sm V)(hE:fE V)(hX:GX V D w W t Q B E)(P:b8 V Q B):∀(cf b':Nat)(l:List Bool)(p:List Nat)(N:AV)(O:ai)(us:List Th)(K:KT),fX l<=cf->Q.getD b' false=true->l.length=V.aj.length->p.length+fX l<=V.aj.length->ak D O (yl w o q s y m V.aj.length l p N++us)->(∀H2 z new aw ws,fR (wW V B) [b'] l z new->jv (wW V B) (·=b') l z new->z.getD b' false=true->(∀x∈new,Q.getD x false=true)->ak D H2 (yl w o q s y m V.aj.length z (p++new) aw++(ws++us))->K (gC []) H2)->YF ac (LI o q s y) [aN b'] O K:=by
 intro cf;induction cf with
 |zero=>intro b' l p N O us K hm hb hl ho U ca;have X:=P.lt hb;refine YF.code T.K1 aC ?_;refine ab ?_;cases r:l.getD b' false with|true=>refine RO.cJ U 5 (v:=.bool true) (hv:=by rw[nX false aa,r]) ?_;refine ab ?_;refine Ru.jo (vs:=[]) trivial (ca O l [] N [] (.skip r .nil) jv.nil r (λ_ ca=>by simp at ca) (by rw[ah8];exact U))|false=>have:=nj (k:=b') aa r;omega
 |succ cf ih=>
  intro b' l p N O us K hm hb hl ho U ca;have bb:=hB.nb;have X:=P.lt hb;refine YF.code T.K1 aC ?_;refine ab ?_;cases r:l.getD b' false with
  |true=>refine RO.cJ U 5 (v:=.bool true) (hv:=by rw[nX false aa,r]) ?_;refine ab ?_;refine Ru.jo (vs:=[]) trivial (ca O l [] N [] (.skip r .nil) jv.nil r (λ_ ca=>by simp at ca) (by rw[ah8];exact U))
  |false=>
   have bc:=nj (k:=b') aa r;have ba:(wW V B b').length<=12:=by have:=Cb (now:=B.getD b' []) hB X;simpa[wW,jU]using this
   refine RO.cJ U 5 (v:=.bool false) (hv:=by rw[nX false aa,r]) ?_;refine ab ?_;refine RO.fD U 5 true hl (λH3 U=>?_) (k:=b');refine ab ?_;refine RO.cl (FM T hB hE (hX.bN U.gr) P hb λH4 v Y=>?_);have U:=U.cH Y;change ak D H4 ([tS 3 1 ((wW V B b').map aN) (wW V B b').length true v]++(yl w o q s y m V.aj.length (l.set b' true) p N++us))at U;have U:=ak.dK (xs:=[_]) (by rw[ae0];exact U);have⟨bv,_,_,b0⟩:=(show Sl H4 1 ((wW V B b').map aN) (wW V B b').length v from Y.sl 0 rfl).all;refine ab ?_;refine Ru.nm λS M hS hM=>?_;refine Ru.bH hM (up (P:=λk=>∀R n new I ws,fR (wW V B) ((wW V B b').take k) (l.set b' true) n new->jv (wW V B) (·∈wW V B b') (l.set b' true) n new->(∀x∈new,Q.getD x false=true)->(∀cd∈(wW V B b').take k,n.getD cd false=true)->ak D R (yl w o q s y m V.aj.length n (p++new) I++(tS 3 1 ((wW V B b').map aN) (wW V B b').length true v::(ws++us)))->Ru ac _ S ([(pH,aN k)]++pk M [p0,p3,p4,lq,lr]) R) (wW V B b').length (λk hk ax R n new I ws J hD hc hw U=>?_) 0 aa _ _ [] _ [] .nil jv.nil (λ_ ca=>by simp at ca) (λ_ ca=>by simp at ca) (by rw[ah8];exact U));have b3:=hD.fX λx A=>by rw[air,hl];exact P.lt (hc x A)
   have ay:n.length=V.aj.length:=by rw[hD.len,air,hl]
   subst hS;subst hM;refine Ru.loop ?_;refine au ?_;refine Ru.cond (λa1=>?_) (λa1=>?_)
   .refine ab ?_;refine RO.ic (aR.refl R) (U.sl 6 rfl) (λcp cv hj a2=>?_);refine RO.aW ?_ (hc:=a2);refine ab ?_;refine RO.cl (ih ((wW V B b')[k]) n (p++new) I R _ _ aa (P.il hb (abO hj)) ay (by rw[ae8];omega) U λH5 C F a6 L av Z a8 a' U=>?_);refine ab ?_;have g1:∀x∈new++F,Q.getD x false=true:=λx A=>by
     rcases ac6.1 A with A|A;·exact hc x A
     exact a' x A
    have g2:∀cd∈(wW V B b').take (k+1),C.getD cd false=true:=λcd u=>by
     rw[List.take_succ,ah7 hj]at u;rcases ac6.1 u with u|u;·exact(Z.bn cd).2 (.inl (hw cd u))
     simp at u;rw[u];exact a8
    have U:=U.bO (List.Perm.append_left _ (ahy (l₁:=L)));rw[ae0 p,<-ae0 L]at U;exact Ru.wk (ax (k+1) aa aa H5 C (new++F) a6 (L++ws) (by rw[(ahb hj).symm];exact J.n6 av) (hD.n6 (Z.mono λx ca=>by rw[ca];exact abO hj)) g1 g2 U)
   refine Ru.exitTo ?_;refine ab ?_;refine RO.push U 0 (λcd H6 v2 U=>?_) (ws:=[aN b']) (hb:=by rw[ae8];omega) (hn:=by rw[ae8];omega);have⟨b4,b6,b7,_⟩:=(U.sl 0 rfl).all;refine RO.dO U 2 (λH7 U=>?_);refine ab ?_;have ag:=jv.aq r aa hD (λcd u=>hw cd (by rw[aho aa];exact u));refine Ru.aq (vs:=[]) trivial (ca H7 n (new++[b']) v2 (tS 3 1 ((wW V B b').map aN) (wW V B b').length true v::ws) (.one r (by rw[aho aa]at J;exact J)) ag ((ag.bn b').2 (.inr aC)) (λx A=>?_) ?_)
   .rcases ac6.1 A with A|A;·exact hc x A
    rw[abt]at A;rw[A];exact hb
   have cn:((p++(new++[b'])).map aN)=(p++new).map aN++[aN b']:=aC;have e2:(p++(new++[b'])).length=(p++new).length+1:=by simp;omega
   simp only[yl,cn,e2];exact U
section
theorem abV(hi:n<Y.length)(hj:k<Y.length):((Y.set n a).set k b).getD x 0=if x=k then b else if x=n then a else Y.getD x 0:=by rw[dA (by simpa using hj),dA hi]
theorem abW(T:Tb ac)(m:Y.length=n)(h0:0<n)(z:n<1000000)(U:ak D X (tS 3 1 (Y.map aN) n true (.slice w 0 n x p)::Z))(r:∀o,ak D o (tS 3 1 (Y.reverse.map aN) n true (.slice w 0 n x p)::Z)->S (gC []) o):YN ac W4 [.slice w 0 n x p] X S:=by
 refine YF.code T.Zy aC (au ?_);refine RO.arith (v:=aN (n - 1)) (au ?_) (hv:=me (k:=n) aa aa);refine Ru.nm λE M s q=>Ru.bH q (up (P:=λk=>∀i b,b.length=n->(∀C,C<n->b.getD C 0=if C<k\/n<=C+k then Y.getD (n - 1 - C) 0 else Y.getD C 0)->ak D i (tS 3 1 (b.map aN) n true (.slice w 0 n x p)::Z)->Ru ac _ E ([(p2,aN k),(p3,aN (n - 1 - k))]++pk M [p0]) i) (n - 1) (λk A t i b f h U=>?_) 0 aa _ Y m (λC h=>by rw[an aa]) U);subst s;subst q;refine Ru.loop (au ?_);refine Ru.cond (λj=>?_) (λj=>?_)
 .refine ab ?_;refine RO.cJ U 0 (hv:=nX 0 aa) (ab ?_);refine RO.cJ U 0 (hv:=nX 0 aa) (ab ?_);refine RO.fD (f:=aN) U 0 (b.getD (n - 1 - k) 0) f (λB U=>ab ?_) (k:=k);refine RO.fD (f:=aN) (zs:=b.set k (b.getD (n - 1 - k) 0)) (n:=n) U 0 (b.getD k 0) (by rw[air];exact f) (λu U=>?_) (k:=n - 1 - k) (ho:=by rw[air];omega);refine ab ?_;refine RO.arith (v:=aN (n - 1 - (k+1))) ?_ (hv:=by rw[show n - 1 - (k+1)=n - 1 - k - 1 by omega];exact me (k:=n - 1 - k) aa aa);refine au ?_;have v:∀C,C<n->((b.set k (b.getD (n - 1 - k) 0)).set (n - 1 - k) (b.getD k 0)).getD C 0=if C<k+1\/n<=C+(k+1)then Y.getD (n - 1 - C) 0 else Y.getD C 0:=λC l=>by
   rw[abV aa aa];by_cases h1:C=n - 1 - k;·rw[aF h1,aF aa,h k aa,an aa,h1];congr 1;omega
   rw[an h1];by_cases h2:C=k;·rw[aF h2,aF aa,h _ aa,an aa,h2]
   rw[an h2,h C l];by_cases h3:C<k\/n<=C+k;·rw[aF h3,aF aa]
   rw[an h3,an aa]
  have y:((b.set k (b.getD (n - 1 - k) 0)).set (n - 1 - k) (b.getD k 0)).length=n:=by simpa using f
  exact Ru.wk (t (k+1) aa aa u _ y v U)
 refine Ru.exitTo (au ?_);have F:b=Y.reverse:=by
  apply ain (by simp[f,m]);intro C h1 h2;have h3:=h C aa;rw[aZ h1]at h3;rw[h3,List.getElem_reverse];split;·rw[aZ aa];congr 1;omega
  rw[aZ aa];congr 1;omega
 subst F;exact Ru.aq (vs:=[]) trivial (r _ U)
section
variable{g:G.aM}{come:List Bool}{os:List (List bp)}
structure eF(g:G.aM)(come:List Bool)(os:List (List bp))(am:List Nat):Prop where
 nd:am.Nodup
 mem:∀b,b∈am↔come.getD b false=true
 hd:∃rest,am=0::rest
 aK:∀bY x post,am=bY++x::post->x=0\/∃y∈bY,x∈wW g os y
 sr:∃been,fR (wW g os) [0] (ab7 g.aj.length false) been am.reverse
theorem jv.am(p:fE g)(k:b8 g come os)(q:fR (wW g os) [0] (ab7 g.aj.length false) Q Y)(h:jv (wW g os) (·=0) (ab7 g.aj.length false) Q Y)(h0:Q.getD 0 false=true)(m:∀x∈Y,come.getD x false=true):eF g come os Y.reverse:=by
 have i:∀x,Q.getD x false=true↔x∈Y:=λx=>by
  rw[h.bn];constructor
  .rintro(h|h);·simp[ahi,ahX]at h;split at h<;>cases h
   exact h
  exact .inr
 have hl:∀b o,fQ g b o->b∈Y:=λb o hl=>by induction hl with|zero=>exact(i 0).1 h0| @step b o w hb r n=>have t:=p.pO hb (k.cG b (m b n));refine(i _).1 (h.cl b n _ ?_);simp only[wW,jU,<-t];exact ahG r
 refine⟨List.pairwise_reverse.2 (h.nd.imp λh=>h.symm),λb=>?_,?_,λbY x f t=>?_,Q,by rw[List.reverse_reverse];exact q⟩;·rw[List.mem_reverse];exact⟨m b,λhb=>hl b _ (k.cG b hb)⟩
 .have h1:=(i 0).1 h0;rcases List.eq_nil_or_concat Y with rfl|⟨l,x,rfl⟩;·simp at h1
  rcases h.sg l x [] aC with h2|⟨y,j,_⟩;·exact⟨l.reverse,by simp[h2]⟩
  simp at j
 have s:Y=f.reverse++x::bY.reverse:=by have:=congrArg List.reverse t;simpa using this
 rcases h.sg _ _ _ s with h2|⟨y,j,h2⟩;·exact .inl h2
 exact .inr ⟨y,List.mem_reverse.1 j,h2⟩
theorem FN(T:Tb ac)(n:G.Sm g)(o:fE g)(f:GX g D w W t come os E)(b:b8 g come os)(h:∀p v am,eF g come os am->ak D p [tS 3 1 (am.map aN) am.length true v]->S v p):YN ac WM [.aD w 0] D S:=by
 have M:=n.nb;have N:=b.lt b.c0;have⟨hd,_,_,O⟩:=f.bl.all;have i:=f.ju.aE;have j:=f.ju.lt;refine YF.code T.Ze aC (au ?_);refine RO.bZ (ak.bM D) λP z U=>?_;refine ab ?_;refine RO.aW ?_ (hc:=by rw[U.gr.aY j];exact i);refine ab ?_;refine RO.jq U (n:=g.aj.length) (λQ A U=>?_) (hz:=by rw[eE];simp);have er:dZ [AV.bool false] g.aj.length=(ab7 g.aj.length false).map .bool:=by rw[eE,aio]
 rw[er]at U;refine RO.dD U λR B U=>ab ?_;refine RO.dL U λV C U=>ab ?_;refine RO.dL U λX F U=>ab ?_;refine RO.dO U 0 (λI U=>?_);refine ab ?_;have U:=(U.mZ 3 1);have U:ak D I (yl w z B C F A g.aj.length (ab7 g.aj.length false) [] .bj++[]):=U.bO (List.Perm.append_left [_,_,_,_] (ah5 ..));refine RO.cl (abU T n o f b _ 0 _ [] _ _ [] _ (aeE _) b.c0 aC (by rw[vt];simp) U λY y new Z ws k s hb hc U=>?_);have u:=s.am o b k hb hc;have l:0<new.length:=by have⟨r,J⟩:=u.hd;have:=congrArg List.length J;simp at this;omega
 rw[aie]at U;obtain⟨q,cap,ex,rfl⟩:=U.jp 0 rfl aa;have m:=s.fX λx L=>by rw[aif];exact b.lt (hc x L)
 rw[vt]at m;refine ab ?_;refine RO.cl (abW T rfl l aa U λH8 U=>ab ?_);have ag:new.reverse.length=new.length:=aC;rw[<-ag]at U;rw[<-ag];exact Ru.aL (h _ _ _ u (U.sub (aiy _ (aiC _))))
end
end
theorem LJ(h:x<18446744073709551616):(ck 7).wrap (.ofNat x)=.ofNat x:=by have a:(ck 7).bits=64:=rfl;have b:(ck 7).signed=false:=rfl;unfold IntKind.wrap;grind
theorem c7(h:x<18446744073709551616):gf 7 (.ofNat x)=.ofNat x:=SW (LJ h)
theorem m7{c:Nat}(h:a*b=c)(d:c<18446744073709551616):fO .mul 7 (.ofNat a) (.ofNat b)=some (.int 7 (.ofNat c)):=by show some (AV.int 7 (gf 7 (.ofNat (a*b))))=_;rw[h,c7 d]
theorem a7{c:Nat}(h:a+b=c)(d:c<18446744073709551616):fO .add 7 (.ofNat a) (.ofNat b)=some (.int 7 (.ofNat c)):=by show some (AV.int 7 (gf 7 (.ofNat (a+b))))=_;rw[h,c7 d]
theorem n7(h:a<4294967296):fO .and 7 (.ofNat a) (.ofNat 4294967295)=some (.int 7 (.ofNat a)):=by
 have e:(aik (ck 7).bits (.ofNat a)&&&aik (ck 7).bits (.ofNat 4294967295)).toNat=a:=by
  show(aik 64 (.ofNat a)&&&aik 64 (.ofNat 4294967295)).toNat=a;rw[BitVec.toNat_and];have b:(aik 64 (ah0 a)).toNat=a:=by show(aik 64 ((a:Nat):Int)).toNat=a;rw[BitVec.ofInt_natCast,BitVec.toNat_ofNat];omega
  rw[b,show(aik 64 (ah0 4294967295)).toNat=2^32 - 1 from rfl,Nat.and_two_pow_sub_one_eq_mod];omega
 simp only[fO,e,k7];exact congrArg (λx=>some (AV.int 7 x)) (LJ aa)
theorem s7(h:a<4294967296):AJ .shr (.int 7 (.ofNat a)) (.int 7 (.ofNat 32))=some (.int 7 (.ofNat 0)):=by show some (AV.int 7 ((ah0 a).fdiv (2^32)))=_;grind
theorem RO.shift{L:Kn}{op:BinOp}{x y:aJ}(g:RO ac d v h (bo L f xv) D)(b:aT L x=W:=by exact cw)(c:aT L y=t:=by exact cw)(e:W.bk=true:=by rfl)(hb:t.bk=true:=by rfl)(hv:AJ op W t=some xv):RO ac d (⟨f,.shift op x y,none,[],[]⟩::v) h L D:=RO.op (λaf a=>by simp only[aH,a.gv b e,a.gv c hb,hv];rfl) g
theorem abX(T:Tb ac)(b:x<4294967296)(a:S (.tuple [.int 7 (.ofNat 0),.int 7 (.ofNat x)]) D):YN ac W1 [.int 7 (.ofNat 1),.int 7 (.ofNat x)] D S:=by refine YF.code T.Zv aC (au ?_);refine RO.arith (au ?_) (hv:=n7 (a:=1) aa);refine RO.shift (au ?_) (hv:=s7 (a:=1) aa);refine RO.arith (au ?_) (hv:=n7 (a:=x) aa);refine RO.shift (au ?_) (hv:=s7 (a:=x) aa);refine RO.arith (au ?_) (hv:=m7 (a:=1) (b:=x) (c:=x) aa aa);refine RO.arith (au ?_) (hv:=m7 (a:=0) (b:=x) (c:=0) aa aa);refine RO.shift (au ?_) (hv:=s7 (a:=x) aa);refine RO.arith (au ?_) (hv:=a7 (a:=0) (b:=0) (c:=0) aa aa);refine RO.arith (au ?_) (hv:=n7 (a:=0) aa);refine RO.shift (au ?_) (hv:=s7 (a:=0) aa);refine RO.arith (au ?_) (hv:=m7 (a:=1) (b:=0) (c:=0) aa aa);refine RO.arith (au ?_) (hv:=a7 (a:=0) (b:=0) (c:=0) aa aa);refine RO.arith (au ?_) (hv:=m7 (a:=0) (b:=0) (c:=0) aa aa);refine RO.arith (au ?_) (hv:=a7 (a:=0) (b:=0) (c:=0) aa aa);refine RO.shift (au ?_) (hv:=s7 (a:=0) aa);refine RO.arith (au ?_) (hv:=a7 (a:=0) (b:=0) (c:=0) aa aa);refine RO.arith (au ?_) (hv:=m7 (a:=1) (b:=x) (c:=x) aa aa);exact Ru.ki a
theorem LL(T:Tb ac)(a:n<4294967296)(b:S (.tuple [.int 7 (.ofNat 0),.int 7 (.ofNat n)]) D):YN ac WK [.int 7 (.ofNat 1),.int 7 (.ofNat n)] D S:=by refine YF.code T.Za aC (au ?_);refine RO.cl (abX T a (au ?_));exact Ru.ki b
end
end Go.al.R
namespace Go.al
variable{a b g k n x:Nat}{Z:List Th}{D X:ai}{W t xv:AV}{p:Bool}{w:ah}{f:Option ah}{h:List SI}{v:List bD}
section
variable{ac:Nat->aX}{c:Cx}{L:Kn}{e m o cp:Nat}{ex ex':Bool}
def ko(W t:AV)(x k n:Nat):List AV:=ab7 (k*x) W++ab7 ((n - k)*x) t
theorem FO(h:a<=x):(ko W t b a x).length=x*b:=by simp only[ko,ae8,aif,<-aiT];grind
theorem LM(h:b<=a)(hj:x<a*g):(ko W t g b a)[x]?=some (if x<b*g then W else t):=by rw[ko,List.getElem?_append];simp only[aif];split;all_goals simp_all[ahX,aF,Nat.sub_mul]
theorem LN:ko W t k x x=ab7 (x*k) W:=by simp[ko]
theorem RO.Cc(U:ak X D Z)(i:Nat){av y:aJ}(hi:Z[i]?=some (tS e b (ko W t b a x) x p (.slice w 0 x g ex)))(E:a<=x)(hu:W.cY=true)(hs:Sl D b (ab7 (m*b) W) m xv)(J:min m (x - a)≠0)(K:o=a*b)(ag:∀C,ak X C (Z.set i (tS e b (ko W t b (a+min m (x - a)) x) x p (.slice w 0 x g ex)))->RO ac c v h (bo L f (.int 3 (.ofNat (min m (x - a))))) C)(M:aT L av=.slice w o (x - a) cp ex':=by exact cw)(N:aT L y=xv:=by exact cw):RO ac c (⟨f,.copy b av y,none,[],[]⟩::v) h L D:=by
 have⟨Q,I,_,F⟩:=U.iQ i hi;have B:x<=g:=by
  rcases I with⟨_,_,_,ag⟩|⟨R,S,aK,g,ex',rfl,h2,_,T,_⟩;·cases ag
  injection h2 with _ _ _ h2;omega
 have r:a+min m (x - a)<=x:=aa;have G:(ab7 (m*b) W).take (min m (x - a)*b)=ab7 (min m (x - a)*b) W:=by rw[List.take_replicate,<-Nat.mul_min_mul_right];congr 1;have:=ahS b (Nat.min_le_left m (x - a));omega
 have O:cU (ab7 (min m (x - a)*b) W)=true:=by generalize min m (x - a)*b=aw;induction aw with|zero=>rfl|succ aw P=>rw[List.replicate_succ];exact ao hu P
 have V:(a+min m (x - a))*b=a*b+min m (x - a)*b:=aiT .. ;have Y:(a+min m (x - a))*b<=x*b:=ahS _ r;have e3:x*b<=g*b:=ahS _ B;obtain⟨C,h1,h2,h3⟩:=cO.tp I (o:=o) (ws:=ab7 (min m (x - a)*b) W) (us:=ko W t b (a+min m (x - a)) x) (by rw[aif];omega) O (by rw[FO E,FO r]) λj hj=>by
  rw[FO E]at hj;rw[LM r hj,LM E hj,aif,K];by_cases h1:a*b<=j/\j<a*b+min m (x - a)*b;·rw[aF h1,ahX,aF aa,aF aa]
  rw[an h1];by_cases h2:j<a*b;·rw[aF h2,aF aa]
  rw[an h2,an aa]
 exact RO.copy M N hs.bk hs.gh J (by rw[G];exact h1) (ag C (F h2 h3))
end
end Go.al
namespace Go.al.R
variable{D X:ai}{a g k n x:Nat}{S:KT}{xv:AV}{Y l:List Nat}{F:Nat->List Nat}{e:List Int}{Z:List Th}{o q s w:ah}
section
variable{ac:Nat->aX}
theorem LO(T:Tb ac){u:AV}(hu:u.cY=true)(hs:Sl D 1 (ab7 (1*1) u) 1 xv)(r:n<=1000000)(e:∀f q,ak D f [tS 3 1 (ab7 (n*1) u) n true (.slice q 0 n n true)]->S (.slice q 0 n n true) f):YN ac Wu [xv,aN n] D S:=by
 have⟨hd,_,_,p⟩:=hs.all;refine YF.code T.YR aC (au ?_);refine RO.kx (au ?_);refine RO.kx ?_;refine RO.cl (LL T (n:=n) aa ?_) (ha:=by show[AV.int 7 (gf 7 (.ofNat 1)),AV.int 7 (gf 7 (.ofNat n))]=_;rw[c7 aa,c7 aa]);refine ab ?_;refine Ru.cond (λ(h:9223372036854775807<n)=>by omega) (λ_=>ab ?_);refine RO.kx ?_;rw[mY (n:=.ofNat n) (by rw[ag0];omega) (by rw[ag0];omega)];refine RO.jq (ak.bM D) (n:=n) (λs q U=>?_) (hz:=by rw[eE];simp);have b:dZ [.int 3 (.ofNat 0)] n=ko u (.int 3 (.ofNat 0)) 1 0 n:=by rw[eE];simp[ko]
 rw[b]at U;refine au ?_;rcases Nat.eq_zero_or_pos n with rfl|i;·refine RO.J7 (xv:=.slice q 0 0 0 true) rfl rfl hd (U.gr.sl hs).gh ⟨0,rfl,aC⟩ (au ?_);refine Ru.loop (au ?_);refine Ru.exitTo ?_;refine au ?_;exact Ru.aL (e _ q U)
 refine RO.Cc U 0 rfl (Nat.zero_le n) hu (m:=1) (U.gr.sl hs) aa (o:=0) aa (λj U=>?_);rw[show min 1 (n - 0)=1 by omega,ahw]at*;refine au ?_;refine Ru.nm λv M l g=>Ru.bH g (up (P:=λk=>1<=k->∀c,ak D c [tS 3 1 (ko u (.int 3 (.ofNat 0)) 1 k n) n true (.slice q 0 n n true)]->Ru ac _ v ([(p8,aN k)]++pk M [p7]) c) n (λk t m h1 c U=>?_) 1 aa (aeE _) _ U);subst l;subst g;refine Ru.loop (au ?_);refine Ru.cond (λd=>?_) (λd=>?_)
 .refine au ?_;refine RO.gV (m:=n) (b:=n) (a:=k) rfl rfl rfl (by show lF (aN k) n=_;exact qE aa) rfl ?_;refine au ?_;refine RO.lR (U.sl 0 rfl) (b:=k) ?_;have o:(ko u (.int 3 (.ofNat 0)) 1 k n).take (k*1)=ab7 (k*1) u:=by rw[ko,List.take_append_of_le_length aC,aho aC]
  have a:=Ae (U.sl 0 rfl) (b:=k) aa;rw[o]at a;refine RO.Cc U 0 rfl aa hu a aa (o:=if true&&decide (n=k)then 0 else 0+k*1) (by rw[an (by simp;omega)];omega) (λj U=>?_);refine RO.add ?_ (a:=.ofNat k) (b:=.ofNat (min k (n - k))) (h1:=by simp;omega) (h2:=by simp;omega);refine au ?_;exact Ru.wk (m (k+min k (n - k)) aa aa aa _ U)
 refine Ru.exitTo ?_;refine au ?_;have:k=n:=aa;subst this;rw[LN]at U;exact Ru.aL (e _ q U)
theorem FP(z:AV):∀n,dZ [z,z] n=ab7 (n*2) z|0=>rfl|n+1=>by rw[show(n+1)*2=n*2+1+1 by omega,List.replicate_succ,List.replicate_succ,<-FP z n];rfl
theorem abZ(T:Tb ac){u:AV}(hu:u.cY=true)(hs:Sl D 2 (ab7 (1*2) u) 1 xv)(r:n<=1000000)(e:∀f q,ak D f [tS pF 2 (ab7 (n*2) u) n true (.slice q 0 n n true)]->S (.slice q 0 n n true) f):YN ac XF [xv,aN n] D S:=by
 have⟨hd,_,_,p⟩:=hs.all;refine YF.code T.aap aC (au ?_);refine RO.kx (au ?_);refine RO.kx ?_;refine RO.cl (LL T (n:=n) aa ?_) (ha:=by show[AV.int 7 (gf 7 (.ofNat 1)),AV.int 7 (gf 7 (.ofNat n))]=_;rw[c7 aa,c7 aa]);refine ab ?_;refine Ru.cond (λ(h:9223372036854775807<n)=>by omega) (λ_=>ab ?_);refine RO.kx ?_;rw[mY (n:=.ofNat n) (by rw[ag0];omega) (by rw[ag0];omega)];refine RO.jq (ak.bM D) (n:=n) (λs q U=>?_) (hz:=by rw[FP];simp);have b:dZ [.int 3 (.ofNat 0),.int 3 (.ofNat 0)] n=ko u (.int 3 (.ofNat 0)) 2 0 n:=by rw[FP];simp[ko]
 rw[b]at U;refine au ?_;rcases Nat.eq_zero_or_pos n with rfl|i;·refine RO.J7 (xv:=.slice q 0 0 0 true) rfl rfl hd (U.gr.sl hs).gh ⟨0,rfl,aC⟩ (au ?_);refine Ru.loop (au ?_);refine Ru.exitTo ?_;refine au ?_;exact Ru.aL (e _ q U)
 refine RO.Cc U 0 rfl (Nat.zero_le n) hu (m:=1) (U.gr.sl hs) aa (o:=0) aa (λj U=>?_);rw[show min 1 (n - 0)=1 by omega,ahw]at*;refine au ?_;refine Ru.nm λv M l g=>Ru.bH g (up (P:=λk=>1<=k->∀c,ak D c [tS pF 2 (ko u (.int 3 (.ofNat 0)) 2 k n) n true (.slice q 0 n n true)]->Ru ac _ v ([(p8,aN k)]++pk M [p7]) c) n (λk t m h1 c U=>?_) 1 aa (aeE _) _ U);subst l;subst g;refine Ru.loop (au ?_);refine Ru.cond (λd=>?_) (λd=>?_)
 .refine au ?_;refine RO.gV (m:=n) (b:=n) (a:=k) rfl rfl rfl (by show lF (aN k) n=_;exact qE aa) rfl ?_;refine au ?_;refine RO.lR (U.sl 0 rfl) (b:=k) ?_;have o:(ko u (.int 3 (.ofNat 0)) 2 k n).take (k*2)=ab7 (k*2) u:=by rw[ko,List.take_append_of_le_length aC,aho aC]
  have a:=Ae (U.sl 0 rfl) (b:=k) aa;rw[o]at a;refine RO.Cc U 0 rfl aa hu a aa (o:=if true&&decide (n=k)then 0 else 0+k*2) (by rw[an (by simp;omega)];omega) (λj U=>?_);refine RO.add ?_ (a:=.ofNat k) (b:=.ofNat (min k (n - k))) (h1:=by simp;omega) (h2:=by simp;omega);refine au ?_;exact Ru.wk (m (k+min k (n - k)) aa aa aa _ U)
 refine Ru.exitTo ?_;refine au ?_;have:k=n:=aa;subst this;rw[LN]at U;exact Ru.aL (e _ q U)
end
section
inductive iV(W:Nat->List Nat)(d:Nat):Nat->Prop
 |zero(h:0≠d):iV W d 0
 |step{a x:Nat}(h:iV W d a)(hx:x∈W a)(hn:x≠d):iV W d x
def ey(W:Nat->List Nat)(d b:Nat):Prop:=¬iV W d b
theorem ey.bY(h:ey F x n)(b:n∈F a)(c:x≠n):ey F x a:=λd=>h (.step d b λe=>c e.symm)
theorem ey.zero(h:ey F x 0):x=0:=ahF λa=>h (.zero λe=>a e.symm)
structure Rk(W:Nat->List Nat)(am ranks:List Nat):Prop where
 nd:am.Nodup
 hd:∃rest,am=0::rest
 aK:∀bY x post,am=bY++x::post->x=0\/∃y∈bY,x∈W y
 rk:∀i(h:i<am.length),ranks.getD am[i] 0=i
variable{W:Nat->List Nat}{am ranks:List Nat}{up:List Int}
theorem Rk.inj(h:Rk W am ranks)(a:x∈am)(hb:n∈am)(e:ranks.getD x 0=ranks.getD n 0):x=n:=by obtain⟨i,hi,rfl⟩:=ahd a;obtain⟨j,hj,rfl⟩:=ahd hb;rw[h.rk i hi,h.rk j hj]at e;subst e;rfl
theorem Rk.at(h:Rk W am ranks)(a:x∈am):∃hl:ranks.getD x 0<am.length,am[ranks.getD x 0]=x:=by obtain⟨i,hi,rfl⟩:=ahd a;have e:=h.rk i hi;generalize ranks.getD am[i] 0=j at*;subst e;exact⟨hi,rfl⟩
theorem Rk.bY(h:Rk W am ranks)(hb:x∈am)(h0:x≠0):∃y∈am,x∈W y/\ranks.getD y 0<ranks.getD x 0:=by
 have⟨hl,e⟩:=h.at hb;have b:am=am.take (ranks.getD x 0)++x::am.drop (ranks.getD x 0+1):=by conv=>lhs;rw[<-aig (ranks.getD x 0) am,ahp hl,e]
 rcases h.aK _ _ _ b with h1|⟨y,a,c⟩;·exact absurd h1 h0
 refine⟨y,aiK a,c,?_⟩;obtain⟨i,hi,rfl⟩:=ahd a;rw[ahU]at hi;rw[List.getElem_take,h.rk i aa];omega
theorem Rk.zero(h:Rk W am ranks):0∈am/\ranks.getD 0 0=0:=by have⟨r,a⟩:=h.hd;have:=h.rk 0 (by rw[a];simp);simp only[a,List.getElem_cons_zero]at this;exact⟨by rw[a];simp,this⟩
theorem Rk.ef(h:Rk W am ranks):∀(n b:Nat),ranks.getD b 0=n->b∈am->ey W x b->ranks.getD x 0<=n:=λn=>by
 induction n using Nat.strongRecOn with
 |ind n c=>
  intro b g hb hd;by_cases a:x=b;·subst a;omega
  by_cases h0:b=0;·subst h0;exact absurd hd.zero a
  have⟨y,d,e,f⟩:=h.bY hb h0;have:=c _ aa y rfl d (hd.bY e a);omega
structure oz(W:Nat->List Nat)(am ranks:List Nat)(n:Nat)(up:List Int):Prop where
 len:up.length=n
 u0:up.getD 0 (-1)=0
 rg:∀b, -1<=up.getD b (-1)
 ok:∀b,b≠0->0<=up.getD b (-1)->b∈am/\∃a:Nat,up.getD b (-1)=a/\a∈am/\ranks.getD a 0<ranks.getD b 0/\0<=up.getD a (-1)/\∀d,ey W d b->d≠b->ey W d a
inductive fu(up:List Int)(m:Nat):Nat->Prop
 |refl:fu up m m
 |step{a c:Nat}(h:up.getD a (-1)=(c:Int))(h0:a≠0)(hc:fu up m c):fu up m a
theorem fu.trans(h1:fu e x n)(h2:fu e n a):fu e x a:=by induction h2 with|refl=>exact h1|step h h0 _ b=>exact .step h h0 b
def oB(up:List Int)(b x:Nat):Prop:=x≠0->∃m:Nat,up.getD x (-1)=(m:Int)/\fu up m b
structure vB(W:Nat->List Nat)(am ranks:List Nat)(up:List Int)(a b m:Nat):Prop where
 mem:m∈am
 df:0<=up.getD m (-1)
 ra:ranks.getD m 0<=ranks.getD a 0
 rb:ranks.getD m 0<=ranks.getD b 0
 ef:∀d,ey W d a->ey W d b->ey W d m
 LP:fu up m a
 FQ:fu up m b
theorem vB.swap(h:vB W am ranks up x n a):vB W am ranks up n x a:=⟨h.mem,h.df,h.rb,h.ra,λd h1 h2=>h.ef d h2 h1,h.FQ,h.LP⟩
theorem oz.LQ(h:oz W am ranks a up)(g:Rk W am ranks)(l:x∈am)(hb:n∈am)(i:0<=up.getD x (-1))(j:x≠n)(o:ranks.getD n 0<=ranks.getD x 0):∃c:Nat,up.getD x (-1)=c/\c∈am/\0<=up.getD c (-1)/\ranks.getD c 0<ranks.getD x 0/\∀m,vB W am ranks up c n m->vB W am ranks up x n m:=by
 have k:ranks.getD n 0<ranks.getD x 0:=Nat.lt_of_le_of_ne o λe=>j (g.inj l hb e.symm);have h0:x≠0:=λe=>by subst e;rw[g.zero.2]at k;omega
 have⟨_,c,h1,h2,h3,p,q⟩:=h.ok x h0 i;refine⟨c,h1,h2,p,h3,λm b=>⟨b.mem,b.df,by have:=b.ra;omega,b.rb,λd hd f=>b.ef d (q d hd λe=>?_) f,.step h1 h0 b.LP,b.FQ⟩⟩;subst e;have:=g.ef _ n rfl hb f;omega
theorem oz.set(h:oz W am ranks a up)(r:Rk W am ranks)(i:x∈am)(q:x<a)(h0:x≠0)(f:n∈am)(j:0<=up.getD n (-1))(l:ranks.getD n 0<ranks.getD x 0)(hd:∀d,ey W d x->d≠x->ey W d n):oz W am ranks a (up.set x (n:Int)):=by
 have hl:=h.len;have e:∀s,(up.set x (n:Int)).getD s (-1)=if s=x then(n:Int)else up.getD s (-1):=λs=>dA aa;have k:∀s,0<=up.getD s (-1)->0<=(up.set x (n:Int)).getD s (-1):=λs g=>by
  rw[e];split;·omega
  exact g
 refine⟨by simpa using hl,by rw[e,an λe=>h0 e.symm];exact h.u0,λs=>?_,λs g b=>?_⟩
 .rw[e];split;·omega
  exact h.rg s
 rw[e]at b⊢;split;·rename_i c;subst c;exact⟨i,n,rfl,f,l,k _ j,hd⟩
 rename_i c;rw[an c]at b;have⟨h1,t,h2,h3,m,o,p⟩:=h.ok s g b;exact⟨h1,t,h2,h3,m,k _ o,p⟩
def oC(ranks:List Nat)(n:Nat)(up:List Int):Nat:=(up.map λx=>if x<0 then n else ranks.getD x.toNat 0).sum
theorem LR(b:k<l.length):(l.set k x).sum+l[k]=l.sum+x:=by induction l generalizing k with|nil=>simp at b|cons a l c=>cases k with|zero=>simp;omega|succ k=>have:=c (k:=k) (by simpa using b);simp;omega
theorem LS{now:Nat}(a:k<up.length)(hl:ranks.getD now 0<if up.getD k (-1)<0 then n else ranks.getD (up.getD k (-1)).toNat 0):oC ranks n (up.set k (now:Int))<oC ranks n up:=by unfold oC;rw[List.map_set];have h1:=LR (l:=up.map λx=>if x<0 then n else ranks.getD x.toNat 0) (k:=k) (x:=ranks.getD now 0) (by simpa using a);rw[aZ a]at hl;simp only[ahP]at h1;rw[an (show¬((now:Int)<0)by omega),aeY];omega
end
section
variable{ac:Nat->aX}
theorem qQ(z:Int)(f:x<e.length):(e.map aI)[0+x*1]?=some (aI (e.getD x z)):=nX z f
def vC(q s w o:ah)(n:Nat)(Y:List Nat)(e:List Int):List Th:=[tB cW q [.slice w 0 n n true],tB cW s [.slice o 0 n n true],tS 3 1 (Y.map aN) n true (.slice w 0 n n true),tS 3 1 (e.map aI) n true (.slice o 0 n n true)]
theorem ab0(T:Tb ac)(z:Rk F Y l)(v:oz F Y l g e)(J:l.length=g)(Q:g<=1000000)(t:∀x∈Y,x<g)(U:ak X D (vC w o q s g l e++Z))(p:k∈Y)(hb:x∈Y)(i:0<=e.getD k (-1))(j:0<=e.getD x (-1))(r:∀m,vB F Y l e k x m->S (aN m) D):YF ac (.func XE [] [.aD w 0,.aD o 0]) [aN k,aN x] D S:=by
 have N:=v.len;refine YF.code T.aao aC (ab ?_);refine Ru.nm λV M E B=>Ru.bH B (dn (P:=λm=>∀k x,l.getD k 0+l.getD x 0=m->k∈Y->x∈Y->0<=e.getD k (-1)->0<=e.getD x (-1)->(∀m,vB F Y l e k x m->S (aN m) D)->Ru ac _ V ([(p0,aN k),(p1,aN x)]++pk M [p2,p3]) D) (λm C k x u p hb i j r=>?_) _ k x rfl p hb i j r);have O:=t k p;have P:=t x hb;subst E;subst B;refine Ru.loop (ab ?_);refine Ru.cond (λf=>?_) (λf=>?_)
 .have f:k≠x:=by simpa using f
  refine ab ?_;refine RO.cJ U 2 (hv:=nX 0 aa) (ab ?_);refine RO.cJ U 2 (hv:=nX 0 aa) ?_;refine ab ?_;refine Ru.cond (λG=>?_) (λG=>?_);·obtain⟨R,h1,h2,h3,I,y⟩:=v.LQ z hb p j (λag=>f ag.symm) aa;refine ab ?_;refine RO.cJ U 3 (v:=aN R) (hv:=by rw[qQ (-1) aa,h1];rfl) ?_;refine ab ?_;exact Ru.wk (C _ aa R k rfl h2 p h3 i λm u=>r m (y m u).swap)
  obtain⟨R,h1,h2,h3,I,y⟩:=v.LQ z p hb i f aa;refine ab ?_;refine RO.cJ U 3 (v:=aN R) (hv:=by rw[qQ (-1) aa,h1];rfl) ?_;refine ab ?_;exact Ru.wk (C _ aa R x rfl h2 hb h3 j λm u=>r m (y m u))
 have f:k=x:=by simpa using f
 subst f;refine Ru.exitTo ?_;refine ab ?_;exact Ru.aL (r k ⟨p,i,aeE _,aeE _,λ_ h _=>h,.refl,.refl⟩)
end
end Go.al.R
end
