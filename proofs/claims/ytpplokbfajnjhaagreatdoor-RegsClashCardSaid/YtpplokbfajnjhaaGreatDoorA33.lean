/- A part. No conditions. -/
import Derived.Test.YtpplokbfajnjhaaGreatDoorA04
import Derived.ChangeArms
import Derived.DataReads
set_option linter.all false
open List renaming range->ah7
open UInt8 renaming toNat->ajs
noncomputable section
namespace Go.al
section
variable[Ov]
section
variable{P:Program}
def afe(w:World):b8:=⟨λb=>w.heap.size<=b,λ_=>True,λ_=>False,λ_=>False⟩
end
section
variable{P:Program}
def k6(n c:Nat):Value->AV
 |.int k m=>.int (kc k) m
 |.bool b=>.bool b
 |.string t=>.str (t.data.toList.map ajs)
 |.slice none 0 0=>.bh
 |.slice (some a) len cap=>if len<=cap then(if cap=0 then(if 0<c then .slice (ah.cG n) 0 0 0 true else .bM)else match a with
   |⟨b,off,none⟩=>if b<c then .slice (ah.cG (n+b)) off len cap true else .bM
   |_=>.bM)else .bM
 |_=>.bM
def vJ(P:Program)(n:Nat)(w:World):aM:=⟨λj=>if j.am<=n then some (j.am - 1,0)else if j.am<=n+w.heap.size then some (j.am - n - 1,0)else none,λb=>match w.heap[b]? with
 |some (.cells cs e _)=>(cs.size,(eW P e).getD 0)
 |_=>(0,0)⟩
theorem Hc{n b:Nat}{w:World}(h:b<w.heap.size):vJ P n w (ah.cG (n+b))=some (b,0):=by show(if(ah.cG (n+b)).am<=n then _ else _)=_;rw[ah.kA,an aa,aG aa];congr 2;omega
theorem OH{n:Nat}{w:World}(v:Value):VR (vJ P n w) (k6 n w.heap.size v) v:=by
 unfold k6;split;·trivial
 .rfl
 .rfl
 .trivial
 .split
  .rename_i h1;split
   .rename_i h2;subst h2;split;·rename_i h3;simp only[VR];exact⟨aa,afM _,afM _,λ_=>trivial,0,0,by have:=Hc (P:=P) (n:=n) h3;omega,λh=>absurd rfl h,λh=>by simp⟩
    trivial
   split;·rename_i b off;split;all_goals simp_all[VR,trivial,afM,Hc,aif]
   trivial
  trivial
 trivial
def oI(n:Nat)(w:World)(b:Nat):bP:=match w.heap[b]? with
 |some (.cells cs e _)=>.cells (cq (cs.toList.map (k6 n w.heap.size))) cs.size e false [] 0
 |_=>.none
def CS(n:Nat)(w:World):Nat->az bP
 |0=>.aR
 |k+1=>(CS n w k).set .none (ah.cG (n+k)) (oI n w k)
def k7(n:Nat)(w:World):ai:=⟨CS n w w.heap.size,ah.cG (n+w.heap.size)⟩
theorem OI(n:Nat)(w:World)(j:ah):∀k,az.get bP.none j (CS n w k)=if n<j.am/\j.am<=n+k then oI n w (j.am - n - 1)else .none
 |0=>by rw[an aa];exact pb j j
 |k+1=>by
  rw[CS,az.aF,OI n w j k];have e:j=ah.cG (n+k)↔j.am=n+k+1:=⟨λe=>by rw[e,ah.kA],λe=>ah.rj (by rw[ah.kA];exact e)⟩;by_cases h:j.am=n+k+1;·rw[aG (e.2 h),aG aa];congr 1;omega
  rw[an λa=>h (e.1 a)];by_cases h2:n<j.am/\j.am<=n+k;·rw[aG h2,aG aa]
  rw[an h2,an aa]
theorem OJ(n:Nat)(w:World)(j:ah):(k7 n w).get j=if n<j.am/\j.am<=n+w.heap.size then oI n w (j.am - n - 1)else .none:=OI n w j _
theorem OL{n b:Nat}{w:World}(h:b<w.heap.size):(k7 n w).get (ah.cG (n+b))=oI n w b:=by rw[OJ,ah.kA,aG aa];congr 1;omega
theorem aff{n b:Nat}{w:World}{cs:Array Value}{e:TypeId}{fr:Nat×Nat}(h:w.heap[b]?=some (.cells cs e fr)):OR P (vJ P n w) (oI n w b) 0 (.cells cs e fr):=by simp only[oI,h,OR];simp_all[trivial,i,aif,getElem?_pos,xg,aiD,Array.getElem_toList,OH]
theorem afg{n:Nat}{w:World}(E:P.globals.size=n)(F:n<=w.heap.size):bo P (afe w) (vJ P n w) (k7 n w) w:=by
 have hg:=OJ n w;have key:∀i,(k7 n w).get i≠.none->∃b c e f,i.am=n+b+1/\b<w.heap.size/\w.heap[b]?=some (.cells c e f)/\(k7 n w).get i=oI n w b/\vJ P n w i=some (b,0):=by
  intro i hi;have r:=hg i;rw[r]at hi;split at hi
  .rename_i h;have hb:i.am - n - 1<w.heap.size:=aa;have p:=hi;unfold oI at p;split at p;·rename_i cs e f z;refine⟨i.am - n - 1,cs,e,f,aa,hb,z,by rw[r,aG h],?_⟩;rw[show i=ah.cG (n+(i.am - n - 1))from ah.rj (by rw[ah.kA];omega)];have:=Hc (P:=P) (n:=n) hb;rw[this,ah.kA];congr 2;omega
   exact absurd rfl p
  exact absurd rfl hi
 have l:∀b c e f,w.heap[b]?=some (.cells c e f)->oI n w b=.cells (cq (c.toList.map (k6 n w.heap.size))) c.size e false [] 0:=λb c e f h=>by simp only[oI,h]
 have s:∀i j,i∉((k7 n w).get j).aK:=λi j h=>by
  by_cases hj:(k7 n w).get j=.none;·rw[hj]at h;cases h
  have⟨b,c,e,f,_,_,h3,o,_⟩:=key j hj;rw[o,l b c e f h3]at h;cases h
 refine⟨λi hi=>?_,λi j b x y u hi hj a m=>?_,λi j h=>absurd h (s i j),λi b x hi v q=>?_,λi hi=>?_,λk A=>⟨A,trivial⟩,λg h=>?_,λi b x G hi a m=>?_,λi b x q=>?_,λi b x _ _=>trivial,λi h=>h.elim,λi h=>h.elim⟩;·have⟨b,c,e,f,_,_,h3,o,t⟩:=key i hi;exact⟨b,0,_,t,h3,by rw[o];exact aff h3⟩
 .exfalso;have⟨b1,_,_,_,H,_,_,_,B⟩:=key i hi;have⟨b2,_,_,_,I,_,_,_,C⟩:=key j hj;rw[B]at a;rw[C]at m;injection a with a;injection a with a;injection m with m;injection m with m;exact u (ah.rj aa)
 .have⟨b1,c,e,f,_,_,h3,o,_⟩:=key i hi;rw[o,l b1 c e f h3]at v;cases v
 .have D:n+w.heap.size+1<=i.am:=by have:(ah.cG (n+w.heap.size)).am<=i.am:=hi;rw[ah.kA]at this;exact this
  refine⟨by rw[hg,an aa],?_⟩;show(if i.am<=n then _ else _)=_;rw[an aa,an aa]
 .show(if(ah.cG g).am<=n then _ else _)=_;rw[ah.kA,aG aa];simp
 .have⟨b1,c,e,f,_,_,h3,o,t⟩:=key i hi;rw[t]at a;injection a with a;injection a with a;subst a;rw[h3]at m;injection m with m;subst m;rw[o,l b1 c e f h3];simp only[eP];show(match w.heap[b1]? with|some (.cells cs e _)=>(cs.size,(eW P e).getD 0)|_=>(0,0))=_;rw[h3]
 have d:(if i.am<=n then some (i.am - 1,0)else if i.am<=n+w.heap.size then some (i.am - n - 1,0)else none)=some (b,x):=q;have:=ah.ri i;split at d;·injection d with d;injection d with d;omega
 split at d;·injection d with d;injection d with d;omega
 cases d
end
section
variable{P:Program}{K:Type}{da:TypeId×Value->K}{w:World}{n:Nat}
def lG(da:TypeId×Value->K)(P:Program)(w:World)(t:TypeId)(cs:List Value):Prop:=∃fuel x,DataW.trod da P w 0 (λ_=>true) true fuel t cs=some x
theorem OM{a:Addr}{v:Value}(h:w.cell? a=some v):∃c e f,a.spot=none/\w.heap[a.block]?=some (.cells c e f)/\c[a.off]?=some v:=by unfold World.cell? at h;split at h;all_goals simp_all
theorem ON{b off i:Nat}:(⟨b,off,none⟩:Addr).add i=⟨b,off+i,none⟩:=by simp[Addr.add]
theorem OO{c:Type}{Q:Nat->c->Prop}:∀{len:Nat},(∀i,i<len->∃a,Q i a)->∃b:List c,b.length=len/\∀i(h:i<b.length),Q i b[i]|0,_=>⟨[],rfl,λi h=>absurd h aC⟩|len+1,h=>by have⟨b,h1,h2⟩:=OO (len:=len) λi hi=>h i aa;have⟨a,d⟩:=h len aC;refine⟨b++[a],by grind,λi hi=>?_⟩;grind
theorem An{M:Type}{R:ai->M->List AV->Prop}{X:M->Prop}{t e:TypeId}{size:Nat}(ht:P.underlying t=some (.slice e))(A:P.cellsOf e=size)(S:0<size)(hg:∃c e f,w.heap[0]?=some (.cells c e f))(T:∀cs,lG da P w e cs->∃a:M,R (k7 n w) a (cs.map (k6 n w.heap.size))/\X a){cs:List Value}(h:lG da P w t cs):∃v N,cs=[v]/\cQ size R (k7 n w) N (k6 n w.heap.size v)/\∀a∈N,X a:=by
 have⟨fuel,x,h⟩:=h;have⟨c0,e0,f0,V⟩:=hg;have B:0<w.heap.size:=(Array.getElem?_eq_some_iff.1 V).1;rcases DataW.trod_slice ht h with⟨rfl,_⟩|⟨a,len,cap,r,I,m,_,rfl,_,_,C,_,ax,J,s,_⟩;·exact⟨_,[],rfl,⟨[],.inl ⟨rfl,rfl,rfl⟩,λk l=>absurd l aC⟩,λa h=>by grind⟩
 have D:∀i,i<cap->∃cs,w.cells? 0 (a.add (i*size)) size=some cs/\(i<len->∃y,DataW.trod da P w 0 (λ_=>true) true m e cs=some y):=λi hi=>by
  by_cases hl:i<len;·have h1:=J i hl;rw[getElem?_pos r i aa,ab1]at h1;have⟨cs,h2,h3⟩:=h1;rw[A]at h2;exact⟨cs,h2,λ_=>⟨_,h3⟩⟩
  have⟨h0,h1⟩:=s rfl;have h1:=h1 (i - len) aa;rw[getElem?_pos I _ aa,ab1]at h1;have⟨cs,h2,_⟩:=h1;rw[A,show len+(i - len)=i by omega]at h2;exact⟨cs,h2,λh=>absurd h hl⟩
 by_cases E:cap=0
 .subst E;obtain rfl:len=0:=aa;refine⟨_,[],rfl,⟨[],?_,λk l=>absurd l aC⟩,λa h=>by grind⟩;simp only[k6,afM,bi,B];refine .inr ⟨ah.cG n,0,0,true,cq (c0.toList.map (k6 n w.heap.size)),c0.size,e0,false,[],0,rfl,?_,aC,aC,λj hj=>absurd hj aC,?_,afM _⟩;·have:=OL (n:=n) B;simp_all[ajC,oI]
  show(ah.cG n).am<(ah.cG (n+w.heap.size)).am;simp_all[ah.kA]
 have⟨W,h1,_⟩:=D 0 aa;have⟨_,ay,Y⟩:=World.cells?_some h1;have F:=Y 0 S;rw[getElem?_pos W 0 aa]at F;have⟨c,e',f',q,d,g⟩:=OM F;have Z:(a.add (0*size)).add 0=a:=by rw[Nat.zero_mul];unfold Addr.add;simp
 rw[Z]at q d g;have⟨b,off,sp⟩:=a;simp only at q d g;subst q;have bG:b<w.heap.size:=(Array.getElem?_eq_some_iff.1 d).1;have cell:∀i,i<cap->∃cs,cs.length=size/\(∀j(h:j<cs.length),c[off+i*size+j]?=some cs[j])/\(i<len->∃y,DataW.trod da P w 0 (λ_=>true) true m e cs=some y):=λi hi=>by have⟨cs,O,u⟩:=D i hi;have⟨_,z,Q⟩:=World.cells?_some O;refine⟨cs,z,λj hj=>?_,u⟩;have g5:=Q j aa;rw[getElem?_pos cs j hj,ON,ON]at g5;have⟨c',_,_,_,o,g7⟩:=OM g5;simp only at o g7;rw[d]at o;injection o with o;injection o with o;subst o;exact g7
 have K:off+len*size<=c.size:=by
  by_cases ag:len=0;·subst ag;have:=(Array.getElem?_eq_some_iff.1 g).1;omega
  have⟨cs,O,u,_⟩:=cell (len - 1) aa;have:=(Array.getElem?_eq_some_iff.1 (u (size - 1) aa)).1;have e:len*size=(len - 1)*size+size:=by conv=>lhs;rw[show len=len - 1+1 by omega,Nat.succ_mul]
  omega
 have L:k6 n w.heap.size (.slice (some ⟨b,off,none⟩) len cap)=.slice (ah.cG (n+b)) off len cap true:=by simp only[k6,C,E,bG,bi,bF]
 let p:List AV:=(ah7 (len*size)).map λj=>k6 n w.heap.size (c.getD (off+j) default);have G:p.length=len*size:=by simp[p]
 have av:∀i,i<len->∃a:M,R (k7 n w) a ((p.drop (i*size)).take size)/\X a:=λi hi=>by
  have⟨cs,O,u,z⟩:=cell i aa;have⟨y,z⟩:=z hi;have⟨a,r1,r2⟩:=T cs ⟨m,y,z⟩;refine⟨a,?_,r2⟩;suffices e:(p.drop (i*size)).take size=cs.map (k6 n w.heap.size)by rw[e];exact r1
  have a1:i*size+size<=len*size:=by rw[<-Nat.succ_mul];exact aix _ hi
  apply ai2;·rw[aiA,ajw,G,aig,O];omega
  intro j h1 h2;rw[aig]at h2;have Q:=u j h2;simp only[List.getElem_take,List.getElem_drop,p,aiD,aju];rw[<-ajn,aiL,Q];rfl
 have⟨N,aw,hq⟩:=OO av;refine⟨_,N,rfl,⟨p,?_,λk l=>(hq k l).1⟩,λa ha=>?_⟩
 .rw[L,aw];refine .inr ⟨ah.cG (n+b),off,cap,true,cq (c.toList.map (k6 n w.heap.size)),c.size,e',false,[],0,rfl,?_,K,G,λj hj=>?_,?_,C⟩;·rw[OL bG];simp only[oI,d]
  .have H:off+j<c.size:=aa;rw[xg (by simpa using H)];simp only[aiD,Array.getElem_toList,p,aju];rw[aiL,getElem?_pos c _ H];rfl
  show(ah.cG (n+b)).am<(ah.cG (n+w.heap.size)).am;rw[ah.kA,ah.kA];omega
 obtain⟨k,l,rfl⟩:=ah0 ha;exact(hq k l).2
end
section
variable{P:Program}{K:Type}{da:TypeId×Value->K}{w:World}{n:Nat}
def x7(P:Program)(t:TypeId)(l:List (TypeId×Nat)):Prop:=∃fs,P.underlying t=some (.struct fs)/\fs.toList.map (λf=>(f.type,f.offset))=l
theorem Ao{t:TypeId}{l:List (TypeId×Nat)}(c:x7 P t l){cs:List Value}(h:lG da P w t cs):cs.length=P.cellsOf t/\∀p∈l,lG da P w p.1 ((cs.drop p.2).take (P.cellsOf p.1)):=by
 obtain⟨fs,d,rfl⟩:=c;have⟨fuel,x,h⟩:=h;have⟨e,m,_,_,h1,h2,h3⟩:=DataW.trod_struct d h;refine⟨h1,λp g=>?_⟩;obtain⟨f,a,rfl⟩:=aia.1 g;obtain⟨i,hi,rfl⟩:=ah0 a;have b:i<fs.size:=by simpa using hi
 have:=h3 i fs[i] (getElem?_pos fs i b);rw[getElem?_pos e i aa]at this;exact⟨m,_,this⟩
structure OP(P:Program)where
 i:TypeId
 u:TypeId
 s:TypeId
 is:TypeId
 us:TypeId
 e:TypeId
 es:TypeId
 st:TypeId
 Ap:TypeId
 j:TypeId
 b:TypeId
 bs:TypeId
 g:TypeId
 hi:P.underlying i=some (.int .i64)
 hu:P.underlying u=some (.int .u8)
 hs:P.underlying s=some .string
 gQ:P.underlying is=some (.slice i)
 OQ:P.underlying us=some (.slice u)
 jv:P.underlying es=some (.slice e)
 OS:P.underlying Ap=some (.slice st)
 bG:P.underlying bs=some (.slice b)
 he:x7 P e [(i,0),(is,1)]
 de:x7 P st [(u,0),(i,1),(is,2),(i,3),(i,4),(s,5)]
 hj:x7 P j [(u,0),(is,1),(s,2),(us,3),(es,4)]
 hb:x7 P b [(is,0),(Ap,1),(j,2)]
 hg:x7 P g [(s,0),(i,1),(i,2),(bs,3)]
 ci:P.cellsOf i=1
 cu:P.cellsOf u=1
 cs:P.cellsOf s=1
 Aq:P.cellsOf is=1
 OT:P.cellsOf us=1
 bB:P.cellsOf es=1
 OU:P.cellsOf Ap=1
 OV:P.cellsOf bs=1
 ce:P.cellsOf e=2
 Hd:P.cellsOf st=6
 cj:P.cellsOf j=5
 cb:P.cellsOf b=7
 cg:P.cellsOf g=4
abbrev AW(n:Nat)(w:World)(cs:List Value):List AV:=cs.map (k6 n w.heap.size)
theorem cQ.OW{g:Type}{f:g->AV}{H:ai}{c:List g}{v:AV}(h:cQ 1 (λ_ a cs=>cs=[f a]) H c v):Sl H 1 (c.map f) c.length v:=by
 have⟨i,h1,h2⟩:=h;have hl:=h1.length;have e:i=c.map f:=by apply ai2 (by rw[hl,aig];omega);intro k d b;rw[aig]at b;have:=h2 k b;rw[ajo,ah6 d]at this;simp only[ajf,ajm,aik,and_true]at this;rw[aiD,this]
 grind
variable(Y:OP P)
section
variable{Y}
theorem vK{cs:List Value}(h:lG da P w Y.i cs):∃m:Int,AW n w cs=[aI m]:=by have⟨fuel,x,h⟩:=h;obtain⟨m,rfl,_⟩:=DataW.trod_int Y.hi h;exact⟨m,rfl⟩
theorem He{cs:List Value}(h:lG da P w Y.u cs):∃m:Nat,AW n w cs=[aU m]/\m<256:=by have⟨fuel,x,h⟩:=h;obtain⟨m,rfl,_,a⟩:=DataW.trod_int Y.hu h;simp only[Lit.wf,ah4,decide_eq_true_eq]at a;obtain⟨m,rfl⟩:∃k:Nat,m=k:=⟨m.toNat,by have:(0:Int)<=m:=a.1;omega⟩;exact⟨m,rfl,by have:(m:Int)<=255:=a.2;omega⟩
theorem Hf{cs:List Value}(h:lG da P w Y.s cs):∃t:List Nat,AW n w cs=[.str t]/\∀c∈t,c<256:=by have⟨fuel,x,h⟩:=h;obtain⟨t,rfl,_⟩:=DataW.trod_string Y.hs h;exact⟨_,rfl,λc a=>by obtain⟨b,_,rfl⟩:=aia.1 a;exact b.toNat_lt⟩
variable(hg:∃c e f,w.heap[0]?=some (.cells c e f))
include hg
theorem CT{cs:List Value}(h:lG da P w Y.is cs):∃(v:AV)(l:List Int),AW n w cs=[v]/\eE (k7 n w) l v:=by obtain⟨v,a,rfl,h1,_⟩:=An (n:=n) (R:=λ_(m:Int)cs=>cs=[aI m]) (X:=λ_=>True) Y.gQ Y.ci aC hg (λcs h=>by obtain⟨m,e⟩:=vK (Y:=Y) (n:=n) h;grind) h;exact⟨_,a,rfl,cQ.OW h1⟩
theorem afh{cs:List Value}(h:lG da P w Y.us cs):∃(v:AV)(l:List Nat),AW n w cs=[v]/\E2 (k7 n w) l v/\∀c∈l,c<256:=by obtain⟨v,a,rfl,h1,h2⟩:=An (n:=n) (R:=λ_(m:Nat)cs=>cs=[aU m]) (X:=λc=>c<256) Y.OQ Y.cu aC hg (λcs h=>by obtain⟨m,e,e2⟩:=He (Y:=Y) (n:=n) h;grind) h;exact⟨_,a,rfl,cQ.OW h1,h2⟩
theorem afi{cs:List Value}(h:lG da P w Y.e cs):∃e:G.Edge,po (k7 n w) e (AW n w cs):=by have⟨hl,a⟩:=Ao Y.he h;rw[Y.ce]at hl;match cs,hl with|[c0,c1],_=>have b:=a (Y.i,0) aC;have c:=a (Y.is,1) aC;simp only[Y.ci,Y.Aq]at b c;have⟨m,d⟩:=vK (Y:=Y) (n:=n) b;have⟨v,l,e1,h1⟩:=CT (Y:=Y) (n:=n) hg c;simp only[ajG,ajf,ajm,ah2,ajh,List.drop_succ_cons,aik,and_true]at d e1;exact⟨⟨m,l⟩,v,by grind,h1⟩
theorem afj{cs:List Value}(h:lG da P w Y.st cs):∃s:G.ee,nW (k7 n w) s (AW n w cs)/\∀c∈s.name,c<256:=by have⟨hl,a⟩:=Ao Y.de h;rw[Y.Hd]at hl;match cs,hl with|[c0,c1,c2,c3,c4,c5],_=>have b:=a (Y.u,0) aC;have d:=a (Y.i,1) aC;have e:=a (Y.is,2) aC;have f:=a (Y.i,3) aC;have g:=a (Y.i,4) aC;have j:=a (Y.s,5) aC;simp only[Y.ci,Y.Aq,Y.cu,Y.cs]at b d e f g j;have⟨k,m,_⟩:=He (Y:=Y) (n:=n) b;have⟨o,e1⟩:=vK (Y:=Y) (n:=n) d;have⟨v,l,e2,h2⟩:=CT (Y:=Y) (n:=n) hg e;have⟨p,q⟩:=vK (Y:=Y) (n:=n) f;have⟨r,x⟩:=vK (Y:=Y) (n:=n) g;have⟨t,y,z⟩:=Hf (Y:=Y) (n:=n) j;simp only[ajG,ajf,ajm,ah2,ajh,List.drop_succ_cons,aik,and_true]at m e1 e2 q x y;exact⟨⟨k,o,l,p,r,t⟩,⟨v,by grind,h2⟩,z⟩
theorem afk{cs:List Value}(h:lG da P w Y.j cs):∃j:G.fB,nX (k7 n w) j (AW n w cs)/\(∀c∈j.name,c<256)/\∀c∈j.bw,c<256:=by have⟨hl,a⟩:=Ao Y.hj h;rw[Y.cj]at hl;match cs,hl with|[c0,c1,c2,c3,c4],_=>have d:=a (Y.u,0) aC;have f:=a (Y.is,1) aC;have g:=a (Y.s,2) aC;have i:=a (Y.us,3) aC;have k:=a (Y.es,4) aC;simp only[Y.Aq,Y.cu,Y.cs,Y.OT,Y.bB]at d f g i k;have⟨m,o,_⟩:=He (Y:=Y) (n:=n) d;have⟨p,q,e1,h1⟩:=CT (Y:=Y) (n:=n) hg f;have⟨t,e2,h2⟩:=Hf (Y:=Y) (n:=n) g;have⟨v3,r,v,h3,b⟩:=afh (Y:=Y) (n:=n) hg i;obtain⟨v4,x,l,y,_⟩:=An (n:=n) (R:=po) (X:=λ_=>True) Y.jv Y.ce aC hg (λcs h=>by obtain⟨e,h⟩:=afi (Y:=Y) (n:=n) hg h;grind) k;simp only[ajG,ajf,ajm,ah2,ajh,List.drop_succ_cons,aik,and_true]at o e1 e2 v l;subst l;exact⟨⟨m,q,t,r,x⟩,⟨p,v3,k6 n w.heap.size c4,by grind,h1,h3,y⟩,h2,b⟩
structure Hg(b:G.dK):Prop where
 st:∀s∈b.aA,∀c∈s.name,c<256
 fn:∀c∈b.aq.name,c<256
 kd:∀c∈b.aq.bw,c<256
theorem afl{cs:List Value}(h:lG da P w Y.b cs):∃b:G.dK,iP (k7 n w) b (AW n w cs)/\Hg b:=by have⟨hl,a⟩:=Ao Y.hb h;rw[Y.cb]at hl;match cs,hl with|[c0,c1,c2,c3,c4,c5,c6],_=>have g:=a (Y.is,0) aC;have i:=a (Y.Ap,1) aC;have k:=a (Y.j,2) aC;simp only[Y.Aq,Y.OU,Y.cj]at g i k;have⟨v0,l,m,h0⟩:=CT (Y:=Y) (n:=n) hg g;have⟨p,o,e1,h1,d⟩:=An (n:=n) (R:=nW) (X:=λs=>∀c∈s.name,c<256) Y.OS Y.Hd aC hg (λcs h=>afj (Y:=Y) (n:=n) hg h) i;have⟨j,h2,e,f⟩:=afk (Y:=Y) (n:=n) hg k;simp only[ajG,ajf,ajm,ah2,ajh,List.drop_succ_cons,aik,and_true]at m e1 h2;subst e1;exact⟨⟨l,o,j⟩,⟨v0,k6 n w.heap.size c1,_,by simp_all,h0,h1,h2⟩,d,e,f⟩
structure OX(g:G.aP):Prop where
 nm:∀c∈g.name,c<256
 bl:∀b∈g.aj,Hg b
theorem afm{cs:List Value}(h:lG da P w Y.g cs):∃g:G.aP,dt (k7 n w) g (AW n w cs)/\OX g:=by have⟨hl,a⟩:=Ao Y.hg h;rw[Y.cg]at hl;match cs,hl with|[c0,c1,c2,c3],_=>have c:=a (Y.s,0) aC;have d:=a (Y.i,1) aC;have e:=a (Y.i,2) aC;have f:=a (Y.bs,3) aC;simp only[Y.cs,Y.ci,Y.OV]at c d e f;have⟨t,k,h0⟩:=Hf (Y:=Y) (n:=n) c;have⟨l,e1⟩:=vK (Y:=Y) (n:=n) d;have⟨m,e2⟩:=vK (Y:=Y) (n:=n) e;have⟨v3,o,j,h3,b⟩:=An (n:=n) (R:=iP) (X:=Hg) Y.bG Y.cb aC hg (λcs h=>afl (Y:=Y) (n:=n) hg h) f;simp only[ajG,ajf,ajm,ah2,ajh,List.drop_succ_cons,aik,and_true]at k e1 e2 j;subst j;exact⟨⟨t,l,m,o⟩,⟨k6 n w.heap.size c3,by grind,h3⟩,h0,b⟩
end
end
end
end Go.al
end
