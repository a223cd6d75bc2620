/- A part of the proof. No conditions. -/
import Derived.Test.YtjhkgigolpfcfaaGreatDoorA26
set_option linter.all false
set_option maxHeartbeats 16000000
open List renaming mem_singleton->aep,mem_cons_of_mem->aey,mem_cons_self->aeU,range->ake,length_map->akg,nodup_cons->akz,length_cons->akA,length_singleton->akC,length_take->akF,getElem?_cons_succ->ak6
open Nat renaming le_of_ble_eq_true->akc,blt_eq->akY
open Eq renaming mpr->alN
open Prod renaming fst->alO
noncomputable section
namespace Go.am.R
section
variable{ac:Nat->aG}
section
theorem PP{g:G.bu}{o:List bV}(b:∀j(hj:o.length - 1 - j<o.length),j<o.length->o[o.length - 1 - j].2≠0):oD g o=none:=by
 unfold oD;rw[List.find?_eq_none.2];·rfl
 intro x a;obtain⟨i,hi,rfl⟩:=aka (List.mem_reverse.1 a);have:=b (o.length - 1 - i) af af;simp only[show o.length - 1 - (o.length - 1 - i)=i by omega]at this;simpa using this
theorem PQ{g:G.bu}{o:List bV}{k:Nat}(b:o.length - 1 - k<o.length)(a:k<o.length)(d:∀j(hj:o.length - 1 - j<o.length),j<k->o[o.length - 1 - j].2≠0)(h0:o[o.length - 1 - k].2=0):oD g o=some ((aH g o[o.length - 1 - k].1.toNat).aA.go.getD 1 default).block:=by
 unfold oD;rw[(List.find?_eq_some_iff_getElem (b:=o[o.length - 1 - k])).2];·rfl
 refine⟨by simpa using h0,k,by simpa using a,by rw[List.getElem_reverse],λj hj=>?_⟩;rw[List.getElem_reverse];simpa using d j af hj
abbrev OpR:bV->List AV->Prop:=λo cs=>cs=[aI o.1,aU o.2]
section
variable{g:G.bu}{h m:AV}{c:ab}{H:ai}{come:List Bool}{os:List (List bV)}{f:List AV}
theorem afc(T:Tb ac)(hB:G.Sm g)(hE:jm g)(p:GX g H c h m come os f)(E:cX g come os){b:Nat}(hb:come.getD b false=true){K:KT}(a':∀d,bm H d->K (match oD g (os.getD b [])with|some t=>.tuple [aI t,.bool true]|none=>.tuple [aI (-1),.bool false]) d):YN ac Xr [.az c 0,aN b] H K:=by
 have aw:=hB.nb;have J:=E.lt hb;have s:b<os.length:=by rw[E.ol];exact J
 have⟨Z,L⟩:=hE.jY (E.dO b hb);have M:os.getD b []=os[b]:=bF s _;rw[M]at a' Z L;have hs:=p.kS.bH b s;have⟨N,O,P,ax⟩:=hs.all;have u:=p.kS.lt;have Q:=p.kS.aH;obtain⟨ov,R,v⟩:=p.kS.jY;have⟨ay,_,_,_⟩:=v.all;have⟨a0,_,_,_⟩:=p.bl.all;refine YF.code T.acl aB ?_;refine au ?_;refine RO.dL (aj.dc H) λH1 A U=>?_;refine RO.gI U λH2 B U=>?_;refine RO.gI U λH3 C U=>?_;refine ah ?_;refine RO.aW ?_ (v:=ov) (hc:=by rw[U.gr.bh u];exact R);refine ah ?_;refine RO.vu U.gr v (λq8 o8 a1 _=>?_) (j:=b);refine ah ?_;refine RO.cl (Fc T.acG bA N O P λH4 q hl=>?_);have U:=U.fC hl;refine ah ?_;refine Ru.wk (L:=[(bk,.func XK [] [.az q 0]),(p2,.az A 0),(p4,.az B 0),(p5,.az C 0)]) ?_;have U:aj H H4 ([tB Ij q [f.getD b .co]]++[tB 4 C [.bool false],tB 3 B [aI 0],tB mE A [.az c 0]]++[]):=U;refine Ru.pG (J:=λk ts=>ts=[tB 4 C [.bool false],tB 3 B [aI 0],tB mE A [.az c 0]]/\∀j(hj:os[b].length - 1 - j<os[b].length),j<k->os[b][os[b].length - 1 - j].2≠0) (Dn:=λj ts=>j=.ret/\∃t,oD g os[b]=some t/\ts=[tB 4 C [.bool true],tB 3 B [aI t],tB mE A [.az c 0]]) U (Fb (R:=OpR) (agg:=true) (size:=2) (la:=os[b]) (sv:=f.getD b .co) (e:=Ij) (nt:=19) T.acV bA af (λa'=>by cases a') (λa cs a'=>by cases a';rfl)) (λH2 hg=>mh.r ((U.gr.trans hg).sl hs)) ⟨rfl,λj _ hj=>absurd hj af⟩ (λk args ws a'=>by obtain⟨_,_,_,_,rfl⟩:=a';rfl) (λk ts us d D U=>mh.r (U.gr.sl hs)) (λk args ws ts us l o1 o2 d hk S D U=>?_) (λd V F D U=>?_) (λj d V F hj hD U=>?_)
 .obtain⟨rfl,w,cs,W,rfl⟩:=S;obtain⟨rfl,eZ⟩:=D;have X:=agB w;generalize i:os[b][os[b].length - 1 - k]=oo at*;obtain⟨ob,n⟩:=oo;subst W;refine ah ?_;refine RO.fx U λH5 q7 U=>?_;refine ah ?_;refine Ru.dN (xs:=[_,_,_,_]) U λH6 U=>?_;refine ah ?_;refine Ru.cond (λ(h0:n=0)=>?_) (λ(h0:¬n=0)=>?_)
  .obtain⟨g1,g2,I⟩:=Z.ok _ X;simp only at g1 g2 I;obtain⟨t,rfl⟩:∃t:Nat,ob=(t:Int):=⟨ob.toNat,af⟩;rw[aj3]at I;have x:t<g.al.length:=af;have g4:g.al[t].aA.go.length=3:=by rw[<-I,bF x]
   refine ah ?_;refine RO.aW ?_ (v:=h) (hc:=by rw[U.gr.bh u];exact Q);refine ah ?_;refine RO.cZ U.gr p.bl (λq9 o9 c9 a2 Y a3 hat _=>?_) (j:=t);obtain⟨vp,vs,jc,rfl,_,_,va,vk,vg,rfl,_,_,y⟩:=Y;have⟨a4,_,_,_⟩:=y.all;refine ah ?_;refine RO.aW (v:=vg) ?_ (hc:=hat 6 _ rfl);refine RO.cZ U.gr y (λa5 a6 a8 ag z av o _=>?_) (j:=1) (hj:=by omega);obtain⟨ve,rfl,_⟩:=z;refine ah ?_;refine RO.aW ?_ (hc:=o 0 _ rfl);refine RO.gG U 2 (λH7 U=>?_);refine RO.gG U 1 (λH8 U=>?_);refine ah ?_;have U:=U.tail (t:=tB Ii q7 [aN t,aU n]);refine Ru.OL (ts:=[_,_,_]) U ⟨rfl,_,PQ w hk eZ (by rw[i];exact h0),?_⟩;rw[i];simp only[aH,aj3,bF x];rw[bF af];rfl
  refine ah ?_;refine Ru.bG (ts:=[_,_,_]) U.tail ⟨rfl,λj hj a9=>?_⟩;by_cases e:j=k;·subst e;rw[i];exact h0
  exact eZ j hj af
 .obtain⟨rfl,eZ⟩:=D;refine ah ?_;refine RO.gG U 1 (λH5 U=>?_);refine RO.gG U 0 (λH6 U=>?_);refine ah ?_;rw[PP eZ]at a';refine Ru.mI (M:=[F]) (ts:=[_,_,_]) (U.cM (akj (l₁:=[_,_,_]))) λd U=>⟨[aI (-1),.bool false],⟨⟨_,_,rfl,U.one 1⟩,⟨_,_,rfl,U.one 0⟩,trivial⟩,a' d U.gr⟩
 obtain⟨rfl,t,ht,rfl⟩:=hD;rw[ht]at a';exact RJ.wp (RJ.mI (M:=[F]) (ts:=[_,_,_]) (.inr rfl) (U.cM (akj (l₁:=[_,_,_]))) λd U=>⟨[aI t,.bool true],⟨⟨_,_,rfl,U.one 1⟩,⟨_,_,rfl,U.one 0⟩,trivial⟩,a' d U.gr⟩)
structure Ro(g:G.bu):Prop where
 fv:FV g g.bp.toNat
 ne:0<g.al.length
 first:(g.al.getD 0 default).params=[]
structure Vd(g:G.bu):Prop where
 aaz:EW g
 byt:CQ g
 C6:sD g
 jx:uc g=false
 dO:jm g
 sG:∀come os,cX g come os->yT g come os
theorem Vd.sm(V:Vd g):G.Sm g:=V.aaz.sm
theorem Vd.gv(V:Vd g):vC g:=afi V.C6
theorem sD.fm(b:sD g)(a:g.bp<=6000):Ro g:=⟨⟨b.p0,b.p1,a,by have:=b.p0;have:=b.p1;omega⟩,b.ne,b.first⟩
theorem Vd.fm(V:Vd g):Ro g:=V.C6.fm (by have:=(Kc V.aaz V.jx).2;omega)
theorem aah(d:vC g):∀b∈g.al,∀p∈dC b,0<=p.1/\p.1<g.bp:=λb hb p a=>by have:=d.qA b hb p a;have:=d.p0;omega
theorem aai(a:vC g):Nd g:=by have h0:=E' a.v0;refine⟨af,λt h1 h2=>?_⟩;obtain⟨i,p,hi,b⟩:=a.all t h1 h2;have:=a.at hi b;rw[aj3]at this;exact⟨i,hi,by rw[this]⟩
theorem aaj(e:sD g):∀b∈g.al,∀p∈kF b,0<=p.1/\p.1<g.bp:=λb hb p a=>by obtain⟨k,_,_,d⟩:=agc a;exact sr e hb d
theorem sD.shF(a:sD g):kW g:=⟨a.sh.ne,a.sh.t3,λb hb e he=>by have:=a.sh.rg b hb e he;omega⟩
theorem cX.eq(e:jm g){a:List Bool}{d:List (List bV)}(j:cX g come os)(i:cX g a d){b:Nat}(hb:come.getD b false=true):a.getD b false=true/\d.getD b []=os.getD b []:=i.sF e (j.dO b hb)
theorem pI.Kw(n:jm g){e:List Bool}{i:List (List bV)}(q:cX g come os)(o:cX g e i){d b:Nat}(p:pI (wW g os) d b):come.getD b false=true/\pI (wW g i) d b:=by induction p with|zero j=>exact⟨q.c0,.zero j⟩| @step a x _ l j k=>refine⟨q.ls k.1 l,.step k.2 ?_ j⟩;rw[wW,(q.eq n o k.1).2];exact l
theorem yT.Kw(j:jm g){a:List Bool}{d:List (List bV)}(y:cX g come os)(k:cX g a d)(l:yT g come os):yT g a d:=by
 have e:∀b,a.getD b false=true->come.getD b false=true/\d.getD b []=os.getD b []:=λb hb=>by have h1:=(k.eq j y hb).1;exact⟨h1,(y.eq j k h1).2⟩
 refine⟨λb hb n=>?_,λb hb o=>?_,λb hb p q=>?_⟩;·obtain⟨h1,h2⟩:=e b hb;rw[h2];exact l.en b h1 n
 .obtain⟨h1,h2⟩:=e b hb;rw[h2];exact l.rt b h1 o
 obtain⟨h1,h2⟩:=e b hb;obtain⟨t,r,u,i⟩:=l.rd b h1 p q;refine⟨t,r,u,?_⟩;rcases i with i|i|⟨s,b1,b2,v,w⟩;·exact .inl i
 .exact .inr (.inl i)
 exact .inr (.inr ⟨s,b1,b2,(y.eq j k v).1,λx=>w (pI.Kw j k y x).2⟩)
def so(g:G.bu)(e:Int):Prop:=e=5/\uc g=true\/e=4/\uc g=false/\¬sD g\/e=9/\uc g=false/\sD g/\¬JT g
theorem Rp(T:Tb ac)(x:EW g)(F:CQ g){cs:List AV}(hg:iG H g cs){K:KT}(M:∀s c h m come os f,Vd g->bm H s->GX g s c h m come os f->cX g come os->K (.tuple [.az c 0,aI 0]) s)(y:∀s e,¬Vd g->so g e->bm H s->K (.tuple [.lS,aI e]) s):YN ac W8 [.agg cs] H K:=by
 have L:=hg.one;have u:=x.sm;obtain⟨d,rfl,cA⟩:=hg;refine YF.code T.ab1 aB ?_;refine au ?_;refine RO.dL (aj.dc H) λH1 q U=>?_;refine ah ?_;refine RO.eQ U 0 ?_;refine RO.cl (aei T (cs:=[.str g.name,aI g.params,aI g.bp,d]) ⟨d,rfl,dQ.block.jU U.gr cA⟩ u λP A=>?_);have U:=U.cI A;cases a:uc g with
 |true=>refine ah ?_;exact Ru.tk (y _ 5 (λV=>by have:=V.jx;rw[a]at this;cases this) (.inl ⟨rfl,a⟩) U.gr)
 |false=>
  obtain⟨p,O⟩:=Kc x a;refine ah ?_;refine RO.eQ U 0 ?_;refine RO.cl (aeb T (cs:=[.str g.name,aI g.params,aI g.bp,d]) u F (by have:=x.nm;omega) af ⟨d,rfl,dQ.block.jU U.gr cA⟩ λQ b B r=>?_);rw[afh u]at r;have U:=U.cI B;cases b with
  |false=>
   have G:¬sD g:=λS=>by have:=r.2 S;cases this
   refine ah ?_;exact Ru.tk (y _ 4 (λV=>G V.C6) (.inr (.inl ⟨rfl,a,G⟩)) U.gr)
  |true=>
   have n:=r.1 rfl;have z:=afi n;refine ah ?_;refine RO.eQ U 0 ?_;refine RO.cl (aeC T u n.shF af (cs:=[.str g.name,aI g.params,aI g.bp,d]) ⟨d,rfl,dQ.block.jU U.gr cA⟩ (λN c h m come os f k t I i=>?_) (λN c k C D E=>?_))
   .refine ah ?_;refine RO.cl (aeY T u t I i z.v0 af (aah z) (aaj n) (aai z) λJ b j v=>?_);cases b with
    |true=>have l:=v.1 rfl;refine ah ?_;exact Ru.tk (M J c h m come os f ⟨x,F,n,a,t,λc2 o2 h2=>l.Kw t i h2⟩ ((U.gr.trans k).trans j) (I.cI j) i)
    |false=>
     have l:¬yT g come os:=λS=>by have:=v.2 S;cases this
     refine ah ?_;exact Ru.tk (y _ 9 (λV=>l (V.sG come os i)) (.inr (.inr ⟨rfl,a,n,λS=>l (age n p S t z i)⟩)) ((U.gr.trans k).trans j))
   refine ah ?_;refine RO.cl (aag T C D λJ j=>?_);have w:¬jm g:=λt=>by obtain⟨b,o,R,h1,h2,h3⟩:=E;exact h3 (t.E1 h1 h2)
   refine ah ?_;exact Ru.tk (y _ 9 (λV=>w V.dO) (.inr (.inr ⟨rfl,a,n,λS=>w (aae n p S)⟩)) ((U.gr.trans k).trans j))
theorem PR(T:Tb ac)(V:Vd g){cs:List AV}(hg:iG H g cs){K:KT}(b:∀a c h m come os f,bm H a->GX g a c h m come os f->cX g come os->K (.tuple [.az c 0,aI 0]) a):YN ac W8 [.agg cs] H K:=Rp T V.aaz V.byt hg (λa c h m come os f _=>b a c h m come os f) λ_ _ d=>absurd V d
theorem afd(T:Tb ac)(V:Vd g){cs:List AV}(hg:iG H g cs){fv:AV}(n:fv.bB=true){K:KT}(k:∀b c h m come os f,bm H b->GX g b c h m come os f->cX g come os->YF ac fv [.az c 0] b λv d=>v.bB=true/\K (.tuple [v,aI 0]) d):YN ac WS [.agg cs,fv] H K:=by have j:=hg.one;obtain⟨a,rfl,cA⟩:=hg;refine YF.code T.abH aB ?_;refine au ?_;refine RO.dL (aj.dc H) λH1 q U=>?_;refine ah ?_;refine RO.eQ U 0 ?_;refine RO.cl (PR T V (cs:=[.str g.name,aI g.params,aI g.bp,a]) ⟨a,rfl,dQ.block.jU U.gr cA⟩ λd c h m come os f e l i=>?_);refine ah ?_;refine RO.cl ((k d c h m come os f (U.gr.trans e) l i).mono λv p r=>?_);obtain⟨o,r⟩:=r;refine ah ?_;exact Ru.tk r
theorem aal(T:Tb ac)(k:¬Vd g)(l:EW g)(n:CQ g){cs:List AV}(hg:iG H g cs){fv:AV}(p:fv.bB=true){K:KT}(o:∀i e,so g e->bm H i->K (.tuple [.aS,aI e]) i):YN ac WS [.agg cs,fv] H K:=by
 have j:=hg.one;obtain⟨a,rfl,cA⟩:=hg;refine YF.code T.abH aB ?_;refine au ?_;refine RO.dL (aj.dc H) λH1 q U=>?_;refine ah ?_;refine RO.eQ U 0 ?_;refine RO.cl (Rp T l n (cs:=[.str g.name,aI g.params,aI g.bp,a]) ⟨a,rfl,dQ.block.jU U.gr cA⟩ (λ_ _ _ _ _ _ _ V=>absurd V k) λr e _ he b=>?_);have d:e≠0:=by rcases he with⟨s,_⟩|⟨s,_⟩|⟨s,_⟩<;>omega
 refine ah ?_;refine Ru.cond (λ_=>?_) (λs=>absurd d s);refine ah ?_;exact Ru.tk (o _ e he (U.gr.trans b))
theorem afe(T:Tb ac)(V:Vd g){cs:List AV}(hg:iG H g cs){fv:AV}(n:fv.bB=true){K:KT}(k:∀b c h m come os f,bm H b->GX g b c h m come os f->cX g come os->YF ac fv [.az c 0] b λv d=>v.bB=true/\K (.tuple [v,aI 0]) d):YN ac WU [.agg cs,fv] H K:=by have j:=hg.one;obtain⟨a,rfl,cA⟩:=hg;refine YF.code T.abJ aB ?_;refine au ?_;refine RO.dL (aj.dc H) λH1 q U=>?_;refine ah ?_;refine RO.eQ U 0 ?_;refine RO.cl (PR T V (cs:=[.str g.name,aI g.params,aI g.bp,a]) ⟨a,rfl,dQ.block.jU U.gr cA⟩ λd c h m come os f e l i=>?_);refine ah ?_;refine RO.cl ((k d c h m come os f (U.gr.trans e) l i).mono λv p r=>?_);obtain⟨o,r⟩:=r;refine ah ?_;exact Ru.tk r
theorem aff(T:Tb ac)(V:Vd g){cs:List AV}(hg:iG H g cs){K:KT}(k:∀i v come os ak,cX g come os->e9 g come os ak->aj H i [tS 3 1 (ak.map aN) ak.length true v]->K (.tuple [v,aI 0]) i):YN ac WG [.agg cs] H K:=by have j:=hg.one;obtain⟨a,rfl,cA⟩:=hg;refine YF.code T.abr aB ?_;refine au ?_;refine RO.dL (aj.dc H) λH1 q U=>?_;refine ah ?_;refine RO.eQ U 0 ?_;refine RO.cl (afd T V (cs:=[.str g.name,aI g.params,aI g.bp,a]) ⟨a,rfl,dQ.block.jU U.gr cA⟩ rfl λp c h m come os f d l b=>Jq T V.sm V.dO l b λn v ak o hl=>?_);have⟨e,_,_,_⟩:=(hl.sl (e:=3) (size:=1) (sv:=v) (vs:=ak.map aN) (n:=ak.length) (full:=true) 0).all;refine⟨e,?_⟩;refine ah ?_;exact Ru.tk (k n v come os ak b o (hl.Nz (U.gr.trans d)))
theorem aam(T:Tb ac)(j:¬Vd g)(k:EW g)(l:CQ g){cs:List AV}(hg:iG H g cs){K:KT}(n:∀d e,so g e->bm H d->K (.tuple [.aS,aI e]) d):YN ac WG [.agg cs] H K:=by have i:=hg.one;obtain⟨a,rfl,cA⟩:=hg;refine YF.code T.abr aB ?_;refine au ?_;refine RO.dL (aj.dc H) λH1 q U=>?_;refine ah ?_;refine RO.eQ U 0 ?_;refine RO.cl (aal T j k l (cs:=[.str g.name,aI g.params,aI g.bp,a]) ⟨a,rfl,dQ.block.jU U.gr cA⟩ rfl λo e he b=>?_);refine ah ?_;exact Ru.tk (n _ e he (U.gr.trans b))
end
end
section
def lP(h:ab)(n:Nat)(vs:List AV)(ids:Nat->ab)(ak:List Nat)(S:Nat->Int->Prop):List Th:=tS NF 1 vs n true (.slice h 0 n n true)::ak.map λb=>tM false (ids b) (S b)
structure AZ(n:Nat)(vs:List AV)(ids:Nat->ab)(ak:List Nat):Prop where
 len:vs.length=n
 nd:ak.Nodup
 bH:∀b∈ak,b<n/\vs.getD b .co=.map (ids b)
def fh(S:Nat->Int->Prop)(b:Nat)(P:Int->Prop):Nat->Int->Prop:=λx=>if x=b then P else S x
section
variable{n:Nat}{vs:List AV}{ids:Nat->ab}{ak:List Nat}{S:Nat->Int->Prop}{P:Int->Prop}{h:ab}{b:Nat}{xs us:List Th}
theorem afj{l:List Nat}(a:l.Nodup){i b:Nat}(hi:i<l.length)(hb:b∈l):l.idxOf b=i↔l[i]=b:=by grind
theorem afk(a:ak.Nodup)(hb:b∈ak):(lP h n vs ids ak S).set (ak.idxOf b+1) (tM false (ids b) P)=lP h n vs ids ak (fh S b P):=by simp only[lP,List.set_cons_succ];congr 1;apply alg aB;intro i h1 h2;rw[akg]at h2;rw[List.getElem_set,akN,akN];by_cases e:ak.idxOf b=i;all_goals simp_all[aK,afj,fh,aq]
theorem Fh(hb:b∈ak):(lP h n vs ids ak S)[ak.idxOf b+1]?=some (tM false (ids b) (S b)):=by simp[hb,List.idxOf_lt_length_of_mem,lP,ak6,aks,akP,List.getElem_idxOf,akt]
theorem rr{l m:List Th}{i:Nat}{t:Th}(a:l[i]?=some t):(xs++(l++m))[xs.length+i]?=some t:=by grind
theorem PW{l m:List Th}{i:Nat}{t:Th}(a:i<l.length):(xs++(l++m)).set (xs.length+i) t=xs++(l.set i t++m):=by grind
theorem afl(hb:b∈ak):ak.idxOf b+1<(lP h n vs ids ak S).length:=by simp[hb,List.idxOf_lt_length_of_mem,lP,akA,akg]
theorem JG{H:ai}{q:ab}{n j:Nat}{vs:List AV}{v:AV}(c:Sl H 1 vs n (.slice q 0 n n true))(hj:j<n)(a:vs.getD j .co=v):l6 H (.slice q 0 n n true) (.ofNat j)=some v:=by have hl:=c.length;obtain⟨i,o,cap,ex,e,_,_,b,_⟩:=c.at af;simp_all[l6,alN,akY,bq,bF]
end
theorem PX{pl:List (Int×Int)}{bH v:Int}(b:(pl.map alO).Nodup):fR.rY pl bH v=true↔∀i,(v,i)∈pl->bH<=i:=by
 induction pl with
 |nil=>simp[fR.rY]
 |cons a pl e=>
  obtain⟨k,g⟩:=a;simp only[aj7,akz]at b;simp only[fR.rY];by_cases c:v=k
  .subst c;rw[aK (by simp[fQ])];have f:(!lV g bH)=true↔bH<=g:=by rw[nG];simp
   grind
  simp[c,e,b,aq,fQ,aeV,absurd,aey]
def iv(s p d u pm h:ab)(n b:Nat)(pl:List (Int×Int))(w:Bool)(vs:List AV)(ids:Nat->ab)(ak:List Nat)(S:Nat->Int->Prop):List Th:=[tB 4 d [.bool w],tB 3 s [aN b],tB wB p [.slice h 0 n n true],tB Ek u [.map pm],tI pm pl]++lP h n vs ids ak S
abbrev eD(s p d u:ab):AV:=.func Iw [] [.az u 0,.az p 0,.az s 0,.az d 0]
section
variable{A H:ai}{n b:Nat}{vs:List AV}{ids:Nat->ab}{ak:List Nat}{S:Nat->Int->Prop}{s p d u pm h:ab}{pl:List (Int×Int)}{w:Bool}{us:List Th}
theorem tB.JH{H:ai}{q:ab}{e:Nat}{vs:List AV}{f:List ab}(a:(tB e q vs).P H f):∃c,H.get q=.cells c vs.length e true [] 0/\(∀j(a:j<vs.length),c.bw .alR j=vs[j])/\q.an<H.next.an:=a.2.2
theorem aj.mC(o:AZ n vs ids ak)(hb:b∈ak)(U:aj A H (iv s p d u pm h n b pl w vs ids ak S++us)){H2:ai}{ks:List Int}{c:ap AV}{nw2:Bool}{P:Int->Prop}(q:H.next.an<=H2.next.an)(hg:∀j,j≠ids b->j≠d->H2.get j=H.get j)(h1:ib (H2.get (ids b)) ks)(r:∀x,x∈ks↔P x)(h2:H2.get d=.cells c 1 4 true [] 0)(h3:c.bw .alR 0=.bool nw2):aj A H2 (iv s p d u pm h n b pl nw2 vs ids ak (fh S b P)++us):=by
 have hat:(iv s p d u pm h n b pl w vs ids ak S++us)[5+(ak.idxOf b+1)]?=some (tM false (ids b) (S b)):=by simp only[iv,aj2];exact rr (xs:=[_,_,_,_,_]) (Fh hb)
 obtain⟨_,_,g⟩:=U.nf _ hat;have i:d.an<H.next.an:=by obtain⟨_,a⟩:=U.get 0 rfl;obtain⟨_,_,_,_,_,v⟩:=a;exact v
 let f:ai:=H.set (ids b) (H2.get (ids b));have ga:∀j,f.get j=if j=ids b then H2.get (ids b)else H.get j:=λj=>ai.aF .. ;have e:aj A f ((iv s p d u pm h n b pl w vs ids ak S++us).set (5+(ak.idxOf b+1)) (tM false (ids b) P)):=by refine U.uh (q:=ids b) _ hat rfl (λj hj=>by rw[ga,aq hj]) (λt a=>a.1) ⟨aep.2 rfl,λj hj=>aep.1 hj,⟨ks,?_,r⟩,(λv=>by cases v),g⟩;rw[ga,aK rfl];exact h1
 have e1:(iv s p d u pm h n b pl w vs ids ak S++us).set (5+(ak.idxOf b+1)) (tM false (ids b) P)=iv s p d u pm h n b pl w vs ids ak (fh S b P)++us:=by simp only[iv,aj2];refine(PW (xs:=[_,_,_,_,_]) (afl hb)).trans ?_;rw[afk o.nd hb]
 rw[e1]at e;let l:ai:=f.set d (H2.get d);have m:∀j,l.get j=if j=d then H2.get d else f.get j:=λj=>ai.aF .. ;have k:aj A l (iv s p d u pm h n b pl nw2 vs ids ak (fh S b P)++us):=by
  refine e.uh (q:=d) 0 rfl (t':=tB 4 d [.bool nw2]) rfl (λj hj=>by rw[m,aq hj]) (λt a=>a.1) ⟨aep.2 rfl,λj hj=>aep.1 hj,c,?_,λj hj=>?_,i⟩;·rw[m,aK rfl];exact h2
  simp only[akC]at hj;obtain rfl:j=0:=af;exact h3
 refine k.cI ⟨q,λj _=>?_⟩;grind
theorem afm(T:Tb ac)(D:AZ n vs ids ak)(hb:b∈ak)(U:aj A H (iv s p d u pm h n b pl w vs ids ak S++us)){v bH:Int}{K:KT}(F:∀r E P g,(∀x,P x↔S b x\/x=v/\∀Z,(v,Z)∈pl->bH<=Z)->(g=true↔w=true\/∃x,P x/\¬S b x)->aj A E (iv s p d u pm h n b pl g vs ids ak (fh S b P)++us)->K r E):YF ac (eD s p d u) [aI v,aI bH] H K:=by
 have hat:(iv s p d u pm h n b pl w vs ids ak S++us)[5+(ak.idxOf b+1)]?=some (tM false (ids b) (S b)):=by simp only[iv,aj2];exact rr (xs:=[_,_,_,_,_]) (Fh hb)
 obtain⟨⟨ks,l,f⟩,_,W⟩:=U.nf _ hat;obtain⟨⟨_,_,_,_⟩,m,_⟩:=U.Fe 4 rfl;obtain⟨o,t⟩:=U.uf 4 rfl;obtain⟨y,z⟩:=D.bH b hb;have j:∀(i:Nat){e:Nat}{q:ab}{v:AV},(iv s p d u pm h n b pl w vs ids ak S++us)[i]?=some (tB e q [v])->pq H (.az q 0)=some v:=λi _ _ _ hi=>by obtain⟨_,G⟩:=U.get i hi;exact tB.cell G rfl
 obtain⟨X,B⟩:=U.get 0 rfl;obtain⟨c,I,J,_⟩:=tB.JH B;refine⟨80,M9 (pm:=pm) (s2:=.slice h 0 n n true) (kb:=3) (b:=.ofNat b) (N:=ids b) (ks:=ks) (q:=w) (fz:=0) T.aci T.acj (j 3 rfl) (j 2 rfl) (j 1 rfl) o t (JG (U.sl 5) y z) I (Nat.zero_le _) aB (J 0 aB) l λr L C c2 M N O k Q _ R _=>?_⟩;have a:=PX (bH:=bH) (v:=v) m;refine F r L (λx=>x∈C) _ (λx=>?_) ?_ (aj.mC D hb U (by rw[M];exact afb _) N O (λx=>Iff.rfl) Q R);·rw[k,f,a]
 rw[alf,aj6,a,akU];have V:iA v ks=false↔¬S b v:=by rw[<-f,<-ta];simp
 rw[V];constructor
 .rintro(Y|⟨h1,h2⟩);·exact .inl Y
  exact .inr ⟨v,(k v).2 (.inr ⟨rfl,a.2 h1⟩),h2⟩
 rintro(Y|⟨x,h1,h2⟩);·exact .inl Y
 rcases(k x).1 h1 with Y|⟨rfl,Y⟩;·exact absurd ((f x).1 Y) h2
 exact .inr ⟨a.1 Y,h2⟩
theorem wU{i j:ab}(a:i≠j):ab.beq i j=false:=by grind[ab.beq,absurd,ab.ip]
theorem afn{H:ai}{i q:ab}{o:Nat}{v:AV}(b:i≠q)(a:bh H i o=some v):mB H q (.az i o)=some v:=by simp[b,a,mB,wU,aes,bP]
theorem PY(y:AZ n vs ids ak)(hb:b∈ak){to:Nat}(g:to∈ak){a:ab}(U:aj A H (tB nP a [eD s p d u]::(iv s p d u pm h n b pl w vs ids ak S++us))){bH:Int}{tos:Nat}{cQ:List ab}:∃X P m,(∀aa k,aa.get .alR (sl 11)=.az a 0->aa.get .alR (sl 5)=.az p 0->aa.get .alR (sl tos)=aN to->k d=some bH->zZ Iw k tos cQ aa H=some (kL aa cQ,X))/\(∀x,P x↔S b x\/S to x/\∀av,(x,av)∈pl->bH<=av)/\(m=true↔w=true\/∃x,P x/\¬S b x)/\aj A X (tB nP a [eD s p d u]::(iv s p d u pm h n b pl m vs ids ak (fh S b P)++us)):=by
 have hat:∀x,x∈ak->(tB nP a [eD s p d u]::(iv s p d u pm h n b pl w vs ids ak S++us))[6+(ak.idxOf x+1)]?=some (tM false (ids x) (S x)):=λx l=>by simp only[iv,aj2];exact rr (xs:=[_,_,_,_,_,_]) (Fh l)
 obtain⟨⟨t0,o,r⟩,_,_⟩:=U.nf _ (hat b hb);obtain⟨⟨ks,z,B⟩,_,_⟩:=U.nf _ (hat to g);obtain⟨_,C,_⟩:=U.Fe 5 rfl;obtain⟨D,E⟩:=U.uf 5 rfl;obtain⟨F,G⟩:=y.bH b hb;obtain⟨I,J⟩:=y.bH to g;obtain⟨k1,k2⟩:=yV z;obtain⟨s1,s2⟩:=yV o;have Y:∀(i:Nat){e:Nat}{q:ab}{v:AV},(tB nP a [eD s p d u]::(iv s p d u pm h n b pl w vs ids ak S++us))[i]?=some (tB e q [v])->bh H q 0=some v:=λi _ _ _ hi=>by obtain⟨_,hp⟩:=U.get i hi;exact tB.cell hp rfl
 have l:∀(i:Nat){e:Nat}{q:ab}{v:AV},(tB nP a [eD s p d u]::(iv s p d u pm h n b pl w vs ids ak S++us))[i]?=some (tB e q [v])->i≠1->mB H d (.az q 0)=some v:=λi _ _ _ hi K=>afn (U.ne i 1 hi rfl K (λf ag=>ag.1) (λf ag=>ag.1)) (Y i hi);have L:h≠d:=U.ne 6 1 rfl rfl af (λf ag=>tS.wT ag) (λf ag=>ag.1);have M:pm≠ids b:=U.ne 5 _ rfl (hat b hb) af (λf ag=>ag.1) (λf ag=>ag.1);have N:ids to≠pm:=U.ne _ 5 (hat to g) rfl af (λf ag=>ag.1) (λf ag=>ag.1);have O:ids b≠d:=U.ne _ 1 (hat b hb) rfl af (λf ag=>ag.1) (λf ag=>ag.1);have he:∀x,x<n->∀v,vs.getD x .co=v->uR H d (.slice h 0 n n true) (.ofNat x)=some v:=λx h1 v h2=>by simp only[uR,wU L,aes,bP];exact JG (U.sl 6) h1 h2
 obtain⟨f6,Q⟩:=U.get 1 rfl;obtain⟨c,h6,h7,_⟩:=tB.JH Q;have R:c.bw .alR 0=.bool w:=h7 0 aB;have Z:([AV.bool w]:List AV).length=1:=rfl;refine⟨((H.set (ids b) (.dI (eG (gT (fR pl bH ks) t0)))).set d (.cells (fX c 0 [.bool (w||mA t0 (fR pl bH ks))]) 1 4 true [] 0)).skip,λx=>x∈gT (fR pl bH ks) t0,w||mA t0 (fR pl bH ks),λaa k T e5 et ea=>?_,λx=>?_,?_,?_⟩;·unfold zZ;rw[T,e5,et];have V:pq H (.az a 0)=some (.func Iw [] [.az u 0,.az p 0,.az s 0,.az d 0]):=Y 0 rfl;rw[V];simp only[ald,bq,l 3 rfl aB,l 0 rfl aB,l 4 rfl aB,l 2 rfl aB,ea,he to I _ J,he b F _ G,h6,wU M,wU N,k2,D,E,s1,R];rfl
 .simp[r,B,C,gT,fR,oQ,B6,PX,or_comm]
 .rw[alf,Hz];constructor
  .rintro(ag|⟨x,h1,h2⟩);·grind
   exact .inr ⟨x,(oQ ..).2 (.inl h1),λag=>h2 ((r x).2 ag)⟩
  rintro(ag|⟨x,h1,h2⟩);all_goals grind[oQ,absurd]
 have W:aj A H (iv s p d u pm h n b pl w vs ids ak S++(us++[tB nP a [eD s p d u]])):=by rw[<-aj2];exact U.cM (akH (l₁:=[_]))
 have t:=aj.mC (c:=fX c 0 [.bool (w||mA t0 (fR pl bH ks))]) (nw2:=w||mA t0 (fR pl bH ks)) (P:=λx=>x∈gT (fR pl bH ks) t0) (ks:=gT (fR pl bH ks) t0) (H2:=((H.set (ids b) (.dI (eG (gT (fR pl bH ks) t0)))).set d (.cells (fX c 0 [.bool (w||mA t0 (fR pl bH ks))]) 1 4 true [] 0)).skip) y hb W (by show H.next.an<=H.next.succ.an;rw[ab.gK];omega) (λj h1 h2=>by show((H.set (ids b) _).set d _).get j=_;rw[ai.aF,aq h2,ai.aF,aq h1]) (by show ib (((H.set (ids b) _).set d _).get (ids b)) _;rw[ai.aF,aq O,ai.aF,aK rfl];exact wc (qK _ o.1)) (λx=>Iff.rfl) (by show((H.set (ids b) _).set d _).get d=_;rw[ai.aF,aK rfl]) (by rw[nD];simp);rw[<-aj2]at t;exact t.cM (akH (l₂:=[_]))
end
end
section
def yW(g:G.bu)(os:List (List bV))(S:Nat->Int->Prop)(b:Nat)(v:Int):Prop:=
 (∃bH,(v,bH)∈kF (aH g b)/\rq g b v bH)\/(∃w∈wW g os b,S w v/\rq g b v (aH g b).aD.length)\/∃t,oD g (os.getD b [])=some t/\S t.toNat v/\rq g b v 0
theorem JI{c P e:Int->Prop}{u b:Bool}(h0:∀x,c x->P x)(h1:∀x,P x->e x)(g:u=true↔∃x,P x/\¬c x)(f:b=true↔u=true\/∃x,e x/\¬P x):b=true↔∃x,e x/\¬c x:=by grind
theorem JJ(S:Nat->Int->Prop)(b:Nat)(P Q:Int->Prop):fh (fh S b P) b Q=fh S b Q:=by grind[fh]
theorem afo{l:List (Int×Int)}(b:(l.map (·.1)).Nodup){i j:Nat}(hi:i<l.length)(hj:j<l.length)(e:l[i].1=l[j].1):i=j:=(List.getElem_inj (h₀:=by grind) (h₁:=by grind) b).1 (by grind)
theorem afp{v:AV}{n:Nat}(b:lenOf v=some n):(∃i o c e,v=.slice i o n c e)\/v=.aS/\n=0:=by unfold lenOf at b;grind
theorem afq(S:Nat->Int->Prop)(b:Nat):fh S b (S b)=S:=by grind[fh]
theorem Fi(S:Nat->Int->Prop)(b:Nat)(P:Int->Prop):fh S b P b=P:=by simp[fh]
section
variable{A H:ai}{n b:Nat}{vs:List AV}{ids:Nat->ab}{ak:List Nat}{S:Nat->Int->Prop}{h m a d pm y:ab}{pl:List (Int×Int)}{u:Bool}{us:List Th}
theorem afr{t:Th}(T:Tb ac)(i:AZ n vs ids ak)(hb:b∈ak)(U:aj A H (t::(iv h m a d pm y n b pl u vs ids ak S++us))){v bH:Int}{K:KT}(j:∀r f P c,(∀x,P x↔S b x\/x=v/\∀p,(v,p)∈pl->bH<=p)->(c=true↔u=true\/∃x,P x/\¬S b x)->aj A f (t::(iv h m a d pm y n b pl c vs ids ak (fh S b P)++us))->K r f):YF ac (eD h m a d) [aI v,aI bH] H K:=by
 have g:aj A H (iv h m a d pm y n b pl u vs ids ak S++(us++[t])):=by rw[<-aj2];exact U.cM (akH (l₁:=[_]))
 refine afm T i hb g λr f P c h1 h2 e=>j r f P c h1 h2 ?_;rw[<-aj2]at e;exact e.cM (akH (l₂:=[_]))
theorem aj.afs{xs ys:List Th}{e:Nat}{q:ab}{cs:List AV}(U:aj A H (xs++tB e q cs::ys)){o:Nat}{v:AV}(b:cs[o]?=some v):bh H q o=some v:=by obtain⟨_,c⟩:=(U.wy).get 0 rfl;grind[tB.cell]
end
section
variable{g:G.bu}{B C:AV}{z:ab}{A H:ai}{come:List Bool}{os:List (List bV)}{D:List AV}{n b:Nat}{vs:List AV}{ids:Nat->ab}{ak:List Nat}{S:Nat->Int->Prop}{y:ab}{us:List Th}
theorem afu(T:Tb ac)(V:Vd g)(hX:GX g A z B C come os D)(hK:cX g come os)(hO:AZ n vs ids ak)(hm:∀x,x∈ak↔come.getD x false=true)(hb:come.getD b false=true)(U:aj A H (lP y n vs ids ak S++us)){K:KT}(d6:∀H' P u,(∀v,P v↔S b v\/yW g os S b v)->(u=true↔∃v,P v/\¬S b v)->aj A H' (lP y n vs ids ak (fh S b P)++us)->K (.bool u) H'):YN ac Xd [.az z 0,aN b,.slice y 0 n n true] H K:=by
 have hB:=V.sm;have c9:=hB.nb;have a5:=hK.lt hb;have a6:=(hm b).2 hb;have ag:=hX.kS.lt;have b6:=hX.kS.aH;have⟨c',_,_,_⟩:=hX.bl.all;have ax:=oC a5;have dm:=hB.bl _ ax;have eh:=hB.st _ ax;have b':=hB.ed _ ax;have ca:=V.gv.nd _ ax;have cd:g.al[b]=aH g b:=(bF a5 _).symm;have c5:(wW g os b).length<=12:=by have:=E4 (now:=os.getD b []) hB a5;simpa[wW,mK]using this
 refine YF.code T.ab5 aB ?_;refine au ?_;refine RO.dL U λH1 h U=>?_;refine RO.dL U λH2 m U=>?_;refine RO.gI U λH3 a U=>?_;refine ah ?_;refine RO.aW ?_ (v:=B) (hc:=by rw[U.gr.bh ag];exact b6);refine ah ?_;refine RO.cZ U.gr hX.bl (λq9 o9 d5 dr ay ds hat hrd=>?_) (j:=b);rw[cd]at ay;generalize J:aH g b=d7 at*;have a3:=ay.one;have a':=ay;obtain⟨vp,F,jc,rfl,dv,cf,va,vk,vg,rfl,_,_,_⟩:=ay;have⟨_,_,_,b0⟩:=cf.all;refine ah ?_;refine RO.fx U λH4 W U=>?_;refine ah ?_;refine RO.ae8 U λH5 pm U=>?_;refine RO.fx U λH6 d U=>?_;refine ah ?_;refine RO.eQ U 2 ?_;refine RO.cl (Pu T (cs:=[vp,F,aU d7.aA.op,va,.str d7.aA.name,vk,vg]) a3 rfl λH7 q hl=>?_);have U:=U.fC hl;refine ah ?_;refine Ru.wk (L:=[(b7,.func EA [] [.az q 0]),(p0,.az z 0),(p4,.az h 0),(p5,.az m 0),(p6,.az a 0),(p7,.az W 0),(p8,.az d 0)]) ?_;have U:aj A H7 ([tB dW q [vp,F,aU d7.aA.op,va,.str d7.aA.name,vk,vg]]++[tB Ek d [.map pm],tI pm ((dC d7).take 0)]++(tB dW W [vp,F,aU d7.aA.op,va,.str d7.aA.name,vk,vg]::tB 4 a [.bool false]::tB wB m [.slice y 0 n n true]::tB 3 h [aN b]::(lP y n vs ids ak S++us))):=U;refine Ru.pG (J:=λk ts=>ts=[tB Ek d [.map pm],tI pm ((dC d7).take k)]) (Dn:=λ_ _=>False) U (Pv T a' af af) (λ_ _=>trivial) rfl (λk args ws d6=>by obtain⟨rfl,_,rfl⟩:=d6;rfl) (λ_ _ _ _ _ _=>trivial) (λk args ws ts us l o1 o2 H' hk a8 hJ U=>?_) (λH' a9 Z hJ U=>?_) (λj H' a9 Z _ d6=>d6.elim)
 .obtain⟨rfl,a0,rfl⟩:=a8;subst hJ;have b3:((dC d7)[k]).1∉((dC d7).take k).map alO:=λI=>by obtain⟨p,hp,e⟩:=akk.1 I;obtain⟨i,hi,rfl⟩:=aka hp;rw[akF]at hi;rw[List.getElem_take]at e;have:=afo ca af a0 e;omega
  refine au ?_;refine Ru.dN (xs:=[_,_]) U λH2 U=>?_;refine ah ?_;refine RO.ae9 U 1 b3 (λH3 U=>?_);refine ah ?_;refine Ru.bG (ts:=[_,_]) U ?_;rw[<-akd a0]
 subst hJ;rw[ak7]at U;refine ah ?_;refine RO.fx (xv:=eD h m a d) U λH8 E U=>?_;refine ah ?_;refine RO.eQ U 4 ?_;refine RO.cl (Pz T (cs:=[vp,F,aU d7.aA.op,va,.str d7.aA.name,vk,vg]) a3 λH9 qr hl=>?_);have U:=U.fC hl;refine ah ?_;refine Ru.wk (L:=[(dh,.func EB [] [.az qr 0]),(p0,.az z 0),(p4,.az h 0),(p5,.az m 0),(p6,.az a 0),(p7,.az W 0),(p8,.az d 0),(aR,.az E 0)]) ?_;have U:=((((((U.gk 3 rfl).gk 3 rfl).gk 7 rfl).gk 8 rfl).gk 8 rfl).gk 6 rfl).gk 6 rfl;have U:aj A H9 ([tB dW qr [vp,F,aU d7.aA.op,va,.str d7.aA.name,vk,vg]]++(tB nP E [eD h m a d]::iv h m a d pm y n b (dC d7) false vs ids ak S)++(tX Z (.deferred false)::tB dW W [vp,F,aU d7.aA.op,va,.str d7.aA.name,vk,vg]::us)):=by rw[aj2];exact U.cM (List.Perm.append_left [_,_,_,_,_,_,_] (List.perm_append_comm_assoc [_,_] _ _))
 refine Ru.pG (J:=λk ts=>∃P u,(∀x,P x↔S b x\/∃q∈(kF d7).take k,q.1=x/\∀p,(x,p)∈dC d7->q.2<=p)/\(u=true↔∃x,P x/\¬S b x)/\ts=tB nP E [eD h m a d]::iv h m a d pm y n b (dC d7) u vs ids ak (fh S b P)) (Dn:=λ_ _=>False) U (PA T a' af (λs hs=>by have:=(eh s hs).1;omega) af af (λe he=>by have:=b' e he;omega)) (λ_ _=>trivial) ⟨S b,false,aB,aB,by rw[afq]⟩ (λk args ws d6=>by obtain⟨rfl,_,rfl⟩:=d6;rfl) (λ_ _ _ _ _ _=>trivial) (λk args ws ts us l o1 o2 H' hk a8 hJ U=>?_) (λH' a9 L hJ U=>?_) (λj H' a9 Z _ d6=>d6.elim)
 .obtain⟨rfl,a0,rfl⟩:=a8;obtain⟨P,u,Q,hn,rfl⟩:=hJ;refine au ?_;refine Ru.dN (xs:=tB nP E [eD h m a d]::iv h m a d pm y n b (dC d7) u vs ids ak (fh S b P)) U λH2 U=>?_;refine ah ?_;refine RO.cl (afr T hO a6 (us:=tX l o2::us) U λr H3 P2 N h1 h2 U=>?_);rw[Fi]at h1 h2;rw[JJ]at U;refine ah ?_;refine Ru.bG (ts:=tB nP E [eD h m a d]::iv h m a d pm y n b (dC d7) N vs ids ak (fh S b P2)) U ⟨P2,N,λx=>?_,JI (λx I=>(Q x).2 (.inl I)) (λx I=>(h1 x).2 (.inl I)) hn h2,rfl⟩;rw[h1,Q,<-akd a0,or_assoc];refine or_congr Iff.rfl ⟨?_,?_⟩
  .rintro(⟨q,X,d6⟩|⟨rfl,d6⟩);·exact⟨q,akf _ X,d6⟩
   exact⟨_,akq _ (aep.2 rfl),rfl,d6⟩
  rintro⟨q,X,e,d6⟩;rcases ahp.1 X with X|X;·exact .inl ⟨q,X,e,d6⟩
  rw[aep]at X;subst X;exact .inr ⟨e.symm,by rw[e];exact d6⟩
 obtain⟨P0,ba,R,cn,rfl⟩:=hJ;rw[ak7]at R;refine ah ?_;refine RO.cl (Jp T V.sm V.dO (hX.cI U.gr) hK hb λdx v hl=>?_);have U:=(U.fC hl).cM (akj (l₁:=tB nP E [eD h m a d]::iv h m a d pm y n b (dC d7) ba vs ids ak (fh S b P0))).symm;have⟨dy,_,_,dz⟩:=(hl.sl (e:=3) (size:=1) (sv:=v) (vs:=(wW g os b).map aN) (n:=(wW g os b).length) (full:=true) 0).all;refine ah ?_;refine Ru.nm λS0 M hS hM=>?_;refine Ru.cC hM (up (P:=λk=>∀HX P u,(∀x,P x↔P0 x\/∃w∈(wW g os b).take k,S w x/\∀p,(x,p)∈dC d7->(d7.aD.length:Int)<=p)->(u=true↔∃x,P x/\¬S b x)->aj A HX (tB nP E [eD h m a d]::iv h m a d pm y n b (dC d7) u vs ids ak (fh S b P)++tS 3 1 ((wW g os b).map aN) (wW g os b).length true v::(tX L (.deferred false)::tX Z (.deferred false)::tB dW W [vp,F,aU d7.aA.op,va,.str d7.aA.name,vk,vg]::us))->Ru ac _ S0 ([(dH,aN k)]++pk M [p0,p4,p5,p6,p7,p8,aR,cJ,dB]) HX) (wW g os b).length (λk hk ih HX P u Q hn U=>?_) 0 af _ P0 ba aB cn U);subst hS;subst hM;refine Ru.loop ?_;refine au ?_;refine Ru.cond (λag=>?_) (λag=>?_)
 .refine ah ?_;have cp:=(U.wy).sl (e:=3) (size:=1) (sv:=v) (vs:=(wW g os b).map aN) (n:=(wW g os b).length) (full:=true) 0;refine RO.lg (bm.refl _) cp (λd0 d1 c8 d2=>?_) (j:=k);refine ah ?_;have cv:(wW g os b)[k]∈wW g os b:=agB ag;have a1:=(hm _).2 (hK.ls hb cv);have bb:(wW g os b).take (k+1)=(wW g os b).take k++[(wW g os b)[k]]:=(akd ag).symm;have ih:=ih (k+1) af af;rw[bb]at ih;clear bb;generalize(wW g os b)[k]=to at*;obtain⟨H',P2,N,hg,h1,h2,av⟩:=PY hO a6 a1 U (bH:=.ofNat d7.aD.length) (tos:=15) (cQ:=BW);have cx:W≠a:=λe=>by have h8:=U.cM (akj (l₁:=tB nP E [eD h m a d]::iv h m a d pm y n b (dC d7) u vs ids ak (fh S b P)++[tS 3 1 ((wW g os b).map aN) (wW g os b).length true v,tX L (.deferred false),tX Z (.deferred false)]) (l₂:=us) (a:=tB dW W [vp,F,aU d7.aA.op,va,.str d7.aA.name,vk,vg])|>λd6=>by simpa using d6);exact h8.ne 0 2 rfl rfl af (λf d6=>d6.1) (λf d6=>d6.1) e
  have cy:bh HX W 1=some F:=by refine aj.afs (xs:=tB nP E [eD h m a d]::iv h m a d pm y n b (dC d7) u vs ids ak (fh S b P)++[tS 3 1 ((wW g os b).map aN) (wW g os b).length true v,tX L (.deferred false),tX Z (.deferred false)]) (ys:=us) (by simpa using U) rfl
  refine Ru.ez (cQ:=BW) (H':=H') T.adl (M:=[(p0,.az z 0),(p4,.az h 0),(p5,.az m 0),(p6,.az a 0),(p7,.az W 0),(p8,.az d 0),(aR,.az E 0),(cJ,v),(dB,aN (wW g os b).length),(dH,aN k)]) (λaa O=>?_) ?_
  .refine hg aa _ (O.get (p:=sl 11) rfl rfl) (O.get (p:=sl 5) rfl rfl) (O.get (p:=sl 15) rfl rfl) ?_;simp only[O.get (p:=sl 7) (v:=.az W 0) rfl rfl,wU cx,aes,bP,cy,akh];rcases afp b0 with⟨i,o,c,e,rfl⟩|⟨rfl,h0⟩;·rfl
   rw[h0]
  rw[Fi]at h1 h2;rw[JJ]at av;have key:∀x,P2 x↔P0 x\/∃w∈(wW g os b).take k++[to],S w x/\∀p,(x,p)∈dC d7->(d7.aD.length:Int)<=p:=λx=>by
   have b4:∀x,S b x->P x:=λx I=>(Q x).2 (.inl ((R x).2 (.inl I)));have bc:P x->P0 x\/∃w∈(wW g os b).take k++[to],S w x/\∀p,(x,p)∈dC d7->(d7.aD.length:Int)<=p:=λd6=>by
    rcases(Q x).1 d6 with d6|⟨w,Y,d6⟩;·exact .inl d6
    exact .inr ⟨w,akf _ Y,d6⟩
   rw[h1];constructor
   .rintro(d6|⟨d6,a2⟩);·exact bc d6
    simp only[fh]at d6;split at d6;·exact bc d6
    exact .inr ⟨to,akq _ (aep.2 rfl),d6,a2⟩
   rintro(d6|⟨w,Y,hs,a2⟩);·exact .inl ((Q x).2 (.inl d6))
   rcases ahp.1 Y with Y|Y;·exact .inl ((Q x).2 (.inr ⟨w,Y,hs,a2⟩))
   rw[aep]at Y;subst Y;by_cases e:w=b;·subst e;exact .inl (b4 x hs)
   refine .inr ⟨?_,a2⟩;simp only[fh,aq e];exact hs
  refine ah ?_;exact Ru.wk (ih H' P2 N key (JI (λx I=>(Q x).2 (.inl ((R x).2 (.inl I)))) (λx I=>(h1 x).2 (.inl I)) hn h2) av)
 refine Ru.exitTo ?_;rw[akl af]at Q;refine ah ?_;have hR:∀x,(P x->S b x\/yW g os S b x)/\((∃q∈kF d7,q.1=x/\∀p,(x,p)∈dC d7->q.2<=p)\/(∃w∈wW g os b,S w x/\∀p,(x,p)∈dC d7->(d7.aD.length:Int)<=p)->P x)/\(S b x->P x):=λx=>by
  refine⟨λd6=>?_,λd6=>?_,λd6=>(Q x).2 (.inl ((R x).2 (.inl d6)))⟩
  .rcases(Q x).1 d6 with d6|⟨w,Y,h1,h2⟩
   .rcases(R x).1 d6 with d6|⟨q,X,rfl,h2⟩;·exact .inl d6
    refine .inr (.inl ⟨q.2,?_,?_⟩);·rw[J];exact X
    simp only[rq,J];exact h2
   refine .inr (.inr (.inl ⟨w,Y,h1,?_⟩));simp only[rq,J];exact h2
  rcases d6 with⟨q,X,d6⟩|⟨w,Y,d6⟩;·exact(Q x).2 (.inl ((R x).2 (.inr ⟨q,X,d6⟩)))
  exact(Q x).2 (.inr ⟨w,Y,d6⟩)
 have bd:∀x,yW g os S b x->P x\/∃t,oD g (os.getD b [])=some t/\S t.toNat x/\∀p,(x,p)∈dC d7->0<=p:=λx d6=>by
  rcases d6 with⟨bH,h1,h2⟩|⟨w,h1,h2,h3⟩|⟨t,h1,h2,h3⟩
  .refine .inl ((hR x).2.1 (.inl ⟨(x,bH),?_,rfl,?_⟩));·rw[<-J];exact h1
   simp only[rq,J]at h2;exact h2
  .refine .inl ((hR x).2.1 (.inr ⟨w,h1,h2,?_⟩));simp only[rq,J]at h3;exact h3
  refine .inr ⟨t,h1,h2,?_⟩;simp only[rq,J]at h3;exact h3
 refine RO.cl (afc T hB V.dO (hX.cI U.gr) hK hb λd3 b5=>?_);have U:=U.cI b5;have a4:∀HX P u,aj A HX (tB nP E [eD h m a d]::iv h m a d pm y n b (dC d7) u vs ids ak (fh S b P)++tS 3 1 ((wW g os b).map aN) (wW g os b).length true v::(tX L (.deferred false)::tX Z (.deferred false)::tB dW W [vp,F,aU d7.aA.op,va,.str d7.aA.name,vk,vg]::us))->aj A HX (i9 [L,Z]++(tB 4 a [.bool u]::(lP y n vs ids ak (fh S b P)++us))):=λHX P u U=>by
  have h1:aj A HX (tB nP E [eD h m a d]::tB 4 a [.bool u]::tB 3 h [aN b]::tB wB m [.slice y 0 n n true]::tB Ek d [.map pm]::tI pm (dC d7)::(lP y n vs ids ak (fh S b P)++(tS 3 1 ((wW g os b).map aN) (wW g os b).length true v::(tX L (.deferred false)::tX Z (.deferred false)::tB dW W [vp,F,aU d7.aA.op,va,.str d7.aA.name,vk,vg]::us)))):=by simpa only[iv,akV,ak0,aj2]using U
  have h2:=h1.sub (.cons _ (.cons_cons _ (.cons _ (.cons _ (.cons _ (.cons _ ((akL (lP y n vs ids ak (fh S b P))).append (.cons _ (.cons_cons _ (.cons_cons _ (.cons _ (akL us))))))))))));exact h2.cM (List.perm_append_comm_assoc (tB 4 a [.bool u]::lP y n vs ids ak (fh S b P)) [_,_] us)
 cases ht:oD g (os.getD b [])with
 |none=>
  refine ah ?_;refine RO.gG U 1 (λcE U=>?_);refine ah ?_;refine Ru.mI (M:=[L,Z]) (a4 _ P u U) λH' U=>⟨[.bool u],⟨⟨_,_,rfl,U.one 0⟩,trivial⟩,d6 H' P u (λx=>⟨(hR x).1,λI=>?_⟩) hn U.tail⟩;rcases I with I|I;·exact(hR x).2.2 I
  rcases bd x I with G|⟨t,G,_⟩;·exact G
  rw[ht]at G;cases G
 |some t=>
  obtain⟨_,_,_,_,bv,d4⟩:=vD V.dO hK hb ht;have a1:=(hm _).2 bv;obtain⟨to,rfl⟩:∃to:Nat,t=(to:Int):=⟨t.toNat,af⟩;rw[aj3]at a1 bv;obtain⟨H',P2,N,hg,h1,h2,av⟩:=PY hO a6 a1 U (bH:=.ofNat 0) (tos:=17) (cQ:=BX);rw[Fi]at h1 h2;rw[JJ]at av;refine ah ?_;refine Ru.ez (cQ:=BX) (H':=H') T.adm (M:=[(p6,.az a 0)]) (λaa O=>?_) ?_;·exact hg aa _ (O.get (p:=sl 11) rfl rfl) (O.get (p:=sl 5) rfl rfl) (O.get (p:=sl 17) rfl rfl) rfl
  refine ah ?_;have U:=av;refine RO.gU U 1 ?_;refine RO.gG U 1 (λcE U=>?_);refine ah ?_;refine Ru.mI (M:=[L,Z]) (a4 _ P2 N U) λH' U=>⟨[.bool N],⟨⟨_,_,rfl,U.one 0⟩,trivial⟩,d6 H' P2 N (λx=>?_) (JI (λx I=>(hR x).2.2 I) (λx I=>(h1 x).2 (.inl I)) hn h2) U.tail⟩;rw[h1];constructor
  .rintro(G|⟨G,aw⟩);·exact(hR x).1 G
   simp only[fh]at G;split at G;·exact(hR x).1 G
   refine .inr (.inr (.inr ⟨_,ht,by rw[aj3];exact G,?_⟩));simp only[rq,J];exact aw
  rintro(G|G);·exact .inl ((hR x).2.2 G)
  rcases bd x G with G|⟨t,G,aw,c3⟩;·exact .inl G
  rw[ht]at G;injection G with G;subst G;rw[aj3]at aw;by_cases e:to=b;·subst e;exact .inl ((hR x).2.2 aw)
  refine .inr ⟨?_,c3⟩;simp only[fh,aq e];exact aw
end
end
theorem RO.afv{c:Cx}{s:List SI}{L:Kn}{H:ai}{d:Option ab}{l:List be}{z:Int}{x y:aJ}(h:RO ac c l s (bC L d (.bool false)) H)(b:bf L x=.cY:=by exact cw)(e:bf L y=.int 3 z:=by exact cw):RO ac c (⟨d,.lookup .int (.bool false) false x y,none,[],[]⟩::l) s L H:=RO.op (λaa a=>by simp only[aE,jA,aku,aes,bP,a.gv b rfl,a.gv e rfl]) h
def cb(p:Prop):Bool:= @decide p (Classical.propDecidable p)
theorem JK{p:Prop}:cb p=true↔p:= @decide_eq_true_iff p (Classical.propDecidable p)
def Fj(nv:Nat)(ak:List Nat)(S:Nat->Int->Prop):Nat:=(ak.map λb=>((ake nv).filter λ(v:Nat)=>cb (¬S b (v:Int))).length).sum
theorem JL{b:Type}{p q:b->Bool}(h:∀x,p x=true->q x=true):∀l:List b,(l.filter p).length<=(l.filter q).length|[]=>afb _|a::l=>by have c:=JL h l;grind
theorem PZ{d:Type}{p q:d->Bool}(h:∀x,p x=true->q x=true){y:d}(f:q y=true)(g:p y=false):∀l:List d,y∈l->(l.filter p).length<(l.filter q).length
 |[],c=>by grind
 |a::l,c=>by
  rcases aeV.1 c with rfl|c;·have:=JL h l;grind
  have i:=PZ h f g l c;cases b:p a with|true=>simp only[List.filter_cons,b,h a b,bq,akA];omega|false=>cases e:q a<;>simp only[List.filter_cons,b,e,bq,aes,bP,akA]<;>omega
theorem P1{b:Type}{f g:b->Nat}:∀l:List b,(∀x∈l,f x<=g x)->(l.map f).sum<=(l.map g).sum|[],_=>afb _|a::l,h=>by have:=P1 l λx c=>h x (aey _ c);grind
theorem P3{c:Type}{f g:c->Nat}{y:c}(e:f y<g y):∀l:List c,(∀x∈l,f x<=g x)->y∈l->(l.map f).sum<(l.map g).sum
 |[],_,b=>by grind
 |a::l,h,b=>by
  have h1:=h a (aeU ..);simp only[aj7,List.sum_cons];rcases aeV.1 b with rfl|b;·have:=P1 l λx d=>h x (aey _ d);omega
  have:=P3 e l (λx d=>h x (aey _ d)) b;omega
theorem afw{nv:Nat}{ak:List Nat}{S c:Nat->Int->Prop}(h:∀b∈ak,∀v,S b v->c b v){b:Nat}(hb:b∈ak){v:Nat}(f:v<nv)(h1:c b v)(h2:¬S b v):Fj nv ak c<Fj nv ak S:=by
 have a:∀x∈ak,∀w:Nat,cb (¬c x (w:Int))=true->cb (¬S x (w:Int))=true:=λx d w e=>by rw[JK]at e⊢;exact λhs=>e (h x d _ hs)
 refine P3 (y:=b) ?_ ak (λx d=>JL (a x d) _) hb;refine PZ (a b hb) (y:=v) (JK.2 h2) ?_ _ (ak3.2 f);simp[h1,cb,absurd,JK]
def JM(g:G.bu)(os:List (List bV))(ak:List Nat)(S:Nat->Int->Prop):Prop:=∀b∈ak,∀v,yW g os S b v->S b v
def A0(g:G.bu)(os:List (List bV))(S:Nat->Int->Prop):Prop:=∀b v,S b v->Lv g os b v
theorem A0.ki{g:G.bu}{os:List (List bV)}{S:Nat->Int->Prop}{b:Nat}{P:Int->Prop}(h:A0 g os S)(c:∀v,P v->S b v\/yW g os S b v):A0 g os (fh S b P):=λx v a=>by
 simp only[fh]at a;split at a
 .rename_i e;subst e;rcases c v a with h1|⟨bH,h1,h2⟩|⟨w,h1,h2,h3⟩|⟨t,h1,h2,h3⟩;·exact h _ _ h1
  .exact .qQ h1 h2
  .exact .ls h1 (h _ _ h2) h3
  exact .sC h1 (h _ _ h2) h3
 exact h _ _ a
theorem JM.all{g:G.bu}{a:List Bool}{os:List (List bV)}{ak:List Nat}{S:Nat->Int->Prop}(k:jm g)(f:cX g a os)(c:∀x,x∈ak↔a.getD x false=true)(h:JM g os ak S){b:Nat}{v:Int}(hl:Lv g os b v):b∈ak->S b v:=by induction hl with| @qQ b v bH h1 h2=>intro hb;exact h b hb v (.inl ⟨bH,h1,h2⟩)| @ls b w v i _ d e=>intro hb;exact h b hb v (.inr (.inl ⟨w,i,e ((c w).2 (f.ls ((c b).1 hb) i)),d⟩))| @sC b t v j _ d e=>intro hb;obtain⟨_,_,_,_,l,_⟩:=vD k f ((c b).1 hb) j;exact h b hb v (.inr (.inr ⟨t,j,e ((c _).2 l),d⟩))
end
end Go.am.R
end
