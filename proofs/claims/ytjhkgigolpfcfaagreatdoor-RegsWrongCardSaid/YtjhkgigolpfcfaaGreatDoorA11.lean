/- A part of the proof. No conditions. -/
import Derived.Test.YtjhkgigolpfcfaaGreatDoorA10
import Derived.ChangeArms
import Derived.DataReads
set_option linter.all false
set_option maxHeartbeats 16000000
open Option renaming bind_eq_some_iff->aed
open List renaming mem_singleton->aep,mem_cons_of_mem->aey,mem_cons_self->aeU,replicate->ahr,range->ake,length_map->akg,getElem?_append_left->akw,nodup_cons->akz,length_singleton->akC,length_take->akF,nodup_append->akI,length_drop->alC,nodup_nil->alD
open Nat renaming le_of_ble_eq_true->akc,ble_eq_true_of_le->akB,blt_eq->akY,le_trans->alj,add_assoc->alo
open Int renaming ofNat->ak1
open Array renaming getD_eq_getD_getElem?->akJ
open UInt8 renaming toNat->alv
open Eq renaming mpr->alN
open Prod renaming fst->alO
open List.Pairwise renaming nil->alQ
noncomputable section
namespace Go.am.R
section
def eL(x:bV):Int:=2*x.1+x.2
def jd(o:List bV):List Int:=o.map eL
def uj(o:List bV):Prop:=∀x∈o,∃t:Nat,x.1=t/\(x.2=0\/x.2=1)
theorem af6{x y:bV}(a:∃t:Nat,x.1=t/\(x.2=0\/x.2=1))(b:∃t:Nat,y.1=t/\(y.2=0\/y.2=1))(h:eL x=eL y):x=y:=by grind[eL]
theorem Qt:∀{o p:List bV},uj o->uj p->jd o=jd p->o=p|[],[],_,_,_=>rfl|[],_::_,_,_,h=>by cases h|_::_,[],_,_,h=>by cases h|x::o,y::p,h1,h2,h=>by simp only[jd,aj7,akn]at h;rw[af6 (h1 x (aeU ..)) (h2 y (aeU ..)) h.1,Qt (λz a=>h1 z (aey _ a)) (λz a=>h2 z (aey _ a)) h.2]
theorem J9{x:bV}(a:∃t:Nat,x.1=t/\(x.2=0\/x.2=1)):0<=eL x/\(eL x).toNat/2=x.1.toNat:=by grind[eL]
section
variable{g:G.bu}
theorem C5{b:Nat}{o:List bV}(f:uj o):(cS g b o).map (λw=>(w.1,jd w.2))=lu g b (jd o):=by
 simp only[cS,lu,aH];split;·simp[jd,eL]
 split
 .cases hl:o.getLast? with
  |none=>
   have:o=[]:=by simpa using hl
   subst this;rfl
  |some x=>
   have h:=List.mem_of_getLast? hl;have d:o≠ []:=λe=>by rw[e]at hl;cases hl
   have c:o.length≠0:=λe=>d (akM e);have a:o[o.length - 1]'af=x:=by rw[List.getLast?_eq_getElem?,getElem?_pos o _ af]at hl;exact Option.some.inj hl
   have e1:(jd o).length=o.length:=by simp[jd]
   have e2:(jd o).getD (o.length - 1) 0=eL x:=by rw[bF (by rw[e1];omega)];simp only[jd,akN,a]
   rw[e1,aq c,e2];simp only[aj7,ali,akn,and_true,aj1];refine⟨?_,by simp[jd,List.map_take]⟩;rw[ru,na,aH,(J9 (f x h)).2]
 rw[alx];rfl
theorem Qu{b:Nat}{o:List bV}(d:uj o):∀w∈cS g b o,uj w.2:=by
 intro w c;have wz:∀s,s=0\/s=1->uj (o++[((b:Int),s)]):=λs hs x a=>by
  rcases ahp.1 a with a|a;·exact d x a
  rw[aep]at a;subst a;exact⟨b,rfl,hs⟩
 simp only[cS]at c;split at c;·grind
 split at c
 .split at c;·rw[aep]at c;subst c;exact λx a=>d x (List.mem_of_mem_take a)
  grind
 grind
theorem lN.vG(a:mL g){b:Nat}{o:List bV}(h:lN g b o):lR g (-1) b (jd o)/\uj o:=by
 induction h with
 |zero=>exact⟨.zero aB,λx i=>by grind⟩
 | @step b o w h c e=>
  obtain⟨h1,h2⟩:=e;obtain⟨h3,f⟩:=h1.ok a;have d:(w.1,jd w.2)∈lu g b (jd o):=by rw[<-C5 h2];exact akk.2 ⟨w,c,rfl⟩
  have:=(vE a h3 f _ d).1;exact⟨.step h1 d af,Qu h2 w c⟩
theorem lR.dO{b:Nat}{o:List Int}(h:lR g (-1) b o):∃p,lN g b p/\uj p/\jd p=o:=by induction h with|zero _=>exact⟨[],.zero,λx d=>(by grind),rfl⟩| @step b o w h a e c=>obtain⟨p,h1,h2,rfl⟩:=c;rw[<-C5 h2]at a;obtain⟨w',h3,rfl⟩:=akk.1 a;exact⟨w'.2,.step h1 h3,Qu h2 _ h3,rfl⟩
theorem lR.mono(a:mL g){e:Int}{b:Nat}{o:List Int}(h:lR g e b o):lR g (-1) b o:=by induction h with|zero _=>exact .zero aB|step h c _ d=>obtain⟨h3,f⟩:=d.ok a;have:=(vE a h3 f _ c).1;exact .step d c af
theorem lR.nil(a:mL g){c:Int}{b:Nat}{o:List Int}(h:lR g c b o)(hb:b=0):o=[]:=by cases h with|zero _=>rfl|step h d _=>obtain⟨h3,e⟩:=h.ok a;have:=(vE a h3 e _ d).1;omega
theorem lR.comp(c:mL g){c1:List Bool}{o1:List (List Int)}(a:lw g (-1) c1 o1)(d:∀b,oF g (-1) c1 o1 false b){b:Nat}{o:List Int}(h:lR g (-1) b o):c1.getD b false=true/\o1.getD b []=o:=by induction h with|zero h=>have h1:=a.c0 h;exact⟨h1,(a.snd 0 h1).nil c rfl⟩| @step b o w h f i e=>obtain⟨h1,h2⟩:=e;rcases d b h1 w (by grind)with h3|⟨h3,j⟩;all_goals grind
theorem lR.Qv(c:mL g){c1:List Bool}{o1:List (List Int)}(i:lw g (-1) c1 o1)(j:∀b,oF g (-1) c1 o1 false b){d:Int}{e:List Bool}{k:List (List Int)}{m:Bool}(a:lw g d e k)(f:∀b,oF g d e k m b){b:Nat}{o:List Int}(h:lR g d b o):e.getD b false=true:=by induction h with|zero h=>exact a.c0 h| @step b o w h n p l=>have e1:=((a.snd b l).mono c).comp c i j;have e2:=(h.mono c).comp c i j;rcases f b l w (by grind)with h3|⟨h3,_⟩;all_goals omega
variable{come:List Bool}{os:List (List bV)}{c1:List Bool}{o1:List (List Int)}
theorem af7(a:mL g)(r:g.al.length<=30)(d:lw g (-1) c1 o1)(e:∀b,oF g (-1) c1 o1 false b):jm g:=by
 refine⟨λh j=>?_,λ{b o}h w k=>?_,λ{b o}h=>?_,λ{b o}h=>?_⟩;·obtain⟨h1,h2⟩:=h.vG a;obtain⟨h3,c⟩:=j.vG a;exact Qt h2 c ((h1.comp a d e).2.symm.trans (h3.comp a d e).2)
 .obtain⟨h1,h2⟩:=h.vG a;obtain⟨h3,c⟩:=h1.ok a;have l:(w.1,jd w.2)∈lu g b (jd o):=by rw[<-C5 h2];exact akk.2 ⟨w,k,rfl⟩
  have:=(vE a h3 c _ l).1;omega
 .obtain⟨h1,_⟩:=h.vG a;exact⟨(h1.ok a).1,a.t3 b (h1.ok a).1⟩
 obtain⟨h1,h2⟩:=h.vG a;obtain⟨h3,c⟩:=h1.ok a;obtain⟨m,n⟩:=h1.comp a d e;have i:=d.jx b m;rw[n]at i;simp only[jd,akg]at i;refine⟨⟨λx f=>?_⟩,af⟩;obtain⟨e1,e2⟩:=J9 (h2 x f);obtain⟨_,p,q⟩:=c (eL x) (akp f);rw[e2]at p q;obtain⟨t,s,_⟩:=h2 x f;grind
theorem Qw(a:mL g)(e:jm g)(c:lw g (-1) c1 o1)(f:∀b,oF g (-1) c1 o1 false b)(d:cX g come os){b:Nat}:come.getD b false=true↔c1.getD b false=true:=by
 constructor;·intro h;exact(((d.dO b h).vG a).1.comp a c f).1
 intro h;obtain⟨p,h1,_,_⟩:=(c.snd b h).dO;exact(d.sF e h1).1
theorem Qx(a:mL g)(d:lw g (-1) c1 o1)(e:∀b,oF g (-1) c1 o1 false b)(c:cX g come os){b:Nat}(h:come.getD b false=true):o1.getD b []=jd (os.getD b [])/\uj (os.getD b []):=⟨(((c.dO b h).vG a).1.comp a d e).2,((c.dO b h).vG a).2⟩
theorem Qy(e:mL g)(i:jm g)(c:cX g come os){d b:Nat}(h:pI (wW g os) d b):come.getD b false=true/\lR g (d:Int) b (jd (os.getD b [])):=by
 induction h with
 |zero h=>refine⟨c.c0,?_⟩;have:=(c.sF i .zero).2;rw[this];exact .zero af
 | @step a x h l p m=>
  obtain⟨h1,h2⟩:=m;obtain⟨w,j,rfl⟩:=akk.1 l;have hl:=c.dO a h1;have h3:=c.sF i (.step hl j);have f:=(hl.vG e).2;have k:(w.1,jd w.2)∈lu g a (jd (os.getD a [])):=by rw[<-C5 f];exact akk.2 ⟨w,j,rfl⟩
  obtain⟨n,o⟩:=h2.ok e;have:=(vE e n o _ k).1;refine⟨h3.1,?_⟩;rw[h3.2];exact .step h2 k af
theorem af8(a:mL g)(l:jm g)(f:lw g (-1) c1 o1)(i:∀b,oF g (-1) c1 o1 false b)(j:cX g come os){d b:Nat}{o:List Int}(h:lR g (d:Int) b o):pI (wW g os) d b:=by induction h with|zero h=>exact .zero af| @step b o w h c q k=>have m:=(Qy a l j k).1;obtain⟨h1,h2⟩:=Qx a f i j m;have h3:=((h.mono a).comp a f i).2;obtain⟨n,p⟩:=h.ok a;have r:=(vE a n p _ c).1;rw[<-h3,h1,<-C5 h2]at c;obtain⟨w',e,rfl⟩:=akk.1 c;exact .step k (akk.2 ⟨w',e,rfl⟩) af
theorem af9(c:mL g)(k:jm g)(d:lw g (-1) c1 o1)(e:∀b,oF g (-1) c1 o1 false b)(l:cX g come os){q:List (List Bool)}(m:JS g q){a b:Nat}(r:a<g.al.length)(hb:b<g.al.length):(q.getD a []).getD b false=true↔come.getD a false=true/\come.getD b false=true/\gO (wW g os) a b:=by
 obtain⟨c2,o2,t2,f,n,j⟩:=m.ex;obtain⟨_,s,v,w,i,o,p⟩:=j a r;have h2:∀{x},come.getD x false=true↔c2.getD x false=true:=λ{x}=>by
  rw[Qw c k d e l];constructor;·intro h;exact(d.snd x h).Qv c d e f n
  intro h;exact((f.snd x h).comp c d e).1
 rw[p b hb,vF,h2,h2];simp only[aj6,alf,decide_eq_true_eq,akU,and_assoc];refine and_congr_right λ_=>and_congr_right λu=>?_;constructor
 .rintro(rfl|h);·exact gO.JE
  intro t;have:=(Qy c k l t).2.Qv c d e i o;grind
 intro hd;cases h:s.getD b false with|false=>simp|true=>exact absurd (af8 c k d e l (i.snd b h)) hd
end
end
section
theorem Kd{l:List Int}{n:Nat}{p:Int×Int}(h:p∈oB l n):p.1∈l/\p.2=n:=by obtain⟨x,a,rfl⟩:=akk.1 h;grind
theorem Qz:∀{l:List G.ic}{i:Nat}{p:Int×Int},p∈jI l i->∃j,∃h:j<l.length,p.2=((i+j:Nat):Int)/\p.1∈l[j].args
 |s::l,i,p,h=>by
  rcases ahp.1 h with h|h;·obtain⟨h1,h2⟩:=Kd h;exact⟨0,aB,af,h1⟩
  obtain⟨j,hj,h1,h2⟩:=Qz h;exact⟨j+1,by grind,af,by grind⟩
theorem QA:∀{l:List G.Edge}{n:Nat}{p:Int×Int},p∈kE l n->p.2=n/\∃e∈l,p.1∈e.args
 |e::l,n,p,h=>by
  rcases ahp.1 h with h|h;·obtain⟨h1,h2⟩:=Kd h;grind
  obtain⟨h1,e2,h2,h3⟩:=QA h;grind
theorem agc{B:G.gV}{p:Int×Int}(h:p∈kF B):∃k,k<=B.aD.length/\p.2=(k:Int)/\p.1∈kU B k:=by
 have a:p.1∈ui B.aA->p.2=(B.aD.length:Int)->∃k,k<=B.aD.length/\p.2=(k:Int)/\p.1∈kU B k:=λh1 h2=>⟨_,afb _,h2,by rw[kU,aq af];exact h1⟩;rcases ahp.1 h with h|h;·obtain⟨j,hj,h1,h2⟩:=Qz h;exact⟨j,af,af,by simp[hj,h2,kU,aK,bF]⟩
 rcases ahp.1 h with h|h;·obtain⟨h1,h2⟩:=Kd h;exact a (akf _ h1) h2
 obtain⟨h1,e,h2,h3⟩:=QA h;exact a (akq _ (akZ.2 ⟨e,h2,h3⟩)) h1
section
variable{g:G.bu}{come:List Bool}{os:List (List bV)}
theorem agd(d:sD g)(j:vC g){gl:List Int}(a:sH g.bp.toNat g.params.toNat gl (pd g g.al.length)){v:Int}(h0:g.params<=v)(h1:v<g.bp):∃s:Nat,s<g.al.length/\gl.getD v.toNat 0=s/\AY g v=s:=by have e:=d.all v h0 h1;rw[<-ak7 (l:=g.al),<-Fk g _ (afb _)]at e;obtain⟨p,f,rfl⟩:=akk.1 e;have h2:=a.bH p f;obtain⟨i,hi,b⟩:=akZ.1 f;rw[ak3]at hi;obtain⟨x,h,rfl⟩:=akk.1 b;refine⟨i,hi,h2,?_⟩;have hb:=oC hi;rw[<-PV λy k=>(d.aD _ hb y k).r.t0]at h;obtain⟨q,l,c⟩:=akk.1 h;have:=j.at (v:=x) (p:=q.2) hi (by rw[<-c];exact l);grind
theorem age(z:sD g)(hn:g.al.length<=30)(h:JT g)(S:jm g)(B:vC g)(C:cX g come os):yT g come os:=by
 obtain⟨c1,o1,W,gl,A,D,G,H,I⟩:=h.ex;have j:=z.sh;have key:∀b,come.getD b false=true->b<g.al.length/\C1 g o1 W gl b/\o1.getD b []=jd (os.getD b [])/\uj (os.getD b [])/\wX g (jd (os.getD b [])):=λb hb=>by have h1:=(Qw j S A D C).1 hb;have h2:=Qx j A D C hb;have h3:=(A.snd b h1).ok j;rw[h2.1]at h3;exact⟨h3.1,I b h3.1 h1,h2.1,h2.2,h3.2⟩
 refine⟨λb hb J=>?_,λb hb K=>?_,λb hb p X=>?_⟩
 .obtain⟨d,l,E,L,ia⟩:=key b hb;obtain⟨h1,h2⟩:=l.en J;rw[E]at h1 h2;have hl:(jd (os.getD b [])).length=(os.getD b []).length:=by simp[jd]
  rw[hl]at h1 h2;generalize os.getD b []=o at*;have f:o.length - 1<o.length:=af;have T:=agB f;have he:(jd o).getD (o.length - 1) 0=eL o[o.length - 1]:=by rw[bF (by rw[hl];exact f)];simp only[jd,akN]
  rw[he]at h2;have m:ru g (eL o[o.length - 1])=na g o[o.length - 1]:=by rw[ru,na,aH,(J9 (L _ T)).2]
  obtain⟨_,Y,k3⟩:=ia (eL o[o.length - 1]) (akp T);have M:=j.rg _ Y _ (agB (l:=(aH g ((eL o[o.length - 1]).toNat/2)).aA.go) (n:=2) af);have N:ru g (eL o[o.length - 1])=(aH g ((eL o[o.length - 1]).toNat/2)).aA.go[2].block:=by rw[ru,bF af]
  rw[<-N,m]at M;rw[m]at h2;exact⟨o[o.length - 1],by rw[List.getLast?_eq_getElem?,getElem?_pos o _ f],af,af,h2.symm⟩
 .obtain⟨_,l,E,_,_⟩:=key b hb;have:=l.rt K;rw[E]at this;simpa[jd]using this
 obtain⟨d,l,_,_,_⟩:=key b hb;obtain⟨k,Z,O,a⟩:=agc X;have hrd:=l.rd k Z p.1 a;obtain⟨x,bH⟩:=p;simp only at O a hrd;have P:=B.v0;have ag:=E' P;have v:0<=x/\x<g.bp:=by
  have n:=oC d;unfold kU at a;split at a;·rename_i V;rw[bF V]at a;have:=(z.aD _ n _ (agB V)).r.pF x a;omega
  have u:=z.CD _ n;rcases ahp.1 a with a|a;·have:=u.pF x a;omega
  obtain⟨e,he,a⟩:=akZ.1 a;obtain⟨y,F,rfl⟩:=aka he;have:=(u.E0 y F).pF x a;omega
 obtain⟨t,rfl⟩:∃t:Nat,x=t:=⟨x.toNat,af⟩;refine⟨t,rfl,af,?_⟩;by_cases w:(t:Int)<g.params;·exact .inl w
 obtain⟨s,hs,Q,R⟩:=agd z B H (v:=(t:Int)) af v.2;unfold wZ at hrd;rw[Q,aj3]at hrd;rcases hrd with h1|⟨h1,h2⟩|h1;·omega
 .have h3:=(af9 j S A D C G hs d).1 h2;exact .inr (.inr ⟨s,R,af,h3.1,h3.2.2⟩)
 obtain⟨q,hq,ar⟩:∃q,((t:Int),q)∈dC (aH g b)/\q<(k:Int):=by
  rcases ahp.1 h1 with h1|h1;·exact⟨-1,J4 h1,af⟩
  have h2:=h1;rw[CW]at h2;obtain⟨y,F,c⟩:=akZ.1 h2;obtain⟨i,hi,rfl⟩:=aka F;rw[akF]at hi;rw[List.getElem_take]at c;split at c;·rename_i h4;rw[aep]at c;refine⟨i,?_,af⟩;rw[c];exact JZ af af
  cases c
 have:=B.at d hq;rw[aj3]at this;exact .inr (.inl ⟨by rw[this],by rw[this];simp only;omega⟩)
theorem agf(h:J' g):Vd g:=by obtain⟨a,l⟩:=Kc h.jx h.Kb;obtain⟨c1,o1,m,gl,d,e,i,j,k⟩:=h.right.ex;have b:=af7 h.C6.sh a d e;have c:=afi h.C6;exact⟨h.jx.sm,afh h.C6 h.jx.sm af,h.Kb,b,c,λcome os f=>age h.C6 a h.right b c f⟩
end
end
section
variable{ac:Nat->aG}
section
def tN:Th where
 P _ c:=c=[]
 fr h _ _:=h
 lt h:=λj hj=>by rw[h]at hj;cases hj
def tO(D:Bool)(q:ab)(S:Int->Prop):Th:=if D then tM false q S else tN
def gQ(n:Nat)(D:Nat->Bool)(ids:Nat->ab)(S:Nat->Int->Prop):List Th:=(ake n).map λv=>tO (D v) (ids v) (S v)
def jJ(D:Nat->Bool)(ids:Nat->ab)(v:Nat):AV:=if D v then .map (ids v)else .cY
def iw(n:Nat)(D:Nat->Bool)(ids:Nat->ab):List AV:=(ake n).map (jJ D ids)
section
variable{n:Nat}{D a:Nat->Bool}{ids b:Nat->ab}{S S':Nat->Int->Prop}{f d m:ab}{us:List Th}{A H:ai}
theorem Fu:(iw n D ids).length=n:=by simp[iw]
theorem agp:(gQ n D ids S).length=n:=by simp[gQ]
theorem Fv{v:Nat}(c:v<n):(gQ n D ids S)[v]?=some (tO (D v) (ids v) (S v)):=by simp[c,gQ,aks,List.getElem?_range,akt]
theorem agq{v:Nat}(c:v<n){q:ab}{P:Int->Prop}:(gQ n D ids S).set v (tM false q P)=gQ n (λx=>if x=v then true else D x) (λx=>if x=v then q else ids x) (fh S v P):=by
 apply alg (by simp[gQ]);intro j h1 h2;simp only[gQ,List.getElem_set,akN,alA,fh];by_cases e:v=j;·simp[e,tO]
 grind
theorem QC{v y:Int}{l:List Int}:y∈iF v l↔y∈l/\y≠v:=uS v y l
theorem QD{A H0:ai}{c:ap AV}{ks:List Int}{t1 t2 t3:Th}(C:ks.Nodup)(E:∀j,j<n->D j=true->∃t0:List Int,jS H0 (ids j)=some t0/\t0.Nodup/\(∀x,x∈t0↔S j x)/\ids j≠m)(M:∀j,j<n->c.bw .alR (0+j)=jJ D ids j)(N:∀j,j<n->D j=false->∀x,¬S j x):∀(l:List Int)(B:ap AV)(H':ai)(a:Nat->Bool)(b:Nat->ab)(S':Nat->Int->Prop),l.Nodup->(∀k∈l,0<=k/\k<n)->(∀j,j<n->(j:Int)∈l->a j=D j/\b j=ids j/\S' j=S j)->(∀j,j<n->B.bw .alR (0+j)=jJ a b j)->aj A H' (t1::t2::t3::(gQ n a b S'++us))->∃u v r g w,vZ c 0 n m ks H0 l B H'=some (u,v)/\aj A v (t1::t2::t3::(gQ n r g w++us))/\(∀j,j<n->u.bw .alR (0+j)=jJ r g j)/\(∀j,j<n->(r j=true↔a j=true\/(j:Int)∈l))/\∀j,j<n->∀x,w j x↔S' j x\/(j:Int)∈l/\x∈ks/\x≠j
 |[],B,H',a,b,S',_,_,_,H,U=>⟨B,H',a,b,S',rfl,U,H,λj _=>by simp,λj _ x=>by simp⟩
 |k::l,B,H',a,b,S',s,F,h3,H,U=>by
  rw[akz]at s;obtain⟨ag,ar⟩:=F k (aeU ..);obtain⟨j,rfl⟩:∃j:Nat,k=(j:Int):=⟨k.toNat,af⟩;have o:j<n:=af;obtain⟨e1,e2,O⟩:=h3 j o (aeU ..);have hat:(t1::t2::t3::(gQ n a b S'++us))[3+j]?=some (tO (a j) (b j) (S' j)):=rr (xs:=[_,_,_]) (Fv o);have t:∀{q:ab}{P:Int->Prop},(t1::t2::t3::(gQ n a b S'++us)).set (3+j) (tM false q P)=t1::t2::t3::(gQ n (λx=>if x=j then true else a x) (λx=>if x=j then q else b x) (fh S' j P)++us):=λ{q P}=>by refine(PW (xs:=[t1,t2,t3]) (l:=gQ n a b S') (by rw[agp];exact o)).trans ?_;rw[agq o];rfl
  have z:∀i,i<n->(i:Int)∈l->i≠j:=λi _ hi e=>s.1 (e▸hi);have aA:∀{q:ab}{P:Int->Prop}{c2:ap AV}{I:ai},aj A I (t1::t2::t3::(gQ n (λx=>if x=j then true else a x) (λx=>if x=j then q else b x) (fh S' j P)++us))->(∀i,i<n->c2.bw .alR (0+i)=jJ (λx=>if x=j then true else a x) (λx=>if x=j then q else b x) i)->(∀x,P x↔S' j x\/x∈ks/\x≠(j:Int))->∃u v r g w,vZ c 0 n m ks H0 l c2 I=some (u,v)/\aj A v (t1::t2::t3::(gQ n r g w++us))/\(∀j,j<n->u.bw .alR (0+j)=jJ r g j)/\(∀i,i<n->(r i=true↔a i=true\/(i:Int)∈(j:Int)::l))/\∀i,i<n->∀x,w i x↔S' i x\/(i:Int)∈(j:Int)::l/\x∈ks/\x≠i:=by
   intro q P c2 I p K R;obtain⟨u,v,r,g,w,T,V,W,X,Y⟩:=QD C E M N l c2 I _ _ _ s.2 (λk Z=>F k (aey _ Z)) (λi hi Q=>by have:=z i hi Q;obtain⟨a1,a2,a3⟩:=h3 i hi (aey _ Q);simp only[aq this,fh];exact⟨a1,a2,a3⟩) K p;refine⟨u,v,r,g,w,T,V,W,λi hi=>?_,λi hi x=>?_⟩
   .rw[X i hi,aeV];by_cases e:i=j;·subst e;simp
    rw[aq e];have:¬((i:Int)=(j:Int)):=af;simp[this]
   rw[Y i hi,aeV];by_cases e:i=j;·subst e;simp only[fh,bq,R,true_or,true_and];have:=s.1;simp[this]
   have h9:¬((i:Int)=(j:Int)):=af;simp only[fh,aq e,h9,false_or]
  simp only[vZ];simp only[alN akY o,bq,M j o];cases y:D j with
  |false=>
   simp only[jJ,y,aes,bP];obtain⟨fp,J,_,hu⟩:=U.ki (3+j) hat;rw[e1,y]at J;have L:(iF (ak1 j) ks).Nodup:=D3 C;have p:=hu (H':=H'.new (.dI (eG (iF (ak1 j) ks)))) (fp':=[H'.next]) (t':=tM false H'.next λx=>x∈ks/\x≠(j:Int)) ⟨by rw[ai.nK];omega,λi hi=>by rw[aep]at hi;exact .inr (by rw[hi];exact afb _),λi _ hi=>by rw[ai.dJ,aq (λe=>by rw[e]at hi;omega)]⟩ ⟨aep.2 rfl,λj hj=>aep.1 hj,⟨_,by rw[ai.dJ,aK rfl];exact wc L,λx=>QC⟩,(λh=>by cases h),by rw[ai.nK];omega⟩;rw[t]at p;refine aA p (λi hi=>?_) (λx=>?_)
   .rw[nD];simp only[akC,jJ];by_cases e:i=j;·subst e;simp
    rw[aq af,aq e,aq e,H i hi,jJ]
   rw[O];have:=N j o y x;simp[this]
  |true=>
   obtain⟨t0,q1,q2,d,q4⟩:=E j o y;simp only[jJ,y,bq,wU q4,aes,bP,q1];rw[e1,y,e2]at hat;obtain⟨_,_,G⟩:=U.nf _ hat;have p:=U.uh (H':=H'.set (ids j) (.dI (eG (gT (iF (ak1 j) ks) t0)))) (q:=ids j) _ hat (t':=tM false (ids j) λx=>S' j x\/x∈ks/\x≠(j:Int)) rfl (λi hi=>by rw[ai.aF,aq hi]) (λfp J=>J.1) ⟨aep.2 rfl,λj hj=>aep.1 hj,⟨_,by rw[ai.aF,aK rfl];exact wc (qK _ q2),λx=>by rw[oQ,QC,d,O,or_comm];rfl⟩,(λh=>by cases h),G⟩;rw[t]at p;refine aA p (λi hi=>?_) (λx=>Iff.rfl);rw[H i hi];simp only[jJ];by_cases e:i=j;·subst e;simp[e1,y,e2]
   rw[aq e,aq e]
end
end
section
section
variable{n:Nat}{D:Nat->Bool}{ids:Nat->ab}{S:Nat->Int->Prop}{a b m:ab}{us:List Th}{A H:ai}{M:Int->Prop}
theorem agr(U:aj A H (tM false m M::tB oU b [.slice a 0 n n true]::tB eT a (iw n D ids)::(gQ n D ids S++us)))(W:∀x,M x->0<=x/\x<n)(X:∀j,j<n->D j=false->∀x,¬S j x):∃H' s d C,(∀aa:ap AV,aa.get .alR (sl 4)=.map m->aa.get .alR (sl 3)=.az b 0->xN aa H=some (kL aa qL,H'))/\(∀j,j<n->(s j=true↔D j=true\/M j))/\(∀j,j<n->∀x,C j x↔S j x\/M j/\M x/\x≠j)/\aj A H' (tM false m M::tB oU b [.slice a 0 n n true]::tB eT a (iw n s d)::(gQ n s d C++us)):=by
 obtain⟨⟨ks,p,w⟩,_,T⟩:=U.nf 0 rfl;obtain⟨k1,u⟩:=yV p;have hat:∀{j},j<n->D j=true->(tM false m M::tB oU b [.slice a 0 n n true]::tB eT a (iw n D ids)::(gQ n D ids S++us))[3+j]?=some (tM false (ids j) (S j)):=λ{j}hj hd=>by have:=rr (xs:=[tM false m M,tB oU b [.slice a 0 n n true],tB eT a (iw n D ids)]) (m:=us) (Fv (D:=D) (ids:=ids) (S:=S) hj);rw[hd]at this;exact this
 obtain⟨f2,K⟩:=U.get 2 rfl;obtain⟨c,Y,Z,V⟩:=tB.JH K;rw[Fu]at Y;have q:∀j,j<n->c.bw .alR (0+j)=jJ D ids j:=λj hj=>by rw[akh,Z j (by rw[Fu];exact hj)];simp[iw]
 have ag:bh H b 0=some (.slice a 0 n n true):=by obtain⟨_,r⟩:=U.get 1 rfl;exact tB.cell r rfl
 have ar:b≠a:=U.ne 1 2 rfl rfl af (λf h=>h.1) (λf h=>h.1);have gE:∀{l:List Int},l.Nodup->(∀k∈l,0<=k/\k<n)->(lb c 0 l).Nodup:=by
  intro l;induction l with
  |nil=>intro _ _;exact alD
  |cons k l E=>
   intro G g;rw[akz]at G;have E:=E G.2 λk I=>g k (aey _ I);simp only[lb];split
   .rename_i N t;rw[akz];refine⟨λL=>?_,E⟩;obtain⟨u,y,o⟩:=wg.1 L;have h1:=g k (aeU ..);have h2:=g u (aey _ y);have z:k.toNat<n:=af;have B:u.toNat<n:=af;rw[q _ z,jJ]at t;rw[q _ B,jJ]at o;split at t
    .rename_i d1;split at o;·rename_i d2;injection t with t;injection o with o;have av:k.toNat≠u.toNat:=λe=>G.1 (by rw[show k=u by omega];exact y);exact U.ne _ _ (hat z d1) (hat B d2) af (λf h=>h.1) (λf h=>h.1) (t.trans o.symm)
     cases o
    cases t
   exact E
 have g:∀k∈ks,0<=k/\k<n:=λk I=>W k ((w k).1 I);obtain⟨F,v,s,d,C,g1,J,g3,g4,g5⟩:=QD (m:=m) (H0:=H) p.1 (λj hj hd=>by obtain⟨⟨t0,R,O⟩,_,_⟩:=U.nf _ (hat hj hd);exact⟨t0,(yV R).1,R.1,O,U.ne _ 0 (hat hj hd) rfl aB (λf h=>h.1) (λf h=>h.1)⟩) q X ks c H D ids S p.1 g (λ_ _ _=>⟨rfl,rfl,rfl⟩) q U;have P:a.an<v.next.an:=by obtain⟨_,r⟩:=J.get 2 rfl;obtain⟨_,_,_,_,_,h⟩:=r;exact h
 have Q:m.an<v.next.an:=(J.nf 0 rfl).2.2;have L1:=J.uh (H':=v.set a (.cells F n eT true [] 0)) (q:=a) 2 rfl (t':=tB eT a (iw n s d)) rfl (λi hi=>by rw[ai.aF,aq hi]) (λfp r=>r.1) ⟨aep.2 rfl,λj hj=>aep.1 hj,F,by rw[ai.aF,aK rfl,Fu],λj hj=>by rw[Fu]at hj;have:=g3 j hj;rw[akh]at this;rw[this];simp[iw],P⟩;have L2:=L1.uh (H':=(v.set a (.cells F n eT true [] 0)).set m (.dI (eG ks))) (q:=m) 0 rfl (t':=tM false m M) rfl (λi hi=>by rw[ai.aF,aq hi]) (λfp r=>r.1) ⟨aep.2 rfl,λj hj=>aep.1 hj,⟨ks,by rw[ai.aF,aK rfl];exact wc p.1,w⟩,(λh=>by cases h),Q⟩;refine⟨((v.set a (.cells F n eT true [] 0)).set m (.dI (eG ks))).skip,s,d,C,λaa e4 e3=>?_,λj hj=>?_,λj hj x=>?_,?_⟩;·unfold xN;rw[e4,e3];have ho:=(HJ _).2 (gE p.1 g);simp_all[wU,akh,akB,afb,Bool.not_false,alK,bq]
 .simp_all
 .simp_all
 exact L2.cI ⟨by show _<=(ab.succ _).an;simp[ab.gK],λj _=>rfl⟩
end
end
section
theorem RO.ags{A H:ai}{j:List Th}{c:Cx}{s:List SI}{L:Kn}{d:Option ab}{l:List be}{e bytes size n:Nat}(U:aj A H j){g:List AV}{x y:aJ}(r:∀H' q,aj A H' (tB e q (fO g n)::j)->RO ac c l s (bC L d (.slice q 0 n n true)) H')(m:bf L x=.int 3 (.ofNat n):=by exact cw)(o:bf L y=.int 3 (.ofNat n):=by exact cw)(hz:(fO g n).length=n*size)(hb:n*bytes<=70368744177664:=by omega)(p:n<=70368744177664:=by omega):RO ac c (⟨d,.jL e bytes size g x y,none,[],[]⟩::l) s L H:=by have:=U.Ic e (fO g n);grind[RO.jL]
section
variable{g:G.bu}{f h av i:AV}{a b:ab}{A H:ai}{k:List AV}{come:List Bool}{os:List (List bV)}{ak:List Nat}{lv:List (List Int)}
theorem _root_.Go.am.aj.QE{A H:ai}{c:List Th}(U:aj A H c):∀n,aj A H (c++ahr n tN)
 |0=>by grind
 |n+1=>by
  have:=(U.QE n).push (bm.refl H) (t:=tN) (fp:=[]) rfl λj hj=>by cases hj
  exact this.cM akj.symm
theorem agt(T:Tb ac){K:KT}(c:∀H' q,aj H H' [tB iH q [.az a 0]]->K (.func Iv [] [.az q 0]) H'):YN ac Wx [.az a 0] H K:=by refine YF.code T.abh aB ?_;refine au ?_;refine RO.dL (aj.dc H) λH1 q U=>?_;refine ah ?_;exact Ru.aV (c _ _ U)
def QF(c:List (Int->Prop))(n:Nat)(D:Nat->Bool)(S:Nat->Int->Prop):Prop:=(∀j,j<n->(D j=true↔∃C∈c,C j))/\∀j,j<n->∀x,S j x↔∃C∈c,C j/\C x/\x≠j
theorem Ki(T:Tb ac)(V:Vd g)(E:FX g A a f h av i k come os ak lv)(G:cX g come os)(I:e9 g come os ak)(w:gP g come os lv){n:Nat}(J:g.bp=n){K:KT}(ag:∀H' d D c S,QF (gY g os lv ak) n D S->aj A H' (tB eT d (iw n D c)::gQ n D c S)->K (.slice d 0 n n true) H'):YN ac Wz [.az a 0] A K:=by
 have y:=E.c2;rw[J]at y;have W:=V.fm.fv.h2;refine YF.code T.abk aB ?_;refine ah ?_;refine RO.ags (aj.dc A) (n:=n) (λY d U=>?_) (hz:=by rw[iZ];simp);refine RO.fx U λZ r U=>?_;refine ah ?_;refine RO.cl (agt T λL b hl=>?_);have U:=U.fC hl;refine ah ?_;refine Ru.wk (L:=[(bi,.func Iv [] [.az b 0]),(p3,.az r 0)]) ?_;have z:fO [AV.cY] n=iw n (λ_=>false) (λ_=>d):=by rw[iZ];apply alg (by simp[iw]);intro j h1 h2;simp[iw,jJ]
 rw[z]at U;have U:=U.QE n;have U:aj A L ([tB iH b [.az a 0]]++(tB oU r [.slice d 0 n n true]::tB eT d (iw n (λ_=>false) λ_=>d)::gQ n (λ_=>false) (λ_=>d) λ_ _=>False)++[]):=by
  have e:gQ n (λ_=>false) (λ_=>d) (λ_ _=>False)=ahr n tN:=by apply alg (by simp[gQ]);intro j h1 h2;simp[gQ,tO]
  rw[e,akT];exact U
 refine Ru.af1 (J:=λp ts=>∃D c S,QF p n D S/\ts=tB oU r [.slice d 0 n n true]::tB eT d (iw n D c)::gQ n D c S) U (af5 T V E G I w) ⟨_,_,_,⟨λj hj=>by simp,λj hj x=>by simp⟩,rfl⟩ (λp C q ts us l o1 o2 H M t U=>?_) λH' X N t U=>?_
 .obtain⟨D,c,S,m,rfl⟩:=t;refine ah ?_;refine Ru.dN (xs:=tM false q C::tB oU r [.slice d 0 n n true]::tB eT d (iw n D c)::gQ n D c S) U λH6 U=>?_;obtain⟨O,u,o,F,hg,P,Q,U⟩:=agr U (λx v=>by have:=M x v;omega) (λj hj hd x v=>by obtain⟨R,B,h1,_⟩:=(m.2 j hj x).1 v;rw[(m.1 j hj).2 ⟨R,B,h1⟩]at hd;cases hd);refine ah ?_;refine Ru.ez (cQ:=qL) (H':=O) T.adj (M:=[(p3,.az r 0)]) (λaa s=>hg aa (s.get (p:=sl 4) rfl rfl) (s.get (p:=sl 3) rfl rfl)) ?_;refine ah ?_;refine Ru.bG (ts:=tM false q C::tB oU r [.slice d 0 n n true]::tB eT d (iw n u o)::gQ n u o F) U ⟨_,rfl,u,o,F,⟨λj hj=>?_,λj hj x=>?_⟩,rfl⟩;·rw[P j hj,m.1 j hj];simp only[ahp,aep,or_and_right,exists_or,exists_eq_left]
  rw[Q j hj,m.2 j hj];simp only[ahp,aep,or_and_right,exists_or,exists_eq_left]
 obtain⟨D,c,S,m,rfl⟩:=t;refine ah ?_;have U:=U.tail;refine Ru.mI (M:=[N]) (U.cM (akj (l₁:=tB eT d (iw n D c)::gQ n D c S) (l₂:=[]))) λH' U=>⟨[.slice d 0 n n true],⟨rfl,rfl,trivial⟩,ag H' d D c S m ((akT (gQ n D c S))▸U)⟩
end
end
section
section
variable{g:G.bu}{come:List Bool}{os:List (List bV)}{ak:List Nat}{lv:List (List Int)}
theorem Kj(V:Vd g)(c:yT g come os){b:Nat}(hb:come.getD b false=true){x bH:Int}(h:(x,bH)∈kF (aH g b)):yU g come os b x:=by
 obtain⟨t,d,f,a⟩:=c.rd b hb _ h;subst d;have:=E' V.gv.v0;refine⟨aB,af,?_⟩;rcases a with a|⟨h1,_⟩|⟨s,h1,_,h3,e⟩;·omega
 .exact .inr ⟨b,by grind,hb,.JE⟩
 exact .inr ⟨s,by grind,h3,e⟩
theorem QG(V:Vd g)(a:cX g come os)(f:e9 g come os ak)(c:gP g come os lv){b w:Nat}(hb:come.getD b false=true)(d:w∈wW g os b){x:Int}(h:x∈lv.getD w []):yU g come os b x:=by have e:=a.ls hb d;obtain⟨h0,h1,h2⟩:=((c.mem w e x).1 h).CS V.dO a (V.sG come os a) V.gv f e;exact⟨h0,h1,h2.imp id λ⟨s,h3,i,j,k⟩=>⟨s,h3,j,k.cO d i⟩⟩
theorem QH(V:Vd g)(a:cX g come os)(f:e9 g come os ak)(c:gP g come os lv){b:Nat}(hb:come.getD b false=true){x:Int}(h:x∈kV g lv (os.getD b [])):yU g come os b x:=by
 unfold kV at h;split at h;·rename_i t i;obtain⟨u,hu,d,e,l,_⟩:=vD V.dO a hb i;obtain⟨h0,h1,h2⟩:=QG V a f c d e h;exact⟨h0,h1,h2.imp id λ⟨s,h3,j,k⟩=>⟨s,h3,j,k.trans (PH V.dO a hu)⟩⟩
 grind
theorem agu(V:Vd g)(c:cX g come os)(f:e9 g come os ak)(d:gP g come os lv){b:Nat}(hb:come.getD b false=true):∀k,k<=(aH g b).aD.length->∀x,eK g os lv b k x->yU g come os b x:=by
 have a:=V.sG come os c;intro k;induction k with
 |zero=>
  rintro _ x(h|h|⟨e,he,h⟩|⟨w,i,h⟩);·grind[QH]
  .exact Kj V a hb (C3 h)
  .exact Kj V a hb (C4 he h)
  grind[QG]
 |succ k j=>
  rintro l x(h|h|⟨h,_⟩);·grind[QH]
  .rw[bF af]at h;exact Kj V a hb (Fm _ h)
  grind
theorem QI(V:Vd g)(a:cX g come os){b:Nat}(hb:come.getD b false=true){x p:Int}(h:(x,p)∈dC (aH g b)):yU g come os b x:=by have h1:=V.qA _ (oC (a.lt hb)) _ h;exact⟨h1.1,h1.2,.inr ⟨b,by rw[AY,V.gv.at (a.lt hb) h],hb,.JE⟩⟩
theorem agv(V:Vd g)(a:cX g come os){b:Nat}(hb:come.getD b false=true){x:Int}(h:x∈pK g b):yU g come os b x:=by
 have c:=Qr V (a.lt hb) x h;unfold pK at h;split at h;·obtain⟨v,d,rfl⟩:=akk.1 h;rw[ak3]at d;exact⟨c.1,c.2,.inl af⟩
 exact QI V a hb (J4 h)
theorem QJ(V:Vd g)(d:cX g come os)(f:e9 g come os ak)(e:gP g come os lv){C:Int->Prop}(c:C∈gY g os lv ak):∃b,come.getD b false=true/\∀x,C x->yU g come os b x:=by
 obtain⟨b,hb,c⟩:=akZ.1 c;have a:=(f.mem b).1 hb;refine⟨b,a,λx h=>?_⟩;have j:=agu V d f e a;simp only[rC,ahp,aeV,akZ,ak3,sI,aki,or_false]at c;rcases c with(rfl|⟨i,hi,rfl|rfl⟩)|rfl;·exact h.elim (agv V d a) (j _ (afb _) x)
 .grind
 .refine h.elim (λ⟨h1,h2⟩=>?_) (j _ aB x);rw[bF hi]at h1;subst h1;exact QI V d a (JZ hi h2)
 grind
theorem C7(V:Vd g)(d:cX g come os)(e:e9 g come os ak)(a:gP g come os lv){C:Int->Prop}(f:C∈gY g os lv ak):Fp g C:=λx c=>by obtain⟨b,_,h⟩:=QJ V d e a f;exact⟨(h x c).1,(h x c).2.1⟩
end
end
section
def QK(l:List Int)(k:Nat)(args:List AV)(b:List Th):Prop:=b=[]/\∃e:k<l.length,args=[aI l[k]]
def gB(g:G.bu)(b:Nat):List Int:=(dC (aH g b)).map alO
def pL(g:G.bu):List Int:=(ake g.params.toNat).map λ(v:Nat)=>(v:Int)
def eY(g:G.bu)(ak:List Nat):List Int:=pL g++ak.flatMap (gB g)
theorem QL(g:G.bu)(b:Nat):gB g b=(aH g b).params++(ja (aH g b).aD 0).map alO:=by simp[gB,dC,Function.comp_def]
section
variable{A H:ai}{us ts X:List Th}{a:ab}{y sv:AV}{J:Nat->List Th->Prop}{D:List Th->Prop}{l cO la post:List Int}
theorem QM(T:Tb ac)(s:y.bB=true)(i:Body ac A y l.length (QK l) J D)(hl:l=cO++(la++post))(n:∀{H ts},aj A H (tB tz a [y]::X++ts++us)->fZ H la sv)(r:la.length<=1000000)(j:J cO.length ts)(U:aj A H (tB tz a [y]::X++ts++us)){K:KT}(p:∀H' b t,aj A H' (tB tz a [y]::X++b++us)->(t=true/\J (cO.length+la.length) b\/t=false/\D b)->K (.bool t) H'):YF ac (.func W7 [] [.az a 0]) [sv] H K:=by
 have⟨hd,_,_,_⟩:=(n U).all;refine YF.code T.abZ aB ?_;refine au ?_;refine RO.cl (Jx T (us:=us) (ts:=tB tz a [y]::X++ts) (J:=λk b=>∃t0,b=tB tz a [y]::X++t0/\J (cO.length+k) t0) (D:=λb=>∃t0,b=tB tz a [y]::X++t0/\D t0) (λ⟨_,e,_⟩x=>n (e▸x)) r rfl ?_ ⟨ts,rfl,j⟩ U λH' b t U g=>?_)
 .rintro k _ u H x⟨t0,rfl,j⟩U;have q:cO.length+k<l.length:=by rw[hl];simp;omega
  have he:l[cO.length+k]=la[k]:=by subst hl;simp[List.getElem_append_left x]
  refine YF.code T.ab0 aB ?_;refine ah ?_;refine RO.cl ((i _ [aI la[k]] [] t0 _ _ q ⟨rfl,q,by rw[he]⟩ j (aj.gF U)).mono ?_);rintro v w⟨b,U,g⟩;have U:=aj.kO U;rcases g with⟨rfl,x⟩|⟨rfl,x⟩;·refine ah ?_;exact Ru.aV ⟨_,U,.inl ⟨rfl,b,rfl,x⟩⟩
  refine ah ?_;exact Ru.aV ⟨_,U,.inr ⟨rfl,b,rfl,x⟩⟩
 rcases g with⟨rfl,t0,rfl,x⟩|⟨rfl,t0,rfl,x⟩;·refine ah ?_;exact Ru.aV (p _ t0 true U (.inl ⟨rfl,x⟩))
 refine ah ?_;exact Ru.aV (p _ t0 false U (.inr ⟨rfl,x⟩))
end
section
variable{g:G.bu}{f h av m:AV}{c d:ab}{A H:ai}{o:List AV}{come:List Bool}{os:List (List bV)}{ak:List Nat}{lv:List (List Int)}
theorem QN(T:Tb ac){K:KT}(b:∀H' q,aj H H' [tB iH q [.az c 0]]->K (.func Ey [] [.az q 0]) H'):YN ac WQ [.az c 0] H K:=by refine YF.code T.abF aB ?_;refine au ?_;refine RO.dL (aj.dc H) λH1 q U=>?_;refine ah ?_;exact Ru.aV (b _ _ U)
theorem QO(T:Tb ac)(V:Vd g)(z:FX g A c f h av m o come os ak lv)(hK:cX g come os)(hO:e9 g come os ak):yI ac A (.func Ey [] [.az d 0]) (eY g ak).length (QK (eY g ak)) [tB iH d [.az c 0]] (λ_=>True) (λ_=>True):=by
 intro y J D ts us H K N ax O b' e l U hR p;have hB:=V.sm;have ca:=hB.nb;have B:=z.ro.lt;have P:=z.ro.aH;have ay:=z.c4;have⟨cd,_,_,_⟩:=z.bl.all;have⟨cf,cn,cp,cv⟩:=z.od.all;have cx:ak.length<=g.al.length:=vB _ _ hO.nd λx hx=>hK.lt ((hO.mem x).1 hx);have cy:=V.fm.fv.h2;have cE:=V.fm.fv.h0;have c8:=V.fm.fv.h1;obtain⟨F,Q⟩:∃n:Nat,g.params=(n:Int):=⟨g.params.toNat,af⟩;have G:pL g=(ake F).map λ(v:Nat)=>(v:Int):=by rw[pL,Q,aj3]
 refine YF.code T.abY aB ?_;refine ah ?_;refine RO.dL U (λH1 a U=>?_) (ho:=by rw[O];exact ao ax rfl);rw[O]at U;refine ah ?_;refine RO.cl (Qo T (n:=F) af (by rw[U.gr.bh B,z.c1,Q];rfl) λH4 pv a1=>?_);have U:=(U.fC a1).cM (.swap ..);have R:∀{H ts},aj A H (tB tz a [y]::[tS 3 1 ((ake F).map aN) F true pv,tB iH d [.az c 0]]++ts++us)->fZ H (pL g) pv:=λd1=>by
  have h9:=d1.sl (e:=3) (size:=1) (sv:=pv) (vs:=(ake F).map aN) (n:=F) (full:=true) 1;have e2:(pL g).map aI=(ake F).map aN:=by rw[G,alx];rfl
  unfold fZ;rw[e2,G,akg,List.length_range];exact h9
 have⟨bv,_,_,_⟩:=(R U).all;refine ah ?_;refine RO.cl (QM T N e (cO:=[]) rfl R (by rw[G];simp;omega) l U λH5 ts t U hc=>?_);rcases hc with⟨rfl,l⟩|⟨rfl,hD⟩;rotate_left;·refine ah ?_;exact Ru.mD (vs:=[]) trivial (p _ ts _ U.tail.tail.tail (.inr hD))
 have U:aj A H5 (tB tz a [y]::tB iH d [.az c 0]::(ts++us)):=U.sub (.cons_cons _ (.cons _ (akL _)));refine ah ?_;refine RO.aW ?_ (v:=h) (hc:=by rw[U.gr.bh B];exact ay);refine ah ?_;refine Ru.nm λS0 M hS hM=>?_;refine Ru.cC hM (up (P:=λk=>∀E ts,J (pL g++(ak.take k).flatMap (gB g)).length ts->aj A E (tB tz a [y]::tB iH d [.az c 0]::(ts++us))->Ru ac _ S0 ([(bJ,aN k)]++pk M [p0,p1,p2,p3,aZ,br]) E) ak.length (λk hk ih E ts l U=>?_) 0 af _ ts (by simpa using l) U);subst hS;subst hM;refine Ru.loop ?_;refine au ?_;refine Ru.cond (λq=>?_) (λq=>?_)
 .have a2:=(hO.mem _).1 (agB q);have S:ak.take (k+1)=ak.take k++[ak[k]]:=(akd q).symm;have ih:=ih (k+1) af af;rw[S,akD,akK,<-aj2]at ih;have hl:eY g ak=(pL g++(ak.take k).flatMap (gB g))++(gB g ak[k]++(ak.drop (k+1)).flatMap (gB g)):=by conv=>lhs;rw[eY,<-ala k ak,aj9 q,akD,alp,<-aj2]
  clear S;refine ah ?_;refine RO.lg U.gr z.od (λq5 o5 c' dm=>?_) (j:=k);generalize pL g++(ak.take k).flatMap (gB g)=cO at*;generalize(ak.drop (k+1)).flatMap (gB g)=post at*;generalize ak[k]=b at*;have W:=hK.lt a2;have X:=oC W;have dr:=hB.bl _ X;have eh:=hB.st _ X;have Y:g.al[b]=aH g b:=(bF W _).symm;have aw:∀j(d1:j<(dC (aH g b)).length),∃h':cO.length+j<(eY g ak).length,(eY g ak)[cO.length+j]=(dC (aH g b))[j].1:=λj d1=>by rw[hl];exact⟨by rw[aj8,aj8,gB,akg];omega,by rw[List.getElem_append_right af];simp only[Nat.add_sub_cancel_left];rw[List.getElem_append_left (by rw[gB,akg];exact d1)];simp only[gB,akN]⟩
  refine ah ?_;refine RO.aW ?_ (v:=f) (hc:=by rw[U.gr.bh B];exact P);refine ah ?_;refine RO.cZ U.gr z.bl (λq9 o9 c9 a6 s a8 hat hrd=>?_) (j:=b);rw[Y]at s;obtain⟨vp,a',jc,rfl,I,L,_⟩:=s;have⟨ds,_,_,_⟩:=I.all;refine ah ?_;refine RO.cl (QM T N e (X:=[tB iH d [.az c 0]]) (cO:=cO) (la:=(aH g b).params) (post:=(ja (aH g b).aD 0).map alO++post) (by rw[hl,QL,aj2]) (λd1=>d1.gr.sl I) af l U λH5 ts t U hc=>?_);rcases hc with⟨rfl,l⟩|⟨rfl,hD⟩;rotate_left;·refine ah ?_;exact Ru.mD (vs:=[]) trivial (p _ ts _ U.tail.tail (.inr hD))
  refine ah ?_;refine RO.aW ?_ (v:=f) (hc:=by rw[U.gr.bh B];exact P);refine ah ?_;refine RO.cZ U.gr z.bl (λq9 o9 c9 a6 s a8 hat hrd=>?_) (j:=b);rw[Y]at s;obtain⟨vp,a',jc,rfl,I,L,_⟩:=s;have⟨dv,_,_,b0⟩:=L.all;refine ah ?_;refine Ru.nm λS1 M1 ba Z=>?_;refine Ru.cC Z (up (P:=λi=>∀E ts,J (cO.length+((aH g b).params.length+(ja ((aH g b).aD.take i) 0).length)) ts->aj A E (tB tz a [y]::tB iH d [.az c 0]::(ts++us))->Ru ac _ S1 ([(dA,aN i)]++pk M1 [p0,p1,p2,p3,aZ,br,bJ,dj,dq]) E) (aH g b).aD.length (λi hi r E ts l U=>?_) 0 af _ ts l U);subst ba;subst Z;refine Ru.loop ?_;refine au ?_;refine Ru.cond (λu=>?_) (λu=>?_)
  .have r:=r (i+1) af af;refine ah ?_;refine RO.cZ U.gr L (λdx dy dz b3 w b4 hat hrd=>?_) (j:=i);have b5:=w.one;obtain⟨d0,rfl,b6⟩:=w;refine ah ?_;refine RO.gI U λH7 q9 U=>?_;refine ah ?_;refine RO.iT U 0 (λH8 U=>?_);refine ah ?_;by_cases C:(aH g b).aD[i].to= -1;·refine RO.de (λd1=>absurd C d1) (λ_=>?_);refine ah ?_;rw[Pt _ u C]at r;exact Ru.wk (r _ ts l U.tail)
   obtain⟨bb,he,bc⟩:=Jv _ u C;obtain⟨ag,bd⟩:=aw _ bb;refine RO.de (λ_=>?_) (λd1=>absurd C d1);refine ah ?_;refine RO.cl ((e _ [aI (aH g b).aD[i].to] [] ts _ _ ag ⟨rfl,ag,by rw[bd,he]⟩ l (aj.gF (xs:=[_,_,_]) U)).mono ?_);rintro v H3⟨ar,U,hc⟩;rcases hc with⟨rfl,d1⟩|⟨rfl,d1⟩;·refine ah ?_;rw[bc]at r;exact Ru.wk (r _ ar d1 (aj.kO (xs:=[_,_,_]) U).tail)
   refine ah ?_;exact Ru.mD (vs:=[]) trivial (p _ ar _ (aj.kO (xs:=[_,_,_]) U).tail.tail.tail (.inr d1))
  refine Ru.exitTo ?_;obtain rfl:i=(aH g b).aD.length:=af;refine ah ?_;refine Ru.wk (ih _ ts ?_ U);rw[ak7]at l;simpa[QL]using l
 refine Ru.exitTo ?_;rw[akl af]at l;refine ah ?_;exact Ru.aA (vs:=[]) trivial (p E ts _ U.tail.tail (.inl l))
end
end
section
def ng(a:List (Int->Prop))(v w:Int):Prop:=∃C∈a,C v/\C w/\w≠v
theorem ng.symm{a:List (Int->Prop)}{v w:Int}:ng a v w->ng a w v:=λ⟨C,h,h1,h2,h3⟩=>⟨C,h,h2,h1,h3.symm⟩
inductive rD(np:Int)(CL:List (Int->Prop))(n:Nat):List Int->List Int->Prop
 |nil:rD np CL n [] (ahr n (-1))
 |wY{h R:List Int}{v r:Int}:rD np CL n h R->(v<np->r=v)->(¬v<np->0<=r/\(∀w,ng CL v w->R.getD w.toNat 0≠r)/\∀k:Nat,(k:Int)<r->∃w,ng CL v w/\R.getD w.toNat 0=k)->rD np CL n (h++[v]) (R.set v.toNat r)
theorem rD.len{a:Int}{b:List (Int->Prop)}{n:Nat}{h R:List Int}(c:rD a b n h R):R.length=n:=by induction c with|nil=>simp|wY _ _ _ d=>simpa using d
theorem QP{R:List Int}{m:Nat}(h:∀k:Nat,k<m->(k:Int)∈R):m<=R.length:=by have:=vB R.length ((ake m).map λk:Nat=>R.idxOf (k:Int)) (List.pairwise_map.2 (List.nodup_range.imp_of_mem λ{a b}d hb c e=>c (by have h1:=List.getElem_idxOf (List.idxOf_lt_length_of_mem (h a (ak3.1 d)));have h2:=List.getElem_idxOf (List.idxOf_lt_length_of_mem (h b (ak3.1 hb)));simp only[e]at h1;omega))) (λx f=>by obtain⟨k,g,rfl⟩:=akk.1 f;exact List.idxOf_lt_length_of_mem (h k (ak3.1 g)));simpa using this
theorem QQ{R:List Int}{w:Int}(h0:0<=w)(h1:w<R.length):R.getD w.toNat 0∈R:=by rw[bF af];exact agB _
section
variable{g:G.bu}{come:List Bool}{os:List (List bV)}{ak:List Nat}{lv:List (List Int)}
theorem C8{x:Int}:x∈pL g↔0<=x/\x<g.params:=by
 simp only[pL,akk,ak3];constructor;·rintro⟨a,h,rfl⟩;omega
 intro h;exact⟨x.toNat,af,af⟩
theorem C9{b:Nat}{x:Int}:x∈gB g b↔∃p,(x,p)∈dC (aH g b):=by simp[gB]
theorem QR:∀{l:List G.ic}{i:Nat}{x p:Int},(x,p)∈ja l i->∃(j:Nat)(hj:j<l.length),p=i+j/\l[j].to≠ -1/\l[j].to=x
 |[],_,_,_,h=>by cases h
 |s::l,i,x,p,h=>by
  simp only[ja,ahp]at h;rcases h with h|h
  .split at h;·cases h
   rename_i a;simp only[aep,aj1]at h;exact⟨0,aB,af,a,h.1.symm⟩
  obtain⟨j,hj,h0,h1⟩:=QR h;exact⟨j+1,by simpa using hj,af,by simpa using h1⟩
theorem y7{x:Int}:x∈eY g ak↔(0<=x/\x<g.params)\/∃b∈ak,∃p,(x,p)∈dC (aH g b):=by simp only[eY,ahp,C8,akZ,C9]
theorem Fx(V:Vd g)(a:cX g come os)(c:e9 g come os ak){x:Int}(h:x∈eY g ak):0<=x/\x<g.bp:=by
 have:=V.fm.fv.h1;rcases y7.1 h with h|⟨b,hb,p,d⟩;·omega
 exact V.qA _ (oC (a.lt ((c.mem b).1 hb))) _ d
theorem agw(V:Vd g)(k:cX g come os)(j:e9 g come os ak):(eY g ak).Nodup:=by
 have hb:∀b∈ak,b<g.al.length:=λb h=>k.lt ((j.mem b).1 h);refine akI.2 ⟨List.pairwise_map.2 (List.nodup_range.imp λh e=>h af),List.pairwise_flatMap.2 ⟨λb h=>V.gv.nd _ (oC (hb b h)),?_⟩,λx c y d e=>?_⟩;·refine List.Pairwise.imp_of_mem (λ{a b}l f i x c y d e=>?_) j.nd;subst e;obtain⟨p,h1⟩:=C9.1 c;obtain⟨q,h2⟩:=C9.1 d;exact i (V.gv.one a b (hb a l) (hb b f) _ _ _ h1 h2)
 subst e;obtain⟨b,h1,h2⟩:=akZ.1 d;obtain⟨p,h2⟩:=C9.1 h2;have:=(V.gv.qA _ (oC (hb b h1)) _ h2).1;have:=(C8.1 c).2;simp only at*;omega
theorem agx(V:Vd g)(d:cX g come os)(e:e9 g come os ak){x:Int}(h:x∈eY g ak):∃C∈gY g os lv ak,C x:=by
 have key:∀b∈ak,∀C∈rC g os lv b,C x->∃C∈gY g os lv ak,C x:=λb hb C f j=>⟨C,akZ.2 ⟨b,hb,f⟩,j⟩;rcases y7.1 h with h|⟨b,hb,p,a⟩;·refine key 0 ((e.mem 0).2 d.c0) (rB g os lv 0) (by simp[rC]) (.inl ?_);rw[pK,aK rfl];exact C8.2 h
 simp only[dC,ahp,akk,aj1]at a;rcases a with⟨y,c,rfl,_⟩|a
 .refine key b hb (rB g os lv b) (by simp[rC]) (.inl ?_);rw[pK,aq];·exact c
  rintro rfl;rw[aH,V.fm.first]at c;cases c
 obtain⟨i,hi,_,k,he⟩:=QR a;refine key b hb (λx=>x=((aH g b).aD.getD i default).to/\x≠ -1\/eK g os lv b ((aH g b).aD.length - (i+1)) x) ?_ (.inl ⟨by rw[bF hi,he],by rw[<-he];exact k⟩);simp only[rC,ahp,aeV,akZ,ak3];exact .inl (.inr ⟨i,hi,by simp[sI]⟩)
theorem QS(V:Vd g)(f:cX g come os)(c:e9 g come os ak)(a:gP g come os lv){C:Int->Prop}(j:C∈gY g os lv ak){x:Int}(k:C x):x∈eY g ak:=by
 obtain⟨b,_,h⟩:=QJ V f c a j;obtain⟨h0,h1,h2⟩:=h x k;by_cases d:x<g.params;·exact y7.2 (.inl ⟨h0,d⟩)
 obtain⟨s,e,hs,_⟩:=h2.resolve_left d;obtain⟨i,p,hi,l,he⟩:=V.gv.kq af h1;rw[AY,he]at e;obtain rfl:i=s:=Int.ofNat.inj e;exact y7.2 (.inr ⟨i,(c.mem i).2 hs,p,l⟩)
theorem ng.QT(V:Vd g)(b:cX g come os)(c:e9 g come os ak)(a:gP g come os lv){v w:Int}:ng (gY g os lv ak) v w->v∈eY g ak/\w∈eY g ak:=λ⟨_,d,h1,h2,_⟩=>⟨QS V b c a d h1,QS V b c a d h2⟩
structure Kk(np:Int)(CL:List (Int->Prop))(n:Nat)(h R:List Int):Prop where
 len:R.length=n
 no:∀v:Int,0<=v->v<n->v∉h->R.getD v.toNat 0= -1
 is:∀v∈h,0<=R.getD v.toNat 0/\R.getD v.toNat 0<=n
 aM:∀v∈h,v<np->R.getD v.toNat 0=v
 mC:∀v∈h,∀w∈h,ng CL v w->R.getD v.toNat 0≠R.getD w.toNat 0
theorem rD.right{m:Int}{y:List (Int->Prop)}{n:Nat}{h R:List Int}(o:rD m y n h R):h.Nodup->(∀x∈h,0<=x/\x<n)->(∀v w,ng y v w->0<=w/\w<n)->h.Pairwise (λa b=>b<m->a<m)->Kk m y n h R:=by
 induction o with
 |nil=>intro _ _ _ _;exact⟨aB,λv h0 h1 _=>by rw[bF (by simp;omega)];simp,aB,aB,aB⟩
 | @wY h R v r o h1 h2 j=>
  intro B z p C;obtain⟨q,_,s⟩:=akI.1 B;obtain⟨t,_,u⟩:=List.pairwise_append.1 C;have j:=j q (λx A=>z x (akf _ A)) p t;have I:=z v aB;have D:v∉h:=λA=>s v A v aB rfl;have hl:=j.len;have d:∀w∈h,(R.set v.toNat r).getD w.toNat 0=R.getD w.toNat 0:=λw c=>by rw[fu af,aq];intro e;have:=z w (akf _ c);exact D (by rwa[show v=w by omega])
  have hat:(R.set v.toNat r).getD v.toNat 0=r:=by rw[fu af,aK rfl]
  have E:0<=r/\r<=n:=by
   by_cases i:v<m;·rw[h1 i];omega
   obtain⟨G,J,H⟩:=h2 i;refine⟨G,?_⟩;have:=QP (R:=R) (m:=r.toNat) λk K=>by obtain⟨w,c,e⟩:=H k af;have:=p _ _ c;rw[<-e];exact QQ this.1 af
   omega
  have l:∀w∈h,ng y v w->r≠R.getD w.toNat 0:=λw c o=>by
   by_cases i:v<m;·rw[j.aM w c (u w c v aB i),h1 i];obtain⟨_,_,_,_,h⟩:=o;exact h.symm
   exact((h2 i).2.1 w o).symm
  refine⟨by simpa using hl,λw h0 h1 F=>?_,λw c=>?_,λw c i=>?_,λa g b hb f=>?_⟩;·rw[ahp,aep,not_or]at F;rw[fu af,aq af];exact j.no w h0 h1 F.1
  .rcases ahp.1 c with c|c;·rw[d w c];exact j.is w c
   rw[aep]at c;rw[c,hat];exact E
  .rcases ahp.1 c with c|c;·rw[d w c];exact j.aM w c i
   rw[aep]at c;rw[c]at i⊢;rw[hat];exact h1 i
  rcases ahp.1 g with g|g<;>rcases ahp.1 hb with hb|hb;·rw[d a g,d b hb];exact j.mC a g b hb f
  .rw[aep]at hb;rw[hb]at f⊢;rw[d a g,hat];exact(l a g f.symm).symm
  .rw[aep]at g;rw[g]at f⊢;rw[d b hb,hat];exact l b hb f
  rw[aep]at g hb;obtain⟨_,_,_,_,h⟩:=f;exact absurd (hb.trans g.symm) h
theorem agy(V:Vd g)(e:cX g come os)(f:e9 g come os ak):(eY g ak).Pairwise (λa b=>b<g.params->a<g.params):=by refine List.pairwise_append.2 ⟨List.Pairwise.imp_of_mem (R:=λ_ _=>True) (λd _ _ _=>(C8.1 d).2) (List.pairwise_of_forall λ_ _=>trivial),?_,λa d _ _ _=>(C8.1 d).2⟩;refine List.Pairwise.imp_of_mem (R:=λ_ _=>True) (λ{a b}_ hb _ h=>?_) (List.pairwise_of_forall λ_ _=>trivial);obtain⟨c,h1,h2⟩:=akZ.1 hb;obtain⟨p,h2⟩:=C9.1 h2;have:=(V.gv.qA _ (oC (e.lt ((f.mem c).1 h1))) _ h2).1;simp only at*;omega
end
end
section
theorem QU{H:ai}{s:AV}:∀{ks:List Int},(∀k∈ks,∃r,l6 H s k=some (.int 3 r))->∃e,uO H s ks=some e|[],_=>⟨[],rfl⟩|k::ks,f=>by obtain⟨r,h1⟩:=f k (aeU ..);obtain⟨e,h2⟩:=QU (s:=s) λj hj=>f j (aey _ hj);exact⟨r::e,by simp only[uO,h1,h2]⟩
def vH(b g f:ab)(a:ab)(n:Nat)(D:Nat->Bool)(e:Nat->ab)(S:Nat->Int->Prop):List Th:=tB iH b [.az a 0]::tB oU g [.slice f 0 n n true]::tB eT f (iw n D e)::gQ n D e S
theorem agz{A H:ai}{N b r s g m a:ab}{us:List Th}{n k:Nat}{D:Nat->Bool}{ids:Nat->ab}{S:Nat->Int->Prop}{R:List Int}{ex:Bool}(U:aj A H (tM ex N (λ_=>False)::tB eH s [.slice g 0 n n true]::tS 3 1 (R.map aI) n true (.slice g 0 n n true)::(vH b r m a n D ids S++us)))(z:k<n)(hd:D k=true)(O:∀x,S k x->0<=x/\x<n)(Y:R.length=n):∃H',(∀aa:ap AV,aa.get .alR (sl 3)=.az r 0->aa.get .alR (sl 5)=aN k->aa.get .alR (sl 4)=.az s 0->aa.get .alR (sl 6)=.map N->xM aa H=some (kL aa zX,H'))/\aj A H' (tM false N (λx=>∃w,S k w/\R.getD w.toNat 0=x)::tB eH s [.slice g 0 n n true]::tS 3 1 (R.map aI) n true (.slice g 0 n n true)::(vH b r m a n D ids S++us)):=by
 have hat:(tM ex N (λ_=>False)::tB eH s [.slice g 0 n n true]::tS 3 1 (R.map aI) n true (.slice g 0 n n true)::(vH b r m a n D ids S++us))[6+k]?=some (tM false (ids k) (S k)):=by have:=rr (xs:=[tM ex N (λ_=>False),tB eH s [.slice g 0 n n true],tS 3 1 (R.map aI) n true (.slice g 0 n n true),tB iH b [.az a 0],tB oU r [.slice m 0 n n true],tB eT m (iw n D ids)]) (m:=us) (Fv (D:=D) (ids:=ids) (S:=S) z);rw[hd]at this;exact this
 obtain⟨⟨ks,C,l⟩,_,_⟩:=U.nf _ hat;obtain⟨⟨t0,E,F⟩,_,G⟩:=U.nf 0 rfl;obtain rfl:t0=[]:=List.eq_nil_iff_forall_not_mem.2 λx t=>(F x).1 t;have P:=(yV C).2;have Q:=(yV E).1;have I:ids k≠N:=U.ne _ 0 hat rfl af (λf ag=>ag.1) (λf ag=>ag.1);have J:bh H r 0=some (.slice m 0 n n true):=by obtain⟨_,p⟩:=U.get 4 rfl;exact tB.cell p rfl
 have K:bh H s 0=some (.slice g 0 n n true):=by obtain⟨_,p⟩:=U.get 1 rfl;exact tB.cell p rfl
 have L:bh H m (0+k)=some (.map (ids k)):=by obtain⟨_,p⟩:=U.get 5 rfl;exact tB.cell p (by simp[iw,aks,List.getElem?_range z,jJ,hd])
 have M:=U.sl (e:=3) (size:=1) (sv:=.slice g 0 n n true) (vs:=R.map aI) (n:=n) (full:=true) 2;have q:∀x,S k x->l6 H (.slice g 0 n n true) x=some (.int 3 (R.getD x.toNat 0)):=λx t=>by obtain⟨h0,h1⟩:=O x t;have:=JG (j:=x.toNat) (v:=aI (R.getD x.toNat 0)) M af (by rw[bF (by simp;omega),bF af];simp);rw[<-this];congr 1;simp only[aj5];omega
 obtain⟨B,v⟩:=QU (s:=.slice g 0 n n true) (H:=H) (ks:=ks) λx t=>⟨_,q x ((l x).1 t)⟩;have y:=U.uh (H':=H.set N (.dI (eG (gT B [])))) (q:=N) 0 rfl (t':=tM false N λx=>∃w,S k w/\R.getD w.toNat 0=x) rfl (λi hi=>by rw[ai.aF,aq hi]) (λZ p=>p.1) ⟨aep.2 rfl,λj hj=>aep.1 hj,⟨_,by rw[ai.aF,aK rfl];exact wc (qK B alD),λx=>?_⟩,(λag=>by cases ag),G⟩;·refine⟨(H.set N (.dI (eG (gT B [])))).skip,λaa T V W X=>?_,y.cI ⟨by show _<=(ab.succ _).an;rw[ab.gK];omega,λj _=>rfl⟩⟩;unfold xM;rw[T,V,W,X];simp only[pq,J,K,l6,alN akY z,bq,L,wU I,aes,bP,P,Q,v]
 rw[oQ,Hy v];simp only[aki,or_false];constructor;·rintro⟨w,u,e⟩;rw[q w ((l w).1 u)]at e;injection e with e;injection e with _ e;exact⟨w,(l w).1 u,e⟩
 rintro⟨w,u,rfl⟩;exact⟨w,(l w).2 u,q w u⟩
section
variable{g:G.bu}{c d av h:AV}{a b:ab}{A H:ai}{o:List AV}{come:List Bool}{os:List (List bV)}{ak:List Nat}{lv:List (List Int)}
theorem agA(T:Tb ac)(V:Vd g)(G:FX g A a c d av h o come os ak lv)(H:cX g come os)(I:e9 g come os ak)(L:gP g come os lv){n:Nat}(hn:g.bp=n){K:KT}(ba:∀H' R v,rD g.params (gY g os lv ak) n (eY g ak) R->bm A H'->fZ H' R v->K v H'):YN ac WA [.az a 0] A K:=by
 have O:=G.ro.lt;have P:=G.c2;have ag:=G.c1;rw[hn]at P;have a6:=V.fm.fv.h2;have ar:=λ{x}=>Fx (x:=x) V H I;have aw:=λ{x}=>agx (x:=x) (lv:=lv) V H I;refine YF.code T.abm aB ?_;refine ah ?_;refine RO.dL (aj.dc A) λH1 b U=>?_;refine ah ?_;refine RO.cl (Ki T V (G.cI U.gr) H I L hn λH2 y D f S Q hl=>?_);have U:=(U.fC hl).cM akH;refine ah ?_;refine RO.fx U λH3 z U=>?_;refine ah ?_;refine RO.lf U 1 (ws:=[aI (-1)]) (n:=1) (λH4 qb U=>?_);refine ah ?_;refine RO.aW ?_ (v:=aN n) (hc:=by rw[U.gr.bh O];exact P);refine ah ?_;refine RO.cl (Pn T (u:=aI (-1)) (n:=n) rfl (U.sl 0) af λH5 i hl=>?_);have U:=U.fC hl;refine ah ?_;refine RO.fx U λH6 s U=>?_;refine ah ?_;refine RO.cl (QN T λH7 q6 hl=>?_);have U:=U.fC hl;refine ah ?_;have U:aj A H7 ([tB iH q6 [.az a 0]]++(tB eH s [.slice i 0 n n true]::tS 3 1 ((ahr n (-1)).map aI) n true (.slice i 0 n n true)::vH b z y a n D f S)++[]):=by have e:ahr (n*1) (aI (-1))=(ahr n (-1)).map aI:=aB;rw[e]at U;have h9:=U.sub (us:=tB iH q6 [.az a 0]::tB eH s [.slice i 0 n n true]::tS 3 1 ((ahr n (-1)).map aI) n true (.slice i 0 n n true)::tB oU z [.slice y 0 n n true]::tB iH b [.az a 0]::tB eT y (iw n D f)::gQ n D f S) (.cons_cons _ (.cons_cons _ (.cons_cons _ (.cons _ (akL _)))));rw[akT];exact h9.cM (.cons _ (.cons _ (.cons _ (.swap ..))))
 refine Ru.wk (L:=[(bJ,.func Ey [] [.az q6 0]),(p1,.az b 0),(p3,.az z 0),(p4,.az s 0)]) ?_;refine Ru.pG (J:=λm ts=>∃R,rD g.params (gY g os lv ak) n ((eY g ak).take m) R/\ts=tB eH s [.slice i 0 n n true]::tS 3 1 (R.map aI) n true (.slice i 0 n n true)::vH b z y a n D f S) (Dn:=λ_ _=>False) U (QO T V G H I) (λ_ _=>trivial) ⟨_,.nil,rfl⟩ (λk args ws ba=>by obtain⟨_,_,rfl⟩:=ba;rfl) (λ_ _ _ _ _ _=>trivial) (λm args ws ts us l o1 o2 H' hm ax hJ U=>?_) (λH' ay dm hJ U=>?_) (λj H' ay dm _ ba=>ba.elim)
 .obtain⟨rfl,_,rfl⟩:=ax;obtain⟨R,p,rfl⟩:=hJ;have q:=p.len;have hx:=ar (agB hm);have a1:=aw (agB hm);have W:(eY g ak).take (m+1)=(eY g ak).take m++[(eY g ak)[m]]:=(akd hm).symm;rw[W];clear W;generalize(eY g ak)[m]=x at*;obtain⟨k,rfl⟩:∃k:Nat,x=k:=⟨x.toNat,af⟩;have B:k<n:=af;refine ah ?_;refine Ru.dN (xs:=tB eH s [.slice i 0 n n true]::tS 3 1 (R.map aI) n true (.slice i 0 n n true)::vH b z y a n D f S) U λH8 U=>?_;have U:aj A H8 (tB eH s [.slice i 0 n n true]::tS 3 1 (R.map aI) n true (.slice i 0 n n true)::(vH b z y a n D f S++tX l o2::us)):=U;refine ah ?_;refine RO.aW ?_ (v:=aI g.params) (hc:=by rw[U.gr.bh O];exact ag);refine ah ?_;refine Ru.cond (λE=>?_) (λE=>?_);·refine ah ?_;refine RO.lC U 1 (k:Int) q (λH9 U=>?_);refine ah ?_;refine Ru.exitTo ?_;refine Ru.bG (ts:=tB eH s [.slice i 0 n n true]::tS 3 1 ((R.set k (k:Int)).map aI) n true (.slice i 0 n n true)::vH b z y a n D f S) U ⟨_,p.wY (v:=(k:Int)) (r:=k) (λ_=>rfl) (λba=>absurd E ba),rfl⟩
  have a2:D k=true:=(Q.1 k B).2 a1;have F:=Q.2 k B;have X:∀x,S k x->0<=x/\x<n:=λx hx=>by obtain⟨C,hC,_,h1,_⟩:=(F x).1 hx;have:=C7 V H I L hC x h1;omega
  refine ah ?_;refine RO.Ff U λH9 N U=>?_;obtain⟨Y,hg,U⟩:=agz U B a2 X q;refine ah ?_;refine Ru.ez (cQ:=zX) (H':=Y) T.adk (M:=[(p4,.az s 0),(p5,aN k),(p6,.map N)]) (λaa u=>hg aa (u.get (p:=sl 3) rfl rfl) (u.get (p:=sl 5) rfl rfl) (u.get (p:=sl 4) rfl rfl) (u.get (p:=sl 6) rfl rfl)) ?_;refine ah ?_;refine Ru.nm λS0 M hS hM=>?_;refine Ru.cC hM (up (P:=λr=>(∀j,j<r->∃w,S k w/\R.getD w.toNat 0=(j:Int))->Ru ac _ S0 ([(p8,aN r)]++pk M [p4,p5,p6]) Y) n (λr a8 ih hT=>?_) 0 af (λj hj=>by omega));subst hS;subst hM;refine Ru.loop ?_;refine ah ?_;refine RO.CU U 0 (z:=r) λt ht=>?_;refine ah ?_;refine Ru.kN (λh1=>?_) (λh1=>?_)
  .have Z:∀j,j<r+1->∃w,S k w/\R.getD w.toNat 0=(j:Int):=λj hj=>by
    by_cases e:j=r;·rw[e];exact ht.1 h1
    exact hT j af
   have hp:=QP (R:=R) (m:=r+1) λj hj=>by obtain⟨w,J,e⟩:=Z j hj;have:=X w J;rw[<-e];exact QQ this.1 af
   refine ah ?_;exact Ru.wk (ih (r+1) af af Z)
  refine Ru.exitTo ?_;refine ah ?_;have U:=U.tail;refine RO.lC U 1 (r:Int) q (λa' U=>?_) (k:=k);refine ah ?_;refine Ru.bG (ts:=tB eH s [.slice i 0 n n true]::tS 3 1 ((R.set k (r:Int)).map aI) n true (.slice i 0 n n true)::vH b z y a n D f S) U ⟨_,p.wY (v:=(k:Int)) (r:=r) (λba=>absurd ba E) (λ_=>⟨af,λw J e=>?_,λj hj=>?_⟩),rfl⟩;·have:=ht.2 ⟨w,(F w).2 J,e⟩;rw[h1]at this;cases this
  obtain⟨w,J,e⟩:=hT j af;exact⟨w,(F w).1 J,e⟩
 obtain⟨R,p,rfl⟩:=hJ;rw[ak7]at p;have q:=p.len;refine ah ?_;refine Ru.mI (M:=[dm]) (U.cM akj) λH' U=>⟨[.slice i 0 n n true],⟨rfl,rfl,trivial⟩,ba H' R _ p U.gr ?_⟩;have:=U.sl (e:=3) (size:=1) (sv:=.slice i 0 n n true) (vs:=R.map aI) (n:=n) (full:=true) 1;unfold fZ;rw[q];exact this
end
end
section
structure QV(CL:List (Int->Prop))(n:Nat)(cl:List (List Int)):Prop where
 len:cl.length=n
 asc:∀j,j<n->(cl.getD j []).Pairwise (·<·)
 mem:∀j,j<n->∀x,x∈cl.getD j []↔∃C∈CL,C j/\C x/\x≠j
theorem Kl{n:Nat}{l:List Int}(g:l.Nodup)(hl:∀x∈l,0<=x/\x<n):l.length<=n:=by have:=vB n (l.map Int.toNat) (List.pairwise_map.2 (List.Pairwise.imp_of_mem (λ{x y}a b f e=>f (by have:=hl x a;have:=hl y b;omega)) g)) (λx a=>by obtain⟨y,b,rfl⟩:=akk.1 a;have:=hl y b;omega);simpa using this
theorem lQ.wY{lv:List (List Int)}{a:List AV}{F:List Th}(f:lQ lv a F){l:List Int}{v:AV}:lQ (lv++[l]) (a++[v]) (tR 1 (l.map aI) l.length v::F):=by
 have hl:=f.len;refine⟨by simp[hl],λb hb=>?_⟩;simp only[aj8,akC]at hb;by_cases e:b=lv.length
 .subst e;have e1:(lv++[l]).getD lv.length []=l:=aB;have e2:(a++[v]).getD lv.length .co=v:=by rw[<-hl];simp
  rw[e1,e2];exact aeU ..
 have e1:(lv++[l]).getD b []=lv.getD b []:=by simp[akw (show b<lv.length by omega)]
 have e2:(a++[v]).getD b .co=a.getD b .co:=by simp[akw (show b<a.length by omega)]
 rw[e1,e2];exact aey _ (f.mem b af)
theorem QW(T:Tb ac){A H:ai}{F:List Th}{t0:Th}{a:ab}{n k:Nat}{D:Nat->Bool}{ids:Nat->ab}{S:Nat->Int->Prop}(q:k<n)(r:n<=1000)(s:∀x,S k x->0<=x/\x<n)(t:D k=false->∀x,¬S k x)(U:aj A H (tZ F::t0::tB eT a (iw n D ids)::gQ n D ids S)):YN ac N6 [jJ D ids k] H λv H'=>∃l:List Int,(∀x,x∈l↔S k x)/\l.Pairwise (·<·)/\v.bB=true/\v.ee=true/\v.cells=[v]/\aj A H' (tZ (tR 1 (l.map aI) l.length v::F)::t0::tB eT a (iw n D ids)::gQ n D ids S):=by
 unfold jJ;cases hd:D k with
 |true=>
  have hat:(tZ F::t0::tB eT a (iw n D ids)::gQ n D ids S)[3+k]?=some (tM false (ids k) (S k)):=by have:=rr (xs:=[tZ F,t0,tB eT a (iw n D ids)]) (m:=[]) (Fv (D:=D) (ids:=ids) (S:=S) q);rw[hd,akT]at this;exact this
  refine afS T U _ hat (λks e u=>alj (Kl e λx w=>s x ((u x).1 w)) r) λH' v l h1 h2 U=>?_;have f:Sl H' 1 (l.map aI) l.length v:=by obtain⟨_,b⟩:=U.get 0 rfl;exact b.1
  have⟨g,j,p,_⟩:=f.all;exact⟨l,h1,h2,g,j,p,U.lq⟩
 |false=>refine YF.ix (v:=.aS) (H':=H) T.IV rfl ⟨[],λx=>⟨λz=>absurd z aB,λz=>absurd z (t hd x)⟩,alQ,rfl,rfl,rfl,?_⟩;exact((U.py 3 1).as 0 rfl λy b=>tS.mg b).lq
section
variable{g:G.bu}{c h av i:AV}{d o:ab}{A H:ai}{m:List AV}{come:List Bool}{os:List (List bV)}{ak:List Nat}{lv:List (List Int)}
theorem agC(T:Tb ac)(V:Vd g)(hF:FX g A d c h av i m come os ak lv)(X:cX g come os)(Y:e9 g come os ak)(y:gP g come os lv){n:Nat}(hn:g.bp=n)(I:n<=1000){K:KT}(a6:∀H' v cl,QV (gY g os lv ak) n cl->bm A H'->CX H' cl v->K v H'):YN ac Wy [.az d 0] A K:=by
 refine YF.code T.abj aB ?_;refine ah ?_;refine RO.cl (Ki T V hF X Y y hn λH1 qs D f S q U=>?_);refine ah ?_;have U:=(U.py eH 1).rl;refine Ru.nm λS0 M hS Z=>?_;refine Ru.cC Z (up (P:=λk=>∀B p(cl:List (List Int))F v,cl.length=k->lQ cl p F->(∀j,j<k->(cl.getD j []).Pairwise (·<·)/\∀x,x∈cl.getD j []↔∃C∈gY g os lv ak,C j/\C x/\x≠j)->aj A B (tZ F::tS eH 1 p k true v::tB eT qs (iw n D f)::gQ n D f S)->Ru ac _ S0 ([(p8,aN k),(p2,v)]++pk M [p6,p7]) B) n (λk hk E B p cl F v r s t U=>?_) 0 af _ [] [] [] .aS rfl ⟨rfl,λb hb=>absurd hb aB⟩ (λj hj=>by omega) U);subst hS;subst Z;have⟨ag,ar,aw,_⟩:=(U.sl (e:=eH) (size:=1) (sv:=v) (vs:=p) (n:=k) (full:=true) 1).all;refine Ru.loop ?_;refine au ?_;refine Ru.cond (λa=>?_) (λa=>?_)
 .have J:(iw n D f)[0+k*1]?=some (jJ D f k):=by rw[show 0+k*1=k by omega];simp only[iw,aks,List.getElem?_range a,akt]
  have E:=E (k+1) af af;have z:=QW T (S:=S) a I (λx G=>by obtain⟨C,H,_,h2,_⟩:=(q.2 k a x).1 G;have:=C7 V X Y y H x h2;omega) (λhd x G=>by obtain⟨C,H,h1,_⟩:=(q.2 k a x).1 G;rw[(q.1 k a).2 ⟨C,H,h1⟩]at hd;cases hd) U;have L:(jJ D f k).bB=true:=by unfold jJ;split<;>rfl
  refine ah ?_;refine RO.gU U 2 (hv:=J) ?_;generalize jJ D f k=u at L z⊢;refine ah ?_;refine RO.cl (z.mono ?_);rintro w H7⟨l,N,O,P,ax,Q,U⟩;refine ah ?_;refine RO.push U 1 (λw0 H8 v2 U=>?_) (ws:=[w]) (hl:=kG rfl P Q rfl rfl rfl);have⟨ay,a1,a2,_⟩:=(U.sl (e:=eH) (size:=1) (n:=k+1) (full:=true) (sv:=v2) 1).all;refine ah ?_;exact Ru.wk (E _ (p++[w]) (cl++[l]) _ v2 (by simp[r]) s.wY (λj hj=>by
   by_cases e:j=k
   .subst e;have e1:(cl++[l]).getD j []=l:=by rw[<-r];simp
    rw[e1];exact⟨O,λx=>(N x).trans (q.2 j a x)⟩
   have e1:(cl++[l]).getD j []=cl.getD j []:=by simp[akw (show j<cl.length by omega)]
   rw[e1];exact t j af) U)
 refine Ru.exitTo ?_;obtain rfl:k=n:=af;refine ah ?_;have R:=s.len;have W:=U.sl (e:=eH) (size:=1) (sv:=v) (vs:=p) (n:=k) (full:=true) 1;refine Ru.aV (a6 _ v cl ⟨r,λj hj=>(t j hj).1,λj hj=>(t j hj).2⟩ U.gr (s.sl U 0 rfl (by rw[R,r];exact W)))
def agD(z:AV):bt:=(.seq (.region [O p2 (.box fI (T p0)),O p4 (.bg (C z)),O p5 (.bg (I 3 0))]) (.seq (.region [O p8 (.gw 4 (T p2)),O p9 (.call (C (.func NU [] [])) [(T p8)]),O p7 (.bg (T p9)),O aO (.extract (T p7) 0),O aR (.extract (T p7) 1),O p6 (.bg (T aO)),O p5 (.bg (T aR))]) (.seq (.seq (.region [O aY (.bg (T p5)),O aX (.arith .neq 3 (T aY) (I 3 0))]) (.cond (T aX) (.seq (.region [O bi (.bg (T p4)),O bk (.bg (T p5)),O p4 (.bg (T bi)),O p5 (.bg (T bk))]) .ret) .skip)) (.seq (.region [O bo (.bg (T p1)),O aZ (.bg (T p6)),O br (.call (T bo) [(T aZ)]),O p4 (.bg (T br)),O p5 (.bg (I 3 0))]) .ret))))
def agE(z:AV)(f k:Nat):bt:=(.seq (.region [O p1 (.box fI (T p0)),O p2 (.bg (C z)),O p3 (.bg (I 3 0))]) (.seq (.region [O p4 (.gw 4 (T p1)),O p5 (.call (C (.func f [] [])) [(T p4),(C (.func k [] []))]),O p6 (.extract (T p5) 0),O p7 (.extract (T p5) 1),O p2 (.bg (T p6)),O p3 (.bg (T p7))]) .ret))
theorem QX(T:Tb ac)(V:Vd g){z:AV}(C:z.bB=true){a b k:Nat}(q:ac a=.code 8 [.tmp p2,.tmp p3] (agE z b k))(hb:ac b=.code 19 [.tmp p4,.tmp p5] (agD z)){cs:List AV}(hg:iG H g cs){K:KT}(F:∀H' d c h av i m come os ak lv,cX g come os->e9 g come os ak->gP g come os lv->bm H H'->FX g H' d c h av i m come os ak lv->YN ac k [.az d 0] H' λv n=>v.bB=true/\K (.tuple [v,aI 0]) n):YN ac a [.agg cs] H K:=by have p:=hg.one;obtain⟨c,rfl,cA⟩:=hg;have⟨x,y,A,B⟩:=cA.all;refine YF.code q aB ?_;refine au ?_;refine RO.dL (aj.dc H) λH1 o U=>?_;refine ah ?_;refine RO.eQ U 0 ?_;refine RO.cl (fv:=.func b [] []) (av:=[.agg [.str g.name,aI g.params,aI g.bp,c],.func k [] []]) (YF.code hb aB ?_);refine au ?_;refine RO.dL U λn D U=>?_;refine ah ?_;refine RO.eQ U 0 ?_;refine RO.cl (Qf T V (cs:=[.str g.name,aI g.params,aI g.bp,c]) ⟨c,rfl,dQ.block.jU U.gr cA⟩ λr d f h av i m come os ak lv s t j l u=>?_);refine ah ?_;refine RO.cl ((F r d f h av i m come os ak lv s t j (U.gr.trans l) u).mono ?_);rintro v E⟨e,w⟩;refine ah ?_;refine Ru.mD (vs:=[v,aI 0]) ⟨rfl,e,rfl,rfl,trivial⟩ ?_;refine ah ?_;exact Ru.mD (vs:=[v,aI 0]) ⟨rfl,e,rfl,rfl,trivial⟩ w
theorem agF(T:Tb ac)(V:Vd g){cs:List AV}(hg:iG H g cs){n:Nat}(q:g.bp=n)(f:n<=1000){K:KT}(s:∀H' v cl come os ak lv,cX g come os->e9 g come os ak->gP g come os lv->QV (gY g os lv ak) n cl->bm H H'->CX H' cl v->K (.tuple [v,aI 0]) H'):YN ac Wh [.agg cs] H K:=QX T V rfl T.aa1 T.abi hg λ_ _ _ _ _ _ _ _ _ _ _ l p a j r=>agC T V r l p a q f λ_ _ _ k e b=>⟨b.all.1,s _ _ _ _ _ _ _ l p a k (j.trans e) b⟩
end
end
section
theorem agG(T:Tb ac){H:ai}{a b n:Int}{K:KT}(e:K (.bool (decide (a<=n/\n<=b))) H):YN ac Wp [aI a,aI b,aI n] H K:=by
 refine YF.code T.aba aB ?_;refine au ?_;refine RO.de (λg=>?_) (λg=>?_);·refine bD ?_;refine Ru.aV ?_;simpa[g]using e
 refine bD ?_;refine Ru.aV ?_;simpa[g]using e
def w8(gv R:List Int)(v:Nat):Prop:=((v:Int)∈gv/\¬(0<=R.getD v 0/\R.getD v 0<=249))\/((v:Int)∉gv/\R.getD v 0≠ -1)
def w9(a:Int)(b:List (Int->Prop))(R:List Int)(v:Nat):Prop:=((v:Int)<a/\R.getD v 0≠v)\/∃w,ng b v w/\R.getD v 0=R.getD w.toNat 0
def y8(a:Int)(b:List (Int->Prop))(gv:List Int)(n:Nat)(R:List Int)(e:Nat):Prop:=
 R.length≠n/\e=2\/R.length=n/\((∃v,v<n/\w8 gv R v)/\e=3\/(∀v,v<n->¬w8 gv R v)/\((∃v,v<n/\w9 a b R v)/\e=12\/(∀v,v<n->¬w9 a b R v)/\e=0))
section
variable{g:G.bu}{d f av h:AV}{c p:ab}{A H:ai}{o:List AV}{come:List Bool}{os:List (List bV)}{ak:List Nat}{lv:List (List Int)}
theorem agH(T:Tb ac)(V:Vd g)(hF:FX g A c d f av h o come os ak lv)(hK:cX g come os)(hO:e9 g come os ak)(a8:gP g come os lv){n:Nat}(hn:g.bp=n)(b6:n<=1000){R:List Int}{I:AV}(hR:fZ A R I)(c8:R.length<=1000){K:KT}(dv:∀H' e,y8 g.params (gY g os lv ak) (eY g ak) n R e->bm A H'->K (aN e) H'):YN ac WB [.az c 0,I] A K:=by
 have a':=hF.ro.lt;have ba:=hF.c2;have b':=hF.c1;rw[hn]at ba;have⟨hrd,ca,bb,c9⟩:=hR.all;refine YF.code T.abn aB ?_;refine ah ?_;refine RO.dL (aj.dc A) (λH1 X U=>?_) (ho:=by rw[bb];exact ao ca rfl);rw[bb]at U;refine ah ?_;refine RO.aW ?_ (v:=aN n) (hc:=by rw[U.gr.bh a'];exact ba);refine ah ?_;refine Ru.cond (λg1=>?_) (λg1=>?_);·refine ah ?_;exact Ru.aV (dv _ 2 (.inl ⟨by simpa using g1,rfl⟩) U.gr)
 have ar:R.length=n:=by simpa using g1
 refine ah ?_;refine RO.Ff U λH2 N U=>?_;refine RO.fx U λH3 q5 U=>?_;refine ah ?_;refine RO.cl (QN T λH4 q6 hl=>?_);have U:aj A H4 ([tB iH q6 [.az c 0]]++[tB eT q5 [.map N],tM true N (λ_=>False)]++[tB eH X [I]]):=U.fC hl;refine ah ?_;refine Ru.wk (L:=[(bO,.func Ey [] [.az q6 0]),(p0,.az c 0),(p3,.az X 0),(p5,.az q5 0)]) ?_;refine Ru.pG (J:=λm ts=>ts=[tB eT q5 [.map N],tM true N (λx=>x∈(eY g ak).take m)]) (Dn:=λ_ _=>False) U (QO T V hF hK hO) (λ_ _=>trivial) aB (λk args ws dv=>by obtain⟨_,_,rfl⟩:=dv;rfl) (λ_ _ _ _ _ _=>trivial) (λm args ws ts us l o1 o2 H' hm cd hJ U=>?_) (λH' cf Y hJ U=>?_) (λj H' cf Y _ dv=>dv.elim);·obtain⟨rfl,_,rfl⟩:=cd;subst hJ;have bc:(eY g ak).take (m+1)=(eY g ak).take m++[(eY g ak)[m]]:=(akd hm).symm;rw[bc];clear bc;generalize(eY g ak)[m]=x at*;generalize(eY g ak).take m=l0 at*;refine ah ?_;refine Ru.dN (xs:=[tB eT q5 [.map N],tM true N (λx=>x∈l0)]) U λH8 U=>?_;have U:aj A H8 (tB eT q5 [.map N]::tM true N (λx=>x∈l0)::tX l o2::us):=U;refine ah ?_;refine RO.PK U 1 (z:=x) λH9 U=>?_;refine ah ?_;refine Ru.bG (ts:=[tB eT q5 [.map N],tM true N (λy=>y∈l0++[x])]) (U.CT 1 rfl λy=>?_) rfl;rw[ahp,aep,or_comm]
 subst hJ;rw[ak7]at U;have U:aj A H' [tB eT q5 [.map N],tM true N (λx=>x∈eY g ak),tX Y (.deferred false),tB eH X [I]]:=U;have ret:∀{B:ai}{L:Kn}{s:List SI}{e:Nat}{us:List Th},y8 g.params (gY g os lv ak) (eY g ak) n R e->aj A B (tX Y (.deferred false)::us)->lk L p4=aN e->Ru ac ⟨pu [.tmp p4] K,[Y],none⟩ (.code .ret::s) L B:=λhv U E=>Ru.mI (M:=[Y]) U λH' U=>⟨[_],⟨E,rfl,trivial⟩,dv _ _ hv U.gr⟩;refine ah ?_;refine Ru.nm λS0 M hS hM=>?_;refine Ru.cC hM (up (P:=λk=>(∀v,v<k->¬w8 (eY g ak) R v)->Ru ac _ S0 ([(ct,aN k)]++pk M [p0,p3,p5,ch,bY]) H') n (λk hk Z hB=>?_) 0 af (λv hv=>by omega));subst hS;subst hM;refine Ru.loop ?_;refine au ?_;refine Ru.cond (λag=>?_) (λag=>?_)
 .have Z:=Z (k+1) af af;refine ah ?_;refine RO.kz U.gr hR (λJ o9 hj aw=>?_) (j:=k);refine RO.aW ?_ (hc:=aw);have ax:R.getD k 0=R[k]:=bF ag 0;have O:w8 (eY g ak) R k->y8 g.params (gY g os lv ak) (eY g ak) n R 3:=λhb=>.inr ⟨ar,.inl ⟨⟨k,af,hb⟩,rfl⟩⟩;have a:¬w8 (eY g ak) R k->∀v,v<k+1->¬w8 (eY g ak) R v:=λhb v hv=>by
   by_cases e:v=k;·rw[e];exact hb
   exact hB v af
  unfold w8 at O a;rw[ax]at O a;generalize R[k]=r at*;refine ah ?_;refine RO.CU U 1 (z:=k) λt G=>?_;cases t with
  |true=>
   have G:=G.1 rfl;refine ah ?_;refine RO.cl (agG T (a:=0) (b:=249) (n:=r) ?_);refine RO.de (λhw=>?_) (λhw=>?_);·refine ah ?_;refine RO.CU U 1 (z:=k) λt ay=>?_;obtain rfl:=ay.2 G;refine ah ?_;exact Ru.wk (Z (a λhb=>hb.elim (λdv=>dv.2 hw) λdv=>dv.1 G))
   refine ah ?_;exact ret (O (.inl ⟨G,hw⟩)) (U.drop 2) rfl
  |false=>
   have G:(k:Int)∉eY g ak:=λdv=>by have:=G.2 dv;cases this
   refine ah ?_;refine RO.CU U 1 (z:=k) λt ay=>?_;obtain rfl:t=false:=by
    cases t;·rfl
    exact absurd (ay.1 rfl) G
   refine ah ?_;refine Ru.cond (λhw=>?_) (λhw=>?_);·refine ah ?_;exact ret (O (.inr ⟨G,hw⟩)) (U.drop 2) rfl
   refine ah ?_;exact Ru.wk (Z (a λhb=>hb.elim (λdv=>G dv.1) λdv=>hw dv.2))
 refine Ru.exitTo ?_;obtain rfl:k=n:=af;refine ah ?_;refine RO.cl (Ki T V (hF.cI U.gr) hK hO a8 hn λH5 qs D b S bd hl=>?_);have U:=U.fC hl;have U:aj A H5 (tZ [tB eH X [I]]::tX Y (.deferred false)::tB eT qs (iw k D b)::gQ k D b S):=by have h1:=(U.cM akH).drop 2;exact(((h1.cM (.swap ..)).rl.cM (.swap ..)).lq)
 refine ah ?_;refine Ru.nm λS0 M hS hM=>?_;refine Ru.cC hM (up (P:=λj=>∀B F,tB eH X [I]∈F->(∀v,v<j->¬w9 g.params (gY g os lv ak) R v)->aj A B (tZ F::tX Y (.deferred false)::tB eT qs (iw k D b)::gQ k D b S)->Ru ac _ S0 ([(dZ,aN j)]++pk M [p0,p3,cR,dY]) B) k (λj hj Z B F cn hW U=>?_) 0 af _ _ (aep.2 rfl) (λv hv=>by omega) U);subst hS;subst hM;refine Ru.loop ?_;refine au ?_;refine Ru.cond (λq=>?_) (λq=>?_)
 .have Z:=Z (j+1) af af;have bv:(iw k D b)[0+j*1]?=some (jJ D b j):=by rw[show 0+j*1=j by omega];simp only[iw,aks,List.getElem?_range q,akt]
  have cp:(jJ D b j).bB=true:=by unfold jJ;split<;>rfl
  have P:=bd.2 j q;have a1:∀x,S j x->0<=x/\x<k:=λx H=>by obtain⟨C,hC,_,h1,_⟩:=(P x).1 H;have:=C7 V hK hO a8 hC x h1;omega
  have z:w9 g.params (gY g os lv ak) R j->y8 g.params (gY g os lv ak) (eY g ak) k R 12:=λhb=>.inr ⟨ar,.inr ⟨hB,.inl ⟨⟨j,q,hb⟩,rfl⟩⟩⟩;have a:¬w9 g.params (gY g os lv ak) R j->∀v,v<j+1->¬w9 g.params (gY g os lv ak) R v:=λhb v hv=>by
   by_cases e:v=j;·rw[e];exact hb
   exact hW v af
  have ax:R.getD j 0=R[j]:=bF af 0;unfold w9 at z a;rw[ax]at z a;obtain⟨u,hu⟩:∃u,u=jJ D b j:=⟨_,rfl⟩;rw[<-hu]at bv cp;refine ah ?_;refine RO.gU U 2 (hv:=bv) ?_;refine ah ?_;refine RO.fx U λH6 J U=>?_;have U:=U.lq;have Q:∀{B F us},tB 3 J [aN j]∈F->aj A B (tZ F::us)->bh B J 0=some (aN j):=λdv U=>by obtain⟨_,E⟩:=U.mf 0 rfl dv;exact tB.cell E rfl
  have a2:∀{B F us},tB eH X [I]∈F->aj A B (tZ F::us)->bh B X 0=some I:=λdv U=>by obtain⟨_,E⟩:=U.mf 0 rfl dv;exact tB.cell E rfl
  have m9:tB 3 J [aN j]∈tB 3 J [aN j]::F:=aeU .. ;have m3:tB eH X [I]∈tB 3 J [aN j]::F:=aey _ cn;refine ah ?_;refine RO.aW ?_ (hc:=Q m9 U);refine ah ?_;refine RO.aW ?_ (v:=aI g.params) (hc:=by rw[U.gr.bh a'];exact b');refine ah ?_;refine RO.de (λE=>?_) (λE=>?_);rotate_left;have b0:¬((j:Int)<g.params/\R[j]≠j):=λdv=>E dv.1;rotate_left;refine ah ?_;refine RO.aW ?_ (hc:=a2 m3 U);refine ah ?_;refine RO.aW ?_ (hc:=Q m9 U);refine ah ?_;refine RO.kz U.gr hR (λq7 o7 cv aw=>?_) (j:=j);refine ah ?_;refine RO.aW ?_ (hc:=Q m9 U);refine ah ?_;refine RO.de (λa6=>?_) (λa6=>?_);·refine ah ?_;exact ret (z (.inl ⟨E,a6⟩)) U.tail rfl
  have b0:¬((j:Int)<g.params/\R[j]≠j):=λdv=>a6 dv.2;all_goals
   have b3:=QW T (S:=S) q b6 a1 (λhd x H=>by obtain⟨C,hC,h1,_⟩:=(P x).1 H;rw[(bd.1 j q).2 ⟨C,hC,h1⟩]at hd;cases hd) U;rw[<-hu]at b3;refine ah ?_;refine RO.cl (b3.mono ?_);rintro w H7⟨l,W,cx,c',dm,dr,U⟩;refine ah ?_;refine RO.cl (Jx T (ts:=[tZ (tR 1 (l.map aI) l.length w::tB 3 J [aN j]::F)]) (us:=tX Y (.deferred false)::tB eT qs (iw k D b)::gQ k D b S) (la:=l) (J:=λi ts=>ts=[tZ (tR 1 (l.map aI) l.length w::tB 3 J [aN j]::F)]/\∀m(dv:m<l.length),m<i->R[j]≠R.getD l[m].toNat 0) (D:=λts=>ts=[tZ (tR 1 (l.map aI) l.length w::tB 3 J [aN j]::F)]/\∃x∈l,R[j]=R.getD x.toNat 0) (λhJ U=>?_) (by have:=Kl (n:=k) (cx.imp λdv=>Int.ne_of_lt dv) λx H=>a1 x ((W x).1 H);omega) rfl ?_ ⟨rfl,λm _ hm=>by omega⟩ U λH8 ts t U hc=>?_);·obtain⟨rfl,_⟩:=hJ;obtain⟨_,E⟩:=U.mf 0 rfl (aeU ..);exact E.1
   .rintro i _ us H8 hi⟨rfl,hN⟩U;have H:=a1 _ ((W _).1 (agB hi));obtain⟨x,b4⟩:∃x:Nat,l[i]=x:=⟨l[i].toNat,af⟩;have cy:x<R.length:=af;rw[b4];refine YF.code T.abG aB ?_;refine ah ?_;refine RO.aW ?_ (hc:=a2 (aey _ m3) U);refine ah ?_;refine RO.aW ?_ (hc:=Q (aey _ m9) U);refine ah ?_;refine RO.kz U.gr hR (λq7 o7 cv aw=>?_) (j:=j);refine ah ?_;refine RO.aW ?_ (hc:=a2 (aey _ m3) U);refine ah ?_;refine RO.kz U.gr hR (λq8 o8 ds cE=>?_) (j:=x);refine ah ?_;have b5:R.getD l[i].toNat 0=R[x]:=by rw[b4,aj3,bF cy]
    refine Ru.aV ⟨_,U,?_⟩;by_cases he:R[j]=R[x];·exact .inr ⟨by rw[decide_eq_true he],rfl,_,agB hi,by rw[b5];exact he⟩
    refine .inl ⟨by rw[decide_eq_false he],rfl,λm dv hm=>?_⟩;by_cases e:m=i;·subst e;rw[b5];exact he
    exact hN m dv af
   rcases hc with⟨rfl,rfl,hN⟩|⟨rfl,rfl,x,H,he⟩;·refine ah ?_;refine Ru.wk (Z _ _ (aey _ m3) (a λhb=>hb.elim b0 λ⟨x,H,he⟩=>?_) U);obtain⟨m,hm,rfl⟩:=aka ((W x).2 ((P x).2 H));exact hN m hm hm he
   refine ah ?_;exact ret (z (.inr ⟨x,(P x).1 ((W x).1 H),he⟩)) U.tail rfl
 refine Ru.exitTo ?_;obtain rfl:j=k:=af;refine ah ?_;exact ret (.inr ⟨ar,.inr ⟨hB,.inr ⟨hW,rfl⟩⟩⟩) U.tail rfl
end
end
section
section
variable{g:G.bu}{a:AV}{A H:ai}
theorem agI(T:Tb ac)(V:Vd g){cs:List AV}(hg:iG H g cs){n:Nat}(l:g.bp=n){K:KT}(h:∀H' v R b os ak i,cX g b os->e9 g b os ak->gP g b os i->rD g.params (gY g os i ak) n (eY g ak) R->bm H H'->fZ H' R v->K (.tuple [v,aI 0]) H'):YN ac Wi [.agg cs] H K:=QX T V rfl T.aa2 T.abl hg λ_ _ _ _ _ _ _ _ _ _ _ j k c f m=>agA T V m j k c l λ_ _ _ o e d=>⟨d.all.1,h _ _ _ _ _ _ _ j k c o (f.trans e) d⟩
theorem agJ(T:Tb ac)(V:Vd g){cs:List AV}(hg:iG H g cs){n:Nat}(r:g.bp=n)(j:n<=1000){R:List Int}{l:AV}(m:fZ H R l)(k:R.length<=1000){K:KT}(h:∀H' e b os ak i,cX g b os->e9 g b os ak->gP g b os i->y8 g.params (gY g os i ak) (eY g ak) n R e->bm H H'->K (aN e) H'):YN ac Wj [.agg cs,l] H K:=by have q:=hg.one;obtain⟨a,rfl,cA⟩:=hg;have⟨v,w,x,y⟩:=cA.all;have⟨hrd,z,A,B⟩:=m.all;refine YF.code T.aa3 aB ?_;refine au ?_;refine RO.dL (aj.dc H) λH1 F U=>?_;refine ah ?_;refine RO.eQ U 0 ?_;refine RO.cl (Qf T V (cs:=[.str g.name,aI g.params,aI g.bp,a]) ⟨a,rfl,dQ.block.jU U.gr cA⟩ λG I C J L D E b os ak i o p c d s=>?_);refine ah ?_;refine RO.cl (agH T V s o p c r j ((U.gr.trans d).sl m) k λt e u f=>?_);refine ah ?_;exact Ru.aV (h t e b os ak i o p c u ((U.gr.trans d).trans f))
end
end
end
section
variable{g:G.bu}{come h:List Bool}{os c:List (List bV)}{ak f:List Nat}{lv d:List (List Int)}
theorem QY{t t':List Int}{a a':Int->Prop}{st:List G.ic}(b:∀x,x∈t↔x∈t')(e:∀x,a x↔a' x):∀k,C2 t a st k=C2 t' a' st k|0=>funext λx=>propext (e x)|k+1=>funext λx=>propext (by simp only[C2,b,QY b e k])
theorem QZ(V:Vd g)(k:cX g come os)(a:cX g h c)(u:e9 g come os ak)(r:e9 g h c f)(s:gP g come os lv)(l:gP g h c d){C:Int->Prop}(z:C∈gY g os lv ak):C∈gY g c d f:=by
 obtain⟨b,hb,v⟩:=akZ.1 z;have j:=(u.mem b).1 hb;obtain⟨m,he⟩:=k.bX V.dO a j;refine akZ.2 ⟨b,(r.mem b).2 m,?_⟩;have p:∀w,come.getD w false=true->∀x,x∈lv.getD w []↔x∈d.getD w []:=λw n x=>(((s.bX V.dO k a).mem w (k.bX V.dO a n).1 x).trans ((l.mem w (k.bX V.dO a n).1 x).symm));have n:wW g c b=wW g os b:=by simp only[wW,he]
 have o:∀x,x∈kV g lv (os.getD b [])↔x∈kV g d (c.getD b []):=λx=>by
  rw[he];unfold kV;split;·rename_i t o;obtain⟨_,_,_,_,y,_⟩:=vD V.dO k j o;exact p _ y x
  rfl
 have q:=QY (st:=(aH g b).aD) o (a:=Fl g os lv b) (a':=Fl g c d b) λx=>by simp only[Fl,o,n];refine or_congr Iff.rfl (or_congr Iff.rfl (or_congr Iff.rfl ⟨λ⟨w,h1,h2⟩=>⟨w,h1,(p w (k.ls j h1) x).1 h2⟩,λ⟨w,h1,h2⟩=>⟨w,h1,(p w (k.ls j h1) x).2 h2⟩⟩))
 have e:rC g os lv b=rC g c d b:=by
  have h1:rB g os lv b=rB g c d b:=by funext x;simp only[rB,eK,q]
  have h2:sI g os lv b=sI g c d b:=by funext i;simp only[sI,eK,q]
  simp only[rC,h1,h2,eK,q]
 rw[<-e];exact v
theorem Km(V:Vd g)(j:cX g come os)(b:cX g h c)(l:e9 g come os ak)(e:e9 g h c f)(i:gP g come os lv)(a:gP g h c d){v w:Int}:ng (gY g os lv ak) v w↔ng (gY g c d f) v w:=⟨λ⟨C,m,k⟩=>⟨C,QZ V j b l e i a m,k⟩,λ⟨C,m,k⟩=>⟨C,QZ V b j e l a i m,k⟩⟩
theorem Q0(V:Vd g)(i:cX g come os)(a:cX g h c)(j:e9 g come os ak)(e:e9 g h c f){v:Int}(k:v∈eY g ak):v∈eY g f:=by refine y7.2 ((y7.1 k).imp id λ⟨b,hb,k⟩=>⟨b,(e.mem b).2 (i.bX V.dO a ((j.mem b).1 hb)).1,k⟩)
theorem rD.agK(V:Vd g)(a:cX g come os)(b:e9 g come os ak)(e:gP g come os lv){n:Nat}(i:g.bp=n){R:List Int}(l:rD g.params (gY g os lv ak) n (eY g ak) R):Kk g.params (gY g os lv ak) n (eY g ak) R:=l.right (agw V a b) (λx j=>by rw[<-i];exact Fx V a b j) (λv w⟨_,k,_,h2,_⟩=>by rw[<-i];exact C7 V a b e k w h2) (agy V a b)
theorem agL(V:Vd g)(k:cX g come os)(l:e9 g come os ak)(m:gP g come os lv){n:Nat}(L:n<=200){R:List Int}(M:Kk g.params (gY g os lv ak) n (eY g ak) R){v w e:Nat}(t:v<n)(H:w<n)(y:0<=R.getD v 0)(z:0<=R.getD w 0)(o:cX g h c)(p:e9 g h c f)(s:gP g h c d)(I:y8 g.params (gY g c d f) (eY g f) n (R.set v (R.getD w 0)) e):(((v:Int)<g.params/\R.getD w 0≠v)\/∃u,ng (gY g os lv ak) v u/\R.getD u.toNat 0=R.getD w 0)/\e=12\/¬(((v:Int)<g.params/\R.getD w 0≠v)\/∃u,ng (gY g os lv ak) v u/\R.getD u.toNat 0=R.getD w 0)/\e=0:=by
 have hl:=M.len;have j:∀{u:Nat},u<n->0<=R.getD u 0->(u:Int)∈eY g ak:=λ{u}hu h0=>by apply akx;intro J;have:=M.no u af af J;rw[aj3]at this;omega
 have A:=j t y;have B:=j H z;have i:∀u:Nat,(R.set v (R.getD w 0)).getD u 0=if u=v then R.getD w 0 else R.getD u 0:=λu=>fu af;have q:=λ{a b}=>Km (v:=a) (w:=b) V k o l p m s;have C:∀{x},x∈eY g f↔x∈eY g ak:=λ{x}=>⟨Q0 V o k p l,Q0 V k o l p⟩;have D:=M.is _ B;rw[aj3]at D;have hb:∀u,u<n->¬w8 (eY g f) (R.set v (R.getD w 0)) u:=by
  rintro u hu(⟨h1,h2⟩|⟨h1,h2⟩)<;>rw[i]at h2<;>rw[C]at h1;·have:=M.is _ h1;rw[aj3]at this;split at h2<;>omega
  split at h2;·rename_i e;subst e;exact h1 A
  have:=M.no u af af h1;rw[aj3]at this;exact h2 this
 have r:(∃u,u<n/\w9 g.params (gY g c d f) (R.set v (R.getD w 0)) u)↔(((v:Int)<g.params/\R.getD w 0≠v)\/∃u,ng (gY g os lv ak) v u/\R.getD u.toNat 0=R.getD w 0):=by
  constructor
  .rintro⟨u,hu,⟨h1,h2⟩|⟨x,h1,h2⟩⟩
   .rw[i]at h2;split at h2;·rename_i e;subst e;exact .inl ⟨h1,h2⟩
    have:=M.aM u (y7.2 (.inl ⟨af,h1⟩)) h1;rw[aj3]at this;exact absurd this h2
   rw[<-q]at h1;obtain⟨K,G⟩:=h1.QT V k l m;have E:=Fx V k l G;have F:x≠u:=by obtain⟨_,_,_,_,M⟩:=h1;exact M
   rw[i,i]at h2;split at h2;·rename_i e;subst e;rw[aq af]at h2;exact .inr ⟨x,h1,h2.symm⟩
   split at h2;·rename_i e;obtain rfl:x=(v:Int):=af;exact .inr ⟨u,h1.symm,by rw[aj3];exact h2⟩
   have:=M.mC _ K _ G h1;rw[aj3]at this;exact absurd h2 this
  rintro(⟨h1,h2⟩|⟨x,h1,h2⟩);·exact⟨v,t,.inl ⟨h1,by rw[i,aK rfl];exact h2⟩⟩
  have E:=Fx V k l (h1.QT V k l m).2;have F:x≠v:=by obtain⟨_,_,_,_,M⟩:=h1;exact M
  exact⟨v,t,.inr ⟨x,q.1 h1,by rw[i,i,aK rfl,aq af];exact h2.symm⟩⟩
 rcases I with⟨h1,_⟩|⟨_,⟨⟨u,hu,h1⟩,_⟩|⟨_,⟨h1,h2⟩|⟨h1,h2⟩⟩⟩;·exact absurd (by simpa using hl) h1
 .exact absurd h1 (hb u hu)
 .exact .inl ⟨r.1 h1,h2⟩
 exact .inr ⟨λM=>by obtain⟨u,hu,M⟩:=r.2 M;exact h1 u hu M,h2⟩
end
section
variable{ac:Nat->aG}
section
variable{c:Cx}{s:List SI}{L:Kn}{H:ai}{d:Option ab}{l:List be}
theorem RO.Q1{m a:Nat}{x:aJ}(h:RO ac c l s (bC L d (aN a)) H)(b:bf L x=.int m (.ofNat a):=by exact cw)(e:a<9223372036854775808:=by omega):RO ac c (⟨d,.kX 3 x,none,[],[]⟩::l) s L H:=RO.kX (a:=.ofNat a) (by rw[pY (by simp<;>omega) (by simp<;>omega)];exact h) b
theorem RO.Q2{a b:Nat}{x y:aJ}(h:RO ac c l s (bC L d (aN (a % b))) H)(f:bf L x=.int 3 (.ofNat a):=by exact cw)(hy:bf L y=.int 3 (.ofNat b):=by exact cw)(hb:b≠0:=by omega):RO ac c (⟨d,.arith .rem 3 x y,none,[],[]⟩::l) s L H:=RO.arith (v:=aN (a % b)) (a:=.ofNat a) (b:=.ofNat b) h f hy (by show(if ak1 b=0 then none else some (AV.int 3 ((ak1 a).tmod (ak1 b))))=_;rw[aq (by intro e;exact hb (Int.ofNat.inj e))];rfl)
end
def xe(a:Int)(R:List Int)(v w:Nat)(l:List Int)(k W:Nat):Prop:=(((v:Int)<a/\R.getD w 0≠v)\/∃j,j<k/\R.getD (l.getD j 0).toNat 0=R.getD w 0)/\W=12\/¬(((v:Int)<a/\R.getD w 0≠v)\/∃j,j<k/\R.getD (l.getD j 0).toNat 0=R.getD w 0)/\W=0
theorem xe.one{a:Int}{R:List Int}{v w:Nat}{l:List Int}{k W X:Nat}:xe a R v w l k W->xe a R v w l k X->W=X:=by
 rintro(⟨h,rfl⟩|⟨h,rfl⟩)(⟨h2,rfl⟩|⟨h2,rfl⟩);·rfl
 .exact absurd h h2
 .exact absurd h2 h
 rfl
section
variable{g:G.bu}{H:ai}{cs:List AV}
theorem agM(T:Tb ac)(t:∀{H:ai}{K:KT},(∀H',bm H H'->K (.bool true) H')->YN ac NT [] H K)(hg:iG H g cs)(hY:CQ g){a b:Nat}(ha:a<256)(hb:b<256){K:KT}(h:∀H',bm H H'->K (.bool true) H'):YN ac Wd [.agg cs,aU a,aU b] H K:=by
 have cf:=hg.one;have G:=hg;obtain⟨vb,rfl,cA⟩:=hg;have cn:=cA;have⟨c8,_,_,c'⟩:=cA.all;refine YF.code T.aaX aB ?_;refine ah ?_;refine RO.dL (aj.dc H) λH1 q1 U=>?_;refine ah ?_;refine RO.eQ U 0 ?_;refine RO.cl (agb T (dQ.nM U.gr G) hY (λH2 hg m=>?_) (λH2 hg=>?_));rotate_left;·have U:=U.cI hg;refine ah ?_;refine RO.cl (t λH3 hg=>?_);have U:=U.cI hg;refine ah ?_;exact Ru.aV (h _ U.gr)
 have U:=U.cI hg;have V:=agf m;obtain⟨cp,b5⟩:=Kc m.jx m.Kb;have hR:=m.C6;have dm:=hR.p0;have dr:=hR.p1;obtain⟨n,F⟩:∃n:Nat,g.bp=n:=⟨g.bp.toNat,af⟩;refine ah ?_;refine Ru.cond (λh0=>?_) (λh0=>?_);·refine ah ?_;refine RO.cl (t λH3 hg=>?_);have U:=U.cI hg;refine ah ?_;exact Ru.aV (h _ U.gr)
 have h0:n≠0:=λe=>h0 (by rw[F,e];rfl);refine ah ?_;refine RO.eQ U 0 ?_;refine RO.cl (Kh T (dQ.nM U.gr G) af (λb hb=>⟨m.jx.sm.bl b hb,m.jx.sm.st b hb,m.jx.sm.ed b hb⟩) λH3 ds hg i=>?_);have U:=U.cI hg;have b6:=i.one;refine RO.cl (agI T V i F λH4 rv R cx os ak lv hK hO I a8 hg c=>?_);have U:=U.cI hg;have⟨hrd,_,_,dv⟩:=c.all;have hF:=a8.agK V hK hO I F;have J:=hF.len;refine ah ?_;refine RO.eQ U 0 ?_;refine RO.cl (Kh T (dQ.nM U.gr G) af (λb hb=>⟨m.jx.sm.bl b hb,m.jx.sm.st b hb,m.jx.sm.ed b hb⟩) λH5 dx hg i=>?_);have U:=U.cI hg;have c:=hg.sl c;have b':=i.one;refine RO.cl (agF T V i F af λN cv cl ca dy cy dz S X B Y hg aw=>?_);have U:=U.cI hg;have c:=hg.sl c;have⟨d0,_,_,d1⟩:=aw.all;have ay:=Y.len;have U:aj H N [tB fI q1 [.str g.name,aI g.params,aI g.bp,vb]]:=U;refine ah ?_;refine RO.de (λg1=>absurd (show ak1 R.length=g.bp by rw[J,F];rfl) g1) (λ_=>?_);refine ah ?_;refine Ru.cond (λg1=>absurd (show ak1 cl.length=g.bp by rw[ay,F];rfl) g1) (λ_=>?_);refine ah ?_;refine RO.Q1 ?_;refine ah ?_;refine RO.Q2 ?_ (b:=n) (hy:=by
  conv=>lhs;whnf
  exact congrArg _ F);have hv:=Nat.mod_lt a (Nat.pos_of_ne_zero h0);generalize a % n=v at hv⊢;refine ah ?_;refine RO.Q1 ?_;refine ah ?_;refine RO.Q2 ?_ (b:=n) (hy:=by
  conv=>lhs;whnf
  exact congrArg _ F);have hw:=Nat.mod_lt b (Nat.pos_of_ne_zero h0);generalize b % n=w at hw⊢;refine ah ?_;have ev:R.getD v 0=R[v]'af:=bF af 0;have ew:R.getD w 0=R[w]'af:=bF af 0;refine RO.kz (bm.refl _) c (λO P o p=>?_) (j:=v);refine ah ?_;refine RO.de (λb1=>?_) (λb1=>?_);·refine ah ?_;refine RO.cl (t λH7 hg=>?_);have U:=U.cI hg;refine ah ?_;exact Ru.aV (h _ U.gr)
 refine ah ?_;refine RO.kz (bm.refl _) c (λO P o p=>?_) (j:=w);refine ah ?_;refine Ru.cond (λb2=>?_) (λb2=>?_);·refine ah ?_;refine RO.cl (t λH7 hg=>?_);have U:=U.cI hg;refine ah ?_;exact Ru.aV (h _ U.gr)
 have b1:0<=R.getD v 0:=by rw[ev];exact Int.not_lt.1 b1
 have b2:0<=R.getD w 0:=by rw[ew];exact Int.not_lt.1 b2
 refine ah ?_;have a':q1.an<N.next.an:=by obtain⟨_,Q⟩:=U.get 0 rfl;obtain⟨_,_,_,_,_,h⟩:=Q;exact h
 have ba:bh N q1 1=some (aI g.params):=by obtain⟨_,Q⟩:=U.get 0 rfl;exact tB.cell Q rfl
 refine RO.qS (aj.dc N) 1 λH7 bb hl=>?_;have⟨d2,d3,d4,_⟩:=(hl.sl (e:=3) (size:=1) (sv:=bb) (vs:=[]) (n:=0) (full:=true) 0).all;refine ah ?_;refine RO.pZ hl 0 (hl.gr.sl c) (λH8 ov hl=>?_) (h1:=qP R);have hl:aj N H8 [tS 3 1 (R.map aI) n true ov]:=by rw[ak0,J,akh]at hl;exact hl
 obtain⟨qo,cap,ex,rfl⟩:=hl.uT 0 rfl h0;refine ah ?_;refine RO.kz hl.gr c (λO P o p=>?_) (j:=w);refine ah ?_;refine RO.lC hl 0 R[w] J (λH9 hl=>?_) (k:=v);have hl:aj N H9 [tS 3 1 ((R.set v R[w]).map aI) n true (.slice qo 0 n cap ex)]:=hl;rw[<-ew]at hl;have D:=Y.asc v hv;have l:=Y.mem v hv;have bc:cl.getD v []=cl[v]'af:=bF af _;rw[bc]at D l;have E:∀x∈cl[v]'af,0<=x/\x<n:=λx hx=>by obtain⟨C,m,_,h2,_⟩:=(l x).1 hx;rw[<-F];exact C7 V S X B m x h2
 have a1:(cl[v]'af).length<=300:=by have:=Kl (n:=n) (D.imp λh=>Int.ne_of_lt h) E;omega
 have key:∀{e:Nat}{f:List Bool}{z:List (List bV)}{r:List Nat}{Z:List (List Int)},cX g f z->e9 g f z r->gP g f z Z->y8 g.params (gY g z Z r) (eY g r) n (R.set v (R.getD w 0)) e->xe g.params R v w (cl[v]'af) (cl[v]'af).length e:=λh1 h2 h3 h4=>by
  have hx:(∃u,ng (gY g os lv ak) v u/\R.getD u.toNat 0=R.getD w 0)↔∃j,j<(cl[v]'af).length/\R.getD ((cl[v]'af).getD j 0).toNat 0=R.getD w 0:=by
   constructor;·rintro⟨u,hu,e⟩;obtain⟨j,hj,rfl⟩:=aka ((l u).2 ((Km V hK S hO X I B).1 hu));exact⟨j,hj,by rw[bF hj];exact e⟩
   rintro⟨j,hj,e⟩;rw[bF hj]at e;exact⟨_,(Km V hK S hO X I B).2 ((l _).1 (agB hj)),e⟩
  unfold xe;rw[<-hx];exact agL V hK hO I af hF hv hw b1 b2 h1 h2 h3 h4
 generalize ax:cl[v]'af=d at D l E a1 key;have L:∀{HX:ai},bm N HX->CX HX cl cv:=λhg=>dQ.P5.jU hg aw;refine iS ?_;refine Ru.seq ?_;refine Ru.wP (P:=λM H'=>∃W,M=[(aX,aN W),(p3,.az q1 0),(p7,rv),(p9,cv),(aR,aN v),(aY,aN w),(bi,.slice qo 0 n cap ex)]/\xe g.params R v w d 0 W/\H'=H9) (λM H'⟨W,hM,hW,hH⟩=>?_) (λs' q=>?_);rotate_left
 .refine ah ?_;refine RO.aW ?_ (v:=aI g.params) (hc:=by rw[hl.gr.bh a'];exact ba);refine ah ?_;refine RO.de (λQ=>?_) (λQ=>?_)
  .refine ah ?_;refine RO.kz hl.gr c (λO P o p=>?_) (j:=w);refine ah ?_;refine Ru.cond (λA=>?_) (λA=>?_);·refine ah ?_;refine q _ _ _ ⟨12,rfl,.inl ⟨.inl ⟨Q,by rw[ew];exact A⟩,rfl⟩,rfl⟩ ?_;exact fB
   refine Ru.skip ?_;refine q _ _ _ ⟨0,rfl,.inr ⟨λh=>h.elim (λh=>A (by rw[<-ew];exact h.2)) λ⟨j,hj,_⟩=>by omega,rfl⟩,rfl⟩ ?_;exact fB
  refine ah ?_;refine q _ _ _ ⟨0,rfl,.inr ⟨λh=>h.elim (λh=>Q h.1) λ⟨j,hj,_⟩=>by omega,rfl⟩,rfl⟩ ?_;exact fB
 subst hM;subst hH;refine ah ?_;refine Ru.nm λS0 M hS hM=>?_;refine Ru.cC hM (up (P:=λk=>∀W,xe g.params R v w d k W->Ru ac _ S0 ([(bk,aN k),(aX,aN W)]++pk M [p3,p7,p9,aR,aY,bi]) H') d.length (λk hk ih W hW=>?_) 0 af W hW);subst hS;subst hM;refine Ru.loop ?_;refine ah ?_;refine RO.cZ (bm.refl _) (L hl.gr) (λO P c9 o ag p hat hrd=>?_) (j:=v);obtain⟨ar,rfl,s⟩:=ag;rw[ax]at s;have⟨a2,_,_,a6⟩:=s.all;refine RO.aW (v:=ar) ?_ (hc:=hat 0 _ rfl);refine ah ?_;refine Ru.cond (λav=>?_) (λav=>?_)
 .have ih:=ih (k+1) af af;have hu:=E _ (agB av);have bd:d.getD k 0=d[k]:=bF av 0;refine ah ?_;refine RO.cZ (bm.refl _) (L hl.gr) (λO P c9 o ag p hat hrd=>?_) (j:=v);obtain⟨ar,rfl,s⟩:=ag;rw[ax]at s;have⟨a2,_,_,a6⟩:=s.all;refine RO.aW (v:=ar) ?_ (hc:=hat 0 _ rfl);refine ah ?_;refine RO.kz (bm.refl _) s (λq8 o8 d5 d6=>?_) (j:=k);generalize d[k]=u at*;obtain⟨u,rfl⟩:∃y:Nat,u=y:=⟨u.toNat,af⟩;have bv:u<R.length:=af;have b0:R.getD u 0=R[u]:=bF bv 0;refine ah ?_;refine Ru.cond (λcE=>absurd cE (by show¬R.length<=u;omega)) (λ_=>?_);refine ah ?_;refine RO.kz hl.gr c (λO P o p=>?_) (j:=u);refine ah ?_;refine RO.kz hl.gr c (λO P o p=>?_) (j:=w);refine ah ?_;have step:(R[u]=R[w])↔R.getD (d.getD k 0).toNat 0=R.getD w 0:=by rw[bd,aj3,b0,ew]
  refine Ru.cond (λhe=>?_) (λhe=>?_);·refine ah ?_;exact Ru.wk (ih 12 (.inl ⟨.inr ⟨k,af,step.1 he⟩,rfl⟩))
  refine ah ?_;refine Ru.wk (ih W ?_);have:(∃j,j<k+1/\R.getD (d.getD j 0).toNat 0=R.getD w 0)↔∃j,j<k/\R.getD (d.getD j 0).toNat 0=R.getD w 0:=⟨λ⟨j,hj,e⟩=>⟨j,by
   by_cases h:j=k;·subst h;exact absurd (step.2 e) he
   omega,e⟩,λ⟨j,hj,e⟩=>⟨j,af,e⟩⟩;unfold xe;rw[this];exact hW
 refine Ru.exitTo ?_;obtain rfl:k=d.length:=af;have U:=U.cI hl.gr;refine ah ?_;refine RO.eQ U 0 ?_;refine RO.cl (Kh T (dQ.nM U.gr G) af (λb hb=>⟨m.jx.sm.bl b hb,m.jx.sm.st b hb,m.jx.sm.ed b hb⟩) λb3 d7 hg i=>?_);have U:=U.cI hg;have cd:=i.one;have hl:=hl.cI hg;have b4:fZ b3 (R.set v (R.getD w 0)) (.slice qo 0 n cap ex):=by have:=hl.sl (e:=3) (size:=1) (sv:=.slice qo 0 n cap ex) (vs:=(R.set v (R.getD w 0)).map aI) (n:=n) (full:=true) 0;unfold fZ;rw[ak4,J];exact this
 refine ah ?_;refine RO.cl (agJ T V i F af b4 (by rw[ak4];omega) λd' e f z r Z h1 h2 h3 h4 hg=>?_);have U:=U.cI hg;obtain rfl:=hW.one (key h1 h2 h3 h4);refine ah ?_;refine RO.de (λ_=>?_) (λA=>absurd rfl A);refine ah ?_;refine RO.cl (t λea hg=>?_);have U:=U.cI hg;refine ah ?_;exact Ru.aV (h _ U.gr)
end
end
end Go.am.R
namespace Go.am
section
variable[Ov]
section
variable{P:Program}
def agN(w:World):cU:=⟨λb=>w.heap.size<=b,λ_=>True,λ_=>False,λ_=>False⟩
end
section
variable{P:Program}
def nj(n c:Nat):Value->AV
 |.int k m=>.int (kc k) m
 |.bool b=>.bool b
 |.string t=>.str (t.data.toList.map alv)
 |.slice none 0 0=>.aS
 |.slice (some a) len cap=>if len<=cap then(if cap=0 then(if 0<c then .slice (ab.dF n) 0 0 0 true else .co)else match a with
   |⟨b,off,none⟩=>if b<c then .slice (ab.dF (n+b)) off len cap true else .co
   |_=>.co)else .co
 |_=>.co
def y9(P:Program)(n:Nat)(w:World):aP:=⟨λj=>if j.an<=n then some (j.an - 1,0)else if j.an<=n+w.heap.size then some (j.an - n - 1,0)else none,λb=>match w.heap[b]? with
 |some (.cells cs e _)=>(cs.size,(fY P e).getD 0)
 |_=>(0,0)⟩
theorem Ko{n b:Nat}{w:World}(h:b<w.heap.size):y9 P n w (ab.dF (n+b))=some (b,0):=by show(if(ab.dF (n+b)).an<=n then _ else _)=_;rw[ab.ml,aq af,aK af];congr 2;omega
theorem Q3{n:Nat}{w:World}(v:Value):VR (y9 P n w) (nj n w.heap.size v) v:=by
 unfold nj;split;·trivial
 .rfl
 .rfl
 .trivial
 .split
  .rename_i h1;split
   .rename_i h2;subst h2;split;·rename_i h3;simp only[VR];exact⟨af,afb _,afb _,λ_=>trivial,0,0,by have:=Ko (P:=P) (n:=n) h3;omega,λh=>absurd rfl h,λh=>by simp⟩
    trivial
   split;·rename_i b off;split;all_goals simp_all[VR,trivial,afb,Ko,akh]
   trivial
  trivial
 trivial
def rE(n:Nat)(w:World)(b:Nat):cq:=match w.heap[b]? with
 |some (.cells cs e _)=>.cells (db (cs.toList.map (nj n w.heap.size))) cs.size e false [] 0
 |_=>.none
def Fy(n:Nat)(w:World):Nat->ap cq
 |0=>.aL
 |k+1=>(Fy n w k).set .none (ab.dF (n+k)) (rE n w k)
def nk(n:Nat)(w:World):ai:=⟨Fy n w w.heap.size,ab.dF (n+w.heap.size)⟩
theorem Q4(n:Nat)(w:World)(j:ab):∀k,ap.get cq.none j (Fy n w k)=if n<j.an/\j.an<=n+k then rE n w (j.an - n - 1)else .none
 |0=>by rw[aq af];exact rT j j
 |k+1=>by
  rw[Fy,ap.aF,Q4 n w j k];have e:j=ab.dF (n+k)↔j.an=n+k+1:=⟨λe=>by rw[e,ab.ml],λe=>ab.uC (by rw[ab.ml];exact e)⟩;by_cases h:j.an=n+k+1;·rw[aK (e.2 h),aK af];congr 1;omega
  rw[aq λa=>h (e.1 a)];by_cases h2:n<j.an/\j.an<=n+k;·rw[aK h2,aK af]
  rw[aq h2,aq af]
theorem Q5(n:Nat)(w:World)(j:ab):(nk n w).get j=if n<j.an/\j.an<=n+w.heap.size then rE n w (j.an - n - 1)else .none:=Q4 n w j _
theorem Q6{n b:Nat}{w:World}(h:b<w.heap.size):(nk n w).get (ab.dF (n+b))=rE n w b:=by rw[Q5,ab.ml,aK af];congr 1;omega
theorem agO{n b:Nat}{w:World}{cs:Array Value}{e:TypeId}{fr:Nat×Nat}(h:w.heap[b]?=some (.cells cs e fr)):OR P (y9 P n w) (rE n w b) 0 (.cells cs e fr):=by simp only[rE,h,OR];simp_all[trivial,i,akh,getElem?_pos,Ao,akN,Array.getElem_toList,Q3]
theorem agP{n:Nat}{w:World}(E:P.globals.size=n)(F:n<=w.heap.size):bz P (agN w) (y9 P n w) (nk n w) w:=by
 have hg:=Q5 n w;have key:∀i,(nk n w).get i≠.none->∃b c e f,i.an=n+b+1/\b<w.heap.size/\w.heap[b]?=some (.cells c e f)/\(nk n w).get i=rE n w b/\y9 P n w i=some (b,0):=by
  intro i hi;have r:=hg i;rw[r]at hi;split at hi
  .rename_i h;have hb:i.an - n - 1<w.heap.size:=af;have p:=hi;unfold rE at p;split at p;·rename_i cs e f z;refine⟨i.an - n - 1,cs,e,f,af,hb,z,by rw[r,aK h],?_⟩;rw[show i=ab.dF (n+(i.an - n - 1))from ab.uC (by rw[ab.ml];omega)];have:=Ko (P:=P) (n:=n) hb;rw[this,ab.ml];congr 2;omega
   exact absurd rfl p
  exact absurd rfl hi
 have l:∀b c e f,w.heap[b]?=some (.cells c e f)->rE n w b=.cells (db (c.toList.map (nj n w.heap.size))) c.size e false [] 0:=λb c e f h=>by simp only[rE,h]
 have s:∀i j,i∉((nk n w).get j).aM:=λi j h=>by
  by_cases hj:(nk n w).get j=.none;·rw[hj]at h;cases h
  obtain⟨b,c,e,f,_,_,h3,o,_⟩:=key j hj;rw[o,l b c e f h3]at h;cases h
 refine⟨λi hi=>?_,λi j b x y u hi hj a m=>?_,λi j h=>absurd h (s i j),λi b x hi v q=>?_,λi hi=>?_,λk A=>⟨A,trivial⟩,λg h=>?_,λi b x G hi a m=>?_,λi b x q=>?_,λi b x _ _=>trivial,λi h=>h.elim,λi h=>h.elim⟩;·obtain⟨b,c,e,f,_,_,h3,o,t⟩:=key i hi;exact⟨b,0,_,t,h3,by rw[o];exact agO h3⟩
 .exfalso;obtain⟨b1,_,_,_,i1,_,_,_,B⟩:=key i hi;obtain⟨b2,_,_,_,i2,_,_,_,C⟩:=key j hj;rw[B]at a;rw[C]at m;injection a with a;injection a with a;injection m with m;injection m with m;exact u (ab.uC af)
 .obtain⟨b1,c,e,f,_,_,h3,o,_⟩:=key i hi;rw[o,l b1 c e f h3]at v;cases v
 .have D:n+w.heap.size+1<=i.an:=by have:(ab.dF (n+w.heap.size)).an<=i.an:=hi;rw[ab.ml]at this;exact this
  refine⟨by rw[hg,aq af],?_⟩;show(if i.an<=n then _ else _)=_;rw[aq af,aq af]
 .show(if(ab.dF g).an<=n then _ else _)=_;rw[ab.ml,aK af];simp
 .obtain⟨b1,c,e,f,_,_,h3,o,t⟩:=key i hi;rw[t]at a;injection a with a;injection a with a;subst a;rw[h3]at m;injection m with m;subst m;rw[o,l b1 c e f h3];simp only[gS];show(match w.heap[b1]? with|some (.cells cs e _)=>(cs.size,(fY P e).getD 0)|_=>(0,0))=_;rw[h3]
 have d:(if i.an<=n then some (i.an - 1,0)else if i.an<=n+w.heap.size then some (i.an - n - 1,0)else none)=some (b,x):=q;have:=ab.uB i;split at d;·injection d with d;injection d with d;omega
 split at d;·injection d with d;injection d with d;omega
 cases d
end
section
variable{P:Program}{K:Type}{eL:TypeId×Value->K}{w:World}{n:Nat}
def oG(eL:TypeId×Value->K)(P:Program)(w:World)(t:TypeId)(cs:List Value):Prop:=∃fuel x,DataW.trod eL P w 0 (λ_=>true) true fuel t cs=some x
theorem Q7{a:Addr}{v:Value}(h:w.cell? a=some v):∃c e f,a.spot=none/\w.heap[a.block]?=some (.cells c e f)/\c[a.off]?=some v:=by unfold World.cell? at h;split at h;all_goals simp_all
theorem Q8{b off i:Nat}:(⟨b,off,none⟩:Addr).add i=⟨b,off+i,none⟩:=by simp[Addr.add]
theorem Q9{c:Type}{Q:Nat->c->Prop}:∀{len:Nat},(∀i,i<len->∃a,Q i a)->∃b:List c,b.length=len/\∀i(h:i<b.length),Q i b[i]|0,_=>⟨[],rfl,λi h=>absurd h aB⟩|len+1,h=>by obtain⟨b,h1,h2⟩:=Q9 (len:=len) λi hi=>h i af;obtain⟨a,d⟩:=h len aB;refine⟨b++[a],by grind,λi hi=>?_⟩;grind
theorem C'{M:Type}{R:ai->M->List AV->Prop}{X:M->Prop}{t e:TypeId}{size:Nat}(ht:P.underlying t=some (.slice e))(A:P.cellsOf e=size)(S:0<size)(hg:∃c e f,w.heap[0]?=some (.cells c e f))(T:∀cs,oG eL P w e cs->∃a:M,R (nk n w) a (cs.map (nj n w.heap.size))/\X a){cs:List Value}(h:oG eL P w t cs):∃v N,cs=[v]/\dV size R (nk n w) N (nj n w.heap.size v)/\∀a∈N,X a:=by
 obtain⟨fuel,x,h⟩:=h;obtain⟨c0,e0,f0,V⟩:=hg;have B:0<w.heap.size:=(Array.getElem?_eq_some_iff.1 V).1;rcases DataW.trod_slice ht h with⟨rfl,_⟩|⟨a,len,cap,r,I,m,_,rfl,_,_,C,_,aw,J,s,_⟩;·exact⟨_,[],rfl,⟨[],.inl ⟨rfl,rfl,rfl⟩,λk l=>absurd l aB⟩,λa h=>by grind⟩
 have D:∀i,i<cap->∃cs,w.cells? 0 (a.add (i*size)) size=some cs/\(i<len->∃y,DataW.trod eL P w 0 (λ_=>true) true m e cs=some y):=λi hi=>by
  by_cases hl:i<len;·have h1:=J i hl;rw[getElem?_pos r i af,aed]at h1;obtain⟨cs,h2,h3⟩:=h1;rw[A]at h2;exact⟨cs,h2,λ_=>⟨_,h3⟩⟩
  obtain⟨h0,h1⟩:=s rfl;have h1:=h1 (i - len) af;rw[getElem?_pos I _ af,aed]at h1;obtain⟨cs,h2,_⟩:=h1;rw[A,show len+(i - len)=i by omega]at h2;exact⟨cs,h2,λh=>absurd h hl⟩
 by_cases E:cap=0
 .subst E;obtain rfl:len=0:=af;refine⟨_,[],rfl,⟨[],?_,λk l=>absurd l aB⟩,λa h=>by grind⟩;simp only[nj,afb,bq,B];refine .inr ⟨ab.dF n,0,0,true,db (c0.toList.map (nj n w.heap.size)),c0.size,e0,false,[],0,rfl,?_,aB,aB,λj hj=>absurd hj aB,?_,afb _⟩;·have:=Q6 (n:=n) B;simp_all[alG,rE]
  show(ab.dF n).an<(ab.dF (n+w.heap.size)).an;simp_all[ab.ml]
 obtain⟨W,h1,_⟩:=D 0 af;obtain⟨_,ax,Y⟩:=World.cells?_some h1;have F:=Y 0 S;rw[getElem?_pos W 0 af]at F;obtain⟨c,e',f',q,d,g⟩:=Q7 F;have Z:(a.add (0*size)).add 0=a:=by rw[Nat.zero_mul];unfold Addr.add;simp
 rw[Z]at q d g;obtain⟨b,off,sp⟩:=a;simp only at q d g;subst q;have cA:b<w.heap.size:=(Array.getElem?_eq_some_iff.1 d).1;have cell:∀i,i<cap->∃cs,cs.length=size/\(∀j(h:j<cs.length),c[off+i*size+j]?=some cs[j])/\(i<len->∃y,DataW.trod eL P w 0 (λ_=>true) true m e cs=some y):=λi hi=>by obtain⟨cs,O,u⟩:=D i hi;obtain⟨_,z,Q⟩:=World.cells?_some O;refine⟨cs,z,λj hj=>?_,u⟩;have g5:=Q j af;rw[getElem?_pos cs j hj,Q8,Q8]at g5;obtain⟨c',_,_,_,o,g7⟩:=Q7 g5;simp only at o g7;rw[d]at o;injection o with o;injection o with o;subst o;exact g7
 have K:off+len*size<=c.size:=by
  by_cases ag:len=0;·subst ag;have:=(Array.getElem?_eq_some_iff.1 g).1;omega
  obtain⟨cs,O,u,_⟩:=cell (len - 1) af;have:=(Array.getElem?_eq_some_iff.1 (u (size - 1) af)).1;have e:len*size=(len - 1)*size+size:=by conv=>lhs;rw[show len=len - 1+1 by omega,Nat.succ_mul]
  omega
 have L:nj n w.heap.size (.slice (some ⟨b,off,none⟩) len cap)=.slice (ab.dF (n+b)) off len cap true:=by simp only[nj,C,E,cA,bq,bP]
 let p:List AV:=(ake (len*size)).map λj=>nj n w.heap.size (c.getD (off+j) default);have G:p.length=len*size:=by simp[p]
 have ar:∀i,i<len->∃a:M,R (nk n w) a ((p.drop (i*size)).take size)/\X a:=λi hi=>by
  obtain⟨cs,O,u,z⟩:=cell i af;obtain⟨y,z⟩:=z hi;obtain⟨a,r1,r2⟩:=T cs ⟨m,y,z⟩;refine⟨a,?_,r2⟩;suffices e:(p.drop (i*size)).take size=cs.map (nj n w.heap.size)by rw[e];exact r1
  have ay:i*size+size<=len*size:=by rw[<-Nat.succ_mul];exact aky _ hi
  apply alg;·rw[akF,alC,G,akg,O];omega
  intro j h1 h2;rw[akg]at h2;have Q:=u j h2;simp only[List.getElem_take,List.getElem_drop,p,akN,alA];rw[<-alo,akJ,Q];rfl
 obtain⟨N,av,hq⟩:=Q9 ar;refine⟨_,N,rfl,⟨p,?_,λk l=>(hq k l).1⟩,λa ha=>?_⟩
 .rw[L,av];refine .inr ⟨ab.dF (n+b),off,cap,true,db (c.toList.map (nj n w.heap.size)),c.size,e',false,[],0,rfl,?_,K,G,λj hj=>?_,?_,C⟩;·rw[Q6 cA];simp only[rE,d]
  .have H:off+j<c.size:=af;rw[Ao (by simpa using H)];simp only[akN,Array.getElem_toList,p,alA];rw[akJ,getElem?_pos c _ H];rfl
  show(ab.dF (n+b)).an<(ab.dF (n+w.heap.size)).an;rw[ab.ml,ab.ml];omega
 obtain⟨k,l,rfl⟩:=aka ha;exact(hq k l).2
end
section
variable{P:Program}{K:Type}{eL:TypeId×Value->K}{w:World}{n:Nat}
def A6(P:Program)(t:TypeId)(l:List (TypeId×Nat)):Prop:=∃fs,P.underlying t=some (.struct fs)/\fs.toList.map (λf=>(f.type,f.offset))=l
theorem Da{t:TypeId}{l:List (TypeId×Nat)}(c:A6 P t l){cs:List Value}(h:oG eL P w t cs):cs.length=P.cellsOf t/\∀p∈l,oG eL P w p.1 ((cs.drop p.2).take (P.cellsOf p.1)):=by
 obtain⟨fs,d,rfl⟩:=c;obtain⟨fuel,x,h⟩:=h;obtain⟨e,m,_,_,h1,h2,h3⟩:=DataW.trod_struct d h;refine⟨h1,λp g=>?_⟩;obtain⟨f,a,rfl⟩:=akk.1 g;obtain⟨i,hi,rfl⟩:=aka a;have b:i<fs.size:=by simpa using hi
 have:=h3 i fs[i] (getElem?_pos fs i b);rw[getElem?_pos e i af]at this;exact⟨m,_,this⟩
structure Q'(P:Program)where
 i:TypeId
 u:TypeId
 s:TypeId
 is:TypeId
 us:TypeId
 e:TypeId
 es:TypeId
 st:TypeId
 Db:TypeId
 j:TypeId
 b:TypeId
 bs:TypeId
 g:TypeId
 hi:P.underlying i=some (.int .i64)
 hu:P.underlying u=some (.int .u8)
 hs:P.underlying s=some .string
 ji:P.underlying is=some (.slice i)
 Ra:P.underlying us=some (.slice u)
 k7:P.underlying es=some (.slice e)
 Rb:P.underlying Db=some (.slice st)
 cA:P.underlying bs=some (.slice b)
 he:A6 P e [(i,0),(is,1)]
 eh:A6 P st [(u,0),(i,1),(is,2),(i,3),(i,4),(s,5)]
 hj:A6 P j [(u,0),(is,1),(s,2),(us,3),(es,4)]
 hb:A6 P b [(is,0),(Db,1),(j,2)]
 hg:A6 P g [(s,0),(i,1),(i,2),(bs,3)]
 ci:P.cellsOf i=1
 cu:P.cellsOf u=1
 cs:P.cellsOf s=1
 Dc:P.cellsOf is=1
 Rc:P.cellsOf us=1
 bx:P.cellsOf es=1
 Re:P.cellsOf Db=1
 Rf:P.cellsOf bs=1
 ce:P.cellsOf e=2
 Kq:P.cellsOf st=6
 cj:P.cellsOf j=5
 cb:P.cellsOf b=7
 cg:P.cellsOf g=4
abbrev AW(n:Nat)(w:World)(cs:List Value):List AV:=cs.map (nj n w.heap.size)
theorem dV.Rg{g:Type}{f:g->AV}{H:ai}{c:List g}{v:AV}(h:dV 1 (λ_ a cs=>cs=[f a]) H c v):Sl H 1 (c.map f) c.length v:=by
 obtain⟨i,h1,h2⟩:=h;have hl:=h1.length;have e:i=c.map f:=by apply alg (by rw[hl,akg];omega);intro k d b;rw[akg]at b;have:=h2 k b;rw[alt,aj9 d]at this;simp only[als,alm,akn,and_true]at this;rw[akN,this]
 grind
variable(Y:Q' P)
section
variable{Y}
theorem za{cs:List Value}(h:oG eL P w Y.i cs):∃m:Int,AW n w cs=[aI m]:=by obtain⟨fuel,x,h⟩:=h;obtain⟨m,rfl,_⟩:=DataW.trod_int Y.hi h;exact⟨m,rfl⟩
theorem Kr{cs:List Value}(h:oG eL P w Y.u cs):∃m:Nat,AW n w cs=[aU m]/\m<256:=by obtain⟨fuel,x,h⟩:=h;obtain⟨m,rfl,_,a⟩:=DataW.trod_int Y.hu h;simp only[Lit.wf,aj6,decide_eq_true_eq]at a;obtain⟨m,rfl⟩:∃k:Nat,m=k:=⟨m.toNat,by have:(0:Int)<=m:=a.1;omega⟩;exact⟨m,rfl,by have:(m:Int)<=255:=a.2;omega⟩
theorem Ks{cs:List Value}(h:oG eL P w Y.s cs):∃t:List Nat,AW n w cs=[.str t]/\∀c∈t,c<256:=by obtain⟨fuel,x,h⟩:=h;obtain⟨t,rfl,_⟩:=DataW.trod_string Y.hs h;exact⟨_,rfl,λc a=>by obtain⟨b,_,rfl⟩:=akk.1 a;exact b.toNat_lt⟩
variable(hg:∃c e f,w.heap[0]?=some (.cells c e f))
include hg
theorem Fz{cs:List Value}(h:oG eL P w Y.is cs):∃(v:AV)(l:List Int),AW n w cs=[v]/\fZ (nk n w) l v:=by obtain⟨v,a,rfl,h1,_⟩:=C' (n:=n) (R:=λ_(m:Int)cs=>cs=[aI m]) (X:=λ_=>True) Y.ji Y.ci aB hg (λcs h=>by obtain⟨m,e⟩:=za (Y:=Y) (n:=n) h;grind) h;exact⟨_,a,rfl,dV.Rg h1⟩
theorem agQ{cs:List Value}(h:oG eL P w Y.us cs):∃(v:AV)(l:List Nat),AW n w cs=[v]/\Ie (nk n w) l v/\∀c∈l,c<256:=by obtain⟨v,a,rfl,h1,h2⟩:=C' (n:=n) (R:=λ_(m:Nat)cs=>cs=[aU m]) (X:=λc=>c<256) Y.Ra Y.cu aB hg (λcs h=>by obtain⟨m,e,e2⟩:=Kr (Y:=Y) (n:=n) h;grind) h;exact⟨_,a,rfl,dV.Rg h1,h2⟩
theorem agR{cs:List Value}(h:oG eL P w Y.e cs):∃e:G.Edge,sa (nk n w) e (AW n w cs):=by obtain⟨hl,a⟩:=Da Y.he h;rw[Y.ce]at hl;match cs,hl with|[c0,c1],_=>have b:=a (Y.i,0) aB;have c:=a (Y.is,1) aB;simp only[Y.ci,Y.Dc]at b c;obtain⟨m,d⟩:=za (Y:=Y) (n:=n) b;obtain⟨v,l,e1,h1⟩:=Fz (Y:=Y) (n:=n) hg c;simp only[List.drop_zero,als,alm,aj7,ali,List.drop_succ_cons,akn,and_true]at d e1;exact⟨⟨m,l⟩,v,by grind,h1⟩
theorem agS{cs:List Value}(h:oG eL P w Y.st cs):∃s:G.ic,qT (nk n w) s (AW n w cs)/\∀c∈s.name,c<256:=by obtain⟨hl,a⟩:=Da Y.eh h;rw[Y.Kq]at hl;match cs,hl with|[c0,c1,c2,c3,c4,c5],_=>have b:=a (Y.u,0) aB;have d:=a (Y.i,1) aB;have e:=a (Y.is,2) aB;have f:=a (Y.i,3) aB;have g:=a (Y.i,4) aB;have j:=a (Y.s,5) aB;simp only[Y.ci,Y.Dc,Y.cu,Y.cs]at b d e f g j;obtain⟨k,m,_⟩:=Kr (Y:=Y) (n:=n) b;obtain⟨o,e1⟩:=za (Y:=Y) (n:=n) d;obtain⟨v,l,e2,h2⟩:=Fz (Y:=Y) (n:=n) hg e;obtain⟨p,q⟩:=za (Y:=Y) (n:=n) f;obtain⟨r,x⟩:=za (Y:=Y) (n:=n) g;obtain⟨t,y,z⟩:=Ks (Y:=Y) (n:=n) j;simp only[List.drop_zero,als,alm,aj7,ali,List.drop_succ_cons,akn,and_true]at m e1 e2 q x y;exact⟨⟨k,o,l,p,r,t⟩,⟨v,by grind,h2⟩,z⟩
theorem agT{cs:List Value}(h:oG eL P w Y.j cs):∃j:G.lD,tw (nk n w) j (AW n w cs)/\(∀c∈j.name,c<256)/\∀c∈j.b9,c<256:=by obtain⟨hl,a⟩:=Da Y.hj h;rw[Y.cj]at hl;match cs,hl with|[c0,c1,c2,c3,c4],_=>have d:=a (Y.u,0) aB;have f:=a (Y.is,1) aB;have g:=a (Y.s,2) aB;have i:=a (Y.us,3) aB;have k:=a (Y.es,4) aB;simp only[Y.Dc,Y.cu,Y.cs,Y.Rc,Y.bx]at d f g i k;obtain⟨m,o,_⟩:=Kr (Y:=Y) (n:=n) d;obtain⟨p,q,e1,h1⟩:=Fz (Y:=Y) (n:=n) hg f;obtain⟨t,e2,h2⟩:=Ks (Y:=Y) (n:=n) g;obtain⟨v3,r,v,h3,b⟩:=agQ (Y:=Y) (n:=n) hg i;obtain⟨v4,x,l,y,_⟩:=C' (n:=n) (R:=sa) (X:=λ_=>True) Y.k7 Y.ce aB hg (λcs h=>by obtain⟨e,h⟩:=agR (Y:=Y) (n:=n) hg h;grind) k;simp only[List.drop_zero,als,alm,aj7,ali,List.drop_succ_cons,akn,and_true]at o e1 e2 v l;subst l;exact⟨⟨m,q,t,r,x⟩,⟨p,v3,nj n w.heap.size c4,by grind,h1,h3,y⟩,h2,b⟩
structure Kt(b:G.gV):Prop where
 st:∀s∈b.aD,∀c∈s.name,c<256
 fn:∀c∈b.aA.name,c<256
 kd:∀c∈b.aA.b9,c<256
theorem agU{cs:List Value}(h:oG eL P w Y.b cs):∃b:G.gV,kj (nk n w) b (AW n w cs)/\Kt b:=by obtain⟨hl,a⟩:=Da Y.hb h;rw[Y.cb]at hl;match cs,hl with|[c0,c1,c2,c3,c4,c5,c6],_=>have g:=a (Y.is,0) aB;have i:=a (Y.Db,1) aB;have k:=a (Y.j,2) aB;simp only[Y.Dc,Y.Re,Y.cj]at g i k;obtain⟨v0,l,m,h0⟩:=Fz (Y:=Y) (n:=n) hg g;obtain⟨p,o,e1,h1,d⟩:=C' (n:=n) (R:=qT) (X:=λs=>∀c∈s.name,c<256) Y.Rb Y.Kq aB hg (λcs h=>agS (Y:=Y) (n:=n) hg h) i;obtain⟨j,h2,e,f⟩:=agT (Y:=Y) (n:=n) hg k;simp only[List.drop_zero,als,alm,aj7,ali,List.drop_succ_cons,akn,and_true]at m e1 h2;subst e1;exact⟨⟨l,o,j⟩,⟨v0,nj n w.heap.size c1,_,by simp_all,h0,h1,h2⟩,d,e,f⟩
structure Rh(g:G.bu):Prop where
 nm:∀c∈g.name,c<256
 bl:∀b∈g.al,Kt b
theorem agV{cs:List Value}(h:oG eL P w Y.g cs):∃g:G.bu,iG (nk n w) g (AW n w cs)/\Rh g:=by obtain⟨hl,a⟩:=Da Y.hg h;rw[Y.cg]at hl;match cs,hl with|[c0,c1,c2,c3],_=>have c:=a (Y.s,0) aB;have d:=a (Y.i,1) aB;have e:=a (Y.i,2) aB;have f:=a (Y.bs,3) aB;simp only[Y.cs,Y.ci,Y.Rf]at c d e f;obtain⟨t,k,h0⟩:=Ks (Y:=Y) (n:=n) c;obtain⟨l,e1⟩:=za (Y:=Y) (n:=n) d;obtain⟨m,e2⟩:=za (Y:=Y) (n:=n) e;obtain⟨v3,o,j,h3,b⟩:=C' (n:=n) (R:=kj) (X:=Kt) Y.cA Y.cb aB hg (λcs h=>agU (Y:=Y) (n:=n) hg h) f;simp only[List.drop_zero,als,alm,aj7,ali,List.drop_succ_cons,akn,and_true]at k e1 e2 j;subst j;exact⟨⟨t,l,m,o⟩,⟨nj n w.heap.size c3,by grind,h3⟩,h0,b⟩
end
end
end
end Go.am
end
