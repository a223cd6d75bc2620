/- A part of the proof. No conditions. -/
import Derived.Test.YtjhkgigolpfcfaaGreatDoorA22
import Derived.Test.YtjhkgigolpfcfaaGreatDoorA18
set_option linter.all false
open List renaming mem_singleton->aep,mem_cons_of_mem->aey,mem_cons_self->aeU,length_map->akg,length_take->akF
open Nat renaming le_of_ble_eq_true->akc
noncomputable section
namespace Go.am.R
section
def eL(x:bV):Int:=2*x.1+x.2
def jd(o:List bV):List Int:=o.map eL
def uj(o:List bV):Prop:=∀x∈o,∃t:Nat,x.1=t/\(x.2=0\/x.2=1)
theorem af6{x y:bV}(a:∃t:Nat,x.1=t/\(x.2=0\/x.2=1))(b:∃t:Nat,y.1=t/\(y.2=0\/y.2=1))(h:eL x=eL y):x=y:=by grind[eL]
theorem Qt:∀{o p:List bV},uj o->uj p->jd o=jd p->o=p|[],[],_,_,_=>rfl|[],_::_,_,_,h=>by cases h|_::_,[],_,_,h=>by cases h|x::o,y::p,h1,h2,h=>by simp only[jd,aj7,akn]at h;rw[af6 (h1 x (aeU ..)) (h2 y (aeU ..)) h.1,Qt (λz a=>h1 z (aey _ a)) (λz a=>h2 z (aey _ a)) h.2]
theorem J9{x:bV}(a:∃t:Nat,x.1=t/\(x.2=0\/x.2=1)):0<=eL x/\(eL x).toNat/2=x.1.toNat:=by grind[eL]
section
variable{g:G.bu}
theorem C5{b:Nat}{o:List bV}(f:uj o):(cS g b o).map (λw=>(w.1,jd w.2))=lu g b (jd o):=by
 simp only[cS,lu,aH];split;·simp[jd,eL]
 split
 .cases hl:o.getLast? with
  |none=>
   have:o=[]:=by simpa using hl
   subst this;rfl
  |some x=>
   have h:=List.mem_of_getLast? hl;have d:o≠ []:=λe=>by rw[e]at hl;cases hl
   have c:o.length≠0:=λe=>d (akM e);have a:o[o.length - 1]'af=x:=by rw[List.getLast?_eq_getElem?,getElem?_pos o _ af]at hl;exact Option.some.inj hl
   have e1:(jd o).length=o.length:=by simp[jd]
   have e2:(jd o).getD (o.length - 1) 0=eL x:=by rw[bF (by rw[e1];exact qoz)];simp only[jd,akN,a]
   rw[e1,aq c,e2];simp only[aj7,ali,akn,and_true,aj1];refine⟨?_,by simp[jd,List.map_take]⟩;rw[ru,na,aH,(J9 (f x h)).2]
 rw[alx];rfl
theorem Qu{b:Nat}{o:List bV}(d:uj o):∀w∈cS g b o,uj w.2:=by
 intro w c;have wz:∀s,s=0\/s=1->uj (o++[((b:Int),s)]):=λs hs x a=>by
  rcases ahp.1 a with a|a;·exact d x a
  rw[aep]at a;subst a;exact⟨b,rfl,hs⟩
 simp only[cS]at c;split at c;·grind
 split at c
 .split at c;·rw[aep]at c;subst c;exact λx a=>d x (List.mem_of_mem_take a)
  grind
 grind
theorem lN.vG(a:mL g){b:Nat}{o:List bV}(h:lN g b o):lR g (-1) b (jd o)/\uj o:=by
 induction h with
 |zero=>exact⟨.zero aB,λx i=>by grind⟩
 | @step b o w h c e=>
  obtain⟨h1,h2⟩:=e;obtain⟨h3,f⟩:=h1.ok a;have d:(w.1,jd w.2)∈lu g b (jd o):=by rw[<-C5 h2];exact akk.2 ⟨w,c,rfl⟩
  have:=(vE a h3 f _ d).1;exact⟨.step h1 d af,Qu h2 w c⟩
theorem lR.dO{b:Nat}{o:List Int}(h:lR g (-1) b o):∃p,lN g b p/\uj p/\jd p=o:=by induction h with|zero _=>exact⟨[],.zero,λx e=>(by grind),rfl⟩| @step b o w h a f c=>obtain⟨p,h1,h2,rfl⟩:=c;rw[<-C5 h2]at a;obtain⟨d,h3,rfl⟩:=akk.1 a;exact⟨d.2,.step h1 h3,Qu h2 _ h3,rfl⟩
theorem lR.mono(a:mL g){e:Int}{b:Nat}{o:List Int}(h:lR g e b o):lR g (-1) b o:=by induction h with|zero _=>exact .zero aB|step h c _ d=>obtain⟨h3,f⟩:=d.ok a;have:=(vE a h3 f _ c).1;exact .step d c af
theorem lR.nil(a:mL g){c:Int}{b:Nat}{o:List Int}(h:lR g c b o)(hb:b=0):o=[]:=by cases h with|zero _=>rfl|step h d _=>obtain⟨h3,e⟩:=h.ok a;have:=(vE a h3 e _ d).1;exact qoz
theorem lR.comp(c:mL g){c1:List Bool}{o1:List (List Int)}(a:lw g (-1) c1 o1)(d:∀b,oF g (-1) c1 o1 false b){b:Nat}{o:List Int}(h:lR g (-1) b o):c1.getD b false=true/\o1.getD b []=o:=by induction h with|zero h=>have h1:=a.c0 h;exact⟨h1,(a.snd 0 h1).nil c rfl⟩| @step b o w h f i e=>obtain⟨h1,h2⟩:=e;rcases d b h1 w (by grind)with h3|⟨h3,j⟩;all_goals grind
theorem lR.Qv(c:mL g){c1:List Bool}{o1:List (List Int)}(i:lw g (-1) c1 o1)(j:∀b,oF g (-1) c1 o1 false b){d:Int}{e:List Bool}{k:List (List Int)}{m:Bool}(a:lw g d e k)(f:∀b,oF g d e k m b){b:Nat}{o:List Int}(h:lR g d b o):e.getD b false=true:=by induction h with|zero h=>exact a.c0 h| @step b o w h n p l=>have e1:=((a.snd b l).mono c).comp c i j;have e2:=(h.mono c).comp c i j;rcases f b l w (by grind)with h3|⟨h3,_⟩;all_goals exact qoz
variable{come:List Bool}{os:List (List bV)}{c1:List Bool}{o1:List (List Int)}
theorem af7(a:mL g)(r:g.al.length<=30)(d:lw g (-1) c1 o1)(e:∀b,oF g (-1) c1 o1 false b):jm g:=by
 refine⟨λh j=>?_,λ{b o}h w k=>?_,λ{b o}h=>?_,λ{b o}h=>?_⟩;·obtain⟨h1,h2⟩:=h.vG a;obtain⟨h3,c⟩:=j.vG a;exact Qt h2 c ((h1.comp a d e).2.symm.trans (h3.comp a d e).2)
 .obtain⟨h1,h2⟩:=h.vG a;obtain⟨h3,c⟩:=h1.ok a;have l:(w.1,jd w.2)∈lu g b (jd o):=by rw[<-C5 h2];exact akk.2 ⟨w,k,rfl⟩
  have:=(vE a h3 c _ l).1;exact qoz
 .obtain⟨h1,_⟩:=h.vG a;exact⟨(h1.ok a).1,a.t3 b (h1.ok a).1⟩
 obtain⟨h1,h2⟩:=h.vG a;obtain⟨h3,c⟩:=h1.ok a;obtain⟨m,n⟩:=h1.comp a d e;have i:=d.jx b m;rw[n]at i;simp only[jd,akg]at i;refine⟨⟨λx f=>?_⟩,af⟩;obtain⟨e1,e2⟩:=J9 (h2 x f);obtain⟨_,p,q⟩:=c (eL x) (akp f);rw[e2]at p q;obtain⟨t,s,_⟩:=h2 x f;grind
theorem Qw(a:mL g)(e:jm g)(c:lw g (-1) c1 o1)(f:∀b,oF g (-1) c1 o1 false b)(d:cX g come os){b:Nat}:come.getD b false=true↔c1.getD b false=true:=by
 constructor;·intro h;exact(((d.dO b h).vG a).1.comp a c f).1
 intro h;obtain⟨p,h1,_,_⟩:=(c.snd b h).dO;exact(d.sF e h1).1
theorem Qx(a:mL g)(d:lw g (-1) c1 o1)(e:∀b,oF g (-1) c1 o1 false b)(c:cX g come os){b:Nat}(h:come.getD b false=true):o1.getD b []=jd (os.getD b [])/\uj (os.getD b []):=⟨(((c.dO b h).vG a).1.comp a d e).2,((c.dO b h).vG a).2⟩
theorem Qy(e:mL g)(i:jm g)(c:cX g come os){d b:Nat}(h:pI (wW g os) d b):come.getD b false=true/\lR g (d:Int) b (jd (os.getD b [])):=by
 induction h with
 |zero h=>refine⟨c.c0,?_⟩;have:=(c.sF i .zero).2;rw[this];exact .zero af
 | @step a x h l p m=>
  obtain⟨h1,h2⟩:=m;obtain⟨w,j,rfl⟩:=akk.1 l;have hl:=c.dO a h1;have h3:=c.sF i (.step hl j);have f:=(hl.vG e).2;have k:(w.1,jd w.2)∈lu g a (jd (os.getD a [])):=by rw[<-C5 f];exact akk.2 ⟨w,j,rfl⟩
  obtain⟨n,o⟩:=h2.ok e;have:=(vE e n o _ k).1;refine⟨h3.1,?_⟩;rw[h3.2];exact .step h2 k af
theorem af8(a:mL g)(l:jm g)(f:lw g (-1) c1 o1)(i:∀b,oF g (-1) c1 o1 false b)(j:cX g come os){d b:Nat}{o:List Int}(h:lR g (d:Int) b o):pI (wW g os) d b:=by induction h with|zero h=>exact .zero af| @step b o w h c r k=>have m:=(Qy a l j k).1;obtain⟨h1,h2⟩:=Qx a f i j m;have h3:=((h.mono a).comp a f i).2;obtain⟨n,p⟩:=h.ok a;have s:=(vE a n p _ c).1;rw[<-h3,h1,<-C5 h2]at c;obtain⟨q,e,rfl⟩:=akk.1 c;exact .step k (akk.2 ⟨q,e,rfl⟩) af
theorem af9(c:mL g)(k:jm g)(d:lw g (-1) c1 o1)(e:∀b,oF g (-1) c1 o1 false b)(l:cX g come os){q:List (List Bool)}(m:JS g q){a b:Nat}(r:a<g.al.length)(hb:b<g.al.length):(q.getD a []).getD b false=true↔come.getD a false=true/\come.getD b false=true/\gO (wW g os) a b:=by
 obtain⟨c2,o2,t2,f,n,j⟩:=m.ex;obtain⟨_,s,v,w,i,o,p⟩:=j a r;have h2:∀{x},come.getD x false=true↔c2.getD x false=true:=λ{x}=>by
  rw[Qw c k d e l];constructor;·intro h;exact(d.snd x h).Qv c d e f n
  intro h;exact((f.snd x h).comp c d e).1
 rw[p b hb,vF,h2,h2];simp only[aj6,alf,decide_eq_true_eq,akU,and_assoc];refine and_congr_right λ_=>and_congr_right λu=>?_;constructor
 .rintro(rfl|h);·exact gO.JE
  intro t;have:=(Qy c k l t).2.Qv c d e i o;grind
 intro hd;cases h:s.getD b false with|false=>simp|true=>exact absurd (af8 c k d e l (i.snd b h)) hd
end
end
section
theorem Kd{l:List Int}{n:Nat}{p:Int×Int}(h:p∈oB l n):p.1∈l/\p.2=n:=by obtain⟨x,a,rfl⟩:=akk.1 h;grind
theorem Qz:∀{l:List G.ic}{i:Nat}{p:Int×Int},p∈jI l i->∃j,∃h:j<l.length,p.2=((i+j:Nat):Int)/\p.1∈l[j].args
 |s::l,i,p,h=>by
  rcases ahp.1 h with h|h;·obtain⟨h1,h2⟩:=Kd h;exact⟨0,aB,af,h1⟩
  obtain⟨j,hj,h1,h2⟩:=Qz h;exact⟨j+1,by grind,af,by grind⟩
theorem QA:∀{l:List G.Edge}{n:Nat}{p:Int×Int},p∈kE l n->p.2=n/\∃e∈l,p.1∈e.args
 |e::l,n,p,h=>by
  rcases ahp.1 h with h|h;·obtain⟨h1,h2⟩:=Kd h;grind
  obtain⟨h1,e2,h2,h3⟩:=QA h;grind
theorem agc{B:G.gV}{p:Int×Int}(h:p∈kF B):∃k,k<=B.aD.length/\p.2=(k:Int)/\p.1∈kU B k:=by
 have a:p.1∈ui B.aA->p.2=(B.aD.length:Int)->∃k,k<=B.aD.length/\p.2=(k:Int)/\p.1∈kU B k:=λh1 h2=>⟨_,afb _,h2,by rw[kU,aq af];exact h1⟩;rcases ahp.1 h with h|h;·obtain⟨j,hj,h1,h2⟩:=Qz h;exact⟨j,af,af,by simp[hj,h2,kU,aK,bF]⟩
 rcases ahp.1 h with h|h;·obtain⟨h1,h2⟩:=Kd h;exact a (akf _ h1) h2
 obtain⟨h1,e,h2,h3⟩:=QA h;exact a (akq _ (akZ.2 ⟨e,h2,h3⟩)) h1
section
variable{g:G.bu}{come:List Bool}{os:List (List bV)}
theorem agd(d:sD g)(j:vC g){gl:List Int}(a:sH g.bp.toNat g.params.toNat gl (pd g g.al.length)){v:Int}(h0:g.params<=v)(h1:v<g.bp):∃s:Nat,s<g.al.length/\gl.getD v.toNat 0=s/\AY g v=s:=by have e:=d.all v h0 h1;rw[<-ak7 (l:=g.al),<-Fk g _ (afb _)]at e;obtain⟨p,f,rfl⟩:=akk.1 e;have h2:=a.bH p f;obtain⟨i,hi,b⟩:=akZ.1 f;rw[ak3]at hi;obtain⟨x,h,rfl⟩:=akk.1 b;refine⟨i,hi,h2,?_⟩;have hb:=oC hi;rw[<-PV λy k=>(d.aD _ hb y k).r.t0]at h;obtain⟨q,l,c⟩:=akk.1 h;have:=j.at (v:=x) (p:=q.2) hi (by rw[<-c];exact l);grind
theorem age(z:sD g)(hn:g.al.length<=30)(h:JT g)(S:jm g)(B:vC g)(C:cX g come os):yT g come os:=by
 obtain⟨c1,o1,W,gl,A,D,G,H,I⟩:=h.ex;have j:=z.sh;have key:∀b,come.getD b false=true->b<g.al.length/\C1 g o1 W gl b/\o1.getD b []=jd (os.getD b [])/\uj (os.getD b [])/\wX g (jd (os.getD b [])):=λb hb=>by have h1:=(Qw j S A D C).1 hb;have h2:=Qx j A D C hb;have h3:=(A.snd b h1).ok j;rw[h2.1]at h3;exact⟨h3.1,I b h3.1 h1,h2.1,h2.2,h3.2⟩
 refine⟨λb hb J=>?_,λb hb K=>?_,λb hb p X=>?_⟩
 .obtain⟨d,l,E,L,ia⟩:=key b hb;obtain⟨h1,h2⟩:=l.en J;rw[E]at h1 h2;have hl:(jd (os.getD b [])).length=(os.getD b []).length:=by simp[jd]
  rw[hl]at h1 h2;generalize os.getD b []=o at*;have f:o.length - 1<o.length:=af;have T:=agB f;have he:(jd o).getD (o.length - 1) 0=eL o[o.length - 1]:=by rw[bF (by rw[hl];exact f)];simp only[jd,akN]
  rw[he]at h2;have m:ru g (eL o[o.length - 1])=na g o[o.length - 1]:=by rw[ru,na,aH,(J9 (L _ T)).2]
  obtain⟨_,Y,k3⟩:=ia (eL o[o.length - 1]) (akp T);have M:=j.rg _ Y _ (agB (l:=(aH g ((eL o[o.length - 1]).toNat/2)).aA.go) (n:=2) af);have N:ru g (eL o[o.length - 1])=(aH g ((eL o[o.length - 1]).toNat/2)).aA.go[2].block:=by rw[ru,bF af]
  rw[<-N,m]at M;rw[m]at h2;exact⟨o[o.length - 1],by rw[List.getLast?_eq_getElem?,getElem?_pos o _ f],af,af,h2.symm⟩
 .obtain⟨_,l,E,_,_⟩:=key b hb;have:=l.rt K;rw[E]at this;simpa[jd]using this
 obtain⟨d,l,_,_,_⟩:=key b hb;obtain⟨k,Z,O,a⟩:=agc X;have hrd:=l.rd k Z p.1 a;obtain⟨x,bH⟩:=p;simp only at O a hrd;have P:=B.v0;have ag:=E' P;have v:0<=x/\x<g.bp:=by
  have n:=oC d;unfold kU at a;split at a;·rename_i V;rw[bF V]at a;have:=(z.aD _ n _ (agB V)).r.pF x a;exact qoz
  have u:=z.CD _ n;rcases ahp.1 a with a|a;·have:=u.pF x a;exact qoz
  obtain⟨e,he,a⟩:=akZ.1 a;obtain⟨y,F,rfl⟩:=aka he;have:=(u.E0 y F).pF x a;exact qoz
 obtain⟨t,rfl⟩:∃t:Nat,x=t:=⟨x.toNat,af⟩;refine⟨t,rfl,af,?_⟩;by_cases w:(t:Int)<g.params;·exact .inl w
 obtain⟨s,hs,Q,R⟩:=agd z B H (v:=(t:Int)) af v.2;unfold wZ at hrd;rw[Q,aj3]at hrd;rcases hrd with h1|⟨h1,h2⟩|h1;·exact qoz
 .have h3:=(af9 j S A D C G hs d).1 h2;exact .inr (.inr ⟨s,R,af,h3.1,h3.2.2⟩)
 obtain⟨q,hq,ar⟩:∃q,((t:Int),q)∈dC (aH g b)/\q<(k:Int):=by
  rcases ahp.1 h1 with h1|h1;·exact⟨-1,J4 h1,af⟩
  have h2:=h1;rw[CW]at h2;obtain⟨y,F,c⟩:=akZ.1 h2;obtain⟨i,hi,rfl⟩:=aka F;rw[akF]at hi;rw[List.getElem_take]at c;split at c;·rename_i h4;rw[aep]at c;refine⟨i,?_,af⟩;rw[c];exact JZ af af
  cases c
 have:=B.at d hq;rw[aj3]at this;exact .inr (.inl ⟨by rw[this],by rw[this];simp only;exact qoz⟩)
theorem agf(h:J' g):Vd g:=by obtain⟨a,l⟩:=Kc h.jx h.Kb;obtain⟨c1,o1,m,gl,d,e,i,j,k⟩:=h.right.ex;have b:=af7 h.C6.sh a d e;have c:=afi h.C6;exact⟨h.jx.sm,afh h.C6 h.jx.sm af,h.Kb,b,c,λcome os f=>age h.C6 a h.right b c f⟩
end
end
end Go.am.R
end
