/- A part of the proof. No conditions. -/
import Derived.Test.YtjhkgigolpfcfaaGreatDoorA19
import Derived.ChangeArms
import Derived.DataReads
set_option linter.all false
set_option maxHeartbeats 16000000
open Option renaming bind_eq_some_iff->aed
open List renaming mem_singleton->aep,mem_cons_self->aeU,range->ake,length_map->akg,getElem?_append_left->akw,nodup_cons->akz,length_cons->akA,length_take->akF,nodup_append->akI,length_drop->alC
open Nat renaming le_of_ble_eq_true->akc,add_assoc->alo
open Array renaming getD_eq_getD_getElem?->akJ
open List.Perm renaming swap->akS
open UInt8 renaming toNat->alv
open Prod renaming fst->alO
open List.Pairwise renaming nil->alQ
noncomputable section
namespace Go.am.R
section
variable{g:G.bu}{come:List Bool}{os:List (List bV)}{ak:List Nat}{lv:List (List Int)}
def z9(g:G.bu)(os:List (List bV))(lv:List (List Int))(c q:Nat)(x:Int):Prop:=eK g os lv c ((aH g c).aD.length - q) x
def Ok(g:G.bu)(c q:Nat)(x:Int):Prop:=(x,(q:Int) - 1)∈dC (aH g c)\/c=0/\q=0/\0<=x/\x<g.params
theorem al4{c q:Nat}(a:q<(aH g c).aD.length){x:Int}:z9 g os lv c q x↔x∈kV g lv (os.getD c [])\/x∈(aH g c).aD[q].args\/z9 g os lv c (q+1) x/\x≠(aH g c).aD[q].to:=by unfold z9 eK;rw[show(aH g c).aD.length - q=((aH g c).aD.length - (q+1))+1 by exact qoz];simp only[C2];rw[show(aH g c).aD.length - 1 - ((aH g c).aD.length - (q+1))=q by exact qoz,bF a]
theorem alY{c a:Nat}{x:Int}(f:x≠ -1):∀d q,q=a+d->q<=(aH g c).aD.length->z9 g os lv c q x->(∀p,(x,p)∈dC (aH g c)->p<a\/q<=p)->z9 g os lv c a x
 |0,q,e,_,h,_=>by obtain rfl:q=a:=af;exact h
 |d+1,q,e,k,h,i=>by
  obtain⟨b,rfl⟩:∃b,q=b+1:=⟨q - 1,af⟩;refine alY f d b af af ((al4 af).2 (.inr (.inr ⟨h,λe2=>?_⟩))) λp j=>by have:=i p j;exact qoz
  have h2:=JZ (B:=aH g c) (i:=b) af (e2▸f);rw[<-e2]at h2;have:=i _ h2;exact qoz
theorem al5{B:G.gV}{x:Int}{i:Nat}(h:(x,(i:Int))∈dC B):∃hi:i<B.aD.length,B.aD[i].to=x:=by
 simp only[dC,ahp,akk,aj1]at h;rcases h with⟨_,_,_,h⟩|h;·exact qoz
 obtain⟨j,hj,h1,_,h2⟩:=QR h;obtain rfl:i=j:=af;exact⟨hj,h2⟩
theorem alZ(k:cX g come os)(b:gP g come os lv)(o:jm g){c:Nat}(l:come.getD c false=true){x:Int}:∀d q,q+d=(aH g c).aD.length->z9 g os lv c q x->rq g c x q->Lv g os c x:=by
 have sC:∀{q:Nat},x∈kV g lv (os.getD c [])->rq g c x q->Lv g os c x:=λ{q}h a=>by
  unfold kV at h;split at h;·rename_i t m;obtain⟨_,_,_,_,i,_⟩:=vD o k l m;exact .sC m ((b.mem _ i x).1 h) λp f=>by have:=a p f;exact qoz
  cases h
 intro d;induction d with
 |zero=>
  intro q r h a;obtain rfl:q=(aH g c).aD.length:=af;unfold z9 eK at h;rw[Nat.sub_self]at h;rcases h with h|h|⟨e,he,h⟩|⟨w,n,h⟩;·exact sC h a
  .exact .qQ (C3 h) a
  .exact .qQ (C4 he h) a
  exact .ls n ((b.mem w (k.ls l n) x).1 h) a
 |succ d s=>
  intro q r h a;rcases(al4 af).1 h with h|h|⟨h,j⟩;·exact sC h a
  .exact .qQ (Fm af h) a
  refine s (q+1) af h λp f=>?_;have h1:=a p f;have h2:p≠q:=λe=>by subst e;obtain⟨_,h3⟩:=al5 f;exact j h3.symm
  exact qoz
inductive Aft(W:Nat->List Nat)(b:Nat):Nat->Prop
 |one{x:Nat}(h:x∈W b):Aft W b x
 |step{a x:Nat}(h:Aft W b a)(hn:a≠b)(hx:x∈W a):Aft W b x
theorem ao5(i:jm g)(j:cX g come os){b c:Nat}(f:come.getD c false=true)(hd:gO (wW g os) b c)(k:c≠b):Aft (wW g os) b c/\come.getD c false=true:=by
 have:=j.ind i (P:=λx=>pI (wW g os) b x\/x=b\/Aft (wW g os) b x) (by
  by_cases e:0=b;·exact .inr (.inl e)
  exact .inl (.zero e)) (λy x a d=>by
  by_cases e:x=b;·exact .inr (.inl e)
  rcases a with a|rfl|a;·exact .inl (.step a d e)
  .exact .inr (.inr (.one d))
  by_cases e2:y=b;·subst e2;exact .inr (.inr (.one d))
  exact .inr (.inr (.step a e2 d))) f;rcases this with h|h|h;·exact absurd h hd
 .exact absurd h k
 exact⟨h,f⟩
theorem ao6(o:cX g come os)(k:gP g come os lv){b:Nat}(hb:come.getD b false=true){v w:Int}(t:∀c p,come.getD c false=true->(v,p)∈dC (aH g c)->c=b)(u:∀c p,come.getD c false=true->c≠b->gO (wW g os) b c->(w,p)∉dC (aH g c))(l:∀c,come.getD c false=true->Lv g os c v->c≠b/\gO (wW g os) b c){c:Nat}(h:Aft (wW g os) b c):come.getD c false=true->Lv g os c v->Lv g os c w->z9 g os lv b (aH g b).aD.length w:=by
 induction h with
 | @one x f=>intro q _ e;unfold z9 eK;rw[Nat.sub_self];exact .inr (.inr (.inr ⟨x,f,(k.mem x q w).2 e⟩))
 | @step a x y r f s=>
  intro q m e;have d:come.getD a false=true:=by clear s f;induction y with|one h=>exact o.ls hb h|step _ _ h n=>exact o.ls (n ‹_›) h
  have i:Lv g os a v:=.ls f m λp j=>absurd (t a p d j) r;obtain⟨_,hd⟩:=l a d i;exact s d i (.ls f e λp j=>absurd j (u a p d r hd))
theorem ao7{C:Int->Prop}(b:C∈gY g os lv ak):∃c∈ak,∃q,q<=(aH g c).aD.length/\∀x,C x->z9 g os lv c q x\/Ok g c q x:=by
 obtain⟨c,d,b⟩:=akZ.1 b;refine⟨c,d,?_⟩;simp only[rC,ahp,aeV,akZ,ak3,sI,aki,or_false]at b;rcases b with(rfl|⟨i,hi,rfl|rfl⟩)|rfl
 .refine⟨0,Nat.zero_le _,λx a=>a.elim (λh=>.inr ?_) .inl⟩;unfold pK at h;split at h;·rename_i e;exact .inr ⟨e,rfl,C8.1 h⟩
  exact .inl (J4 h)
 .exact⟨i,af,λx a=>.inl a⟩
 .refine⟨i+1,af,λx a=>a.elim (λ⟨h1,h2⟩=>.inr (.inl ?_)) .inl⟩;rw[bF hi]at h1;subst h1;rw[show((i+1:Nat):Int) - 1=i by exact qoz];exact JZ hi h2
 exact⟨(aH g c).aD.length,afb _,λx a=>.inl (by unfold z9;rw[Nat.sub_self];exact a)⟩
theorem ao8(V:Vd g)(j:cX g come os)(A:e9 g come os ak)(f:gP g come os lv){b p0:Nat}(hb:come.getD b false=true){v w:Int}(t:(v,(p0:Int) - 1)∈dC (aH g b))(y:∀c p,come.getD c false=true->(w,p)∈dC (aH g c)->c=b/\p<p0\/c≠b/\pI (wW g os) b c)(d:ng (gY g os lv ak) v w):z9 g os lv b p0 w\/Ok g b p0 w:=by
 obtain⟨C,G,u,m,J⟩:=d;have K:=C7 V j A f G w m;obtain⟨c,d,q,z,h⟩:=ao7 G;have a:=(A.mem c).1 d;have i:=j.lt hb;have n:∀c p,come.getD c false=true->(v,p)∈dC (aH g c)->c=b:=λc p d h=>V.gv.one c b (j.lt d) i _ _ _ h t;have B:=V.gv.qA _ (oC i) _ t;simp only at B;have o:∀c,come.getD c false=true->Lv g os c v->c≠b/\gO (wW g os) b c:=λc d hl=>by
  obtain⟨_,_,h|⟨s,h1,h2,_,H⟩⟩:=hl.CS V.dO j (V.sG come os j) V.gv A d;·exact qoz
  rw[AY,V.gv.at i t]at h1;obtain rfl:b=s:=Int.ofNat.inj h1;exact⟨λe=>h2 e.symm,H⟩
 have x:∀{c q},come.getD c false=true->Ok g c q v->c=b/\q=p0:=λ{c q}d h=>by
  rcases h with h|h;·obtain rfl:=n c _ d h;have:=alX (V.gv.nd _ (oC i)) h t;exact⟨rfl,af⟩
  exact qoz
 have aA:z9 g os lv b (aH g b).aD.length w->∀k:p0<=(aH g b).aD.length,z9 g os lv b p0 w:=λh k=>alY af ((aH g b).aD.length - p0) _ af (afb _) h λp h=>by
  rcases y b p hb h with h|h;·exact .inl h.2
  exact absurd rfl h.1
 have D:p0<=(aH g b).aD.length:=by rcases aeZ t with h|h<;>exact qoz
 by_cases e:c=b
 .subst e;have L:p0<=q:=by
   rcases h v u with h1|h1;·refine Nat.le_of_not_lt λM=>?_;refine(o c hb (alZ j f V.dO hb _ q (Nat.add_sub_cancel' z) h1 λp k=>?_)).1 rfl;have:=alX (V.gv.nd _ (oC i)) k t;exact qoz
   exact Nat.le_of_eq (x hb h1).2.symm
  rcases h w m with h1|h1
  .refine .inl (alY af (q - p0) q af z h1 λp k=>?_);rcases y c p hb k with h|h;·exact .inl h.2
   exact absurd rfl h.1
  have E:q=p0:=by
   rcases h1 with h1|h1
   .rcases y c _ hb h1 with h|h;·exact qoz
    exact absurd rfl h.1
   exact qoz
  rw[E]at h1;exact .inr h1
 have l:Lv g os c v:=alZ j f V.dO a _ q (Nat.add_sub_cancel' z) ((h v u).resolve_right λh=>e (x a h).1) λp k=>absurd (n c p a k) e;obtain⟨_,hd⟩:=o c a l;have r:∀c p,come.getD c false=true->c≠b->gO (wW g os) b c->(w,p)∉dC (aH g c):=λc p d I hd h=>by
  rcases y c p d h with h|h;·exact I h.1
  exact hd h.2
 have F:Lv g os c w:=alZ j f V.dO a _ q (Nat.add_sub_cancel' z) ((h w m).resolve_right λh=>by
  rcases h with h|h;·exact r c _ a e hd h
  rw[h.1]at hd;exact e (by rw[h.1];exact hd.zero.symm)) λp k=>absurd k (r c p a e hd);exact .inl (aA (ao6 j f hb n r o (ao5 V.dO j a hd e).1 a l F) D)
end
section
theorem al6{g:Type}:∀{h d r f:List g}{v:g},(h++v::r).Nodup->h++v::r=d++v::f->h=d|[],[],_,_,_,_,_=>rfl|[],a::d,r,f,v,c,e=>by simp only[ak0,akV,akn]at e;rw[ak0,akz,e.2]at c;exact absurd aB c.1|a::h,[],r,f,v,c,e=>by simp only[ak0,akV,akn]at e;rw[akV,akz,e.1]at c;exact absurd aB c.1|a::h,b::d,r,f,v,c,e=>by simp only[akV,akn]at e;rw[akV,akz]at c;rw[e.1,al6 c.2 e.2]
theorem al7:∀(l:List G.ic)(i:Nat),(ja l i).Pairwise (λa b=>a.2<=b.2)
 |[],_=>alQ
 |s::l,i=>by
  simp only[ja];refine List.pairwise_append.2 ⟨by split<;>simp,al7 l (i+1),λa c b hb=>?_⟩;have:=PG _ _ _ hb;split at c;·cases c
  rw[aep]at c;subst c;simp only;exact qoz
theorem ao9(B:G.gV):(dC B).Pairwise (λa b=>a.2<=b.2):=by refine List.pairwise_append.2 ⟨List.pairwise_map.2 (List.pairwise_of_forall λ_ _=>Int.le_refl _),al7 _ _,λa c b hb=>?_⟩;have:=PG _ _ _ hb;obtain⟨_,_,rfl⟩:=akk.1 c;simp only;exact qoz
section
variable{g:G.bu}{come:List Bool}{os:List (List bV)}{ak:List Nat}{lv:List (List Int)}
theorem apa(V:Vd g)(i:cX g come os)(l:e9 g come os ak){h j:List Int}{b:Nat}(hb:b∈ak){v w p0:Int}(t:(v,p0)∈dC (aH g b))(e:eY g ak=h++v::j)(d:w∈h){c:Nat}{p:Int}(m:come.getD c false=true)(a:(w,p)∈dC (aH g c)):c=b/\p<=p0\/c≠b/\pI (wW g os) b c:=by
 obtain⟨cO,k,o⟩:=List.append_of_mem hb;obtain⟨u,y,em⟩:=List.append_of_mem t;have f:∀x∈ak,x<g.al.length:=λx q=>i.lt ((l.mem x).1 q);have e2:eY g ak=(pL g++(cO.flatMap (gB g)++u.map alO))++v::(y.map alO++k.flatMap (gB g)):=by rw[eY,o,akD,alp];simp only[gB,em,akE,aj7,aj2,akV]
 have z:=al6 (by rw[<-e];exact agw V i l) (e.symm.trans e2);rw[z]at d;rcases ahp.1 d with d|d;·have h1:=(V.gv.qA _ (oC (i.lt m)) _ a).1;have h2:=(C8.1 d).2;simp only at h1;exact qoz
 rcases ahp.1 d with d|d;·obtain⟨A,h1,h2⟩:=akZ.1 d;obtain⟨r,h2⟩:=C9.1 h2;obtain rfl:=V.gv.one c A (i.lt m) (f _ (by rw[o];exact akf _ h1)) _ _ _ a h2;obtain⟨n,B,q⟩:=aka h1;have:=ae2 l o n c (by rw[akP B,q]);exact .inr ⟨this.ne,this⟩
 obtain⟨⟨C,r⟩,h1,rfl⟩:=akk.1 d;have h2:(C,r)∈dC (aH g b):=by rw[em];exact akf _ h1
 have h3:=V.gv.one c b (i.lt m) (f _ hb) _ _ _ a h2;rw[h3]at a;have:=alX (V.gv.nd _ (oC (f _ hb))) a h2;have s:=ao9 (aH g b);rw[em]at s;have:=(List.pairwise_append.1 s).2.2 _ h1 _ (aeU ..);exact .inl ⟨h3,by simp only at this;exact qoz⟩
theorem apb(V:Vd g)(o:cX g come os)(q:e9 g come os ak)(s:gP g come os lv){h l:List Int}{v:Int}(e:eY g ak=h++v::l)(u:¬v<g.params):∃C∈gY g os lv ak,C v/\∀w∈h,ng (gY g os lv ak) v w->C w:=by
 have t:v∈eY g ak:=by rw[e];simp
 obtain⟨b,hb,p,n⟩:=(y7.1 t).resolve_left λh=>u h.2;have j:=(q.mem b).1 hb;obtain⟨p0,rfl⟩:∃p0:Nat,p=(p0:Int) - 1:=⟨(p+1).toNat,by rcases aeZ n with h|h<;>exact qoz⟩;have key:∀w∈h,ng (gY g os lv ak) v w->z9 g os lv b p0 w\/Ok g b p0 w:=λw f d=>ao8 V o q s j n (λc p d hg=>(apa V o q hb n e f d hg).imp (λh=>⟨h.1,af⟩) id) d;have r:Ok g b p0 v:=.inl n;cases p0 with
 |zero=>
  have a:∀x,z9 g os lv b 0 x\/Ok g b 0 x->rB g os lv b x:=λx a=>by
   rcases a with a|a|⟨h1,_,h2⟩;·exact .inr a
   .refine .inl ?_;have a:x∈(aH g b).params:=by
     simp only[dC,ahp,akk,aj1]at a;rcases a with⟨_,h,rfl,_⟩|a;·exact h
     have:=PG _ _ _ a;simp only at this;exact qoz
    rw[pK,aq];·exact a
    rintro rfl;rw[aH,V.fm.first]at a;cases a
   refine .inl ?_;rw[pK,aK h1];exact C8.2 h2
  exact⟨rB g os lv b,akZ.2 ⟨b,hb,by simp[rC]⟩,a _ (.inr r),λw f d=>a w (key w f d)⟩
 |succ i=>
  have k:∀{x},Ok g b (i+1) x->∃hi:i<(aH g b).aD.length,(aH g b).aD[i].to=x:=λ{x}a=>by
   rcases a with a|a;·rw[show((i+1:Nat):Int) - 1=(i:Int)by exact qoz]at a;exact al5 a
   exact qoz
  obtain⟨hi,_⟩:=k r;have m:∀{x},Ok g b (i+1) x->x≠ -1:=λ{x}a=>by
   rcases a with a|a;·have:=V.qA _ (oC (o.lt j)) _ a;simp only at this;exact qoz
   exact qoz
  have a:∀x,z9 g os lv b (i+1) x\/Ok g b (i+1) x->x=((aH g b).aD.getD i default).to/\x≠ -1\/eK g os lv b ((aH g b).aD.length - (i+1)) x:=λx a=>a.elim .inr λh=>by obtain⟨_,e⟩:=k h;exact .inl ⟨by rw[bF hi,e],m h⟩
  refine⟨_,akZ.2 ⟨b,hb,?_⟩,a _ (.inr r),λw f d=>a w (key w f d)⟩;simp only[rC,ahp,aeV,akZ,ak3];exact .inl (.inr ⟨i,hi,by simp[sI]⟩)
def apc(N:Nat)(C:Int->Prop):Prop:=∀l:List Int,l.Nodup->(∀x∈l,C x)->l.length<=N
theorem apd(V:Vd g)(j:cX g come os)(l:e9 g come os ak)(o:gP g come os lv){n N:Nat}(G:g.bp=n)(H:∀C∈gY g os lv ak,apc N C){h R:List Int}(z:rD g.params (gY g os lv ak) n h R):∀d,eY g ak=h++d->∀v∈h,R.getD v.toNat 0+1<=N:=by
 induction z with
 |nil=>intro _ _ v I;cases I
 | @wY h R v r z h1 h2 K=>
  intro d e x c;have t:eY g ak=h++v::d:=by rw[e];simp
  have i:=agw V j l;have p:∀x∈h++[v],0<=x/\x<n:=λx c=>by rw[<-G];exact Fx V j l (by rw[e];exact akf _ c)
  have I:=p v aB;have hl:=z.len;have O:v∉h:=λm=>by rw[t]at i;exact(akI.1 i).2.2 v m v (aeU ..) rfl
  rw[fu af];by_cases q:x.toNat=v.toNat
  .have P:=p x c;rw[aK q];by_cases B:v<g.params;·rw[h1 B];have m:=H _ (akZ.2 ⟨0,(l.mem 0).2 j.c0,akf _ (aeU ..)⟩) (pL g) (List.pairwise_map.2 (List.nodup_range.imp λh e=>h af)) λx c=>.inl (by rw[pK,aK rfl];exact c);rw[pL,akg,List.length_range]at m;exact qoz
   obtain⟨S,T,J⟩:=h2 B;obtain⟨C,u,D,E⟩:=apb V j l o t B;have F:=z.right (by rw[t]at i;exact(akI.1 i).1) (λx c=>p x (akf _ c)) (λa w⟨_,u,_,h2,_⟩=>by rw[<-G];exact C7 V j l o u w h2) (by have:=agy V j l;rw[t]at this;exact(List.pairwise_append.1 this).1);let f:Nat->Int:=λk=>if s:(k:Int)<r then(J k s).choose else 0;have A:∀k,k<r.toNat->ng (gY g os lv ak) v (f k)/\R.getD (f k).toNat 0=k:=λk s=>by have y:(k:Int)<r:=af;simp only[f,dif_pos y];exact(J k y).choose_spec
   have:=H C u (v::(ake r.toNat).map f) (akz.2 ⟨λm=>?_,List.pairwise_map.2 (List.Pairwise.imp_of_mem (λ{a b}L hb Q e=>?_) List.nodup_range)⟩) (λx c=>?_);·simp only[akA,akg,List.length_range]at this;exact qoz
   .obtain⟨k,s,e⟩:=akk.1 m;obtain⟨⟨_,_,_,_,h⟩,_⟩:=A k (ak3.1 s);exact h e
   .have h1:=(A a (ak3.1 L)).2;have h2:=(A b (ak3.1 hb)).2;rw[e]at h1;exact qoz
   rcases aeV.1 c with rfl|c;·exact D
   obtain⟨k,s,rfl⟩:=akk.1 c;obtain⟨h1,h2⟩:=A k (ak3.1 s);refine E _ (akx λm=>?_) h1;obtain⟨_,u,_,h3,_⟩:=h1;have M:=C7 V j l o u _ h3;have:=F.no _ M.1 af m;exact qoz
  rw[aq λe=>q e];refine K _ t x ?_;rcases ahp.1 c with h|h;·exact h
  rw[aep]at h;exact absurd (by rw[h]) q
end
end
section
variable{ac:Nat->aG}
section
def Rd(a:List (Int->Prop))(N:Nat):Prop:=(∀C∈a,∀l:List Int,l.Nodup->(∀x∈l,C x)->l.length<=N)/\(N=0\/∃C∈a,∃l:List Int,l.Nodup/\(∀x∈l,C x)/\l.length=N)
section
variable{c:Cx}{s:List SI}{L:Kn}{A H:ai}{d:Option ab}{l:List be}{ts:List Th}{q:ab}{ex:Bool}{S:Int->Prop}
theorem al8{a b:List Int}(g:a.Nodup)(p:∀x∈a,x∈b):a.length<=b.length:=by have:=vB b.length (a.map λx=>b.idxOf x) (List.pairwise_map.2 (g.imp_of_mem λ{x y}c i d e=>d (by have h1:=List.getElem_idxOf (List.idxOf_lt_length_of_mem (p x c));have h2:=List.getElem_idxOf (List.idxOf_lt_length_of_mem (p y i));simp only[e]at h1;exact h1.symm.trans h2))) (λk l=>by obtain⟨x,c,rfl⟩:=akk.1 l;exact List.idxOf_lt_length_of_mem (p x c));simpa using this
theorem RO.ape(U:aj A H ts)(i:Nat){x:aJ}(r:∀ks:List Int,ks.Nodup->(∀x,x∈ks↔S x)->RO ac c l s (bC L d (aN ks.length)) H)(hi:ts[i]?=some (tM ex q S):=by rfl)(b:bf L x=.map q:=by exact cw):RO ac c (⟨d,.xj x,none,[],[]⟩::l) s L H:=by
 obtain⟨⟨ks,⟨g,es,he,k⟩,p⟩,_⟩:=U.nf i hi;have hl:es.length=ks.length:=by simpa using congrArg List.length k
 refine RO.op (λaa a=>?_) (r ks g p);unfold eS at he;split at he<;>cases he<;>(rename_i e;simp only[aE,a.gv b rfl,e,hl,pure])
theorem RO.al0{x y:aJ}{a b:Nat}(i:RO ac c l s (bC L d (aN (max a b))) H)(hx:bf L x=aN a:=by exact cw)(g:bf L y=aN b:=by exact cw):RO ac c (⟨d,.qD true [x,y],none,[],[]⟩::l) s L H:=by
 refine RO.qD (v:=aN a) (vs:=[aN b]) i (hx:=by rw[aj7,aj7,ali,hx,g]) (hd:=rfl) (hr:=?_);show some (AV.int 3 (if lV (.ofNat a) (.ofNat b)then .ofNat b else .ofNat a))=_;rw[nG];by_cases e:a<b;·rw[decide_eq_true (by simp only[aj5];exact qoz),Nat.max_eq_right af];rfl
 rw[decide_eq_false (by simp only[aj5];exact qoz),Nat.max_eq_left af];rfl
end
section
variable{g:G.bu}{j m av n:AV}{f h:ab}{A H:ai}{o:List AV}{come:List Bool}{os:List (List bV)}{ak:List Nat}{lv:List (List Int)}
theorem apf(T:Tb ac)(V:Vd g)(w:FX g A f j m av n o come os ak lv)(y:cX g come os)(z:e9 g come os ak)(r:gP g come os lv){K:KT}(L:∀H' N,Rd (gY g os lv ak) N->bm A H'->K (aN N) H'):YN ac aou [.az f 0] A K:=by
 refine YF.code T.ao3 aB ?_;refine ah ?_;refine RO.gI (aj.dc A) λH1 c U=>?_;refine ah ?_;refine RO.cl (agt T λI h hl=>?_);have U:=U.fC hl;refine ah ?_;refine Ru.wk (L:=[(p5,.func Iv [] [.az h 0]),(p2,.az c 0)]) ?_;refine Ru.af1 (J:=λb ts=>∃N,Rd b N/\ts=[tB 3 c [aN N]]) (us:=[]) (Ps:=[tB iH h [.az f 0]]) (ts0:=[tB 3 c [aN 0]]) U (af5 T V (w.cI (bm.refl _)) y z r) ⟨0,⟨aB,.inl rfl⟩,rfl⟩ (λb C q ts us l o1 o2 H J i U=>?_) λH' G B i U=>?_
 .obtain⟨N,e,rfl⟩:=i;refine ah ?_;refine Ru.dN (xs:=[tM false q C,tB 3 c [aN N]]) U λD U=>?_;have U:aj A D (tM false q C::tB 3 c [aN N]::tX l o2::us):=U;refine ah ?_;refine RO.ape U 0 (λks E u=>?_);refine RO.al0 ?_;refine RO.gG U 1 (λF U=>?_);refine ah ?_;refine Ru.bG (ts:=[tM false q C,tB 3 c [aN (max N ks.length)]]) U ⟨_,rfl,_,⟨λk s a v d=>?_,?_⟩,rfl⟩
  .rcases ahp.1 s with L|L;·have:=e.1 k L a v d;exact qoz
   rw[aep]at L;subst L;have:=al8 v λx p=>(u x).2 (d x p);exact qoz
  by_cases t:ks.length<=N;·rw[Nat.max_eq_left t];exact e.2.imp id λ⟨k,h1,h2⟩=>⟨k,akf _ h1,h2⟩
  rw[Nat.max_eq_right af];exact .inr ⟨C,aB,ks,E,λx p=>(u x).1 p,rfl⟩
 obtain⟨N,e,rfl⟩:=i;refine ah ?_;refine RO.gG U 0 (λF U=>?_);refine ah ?_;refine Ru.mI (M:=[B]) (U.cM (akS ..)) λH' U=>⟨[aN N],⟨⟨c,0,rfl,U.one 0⟩,trivial⟩,L H' N e U.gr⟩
theorem apg(T:Tb ac)(V:Vd g){cs:List AV}(hg:iG H g cs){K:KT}(p:∀H' N come os ak lv,cX g come os->e9 g come os ak->gP g come os lv->Rd (gY g os lv ak) N->bm H H'->K (.tuple [aN N,aI 0]) H'):YN ac aor [.agg cs] H K:=QX T V (z:=Go.am.i 3 0) rfl T.aoZ T.ao2 hg λ_ _ _ _ _ _ _ _ _ _ _ d e a c k=>apf T V k d e a λ_ _ l b=>⟨rfl,p _ _ _ _ _ _ d e a l (c.trans b)⟩
end
end
section
theorem al1(T:Tb ac){H:ai}{l:List Int}{g:AV}{x:Int}(i:fZ H l g)(hl:l.length<=10000){K:KT}(y:K (.bool (decide (x∈l))) H):YN ac aos [g,aI x] H K:=by
 have⟨hd,_,_,v⟩:=i.all;refine YF.code T.ao0 aB ?_;refine ah ?_;refine Ru.nm λp M r m=>?_;refine Ru.cC m (up (P:=λk=>(∀j(y:j<l.length),j<k->l[j]≠x)->Ru ac _ p ([(p5,aN k)]++pk M [p0,p1]) H) l.length (λk w b n=>?_) 0 af (λj _ hj=>by exact qoz));subst r;subst m;refine Ru.loop ?_;refine ah ?_;refine Ru.cond (λa=>?_) (λa=>?_)
 .have b:=b (k+1) af af;refine ah ?_;refine RO.kz (bm.refl _) i (λq o hj t=>?_) (j:=k);refine ah ?_;refine Ru.cond (λhe=>?_) (λhe=>?_);·refine ah ?_;rw[decide_eq_true (by rw[<-he];exact agB a)]at y;exact Ru.aV y
  refine ah ?_;exact Ru.wk (b λj hj u=>by
   by_cases e:j=k;·subst e;exact he
   exact n j hj af)
 refine Ru.exitTo ?_;refine ah ?_;rw[decide_eq_false λs=>by obtain⟨j,hj,e⟩:=aka s;exact n j hj af e]at y;exact Ru.aV y
section
variable{g:G.bu}{come f:List Bool}{os c:List (List bV)}{ak d:List Nat}{lv h:List (List Int)}
theorem aph(V:Vd g)(m:cX g come os)(o:e9 g come os ak)(k:gP g come os lv){n:Nat}(w:g.bp=n)(v:n<=200){R:List Int}(y:Kk g.params (gY g os lv ak) n (eY g ak) R){e:Nat}(i:cX g f c)(j:e9 g f c d)(l:gP g f c h)(r:y8 g.params (gY g c h d) (eY g d) n R e):e=0:=by
 have p:=λ{a b}=>Km (v:=a) (w:=b) V m i o j k l;have q:∀{x},x∈eY g d↔x∈eY g ak:=λ{x}=>⟨Q0 V i m j o,Q0 V m i o j⟩;rcases r with⟨h1,_⟩|⟨_,⟨⟨u,hu,h1⟩,_⟩|⟨_,⟨⟨u,hu,h1⟩,_⟩|⟨_,h2⟩⟩⟩;·exact absurd y.len h1
 .rcases h1 with⟨h1,h2⟩|⟨h1,h2⟩<;>rw[q]at h1;·have:=y.is _ h1;rw[aj3]at this;exact qoz
  have:=y.no u af af h1;rw[aj3]at this;exact absurd this h2
 .rcases h1 with⟨h1,h2⟩|⟨x,h1,h2⟩;·have:=y.aM u (y7.2 (.inl ⟨af,h1⟩)) h1;rw[aj3]at this;exact absurd this h2
  rw[<-p]at h1;obtain⟨s,t⟩:=h1.QT V m o k;have:=y.mC _ s _ t h1;rw[aj3]at this;exact absurd h2 this
 exact h2
def alU(R:List Int)(k a:Nat):Prop:=(∀j,j<k->R.getD j 0+1<=a)/\(a=0\/∃j,j<k/\R.getD j 0+1=a)
theorem alU.succ{R:List Int}{k g m:Nat}(i:alU R k g)(b:R.getD k 0+1=m):alU R (k+1) (max g m):=by
 refine⟨λj hj=>?_,?_⟩
 .by_cases e:j=k;·subst e;exact qoz
  have:=i.1 j af;exact qoz
 by_cases a:m<=g;·rw[Nat.max_eq_left a];exact i.2.imp id λ⟨j,hj,e⟩=>⟨j,af,e⟩
 rw[Nat.max_eq_right af];exact .inr ⟨k,af,b⟩
theorem api(V:Vd g)(m:cX g come os)(o:e9 g come os ak)(b:gP g come os lv){n N z:Nat}(s:g.bp=n){R:List Int}(t:Rd (gY g os lv ak) N)(u:rD g.params (gY g os lv ak) n (eY g ak) R)(v:alU R n z):z=N:=by
 have q:=u.agK V m o b s;refine Nat.le_antisymm ?_ ?_
 .rcases v.2 with A|⟨j,hj,A⟩;·exact qoz
  by_cases w:(j:Int)∈eY g ak;·have:=apd V m o b s (N:=N) t.1 u [] aB _ w;rw[aj3]at this;exact qoz
  have:=q.no j af af w;rw[aj3]at this;exact qoz
 rcases t.2 with A|⟨C,k,l,hl,i,e⟩;·exact qoz
 have hg:∀x∈l,x∈eY g ak:=λx a=>QS V m o b k (i x a);have:=Kl (n:=z) (l:=l.map λx=>R.getD x.toNat 0) (List.pairwise_map.2 (hl.imp_of_mem λ{x y}a p r=>q.mC _ (hg x a) _ (hg y p) ⟨C,k,i x a,i y p,λe=>r e.symm⟩)) λy p=>by obtain⟨x,a,rfl⟩:=akk.1 p;have h1:=q.is x (hg x a);have h2:=Fx V m o (hg x a);have h3:=v.1 x.toNat af;exact qoz
 rw[akg]at this;exact qoz
def Nm(g:G.bu)(os:List (List bV))(lv:List (List Int))(b:Nat):Nat->Int->Prop
 |0=>rB g os lv b
 |k+1=>λx=>x=((aH g b).aD.getD k default).to/\x≠ -1\/eK g os lv b ((aH g b).aD.length - (k+1)) x
theorem apj{b k:Nat}(hb:b∈ak)(a:k<=(aH g b).aD.length):Nm g os lv b k∈gY g os lv ak:=by refine akZ.2 ⟨b,hb,?_⟩;cases k with|zero=>exact akf _ (aeU ..)|succ k=>simp only[rC,ahp,aeV,akZ,ak3];exact .inl (.inr ⟨k,af,by simp[sI,Nm]⟩)
theorem apk{C:Int->Prop}(e:C∈gY g os lv ak):∃b∈ak,∃k,k<=(aH g b).aD.length/\∀x,C x->Nm g os lv b k x:=by
 obtain⟨b,hb,e⟩:=akZ.1 e;refine⟨b,hb,?_⟩;have key:∀k,k<=(aH g b).aD.length->∃j,j<=(aH g b).aD.length/\∀x,eK g os lv b ((aH g b).aD.length - k) x->Nm g os lv b j x:=λk l=>⟨k,l,λx a=>by cases k with|zero=>exact .inr a|succ k=>exact .inr a⟩;simp only[rC,ahp,aeV,akZ,ak3,sI,aki,or_false]at e;rcases e with(rfl|⟨i,hi,rfl|rfl⟩)|rfl;·exact⟨0,Nat.zero_le _,λx a=>a⟩
 .exact key i af
 .exact⟨i+1,af,λx a=>a⟩
 have:=key (aH g b).aD.length (afb _);rwa[Nat.sub_self]at this
def alV(g:G.bu)(come:List Bool)(os:List (List bV))(lv:List (List Int))(N k M:Nat):Prop:=M<=N/\∀b,b<k->come.getD b false=true->∀i,i<=(aH g b).aD.length->∀l:List Int,l.Nodup->(∀x∈l,Nm g os lv b i x)->l.length<=M
theorem apl(m:cX g come os)(n:e9 g come os ak){N M:Nat}(o:Rd (gY g os lv ak) N)(i:alV g come os lv N g.al.length M):M=N:=by
 refine Nat.le_antisymm i.1 ?_;rcases o.2 with s|⟨C,p,l,hl,a,e⟩;·exact qoz
 obtain⟨b,hb,k,q,s⟩:=apk p;have j:=(n.mem b).1 hb;rw[<-e];exact i.2 b (m.lt j) j k q l hl λx r=>s x (a x r)
end
end
section
theorem apm(T:Tb ac){H:ai}{l:List Nat}{i:AV}{x:Nat}(m:Sl H 1 (l.map aN) l.length i)(hl:l.length<=10000){K:KT}(h:∀z:Int,(0<=z↔x∈l)->K (aI z) H):YN ac aov [i,aN x] H K:=by
 have⟨hd,_,_,w⟩:=m.all;refine YF.code T.ao4 aB ?_;refine ah ?_;refine Ru.nm λr M s n=>?_;refine Ru.cC n (up (P:=λk=>(∀j(h:j<l.length),j<k->l[j]≠x)->Ru ac _ r ([(p8,aN k)]++pk M [p0,p1,p7]) H) l.length (λk y g p=>?_) 0 af (λj _ hj=>by exact qoz));subst s;subst n;refine Ru.loop ?_;refine ah ?_;refine Ru.cond (λb=>?_) (λb=>?_)
 .have g:=g (k+1) af af;refine ah ?_;refine RO.lg (bm.refl _) m (λq o hj u=>?_) (j:=k);refine ah ?_;refine Ru.cond (λhe=>?_) (λhe=>?_);·refine ah ?_;exact Ru.aV (h k ⟨λ_=>by rw[show x=l[k]from he];exact agB b,λ_=>by exact qoz⟩)
  refine ah ?_;exact Ru.wk (g λj hj v=>by
   by_cases e:j=k;·subst e;exact λe=>he e.symm
   exact p j hj af)
 refine Ru.exitTo ?_;refine ah ?_;refine Ru.aV (h (-1) ⟨λh=>by exact qoz,λt=>?_⟩);obtain⟨j,hj,e⟩:=aka t;exact absurd e (p j hj af)
theorem apn(T:Tb ac){H:ai}{l:List Nat}{b:AV}{x:Nat}(g:Sl H 1 (l.map aN) l.length b)(hl:l.length<=10000){K:KT}(h:K (.bool (decide (x∈l))) H):YN ac aot [b,aN x] H K:=by have⟨hd,_,_,j⟩:=g.all;refine YF.code T.ao1 aB ?_;refine ah ?_;refine RO.cl (apm T g hl λz i=>?_);refine ah ?_;refine Ru.aV ?_;have e:decide (x∈l)=decide (0<=z):=decide_eq_decide.2 i.symm;rw[e]at h;exact h
section
variable{g:G.bu}{come d:List Bool}{os a:List (List bV)}{ak f:List Nat}{lv c:List (List Int)}
theorem apo(V:Vd g)(i:cX g come os)(e:cX g d a)(o:gP g come os lv)(j:gP g d a c){b:Nat}(h:come.getD b false=true):∀k,eK g os lv b k=eK g a c b k:=by
 obtain⟨p,he⟩:=i.bX V.dO e h;have n:∀w,come.getD w false=true->∀x,x∈lv.getD w []↔x∈c.getD w []:=λw l x=>(((o.bX V.dO i e).mem w (i.bX V.dO e l).1 x).trans ((j.mem w (i.bX V.dO e l).1 x).symm));have l:wW g a b=wW g os b:=by simp only[wW,he]
 have m:∀x,x∈kV g lv (os.getD b [])↔x∈kV g c (a.getD b []):=λx=>by
  rw[he];unfold kV;split;·rename_i t m;obtain⟨_,_,_,_,q,_⟩:=vD V.dO i h m;exact n _ q x
  rfl
 exact QY m λx=>by simp only[Fl,m,l];refine or_congr Iff.rfl (or_congr Iff.rfl (or_congr Iff.rfl ⟨λ⟨w,h1,h2⟩=>⟨w,h1,(n w (i.ls h h1) x).1 h2⟩,λ⟨w,h1,h2⟩=>⟨w,h1,(n w (i.ls h h1) x).2 h2⟩⟩))
theorem Rd.bX(V:Vd g)(l:cX g come os)(e:cX g d a)(m:e9 g come os ak)(i:e9 g d a f)(j:gP g come os lv)(b:gP g d a c){N:Nat}(h:Rd (gY g a c f) N):Rd (gY g os lv ak) N:=⟨λC k=>h.1 C (QZ V l e m i j b k),h.2.imp id λ⟨C,k,h⟩=>⟨C,QZ V e l i m b j k,h⟩⟩
theorem app(V:Vd g){b k:Nat}(hb:b<g.al.length)(j:k<=(aH g b).aD.length)(x:Int):Nm g os lv b k x↔eK g os lv b ((aH g b).aD.length - k) x\/x∈((if k=0 then(aH g b).params else[])++(if b=0/\k=0 then pL g else[]))++(if 0<k/\0<=((aH g b).aD.getD (k - 1) default).to then[((aH g b).aD.getD (k - 1) default).to]else[]):=by
 cases k with
 |zero=>
  show(x∈pK g b\/eK g os lv b (aH g b).aD.length x)↔_;unfold pK;by_cases h0:b=0;·subst h0;have:=V.fm.first;simp only[aH,this,pL];simp[or_comm]
  simp[h0,or_comm]
 |succ k=>
  show(x=((aH g b).aD.getD k default).to/\x≠ -1\/eK g os lv b ((aH g b).aD.length - (k+1)) x)↔_;have hg:(aH g b).aD.getD k default=(aH g b).aD[k]:=bF af _;rw[show k+1 - 1=k from rfl,hg];have e:(aH g b).aD[k].to≠ -1->0<=(aH g b).aD[k].to:=λh=>(V.qA _ (oC hb) _ (JZ af h)).1;generalize(aH g b).aD[k].to=t at*;by_cases i:0<=t;·simp[i,or_comm];exact or_congr ⟨λh=>h.1,λh=>⟨h,af⟩⟩ Iff.rfl
  have:t= -1:=akx λh=>i (e h);subst this;simp
end
def apq(g:G.bu)(come:List Bool)(os:List (List bV))(lv:List (List Int))(b:Nat)(pl:List (List Int)):Prop:=
 come.getD b false=true/\pl.length=(aH g b).aD.length+1/\(∀k,k<=(aH g b).aD.length->(pl.getD k []).Pairwise (·<·)/\∀x,x∈pl.getD k []↔eK g os lv b ((aH g b).aD.length - k) x)\/come.getD b false=false/\pl=[]
section
variable{g:G.bu}{H:ai}
theorem apr(T:Tb ac)(V:Vd g){cs:List AV}(hg:iG H g cs){n:Nat}(hn:g.bp=n)(av:n<=1000){b:Nat}(hb:b<g.al.length){K:KT}(h:∀H' v pl come os ak lv,cX g come os->e9 g come os ak->gP g come os lv->apq g come os lv b pl->bm H H'->CX H' pl v->K (.tuple [v,aI 0]) H'):YN ac aoq [.agg cs,aN b] H K:=by
 have ar:=hg.one;have aw:=V.sm.nb;have eh:=(V.sm.st _ (oC hb));have ax:=(V.sm.bl _ (oC hb));obtain⟨vb,rfl,cA⟩:=hg;have⟨ay,a0,a1,a2⟩:=cA.all;refine YF.code T.aoY aB ?_;refine au ?_;refine RO.dL (aj.dc H) λH1 q1 U=>?_;refine ah ?_;refine RO.eQ U 0 ?_;refine RO.cl (Qf T V (cs:=[.str g.name,aI g.params,aI g.bp,vb]) ⟨vb,rfl,dQ.block.jU U.gr cA⟩ λH2 fq a3 ov bS a4 a5 come os ak lv A r p J D=>?_);have U:=U.cI J;have L:=U.gr;have⟨a6,_,_,a8⟩:=D.od.all;have a9:ak.length<=g.al.length:=vB _ _ r.nd λx E=>A.lt ((r.mem x).1 E);refine ah ?_;refine RO.arith (v:=aN (g.al.length - 1)) ?_ (hv:=px (k:=g.al.length) af af);refine ah ?_;refine RO.cl (agG T (a:=0) (b:=((g.al.length - 1:Nat):Int)) (n:=b) ?_);rw[decide_eq_true (show(0:Int)<=(b:Int)/\(b:Int)<=((g.al.length - 1:Nat):Int)by exact qoz)];refine ah ?_;refine RO.aW ?_ (v:=ov) (hc:=D.c4);refine ah ?_;refine RO.cl (apn T (x:=b) D.od af ?_);by_cases z:b∈ak;rotate_left;·rw[decide_eq_false z];refine ah ?_;refine Ru.mD (vs:=[.aS,aI 0]) ⟨rfl,rfl,rfl,rfl,trivial⟩ (h _ _ [] come os ak lv A r p (.inr ⟨?_,rfl⟩) U.gr ⟨[],.inl ⟨rfl,rfl,rfl⟩,λk hk=>absurd hk aB⟩);cases hc:come.getD b false with|false=>rfl|true=>exact absurd ((r.mem b).2 hc) z
 have u:=(r.mem b).1 z;rw[decide_eq_true z];refine ah ?_;refine RO.cl (af0 T V D A r p u λH3 v ids hl=>?_);have N:=af2 V A r p u;obtain⟨B,cap,s,rfl⟩:=hl.uT (e:=eT) (size:=1) (n:=(aH g b).aD.length+1) (full:=true) (sv:=v) 0 rfl af;rw[af4]at hl;generalize t:(aH g b).aD.length=m at*;have O:∀i,i<m+1->((ake (m+1)).map λi=>AV.map (ids i))[0+i*1]?=some (.map (ids i)):=λi hi=>by rw[show 0+i*1=i by exact qoz,aks,List.getElem?_range hi];rfl
 refine ah ?_;have hl:=(hl.py eH 1).rl;refine Ru.nm λS0 M hS hM=>?_;refine Ru.cC hM (up (P:=λk=>∀G o(cl:List (List Int))F v,cl.length=k->lQ cl o F->(∀j,j<k->(cl.getD j []).Pairwise (·<·)/\∀x,x∈cl.getD j []↔eK g os lv b (m - j) x)->aj H2 G (tZ F::tS eH 1 o k true v::tS eT 1 ((ake (m+1)).map λi=>.map (ids i)) (m+1) true (.slice B 0 (m+1) cap s)::lx ids (λi=>eK g os lv b (m - i)) (λ_=>true) (m+1))->Ru ac _ S0 ([(dh,aN k),(p4,v)]++pk M [bZ,dl]) G) (m+1) (λk hk I G o cl F v q y C U=>?_) 0 af _ [] [] [] .aS rfl ⟨rfl,λb hb=>absurd hb aB⟩ (λj hj=>by exact qoz) hl);subst hS;subst hM;have⟨P,a',ba,_⟩:=(U.sl (e:=eH) (size:=1) (sv:=v) (vs:=o) (n:=k) (full:=true) 1).all;refine Ru.loop ?_;refine au ?_;refine Ru.cond (λQ=>?_) (λQ=>?_)
 .have I:=I (k+1) af af;refine ah ?_;refine RO.fD U 2 (hv:=O k af) ?_;refine ah ?_;have hat:=rr (xs:=[tZ F,tS eH 1 o k true v,tS eT 1 ((ake (m+1)).map λi=>.map (ids i)) (m+1) true (.slice B 0 (m+1) cap s)]) (m:=[]) (J5 (ids:=ids) (P:=λi=>eK g os lv b (m - i)) (ex:=λ_=>true) (n:=m+1) (i:=k) af);rw[akT]at hat;refine RO.cl (afS T U (3+k) hat (λks R z=>?_) λH7 w l S W U=>?_)
  .have:=Kl (n:=n) R λx E=>by rw[<-hn];exact N _ af x ((z x).1 E)
   exact qoz
  have⟨X,bb,Y,_⟩:=(show Sl H7 1 (l.map aI) l.length w by obtain⟨_,hp⟩:=U.get 0 rfl;exact hp.1).all;have U:=U.lq;refine ah ?_;refine RO.push U 1 (λw0 H8 v2 U=>?_) (ws:=[w]) (hl:=kG rfl X Y rfl rfl rfl);have⟨bc,bd,bv,_⟩:=(U.sl (e:=eH) (size:=1) (n:=k+1) (full:=true) (sv:=v2) 1).all;refine ah ?_;exact Ru.wk (I _ (o++[w]) (cl++[l]) _ v2 (by simp[q]) y.wY (λj hj=>by
   by_cases e:j=k
   .subst e;have e1:(cl++[l]).getD j []=l:=by rw[<-q];simp
    rw[e1];exact⟨W,S⟩
   have e1:(cl++[l]).getD j []=cl.getD j []:=by simp[akw (show j<cl.length by exact qoz)]
   rw[e1];exact C j af) U)
 refine Ru.exitTo ?_;obtain rfl:k=m+1:=af;refine ah ?_;have Z:=y.len;have ag:=U.sl (e:=eH) (size:=1) (sv:=v) (vs:=o) (n:=m+1) (full:=true) 1;refine Ru.mD (vs:=[v,aI 0]) ⟨rfl,P,rfl,rfl,trivial⟩ (h _ v cl come os ak lv A r p (.inl ⟨u,by rw[t];exact q,λj hj=>?_⟩) ?_ (y.sl U 0 rfl (by rw[Z,q];exact ag)));·rw[t]at hj⊢;exact C j af
 exact L.trans U.gr
end
end
end
end Go.am.R
namespace Go.am
section
variable[Ov]
section
variable{P:Program}
def agN(w:World):cU:=⟨λb=>w.heap.size<=b,λ_=>True,λ_=>False,λ_=>False⟩
end
section
variable{P:Program}
def nj(n c:Nat):Value->AV
 |.int k m=>.int (kc k) m
 |.bool b=>.bool b
 |.string t=>.str (t.data.toList.map alv)
 |.slice none 0 0=>.aS
 |.slice (some a) len cap=>if len<=cap then(if cap=0 then(if 0<c then .slice (ab.dF n) 0 0 0 true else .co)else match a with
   |⟨b,off,none⟩=>if b<c then .slice (ab.dF (n+b)) off len cap true else .co
   |_=>.co)else .co
 |_=>.co
def y9(P:Program)(n:Nat)(w:World):aP:=⟨λj=>if j.an<=n then some (j.an - 1,0)else if j.an<=n+w.heap.size then some (j.an - n - 1,0)else none,λb=>match w.heap[b]? with
 |some (.cells cs e _)=>(cs.size,(fY P e).getD 0)
 |_=>(0,0)⟩
theorem Ko{n b:Nat}{w:World}(h:b<w.heap.size):y9 P n w (ab.dF (n+b))=some (b,0):=by show(if(ab.dF (n+b)).an<=n then _ else _)=_;rw[ab.ml,aq af,aK af];congr 2;omega
theorem Q3{n:Nat}{w:World}(v:Value):VR (y9 P n w) (nj n w.heap.size v) v:=by
 unfold nj;split;·trivial
 .rfl
 .rfl
 .trivial
 .split
  .rename_i h1;split
   .rename_i h2;subst h2;split;·rename_i h3;simp only[VR];exact⟨af,afb _,afb _,λ_=>trivial,0,0,by have:=Ko (P:=P) (n:=n) h3;omega,λh=>absurd rfl h,λh=>by simp⟩
    trivial
   split;·rename_i b off;split;all_goals simp_all[VR,trivial,afb,Ko,akh]
   trivial
  trivial
 trivial
def rE(n:Nat)(w:World)(b:Nat):cq:=match w.heap[b]? with
 |some (.cells cs e _)=>.cells (db (cs.toList.map (nj n w.heap.size))) cs.size e false [] 0
 |_=>.none
def Fy(n:Nat)(w:World):Nat->ap cq
 |0=>.aL
 |k+1=>(Fy n w k).set .none (ab.dF (n+k)) (rE n w k)
def nk(n:Nat)(w:World):ai:=⟨Fy n w w.heap.size,ab.dF (n+w.heap.size)⟩
theorem Q4(n:Nat)(w:World)(j:ab):∀k,ap.get cq.none j (Fy n w k)=if n<j.an/\j.an<=n+k then rE n w (j.an - n - 1)else .none
 |0=>by rw[aq af];exact rT j j
 |k+1=>by
  rw[Fy,ap.aF,Q4 n w j k];have e:j=ab.dF (n+k)↔j.an=n+k+1:=⟨λe=>by rw[e,ab.ml],λe=>ab.uC (by rw[ab.ml];exact e)⟩;by_cases h:j.an=n+k+1;·rw[aK (e.2 h),aK af];congr 1;omega
  rw[aq λa=>h (e.1 a)];by_cases h2:n<j.an/\j.an<=n+k;·rw[aK h2,aK af]
  rw[aq h2,aq af]
theorem Q5(n:Nat)(w:World)(j:ab):(nk n w).get j=if n<j.an/\j.an<=n+w.heap.size then rE n w (j.an - n - 1)else .none:=Q4 n w j _
theorem Q6{n b:Nat}{w:World}(h:b<w.heap.size):(nk n w).get (ab.dF (n+b))=rE n w b:=by rw[Q5,ab.ml,aK af];congr 1;omega
theorem agO{n b:Nat}{w:World}{cs:Array Value}{e:TypeId}{fr:Nat×Nat}(h:w.heap[b]?=some (.cells cs e fr)):OR P (y9 P n w) (rE n w b) 0 (.cells cs e fr):=by simp only[rE,h,OR];simp_all[trivial,i,akh,getElem?_pos,Ao,akN,Array.getElem_toList,Q3]
theorem agP{n:Nat}{w:World}(E:P.globals.size=n)(F:n<=w.heap.size):bz P (agN w) (y9 P n w) (nk n w) w:=by
 have hg:=Q5 n w;have key:∀i,(nk n w).get i≠.none->∃b c e f,i.an=n+b+1/\b<w.heap.size/\w.heap[b]?=some (.cells c e f)/\(nk n w).get i=rE n w b/\y9 P n w i=some (b,0):=by
  intro i hi;have r:=hg i;rw[r]at hi;split at hi
  .rename_i h;have hb:i.an - n - 1<w.heap.size:=af;have p:=hi;unfold rE at p;split at p;·rename_i cs e f z;refine⟨i.an - n - 1,cs,e,f,af,hb,z,by rw[r,aK h],?_⟩;rw[show i=ab.dF (n+(i.an - n - 1))from ab.uC (by rw[ab.ml];omega)];have:=Ko (P:=P) (n:=n) hb;rw[this,ab.ml];congr 2;omega
   exact absurd rfl p
  exact absurd rfl hi
 have l:∀b c e f,w.heap[b]?=some (.cells c e f)->rE n w b=.cells (db (c.toList.map (nj n w.heap.size))) c.size e false [] 0:=λb c e f h=>by simp only[rE,h]
 have s:∀i j,i∉((nk n w).get j).aM:=λi j h=>by
  by_cases hj:(nk n w).get j=.none;·rw[hj]at h;cases h
  obtain⟨b,c,e,f,_,_,h3,o,_⟩:=key j hj;rw[o,l b c e f h3]at h;cases h
 refine⟨λi hi=>?_,λi j b x y u hi hj a m=>?_,λi j h=>absurd h (s i j),λi b x hi v q=>?_,λi hi=>?_,λk A=>⟨A,trivial⟩,λg h=>?_,λi b x G hi a m=>?_,λi b x q=>?_,λi b x _ _=>trivial,λi h=>h.elim,λi h=>h.elim⟩;·obtain⟨b,c,e,f,_,_,h3,o,t⟩:=key i hi;exact⟨b,0,_,t,h3,by rw[o];exact agO h3⟩
 .exfalso;obtain⟨b1,_,_,_,i1,_,_,_,B⟩:=key i hi;obtain⟨b2,_,_,_,i2,_,_,_,C⟩:=key j hj;rw[B]at a;rw[C]at m;injection a with a;injection a with a;injection m with m;injection m with m;exact u (ab.uC af)
 .obtain⟨b1,c,e,f,_,_,h3,o,_⟩:=key i hi;rw[o,l b1 c e f h3]at v;cases v
 .have D:n+w.heap.size+1<=i.an:=by have:(ab.dF (n+w.heap.size)).an<=i.an:=hi;rw[ab.ml]at this;exact this
  refine⟨by rw[hg,aq af],?_⟩;show(if i.an<=n then _ else _)=_;rw[aq af,aq af]
 .show(if(ab.dF g).an<=n then _ else _)=_;rw[ab.ml,aK af];simp
 .obtain⟨b1,c,e,f,_,_,h3,o,t⟩:=key i hi;rw[t]at a;injection a with a;injection a with a;subst a;rw[h3]at m;injection m with m;subst m;rw[o,l b1 c e f h3];simp only[gS];show(match w.heap[b1]? with|some (.cells cs e _)=>(cs.size,(fY P e).getD 0)|_=>(0,0))=_;rw[h3]
 have d:(if i.an<=n then some (i.an - 1,0)else if i.an<=n+w.heap.size then some (i.an - n - 1,0)else none)=some (b,x):=q;have:=ab.uB i;split at d;·injection d with d;injection d with d;omega
 split at d;·injection d with d;injection d with d;omega
 cases d
end
section
variable{P:Program}{K:Type}{eL:TypeId×Value->K}{w:World}{n:Nat}
def oG(eL:TypeId×Value->K)(P:Program)(w:World)(t:TypeId)(cs:List Value):Prop:=∃a x,DataW.trod eL P w 0 (λ_=>true) true a t cs=some x
theorem Q7{a:Addr}{v:Value}(h:w.cell? a=some v):∃c e f,a.spot=none/\w.heap[a.block]?=some (.cells c e f)/\c[a.off]?=some v:=by unfold World.cell? at h;split at h;all_goals simp_all
theorem Q8{b off i:Nat}:(⟨b,off,none⟩:Addr).add i=⟨b,off+i,none⟩:=by simp[Addr.add]
theorem Q9{c:Type}{Q:Nat->c->Prop}:∀{len:Nat},(∀i,i<len->∃a,Q i a)->∃b:List c,b.length=len/\∀i(h:i<b.length),Q i b[i]|0,_=>⟨[],rfl,λi h=>absurd h aB⟩|len+1,h=>by obtain⟨b,h1,h2⟩:=Q9 (len:=len) λi hi=>h i af;obtain⟨a,d⟩:=h len aB;refine⟨b++[a],by grind,λi hi=>?_⟩;grind
theorem C'{M:Type}{R:ai->M->List AV->Prop}{X:M->Prop}{t e:TypeId}{size:Nat}(ht:P.underlying t=some (.slice e))(A:P.cellsOf e=size)(S:0<size)(hg:∃c e f,w.heap[0]?=some (.cells c e f))(T:∀cs,oG eL P w e cs->∃a:M,R (nk n w) a (cs.map (nj n w.heap.size))/\X a){cs:List Value}(h:oG eL P w t cs):∃v N,cs=[v]/\dV size R (nk n w) N (nj n w.heap.size v)/\∀a∈N,X a:=by
 obtain⟨aw,x,h⟩:=h;obtain⟨c0,e0,f0,V⟩:=hg;have B:0<w.heap.size:=(Array.getElem?_eq_some_iff.1 V).1;rcases DataW.trod_slice ht h with⟨rfl,_⟩|⟨a,len,cap,r,I,m,_,rfl,_,_,C,_,ax,J,s,_⟩;·exact⟨_,[],rfl,⟨[],.inl ⟨rfl,rfl,rfl⟩,λk l=>absurd l aB⟩,λa h=>by grind⟩
 have D:∀i,i<cap->∃cs,w.cells? 0 (a.add (i*size)) size=some cs/\(i<len->∃y,DataW.trod eL P w 0 (λ_=>true) true m e cs=some y):=λi hi=>by
  by_cases hl:i<len;·have h1:=J i hl;rw[getElem?_pos r i af,aed]at h1;obtain⟨cs,h2,h3⟩:=h1;rw[A]at h2;exact⟨cs,h2,λ_=>⟨_,h3⟩⟩
  obtain⟨h0,h1⟩:=s rfl;have h1:=h1 (i - len) af;rw[getElem?_pos I _ af,aed]at h1;obtain⟨cs,h2,_⟩:=h1;rw[A,show len+(i - len)=i by omega]at h2;exact⟨cs,h2,λh=>absurd h hl⟩
 by_cases E:cap=0
 .subst E;obtain rfl:len=0:=af;refine⟨_,[],rfl,⟨[],?_,λk l=>absurd l aB⟩,λa h=>by grind⟩;simp only[nj,afb,bq,B];refine .inr ⟨ab.dF n,0,0,true,db (c0.toList.map (nj n w.heap.size)),c0.size,e0,false,[],0,rfl,?_,aB,aB,λj hj=>absurd hj aB,?_,afb _⟩;·have:=Q6 (n:=n) B;simp_all[alG,rE]
  show(ab.dF n).an<(ab.dF (n+w.heap.size)).an;simp_all[ab.ml]
 obtain⟨W,h1,_⟩:=D 0 af;obtain⟨_,ay,Y⟩:=World.cells?_some h1;have F:=Y 0 S;rw[getElem?_pos W 0 af]at F;obtain⟨c,e',f',q,d,g⟩:=Q7 F;have Z:(a.add (0*size)).add 0=a:=by rw[Nat.zero_mul];unfold Addr.add;simp
 rw[Z]at q d g;obtain⟨b,off,sp⟩:=a;simp only at q d g;subst q;have cA:b<w.heap.size:=(Array.getElem?_eq_some_iff.1 d).1;have cell:∀i,i<cap->∃cs,cs.length=size/\(∀j(h:j<cs.length),c[off+i*size+j]?=some cs[j])/\(i<len->∃y,DataW.trod eL P w 0 (λ_=>true) true m e cs=some y):=λi hi=>by obtain⟨cs,O,u⟩:=D i hi;obtain⟨_,z,Q⟩:=World.cells?_some O;refine⟨cs,z,λj hj=>?_,u⟩;have g5:=Q j af;rw[getElem?_pos cs j hj,Q8,Q8]at g5;obtain⟨c',_,_,_,o,g7⟩:=Q7 g5;simp only at o g7;rw[d]at o;injection o with o;injection o with o;subst o;exact g7
 have K:off+len*size<=c.size:=by
  by_cases ag:len=0;·subst ag;have:=(Array.getElem?_eq_some_iff.1 g).1;omega
  obtain⟨cs,O,u,_⟩:=cell (len - 1) af;have:=(Array.getElem?_eq_some_iff.1 (u (size - 1) af)).1;have e:len*size=(len - 1)*size+size:=by conv=>lhs;rw[show len=len - 1+1 by omega,Nat.succ_mul]
  omega
 have L:nj n w.heap.size (.slice (some ⟨b,off,none⟩) len cap)=.slice (ab.dF (n+b)) off len cap true:=by simp only[nj,C,E,cA,bq,bP]
 let p:List AV:=(ake (len*size)).map λj=>nj n w.heap.size (c.getD (off+j) default);have G:p.length=len*size:=by simp[p]
 have ar:∀i,i<len->∃a:M,R (nk n w) a ((p.drop (i*size)).take size)/\X a:=λi hi=>by
  obtain⟨cs,O,u,z⟩:=cell i af;obtain⟨y,z⟩:=z hi;obtain⟨a,r1,r2⟩:=T cs ⟨m,y,z⟩;refine⟨a,?_,r2⟩;suffices e:(p.drop (i*size)).take size=cs.map (nj n w.heap.size)by rw[e];exact r1
  have a0:i*size+size<=len*size:=by rw[<-Nat.succ_mul];exact aky _ hi
  apply alg;·rw[akF,alC,G,akg,O];omega
  intro j h1 h2;rw[akg]at h2;have Q:=u j h2;simp only[List.getElem_take,List.getElem_drop,p,akN,alA];rw[<-alo,akJ,Q];rfl
 obtain⟨N,av,hq⟩:=Q9 ar;refine⟨_,N,rfl,⟨p,?_,λk l=>(hq k l).1⟩,λa ha=>?_⟩
 .rw[L,av];refine .inr ⟨ab.dF (n+b),off,cap,true,db (c.toList.map (nj n w.heap.size)),c.size,e',false,[],0,rfl,?_,K,G,λj hj=>?_,?_,C⟩;·rw[Q6 cA];simp only[rE,d]
  .have H:off+j<c.size:=af;rw[Ao (by simpa using H)];simp only[akN,Array.getElem_toList,p,alA];rw[akJ,getElem?_pos c _ H];rfl
  show(ab.dF (n+b)).an<(ab.dF (n+w.heap.size)).an;rw[ab.ml,ab.ml];omega
 obtain⟨k,l,rfl⟩:=aka ha;exact(hq k l).2
end
section
variable{P:Program}{K:Type}{eL:TypeId×Value->K}{w:World}{n:Nat}
def A6(P:Program)(t:TypeId)(l:List (TypeId×Nat)):Prop:=∃fs,P.underlying t=some (.struct fs)/\fs.toList.map (λf=>(f.type,f.offset))=l
theorem Da{t:TypeId}{l:List (TypeId×Nat)}(d:A6 P t l){cs:List Value}(h:oG eL P w t cs):cs.length=P.cellsOf t/\∀p∈l,oG eL P w p.1 ((cs.drop p.2).take (P.cellsOf p.1)):=by
 obtain⟨fs,e,rfl⟩:=d;obtain⟨c,x,h⟩:=h;obtain⟨g,m,_,_,h1,h2,h3⟩:=DataW.trod_struct e h;refine⟨h1,λp j=>?_⟩;obtain⟨f,a,rfl⟩:=akk.1 j;obtain⟨i,hi,rfl⟩:=aka a;have b:i<fs.size:=by simpa using hi
 have:=h3 i fs[i] (getElem?_pos fs i b);rw[getElem?_pos g i af]at this;exact⟨m,_,this⟩
structure Q'(P:Program)where
 i:TypeId
 u:TypeId
 s:TypeId
 is:TypeId
 us:TypeId
 e:TypeId
 es:TypeId
 st:TypeId
 Db:TypeId
 j:TypeId
 b:TypeId
 bs:TypeId
 g:TypeId
 hi:P.underlying i=some (.int .i64)
 hu:P.underlying u=some (.int .u8)
 hs:P.underlying s=some .string
 ji:P.underlying is=some (.slice i)
 Ra:P.underlying us=some (.slice u)
 k7:P.underlying es=some (.slice e)
 Rb:P.underlying Db=some (.slice st)
 cA:P.underlying bs=some (.slice b)
 he:A6 P e [(i,0),(is,1)]
 eh:A6 P st [(u,0),(i,1),(is,2),(i,3),(i,4),(s,5)]
 hj:A6 P j [(u,0),(is,1),(s,2),(us,3),(es,4)]
 hb:A6 P b [(is,0),(Db,1),(j,2)]
 hg:A6 P g [(s,0),(i,1),(i,2),(bs,3)]
 ci:P.cellsOf i=1
 cu:P.cellsOf u=1
 cs:P.cellsOf s=1
 Dc:P.cellsOf is=1
 Rc:P.cellsOf us=1
 bx:P.cellsOf es=1
 Re:P.cellsOf Db=1
 Rf:P.cellsOf bs=1
 ce:P.cellsOf e=2
 Kq:P.cellsOf st=6
 cj:P.cellsOf j=5
 cb:P.cellsOf b=7
 cg:P.cellsOf g=4
abbrev AW(n:Nat)(w:World)(cs:List Value):List AV:=cs.map (nj n w.heap.size)
theorem dV.Rg{g:Type}{f:g->AV}{H:ai}{c:List g}{v:AV}(h:dV 1 (λ_ a cs=>cs=[f a]) H c v):Sl H 1 (c.map f) c.length v:=by
 obtain⟨i,h1,h2⟩:=h;have hl:=h1.length;have e:i=c.map f:=by apply alg (by rw[hl,akg];omega);intro k d b;rw[akg]at b;have:=h2 k b;rw[alt,aj9 d]at this;simp only[als,alm,akn,and_true]at this;rw[akN,this]
 grind
variable(Y:Q' P)
section
variable{Y}
theorem za{cs:List Value}(h:oG eL P w Y.i cs):∃m:Int,AW n w cs=[aI m]:=by obtain⟨a,x,h⟩:=h;obtain⟨m,rfl,_⟩:=DataW.trod_int Y.hi h;exact⟨m,rfl⟩
theorem Kr{cs:List Value}(h:oG eL P w Y.u cs):∃m:Nat,AW n w cs=[aU m]/\m<256:=by obtain⟨b,x,h⟩:=h;obtain⟨m,rfl,_,a⟩:=DataW.trod_int Y.hu h;simp only[Lit.wf,aj6,decide_eq_true_eq]at a;obtain⟨m,rfl⟩:∃k:Nat,m=k:=⟨m.toNat,by have:(0:Int)<=m:=a.1;omega⟩;exact⟨m,rfl,by have:(m:Int)<=255:=a.2;omega⟩
theorem Ks{cs:List Value}(h:oG eL P w Y.s cs):∃t:List Nat,AW n w cs=[.str t]/\∀c∈t,c<256:=by obtain⟨a,x,h⟩:=h;obtain⟨t,rfl,_⟩:=DataW.trod_string Y.hs h;exact⟨_,rfl,λc d=>by obtain⟨b,_,rfl⟩:=akk.1 d;exact b.toNat_lt⟩
variable(hg:∃c e f,w.heap[0]?=some (.cells c e f))
include hg
theorem Fz{cs:List Value}(h:oG eL P w Y.is cs):∃(v:AV)(l:List Int),AW n w cs=[v]/\fZ (nk n w) l v:=by obtain⟨v,a,rfl,h1,_⟩:=C' (n:=n) (R:=λ_(m:Int)cs=>cs=[aI m]) (X:=λ_=>True) Y.ji Y.ci aB hg (λcs h=>by obtain⟨m,e⟩:=za (Y:=Y) (n:=n) h;grind) h;exact⟨_,a,rfl,dV.Rg h1⟩
theorem agQ{cs:List Value}(h:oG eL P w Y.us cs):∃(v:AV)(l:List Nat),AW n w cs=[v]/\Ie (nk n w) l v/\∀c∈l,c<256:=by obtain⟨v,a,rfl,h1,h2⟩:=C' (n:=n) (R:=λ_(m:Nat)cs=>cs=[aU m]) (X:=λc=>c<256) Y.Ra Y.cu aB hg (λcs h=>by obtain⟨m,e,e2⟩:=Kr (Y:=Y) (n:=n) h;grind) h;exact⟨_,a,rfl,dV.Rg h1,h2⟩
theorem agR{cs:List Value}(h:oG eL P w Y.e cs):∃e:G.Edge,sa (nk n w) e (AW n w cs):=by obtain⟨hl,a⟩:=Da Y.he h;rw[Y.ce]at hl;match cs,hl with|[c0,c1],_=>have b:=a (Y.i,0) aB;have c:=a (Y.is,1) aB;simp only[Y.ci,Y.Dc]at b c;obtain⟨m,d⟩:=za (Y:=Y) (n:=n) b;obtain⟨v,l,e1,h1⟩:=Fz (Y:=Y) (n:=n) hg c;simp only[List.drop_zero,als,alm,aj7,ali,List.drop_succ_cons,akn,and_true]at d e1;exact⟨⟨m,l⟩,v,by grind,h1⟩
theorem agS{cs:List Value}(h:oG eL P w Y.st cs):∃s:G.ic,qT (nk n w) s (AW n w cs)/\∀c∈s.name,c<256:=by obtain⟨hl,a⟩:=Da Y.eh h;rw[Y.Kq]at hl;match cs,hl with|[c0,c1,c2,A,c4,B],_=>have b:=a (Y.u,0) aB;have d:=a (Y.i,1) aB;have e:=a (Y.is,2) aB;have f:=a (Y.i,3) aB;have g:=a (Y.i,4) aB;have j:=a (Y.s,5) aB;simp only[Y.ci,Y.Dc,Y.cu,Y.cs]at b d e f g j;obtain⟨k,m,_⟩:=Kr (Y:=Y) (n:=n) b;obtain⟨o,e1⟩:=za (Y:=Y) (n:=n) d;obtain⟨v,l,e2,h2⟩:=Fz (Y:=Y) (n:=n) hg e;obtain⟨p,q⟩:=za (Y:=Y) (n:=n) f;obtain⟨r,x⟩:=za (Y:=Y) (n:=n) g;obtain⟨t,y,z⟩:=Ks (Y:=Y) (n:=n) j;simp only[List.drop_zero,als,alm,aj7,ali,List.drop_succ_cons,akn,and_true]at m e1 e2 q x y;exact⟨⟨k,o,l,p,r,t⟩,⟨v,by grind,h2⟩,z⟩
theorem agT{cs:List Value}(h:oG eL P w Y.j cs):∃j:G.lD,tw (nk n w) j (AW n w cs)/\(∀c∈j.name,c<256)/\∀c∈j.b9,c<256:=by obtain⟨hl,a⟩:=Da Y.hj h;rw[Y.cj]at hl;match cs,hl with|[c0,c1,c2,A,c4],_=>have d:=a (Y.u,0) aB;have f:=a (Y.is,1) aB;have g:=a (Y.s,2) aB;have i:=a (Y.us,3) aB;have k:=a (Y.es,4) aB;simp only[Y.Dc,Y.cu,Y.cs,Y.Rc,Y.bx]at d f g i k;obtain⟨m,o,_⟩:=Kr (Y:=Y) (n:=n) d;obtain⟨p,q,e1,h1⟩:=Fz (Y:=Y) (n:=n) hg f;obtain⟨t,e2,h2⟩:=Ks (Y:=Y) (n:=n) g;obtain⟨r,v,x,h3,b⟩:=agQ (Y:=Y) (n:=n) hg i;obtain⟨B,y,l,z,_⟩:=C' (n:=n) (R:=sa) (X:=λ_=>True) Y.k7 Y.ce aB hg (λcs h=>by obtain⟨e,h⟩:=agR (Y:=Y) (n:=n) hg h;grind) k;simp only[List.drop_zero,als,alm,aj7,ali,List.drop_succ_cons,akn,and_true]at o e1 e2 x l;subst l;exact⟨⟨m,q,t,v,y⟩,⟨p,r,nj n w.heap.size c4,by grind,h1,h3,z⟩,h2,b⟩
structure Kt(b:G.gV):Prop where
 st:∀s∈b.aD,∀c∈s.name,c<256
 fn:∀c∈b.aA.name,c<256
 kd:∀c∈b.aA.b9,c<256
theorem agU{cs:List Value}(h:oG eL P w Y.b cs):∃b:G.gV,kj (nk n w) b (AW n w cs)/\Kt b:=by obtain⟨hl,a⟩:=Da Y.hb h;rw[Y.cb]at hl;match cs,hl with|[c0,c1,c2,p,c4,q,c6],_=>have g:=a (Y.is,0) aB;have i:=a (Y.Db,1) aB;have k:=a (Y.j,2) aB;simp only[Y.Dc,Y.Re,Y.cj]at g i k;obtain⟨v0,l,m,h0⟩:=Fz (Y:=Y) (n:=n) hg g;obtain⟨r,o,e1,h1,d⟩:=C' (n:=n) (R:=qT) (X:=λs=>∀c∈s.name,c<256) Y.Rb Y.Kq aB hg (λcs h=>agS (Y:=Y) (n:=n) hg h) i;obtain⟨j,h2,e,f⟩:=agT (Y:=Y) (n:=n) hg k;simp only[List.drop_zero,als,alm,aj7,ali,List.drop_succ_cons,akn,and_true]at m e1 h2;subst e1;exact⟨⟨l,o,j⟩,⟨v0,nj n w.heap.size c1,_,by simp_all,h0,h1,h2⟩,d,e,f⟩
structure Rh(g:G.bu):Prop where
 nm:∀c∈g.name,c<256
 bl:∀b∈g.al,Kt b
theorem agV{cs:List Value}(h:oG eL P w Y.g cs):∃g:G.bu,iG (nk n w) g (AW n w cs)/\Rh g:=by obtain⟨hl,a⟩:=Da Y.hg h;rw[Y.cg]at hl;match cs,hl with|[c0,c1,c2,k],_=>have c:=a (Y.s,0) aB;have d:=a (Y.i,1) aB;have e:=a (Y.i,2) aB;have f:=a (Y.bs,3) aB;simp only[Y.cs,Y.ci,Y.Rf]at c d e f;obtain⟨t,l,h0⟩:=Ks (Y:=Y) (n:=n) c;obtain⟨m,e1⟩:=za (Y:=Y) (n:=n) d;obtain⟨o,e2⟩:=za (Y:=Y) (n:=n) e;obtain⟨q,p,j,h3,b⟩:=C' (n:=n) (R:=kj) (X:=Kt) Y.cA Y.cb aB hg (λcs h=>agU (Y:=Y) (n:=n) hg h) f;simp only[List.drop_zero,als,alm,aj7,ali,List.drop_succ_cons,akn,and_true]at l e1 e2 j;subst j;exact⟨⟨t,m,o,p⟩,⟨nj n w.heap.size k,by grind,h3⟩,h0,b⟩
end
end
end
end Go.am
end
