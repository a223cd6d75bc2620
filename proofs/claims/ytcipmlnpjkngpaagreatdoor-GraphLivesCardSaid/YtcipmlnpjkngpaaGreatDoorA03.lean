/- A part. No conditions. -/
import Derived.Test.YtcipmlnpjkngpaaGreatDoorA02
import Derived.RangeFuncIn
import Derived.Orders
set_option linter.all false
open List renaming range->afD,getD->agt
open Nat renaming blt->ae0,ble->afx
open Array renaming filter->af9,replicate->agk
open UInt8 renaming toNat->af5,ofNat->agp
open Eq renaming mpr->agu
open List.Pairwise renaming nil->agv
noncomputable section
namespace Go.ak
section
variable[Ov]
section
variable{P:Program}{b:bS}{ρ:aQ}{H H':ai}{w:World}{nt:Nat}{aa:am AV}{a:Act}{o:Oper}{ao:bC}{v:AV}
theorem OQ(h:cO P b ρ H w nt aa a){t:TypeId}{x:Operand}(r:o.op=.range t x)(f:bG P nt o=some ao)(he:aE ao aa H=some (v,H')):bo P b ρ w (execOp a.eval o) v H':=by
 simp only[bG,r,aep,aaw]at f;obtain⟨d,hd,f⟩:=f;split at f
 .simp only[aaw,aet,aas]at f;obtain⟨z,h1,rfl⟩:=f;have g:=h.gv h1;simp only[aE]at he;split at he
  .rename_i s i;simp only[aas,acn]at he;obtain⟨rfl,rfl⟩:=he;rw[i]at g;obtain⟨u,A,k⟩:=g.ky;obtain⟨l,n,p⟩:=h.I.alloc (o:=.jN s s 0) (ob:=.stringIter u 0) (0,0) (by simp[ef]) aC rfl (by simp only[OR];exact⟨trivial,trivial,A,aC⟩);refine bo.val (c:=.pointer (some ⟨w.heap.size,0,none⟩)) (w':={w with heap:=w.heap.push (.stringIter u 0)}) ?_ ⟨_,l,?_,n,p⟩;·simp only[execOp,r,Instr.range,Sem.run_bind,bJ hd,Result.andThen_ok,k,Sem.run_pure,run_newObj]
   simp only[VR];exact⟨_,_,aQ.dW ..,aC⟩
  cases he
 .simp only[aaw,aet,aas]at f;obtain⟨z,h1,rfl⟩:=f;have g:=h.gv h1;simp only[aE]at he;split at he
  .rename_i i;simp only[aas,acn]at he;obtain⟨rfl,rfl⟩:=he;rw[i]at g;have k:=g.pV;obtain⟨l,n,p⟩:=h.I.alloc (o:=.mapIter none 0 [] 0) (ob:=.mapIter none 0 #[] 0) (0,0) (by simp[ef]) aC rfl (by simp only[OR];exact⟨trivial,by simp[kS],by trivial,by trivial,by trivial⟩);refine bo.val (c:=.pointer (some ⟨w.heap.size,0,none⟩)) (w':={w with heap:=w.heap.push (.mapIter none 0 #[] 0)}) ?_ ⟨_,l,?_,n,p⟩;·simp only[execOp,r,Instr.range,Sem.run_bind,bJ hd,Result.andThen_ok,k,Sem.run_pure,run_newObj]
   simp only[VR];exact⟨_,_,aQ.dW ..,aC⟩
  .rename_i m i;rw[i]at g;obtain⟨F,hb,k⟩:=g.ly;split at he
   .rename_i es e B;simp only[aas,acn]at he;obtain⟨rfl,rfl⟩:=he;obtain⟨bi,C,E⟩:=nM h.I B hb;have q:bR ρ (ρ.add H.next w.heap.size 0 (0,0)):=aQ.pS _ _ _ (h.I.dD _ (aeq _)).2 (λj c y D f=>by have:=h.I.dU j c y D;omega);obtain⟨l,n,p⟩:=h.I.alloc (o:=.mapIter (some m) e [] e) (ob:=.mapIter (some F) e #[] e) (0,0) (by simp[ef]) aC rfl (by simp only[OR];exact⟨trivial,by simp only[kS];exact(q _ _ hb).1,by trivial,by trivial,by trivial⟩);refine bo.val (c:=.pointer (some ⟨w.heap.size,0,none⟩)) (w':={w with heap:=w.heap.push (.mapIter (some F) e #[] e)}) ?_ ⟨_,l,?_,n,p⟩;·simp only[execOp,r,Instr.range,Sem.run_bind,bJ hd,Result.andThen_ok,k,Sem.run_pure,run_newObj,kU C]
    simp only[VR];exact⟨_,_,aQ.dW ..,aC⟩
   cases he
  cases he
 cases f
theorem uX{i:Nat}{d:Obj}(h:w.heap[i]?=some d)(g:∀c e f,d≠.cells c e f):(getObj i).run P w=.ok d w:=by cases d with|cells c e f=>exact absurd rfl (g c e f)|_=>simp only[getObj,Sem.run,h]
theorem OS(h:cO P b ρ H w nt aa a){F:Operand}{e:Bool}(u:o.op=.next F e)(t:bG P nt o=some ao)(he:aE ao aa H=some (v,H')):bo P b ρ w (execOp a.eval o) v H':=by
 cases e with
 |false=>simp only[bG,u,abu,bA,aep,aaw,aet,aas]at t;obtain⟨G,h1,rfl⟩:=t;simp[aE]at he
 |true=>
  simp only[bG,u,bc,aep,aaw,aet,aas]at t;obtain⟨G,h1,rfl⟩:=t;have D:=h.gv h1;simp only[aE]at he;split at he
  .rename_i id J;rw[J]at D;obtain⟨S,z,hb,C⟩:=D.kT;split at he
   .rename_i s E N hi;have k:H.get id≠.none:=by rw[hi];simp
    obtain⟨Q,R,K,A,j,l,m⟩:=h.I.be k;rw[hb]at A;injection A with A;injection A with L M;subst L;subst M;rw[hi]at m;cases K<;>simp only[OR]at m;rename_i bs p;obtain⟨rfl,rfl,bH,f⟩:=m;have g:(getObj S).run P w=.ok (.stringIter bs p) w:=uX l (λ_ _ _=>by simp);have O:bs.size=s.length:=by rw[<-bH,aeR,afe];rfl
    split at he
    .simp only[aas,acn]at he;obtain⟨rfl,rfl⟩:=he;have q:¬p<bs.size:=by have:=List.drop_eq_nil_iff.1 f.symm;omega
     refine bo.val (c:=.tuple #[.bool false]) (w':=w) ?_ (b9.bL h.I (by simp[VR,aR]));simp only[execOp,u,Instr.next,C,agl,Sem.run_bind,g,Result.andThen_ok,q,bA,Sem.run_pure]
    rename_i c r;split at he
    .rename_i j;simp only[aas,acn]at he;obtain⟨rfl,rfl⟩:=he;have j:c<128:=ae2 (Nat.lt_succ_self c) (aeG j);have n:s[p]?=some c:=by
      have:(s.drop p)[0]?=some c:=by rw[<-f];rfl
      rw[List.getElem?_drop]at this;simpa using this
     have B:p<bs.size:=by have:=(ae7.1 n).1;omega
     have y:p<bs.data.size:=B;have t:(bs.data[p]).toNat=c:=by rw[<-bH,ae5,afi,getElem?_pos bs.data p y]at n;simpa using n
     have i:Utf8.decode bs p=(c,1):=by
      have hg:(bs.get! (p+0)).toNat=c:=by rw[agl,ByteArray.get!];rw[getElem!_pos bs.data p y];exact t
      simp only[Utf8.decode,hg,show c<0x80 from j,bc]
     have hu:=h.I.nI (i:=id) (o':=.jN s r (p+1)) (ob':=.stringIter bs (p+1)) k (by rw[hi];rfl) hb rfl (by simp only[OR];refine⟨trivial,trivial,bH,?_⟩;rw[<-List.drop_drop,<-f];rfl) (by simp[ef]) (w':={w with heap:=w.heap.setIfInBounds S (.stringIter bs (p+1))}) rfl rfl rfl rfl;rw[hi]at hu;refine bo.val (c:=.tuple #[.bool true,goInt p,.int .i32 c]) (w':={w with heap:=w.heap.setIfInBounds S (.stringIter bs (p+1))}) ?_ ⟨ρ,bR.refl ρ,?_,hu.1,hu.2⟩;·simp only[execOp,u,Instr.next,C,agl,Sem.run_bind,g,Result.andThen_ok,B,bc,i,uV w l (λ_ _ _=>by simp),Sem.run_pure]
     simp only[VR,aR];exact⟨trivial,VR.goInt ρ p,by simp[kc],trivial⟩
    simp only[aas,acn]at he;obtain⟨rfl,rfl⟩:=he;have B:p<bs.size:=by
     have:(s.drop p)[0]?=some c:=by rw[<-f];rfl
     rw[List.getElem?_drop]at this;have:=(ae7.1 (by simpa using this)).1;omega
    have i:Utf8.decode bs p=u8 s p:=by
     have hd:(s.map agp).toArray=bs.data:=by rw[<-bH,af8,show agp∘af5=_root_.id from funext λ(x:UInt8)=>by show agp x.toNat=x;simp,List.map_id,Array.toArray_toList]
     unfold u8;rw[hd]
    generalize u8 s p=d at*;have hu:=h.I.nI (i:=id) (o':=.jN s (s.drop (p+d.2)) (p+d.2)) (ob':=.stringIter bs (p+d.2)) k (by rw[hi];rfl) hb rfl (by simp only[OR];exact⟨trivial,trivial,bH,trivial⟩) (by simp[ef]) (w':={w with heap:=w.heap.setIfInBounds S (.stringIter bs (p+d.2))}) rfl rfl rfl rfl;rw[hi]at hu;refine bo.val (c:=.tuple #[.bool true,goInt p,.int .i32 d.1]) (w':={w with heap:=w.heap.setIfInBounds S (.stringIter bs (p+d.2))}) ?_ ⟨ρ,bR.refl ρ,?_,hu.1,hu.2⟩;·simp only[execOp,u,Instr.next,C,agl,Sem.run_bind,g,Result.andThen_ok,B,bc,i,uV w l (λ_ _ _=>by simp),Sem.run_pure]
    simp only[VR,aR];exact⟨trivial,VR.goInt ρ p,by simp[kc],trivial⟩
   cases he
  cases he
theorem OT(h:cO P b ρ H w nt aa a){G:Operand}(A:o.op=.entry G)(B:bG P nt o=some ao)(he:aE ao aa H=some (v,H')):bo P b ρ w (execOp a.eval o) v H':=by
 simp only[bG,A,aep,aaw,aet,aas]at B;obtain⟨Z,h1,rfl⟩:=B;have C:=h.gv h1;simp only[aE]at he;split at he
 .rename_i id J;rw[J]at C;obtain⟨ag,z,hb,K⟩:=C.kT;split at he
  .rename_i m x seen F hi;have s:H.get id≠.none:=by rw[hi];simp
   obtain⟨b',z',L,p,Y,t,c⟩:=h.I.be s;rw[hb]at p;injection p with p;injection p with D M;subst D;subst M;rw[hi]at c;cases L<;>simp only[OR]at c;rename_i E N r O;obtain⟨rfl,d,rfl,g,rfl⟩:=c;have n:(getObj ag).run P w=.ok (.mapIter E N r O) w:=uX t (λ_ _ _=>by simp);cases E with
   |none=>simp[kS]at d
   |some mb=>
    simp only[kS]at d;split at he
    .rename_i bn es y hl Q;split at he
     .rename_i f;have f:=aey f;subst f;obtain⟨bi,R,S⟩:=nM h.I Q d;split at he
      .rename_i i T;obtain⟨_,_,e0,c0,q,V,W,X⟩:=bf.lT bn 0 i S T;split at he
       .rename_i D u;simp only[aas,acn]at he;obtain⟨rfl,rfl⟩:=he;rw[ago,u]at q;injection q with q;subst q;have j:r.back?=some bn:=by rw[<-g]at hl;obtain⟨l⟩:=r;simpa using hl
        have k:bi.find? (λe=>e.born==bn)=some c0:=by obtain⟨l⟩:=bi;simpa using V
        refine bo.val (c:=.tuple #[c0.key,c0.val]) (w':=w) ?_ (b9.bL h.I (by simp only[VR,aR];exact⟨W,X,trivial⟩));simp[execOp,A,Instr.entry,K,n,j,kU R,k]
       cases he
      cases he
     cases he
    cases he
  cases he
 cases he
theorem bf.filter{p:aV->Bool}{q:MapEntry->Bool}(d:∀(e:aV)(c:MapEntry),e.born=c.born->p e=q c):∀{es:List aV}{bi:List MapEntry},bf ρ es bi->bf ρ (es.filter p) (bi.filter q)
 |[],[],_=>by simp[bf]
 |e::es,c::bi,h=>by
  simp only[bf]at h;simp only[List.filter_cons,d e c h.2.2.1];split;·simp only[bf];exact⟨h.1,h.2.1,h.2.2.1,bf.filter d h.2.2.2⟩
  exact bf.filter d h.2.2.2
 |[],_::_,h=>by simp[bf]at h
 |_::_,[],h=>by simp[bf]at h
theorem bf.get:∀{es:List aV}{bi:List MapEntry},bf ρ es bi->∀(i:Nat)(c:MapEntry),bi[i]?=some c->∃e:aV,es[i]?=some e/\VR ρ e.key c.key/\VR ρ e.val c.val/\e.born=c.born|[],[],_,i,c,h=>by simp at h|e::es,c::bi,h,0,f,d=>by simp only[bf]at h;simp at d;subst d;exact⟨e,aC,h.1,h.2.1,h.2.2.1⟩|e::es,c::bi,h,i+1,f,d=>by simp only[bf]at h;simp at d;simpa using bf.get h.2.2.2 i f d|[],_::_,h,_,_,_=>by simp[bf]at h|_::_,[],h,_,_,_=>by simp[bf]at h
theorem bf.append:∀{es:List aV}{bi:List MapEntry}{f:List aV}{d:List MapEntry},bf ρ es bi->bf ρ f d->bf ρ (es++f) (bi++d)|[],[],_,_,_,h=>by simpa using h|e::es,c::bi,_,_,h,g=>by simp only[bf]at h;simp only[afk,bf];exact⟨h.1,h.2.1,h.2.2.1,bf.append h.2.2.2 g⟩|[],_::_,_,_,h,_=>by simp[bf]at h|_::_,[],_,_,h,_=>by simp[bf]at h
theorem bf.G7(n:Nat):∀{es:List aV}{bi:List MapEntry},bf ρ es bi->es.all (λe=>afx n e.born)=bi.all (λe=>decide (e.born>=n))
 |[],[],_=>rfl
 |e::es,c::bi,h=>by
  simp only[bf]at h;simp only[List.all_cons,bf.G7 n h.2.2.2,h.2.2.1];congr 1;by_cases d:c.born>=n;·rw[decide_eq_true d,aff d]
  rw[decide_eq_false d];cases hb:afx n c.born with|false=>rfl|true=>exact absurd (aeG hb) d
 |[],_::_,h=>by simp[bf]at h
 |_::_,[],h=>by simp[bf]at h
theorem G8(h:cO P b ρ H w nt aa a){it:aK}(D:bG P nt o=some (.jy it)){cs:List (Option aV)}{V:Option aV->AV×ai}(he:pK H (gv aa it)=some (cs,V)):∃i c,i<cs.length/\cs[i]?=some c/\bo P b ρ w (execOp a.eval o) (V c).1 (V c).2:=by
 obtain⟨x,ho,hx⟩:∃x,o.op=.next x false/\eB P nt x=some it:=by
  unfold bG at D;simp only[aep,aet]at D;split at D;all_goals(try(exfalso;(repeat'(first|(cases D;done)|(rw[aaw]at D;obtain⟨_,_,D⟩:=D)|split at D));done))
  rename_i x s ho;cases s with|true=>simp only[bc,aaw,aas,reduceCtorEq,and_false,exists_false]at D|false=>simp only[abu,bA,aaw,aas,bC.jy.injEq]at D;obtain⟨y,h1,rfl⟩:=D;exact⟨x,ho,h1⟩
 have g1:=h.gv hx;unfold pK at he;split at he
 .rename_i id hv;rw[hv]at g1;obtain⟨cf,z,hb,aw⟩:=g1.kT;split at he
  .rename_i hi;simp only[aas,acn]at he;obtain⟨rfl,rfl⟩:=he;obtain⟨ca,z',ob,M,bd,O,r⟩:=h.I.be (i:=id) (by rw[hi];simp);rw[hb]at M;injection M with M;injection M with e1 e2;subst e1;subst e2;rw[hi]at r;cases ob<;>simp only[OR]at r;rename_i m' g l t';obtain⟨rfl,h1,_⟩:=r;have:m'=none:=by cases m'<;>simp[kS]at h1;rfl
   subst this;refine⟨0,none,aC,rfl,bo.val (c:=.tuple #[.bool false]) (w':=w) ?_ (b9.bL h.I (by simp[VR,aR]))⟩;simp only[execOp,ho,Instr.next,aw,agl,Sem.run_bind,uX O (λ_ _ _=>by simp),Result.andThen_ok,Sem.run_pure]
  .rename_i m b7 seen b' hi;split at he
   .rename_i es k hm;split at he;·cases he
    rename_i Y;simp only[aas,acn]at he;obtain⟨rfl,rfl⟩:=he;obtain⟨ca,z',ob,M,bd,O,r⟩:=h.I.be (i:=id) (by rw[hi];simp);rw[hb]at M;injection M with M;injection M with e1 e2;subst e1;subst e2;rw[hi]at r;cases ob<;>simp only[OR]at r;rename_i m' g l t';obtain⟨rfl,h1,rfl,h3,rfl⟩:=r;obtain⟨E,rfl⟩:∃E,m'=some E:=by cases m' with|none=>simp[kS]at h1|some E=>exact⟨E,rfl⟩
    have ax:ρ m=some (E,0):=h1;obtain⟨bi,k1,k2⟩:=nM h.I hm ax;have Z:∀n,l.contains n=seen.contains n:=λn=>by rw[<-h3,Array.contains_toList]
    have hl:=k2.filter (p:=λe=>!seen.contains e.born) (q:=λe=>!l.contains e.born) (λe c G=>by rw[G,Z]);have eZ:=hl.filter (p:=λe=>ae0 e.born g) (q:=λe=>decide (e.born<g)) (λe c G=>by
     rw[G];by_cases q:c.born<g;·rw[decide_eq_true q];exact agu afs q
     rw[decide_eq_false q];cases hb:ae0 c.born g with|false=>rfl|true=>exact absurd (Eq.mp afs hb) q);have J:=hl.filter (p:=λe=>!ae0 e.born g) (q:=λe=>decide (e.born>=g)) (λe c G=>by
     rw[G];by_cases q:c.born<g;·rw[decide_eq_false ab,show ae0 c.born g=true from agu afs q];rfl
     rw[decide_eq_true ab];cases hb:ae0 c.born g with|false=>rfl|true=>exact absurd (Eq.mp afs hb) q);have d:=eZ.append J;have Q:(!l.isEmpty&&!bi.isEmpty&&bi.all λe=>decide (e.born>=t'))=false:=by
     have e1:l.isEmpty=seen.isEmpty:=by rw[<-h3,Array.isEmpty_toList]
     have e2:bi.isEmpty=es.isEmpty:=by have hh:=bf.length k2;rw[<-Array.isEmpty_toList];cases a6:bi.toList<;>rw[a6]at hh<;>cases es<;>first|rfl|simp at hh
     have e3:=k2.G7 t';rw[e1,e2,<-Array.all_toList,<-e3];simpa using Y
    generalize bv:(es.filter λe=>!seen.contains e.born).filter (λe=>ae0 e.born g)=N at eZ d⊢;generalize cd:(es.filter λe=>!seen.contains e.born).filter (λe=>!ae0 e.born g)=nA at J d⊢;generalize W:(bi.toList.filter λe=>!l.contains e.born).filter (λe=>decide (e.born<g))=F at eZ d;generalize b0:(bi.toList.filter λe=>!l.contains e.born).filter (λe=>decide (e.born>=g))=nL at J d;have B:N.isEmpty=F.isEmpty:=by have hh:=bf.length eZ;clear bv W eZ d;cases N<;>cases F<;>first|rfl|simp at hh
    have a8:(N++nA).length=(F++nL).length:=bf.length d;let p:List (Option MapEntry):=(if F.isEmpty then[none]else[])++(F++nL).map some;have R:p.length=((if N.isEmpty then[none]else[])++(N++nA).map some:List (Option aV)).length:=by simp only[p,aex,aeR,B]at a8⊢;split<;>simp<;>omega
    have S:0<p.length:=by simp only[p,aex,aeR];cases F with|nil=>simp;omega|cons a cf=>simp;omega
    have b3:∃(j:Nat)(A:World),j<p.length/\(A=w\/A=w.drew)/\(choose (Question.mapNext p.length)).run P w=.ok j A:=by
     by_cases hf:p.length<=1;·exact⟨0,w,S,Or.inl rfl,by simp[choose,Sem.run,Question.forced,hf]⟩
     exact⟨_,w.drew,Nat.mod_lt _ S,Or.inr rfl,by simp only[choose,Sem.run,Question.forced,decide_eq_true_eq,hf,bA,Question.cut];rfl⟩
    obtain⟨j,A,hj,ay,a'⟩:=b3;have T:A.heap=w.heap:=by rcases ay with rfl|rfl<;>rfl
    have a1:bh P b ρ H A:=h.I.uO T;have a2:cW b w A:=by rcases ay with rfl|rfl;exact cW.refl b _;exact(cW.refl b _).drew
    have K:((if(af9 (λe:MapEntry=>decide (e.born<g)) (af9 (λe:MapEntry=>!l.contains e.born) bi)).isEmpty=true then #[none]else #[])++Array.map some (af9 (λe:MapEntry=>decide (e.born<g)) (af9 (λe:MapEntry=>!l.contains e.born) bi)++af9 (λe:MapEntry=>decide (e.born>=g)) (af9 (λe:MapEntry=>!l.contains e.born) bi))).toList=p:=by
     simp only[p,Array.toList_append,Array.toList_map,Array.toList_filter,W,b0];congr 1;have:(af9 (λe:MapEntry=>decide (e.born<g)) (af9 (λe:MapEntry=>!l.contains e.born) bi)).isEmpty=F.isEmpty:=by rw[<-W,<-Array.toList_filter,<-Array.toList_filter,Array.isEmpty_toList]
     rw[this];split<;>rfl
    generalize ag:((if(af9 (λe:MapEntry=>decide (e.born<g)) (af9 (λe:MapEntry=>!l.contains e.born) bi)).isEmpty=true then #[none]else #[])++Array.map some (af9 (λe:MapEntry=>decide (e.born<g)) (af9 (λe:MapEntry=>!l.contains e.born) bi)++af9 (λe:MapEntry=>decide (e.born>=g)) (af9 (λe:MapEntry=>!l.contains e.born) bi)))=CA at K;have av:CA.size=p.length:=by rw[<-K,afe]
    have u:(execOp a.eval o).run P w=((match p[j]? with|some (some e)=>(do setObj cf (.mapIter (some E) g (l.push e.born) k);pure (.value (.tuple #[.bool true,e.key,e.val])))|some none=>pure (.value (.tuple #[.bool false]))|none=>stuck "Next: no such candidate"):Sem Next).run P A:=by simp only[execOp,ho,Instr.next,aw,agl,Sem.run_bind,uX O (λ_ _ _=>by simp),Result.andThen_ok,kU k1,Q,abu,bA,ag,av,a'];rw[<-afi,K];cases f:p[j]? with|none=>simp only[stuck,Sem.run_bind];rfl|some c'=>cases c' with|none=>simp|some e=>simp only[Sem.run_bind,Sem.run_pure];cases Sem.run P (setObj cf (.mapIter (some E) g (l.push e.born) k)) A<;>rfl
    have L:=hj;rw[R]at L;cases f:p[j]? with
    |none=>rw[List.getElem?_eq_none_iff]at f;omega
    |some c'=>
     rw[f]at u;cases c' with
     |none=>
      have b4:((if N.isEmpty then[none]else[])++(N++nA).map some:List (Option aV))[j]?=some none:=by
       simp only[p]at f;by_cases he:F.isEmpty=true;·rw[B];simp only[he,bc]at f⊢;cases j with|zero=>simp|succ j=>simp only[List.singleton_append,afh,ae5,aes]at f;obtain⟨_,_,h⟩:=f;cases h
       have X:F.isEmpty=false:=by simpa using he
       simp only[X,abu,bA,afz,ae5,aes]at f;obtain⟨_,_,h⟩:=f;cases h
      refine⟨j,none,L,b4,bo.val (c:=.tuple #[.bool false]) (w':=A) ?_ ⟨ρ,bR.refl ρ,by simp[VR,aR],a1,a2⟩⟩;rw[u];simp
     |some e=>
      obtain⟨C,b6,v1,v2,v3⟩:∃C:aV,((if N.isEmpty then[none]else[])++(N++nA).map some:List (Option aV))[j]?=some (some C)/\VR ρ C.key e.key/\VR ρ C.val e.val/\C.born=e.born:=by
       simp only[p]at f;by_cases he:F.isEmpty=true;·rw[B];simp only[he,bc]at f⊢;cases j with|zero=>simp at f|succ j=>simp only[List.singleton_append,afh,ae5,aes]at f⊢;obtain⟨e0,h0,t⟩:=f;injection t with t;subst t;obtain⟨C,q1,q2,q3,q4⟩:=d.get j e0 h0;exact⟨C,⟨C,q1,rfl⟩,q2,q3,q4⟩
       rw[B];have X:F.isEmpty=false:=by simpa using he
       simp only[X,abu,bA,afz,ae5,aes]at f⊢;obtain⟨e0,h0,t⟩:=f;injection t with t;subst t;obtain⟨C,q1,q2,q3,q4⟩:=d.get j e0 h0;exact⟨C,⟨C,q1,rfl⟩,q2,q3,q4⟩
      have ba:A.heap[cf]?=some (.mapIter (some E) g l t'):=by rw[T];exact O
      have bb:=uV (P:=P) A ba (λ_ _ _=>by simp) (.mapIter (some E) g (l.push e.born) k);have hu:=a1.nI (i:=id) (o':=.mapIter (some m) g (seen++[C.born]) k) (ob':=.mapIter (some E) g (l.push e.born) k) (w':={A with heap:=A.heap.setIfInBounds cf (.mapIter (some E) g (l.push e.born) k)}) (by rw[hi];simp) (by rw[hi];rfl) hb rfl (by simp only[OR];exact⟨trivial,ax,trivial,by rw[Array.toList_push,h3,v3],trivial⟩) (by simp[ef]) rfl rfl rfl rfl;rw[hi]at hu;refine⟨j,some C,L,b6,bo.val (c:=.tuple #[.bool true,e.key,e.val]) (w':=_) ?_ ⟨ρ,bR.refl ρ,by simp[VR,aR,v1,v2],hu.1,a2.trans hu.2⟩⟩;rw[u];simp only[Sem.run_bind,bb,Result.andThen_ok,Sem.run_pure]
   cases he
  cases he
 cases he
end
section
variable{P:Program}{b:bS}{ρ:aQ}{H H':ai}{w:World}{nt:Nat}{aa:am AV}{a:Act}{o:Oper}{ao:bC}{v:AV}
theorem OU(h:cO P b ρ H w nt aa a){op:BinOp}{t r:TypeId}{x y:Operand}(j:o.op=.binOp op t x y r)(c:bG P nt o=some ao)(he:aE ao aa H=some (v,H')):bo P b ρ w (execOp a.eval o) v H':=by
 have hu:∃d,P.underlying t=some d:=by simp only[bG,j,aep,eY]at c;cases hu:P.underlying t with|none=>rw[hu]at c;simp at c|some d=>exact⟨d,rfl⟩
 obtain⟨d,hu⟩:=hu;by_cases hint:∃k,d=.int k
 .obtain⟨k,rfl⟩:=hint;by_cases hs:op=.shl\/op=.shr;·exact NV h j hu hs c he
  exact NU h j hu (by simpa[not_or]using hs) c he
 by_cases f:d=.string;·subst f;exact NY h j hu c he
 have n:∀k,P.underlying t≠some (.int k):=λk e=>by rw[hu]at e;injection e with e;exact hint ⟨k,e⟩
 have p:P.underlying t≠some .string:=λe=>by rw[hu]at e;injection e with e;exact f e
 have key:∃neg i l m,op=(if neg then .neq else .eql)/\gW P 16 (nF x||nF y) t=some i/\uI P i t=true/\eB P nt x=some l/\eB P nt y=some m/\ao=.eq neg i l m:=by
  simp only[bG,j,aep,eY,hu,afY]at c;cases op<;>cases d<;>first|(exact absurd ⟨_,rfl⟩ hint)|(exact absurd rfl f)|(simp at c;done)|skip
  all_goals
   simp only[aaw]at c;obtain⟨i,g,c⟩:=c;split at c;case isFalse=>cases c
   rename_i hg;simp only[aaw,aet,aas]at c;obtain⟨l,h1,m,h2,h3⟩:=c;first|exact⟨false,i,l,m,rfl,g,hg,h1,h2,h3.symm⟩|exact⟨true,i,l,m,rfl,g,hg,h1,h2,h3.symm⟩
 obtain⟨neg,i,l,m,q,g,hg,h1,h2,rfl⟩:=key;exact OE h j q g hg h1 h2 n p he
theorem OV(h:cO P b ρ H w nt aa a){c:Call}{l:Builtin}(f:o.op=.call c)(hb:c.callee=.builtin l)(g:bG P nt o=some ao)(he:aE ao aa H=some (v,H')):bo P b ρ w (execOp a.eval o) v H':=by
 cases l with
 |len=>exact Ob h f hb g he
 |cap=>exact Oc h f hb g he
 |append=>exact Oq h f hb g he
 |copy=>exact Ot h f hb g he
 |delete=>exact OO h f hb g he
 |min=>exact GD (isMax:=false) h f hb g he
 |max=>exact GD (isMax:=true) h f hb g he
 |clear=>
  have e:=g;simp only[bG,f,hb,aep,aaw]at e;obtain⟨t,j,d,hd,e⟩:=e;split at e;·simp only[aaw,aet,aas]at e;obtain⟨z,k,i,_,h3⟩:=e;exact Ou h f hb h3.symm g he
  .simp only[aaw,aet,aas]at e;obtain⟨i,_,h3⟩:=e;exact OP h f hb h3.symm g he
  cases e
 |_=>simp[bG,f,hb]at g
theorem uY(h:cO P b ρ H w nt aa a)(g:bG P nt o=some ao)(he:aE ao aa H=some (v,H')):bo P b ρ w (execOp a.eval o) v H':=by
 cases j:o.op with
 |move x=>exact Gv h (.inl j) g he
 |assign x=>exact Gv h (.inr j) g he
 |pick c x y=>exact NL h j g he
 |alloc e=>exact NM h j g he
 |box e x=>exact NN h j g he
 |build t dw=>exact Oe h j g he
 |buildSlice t len dw=>exact Of h j g he
 |insert t m k x=>exact G4 h (.inr j) g he
 |load t x=>exact NO h j g he
 |store t x y=>exact NQ h j g he
 |nilCheck x=>exact NR h j g he
 |binOp op t x y n=>exact OU h j g he
 |unOp op t x=>exact NZ h j g he
 |convert s d x=>exact Oi h j g he
 |makeInterface t x=>exact N0 h j g he
 |makeFunc f x y=>cases f with|func f=>exact N1 h j g he|_=>simp[bG,j]at g
 |makeMap t r=>cases r with|none=>exact N2 h j g he|some r=>simp[bG,j]at g
 |makeSlice t x y=>exact Oh h j g he
 |slice t x lo hi p=>exact N' h j g he
 |fieldAddr t x i=>exact N4 h j g he
 |field t x i=>exact N3 h j g he
 |indexAddr t x i=>exact N6 h j g he
 |index t x i=>exact N7 h j g he
 |lookup t m k ok=>exact OI h j g he
 |mapUpdate t m k x=>exact G4 h (.inl j) g he
 |mapEntry t m k=>exact OL h j g he
 |entryStore t m s x=>exact OM h j g he
 |range t x=>exact OQ h j g he
 |next l s=>exact OS h j g he
 |entry l=>exact OT h j g he
 |typeAssert x q t ok=>exact Oj h j g he
 |extract x i=>exact N5 h j g he
 |call c=>cases hb:c.callee with|builtin u=>exact OV h j hb g he|value f=>simp only[bG,j,hb,aep,aaw,aet,aas]at g;obtain⟨_,_,_,_,rfl⟩:=g;simp[aE]at he|invoke r m=>simp[bG,j,hb]at g
 |_=>simp[bG,j]at g
end
section
variable{P:Program}{b:bS}{ρ:aQ}{H H':ai}{w:World}{nt:Nat}{aa:am AV}
def ia(ρ:aQ):List af->List Deferred->Prop
 |[],[]=>True
 |i::l,d::m=>(∃r,ρ i=some (r,0)/\d={target:=.collected r,args:= #[]})/\ia ρ l m
 |_,_=>False
theorem ia.mono{ρ a:aQ}(h:bR ρ a):∀{l:List af}{m:List Deferred},ia ρ l m->ia a l m|[],[],_=>trivial|_::_,_::_,k=>⟨by obtain⟨⟨r,h1,h2⟩,_⟩:=k;exact⟨r,(h _ _ h1).1,h2⟩,ia.mono h k.2⟩|[],_::_,k=>by simp[ia]at k|_::_,[],k=>by simp[ia]at k
structure fD(ρ:aQ)(nt:Nat)(fr:Fr)(ro:Option Nat)(a:Act):Prop where
 E:fW ρ nt fr.aa a.tmps
 D:ia ρ fr.bz a.defers
 R:kS ρ fr.bB ro
theorem fD.mono{ρ c:aQ}(h:bR ρ c){fr:Fr}{ro:Option Nat}{a:Act}(k:fD ρ nt fr ro a):fD c nt fr ro a:=⟨k.E.mono h,k.D.mono h,by
 have:=k.R;revert this;cases fr.bB<;>cases ro<;>simp only[kS]<;>intro q;·trivial
 .exact q
 .exact q
 exact(h _ _ q).1⟩
def uZ(k:List Item):bU->List Item->Prop
 |.none,t=>t=k
 |.exit id,t=>∃a,t=.code (.exit id)::a/\exitTo id a=exitTo id k
 |.ret,t=>∃a,t=.code .ret::a
def lA(f:Value)(args:Array Value):Sem Next:=do
 let d<-Deferred.ofValue f args
 invoke d.target d.args
def nO(fr:Frame):Prop:=
 match fr.todo with
 |.inRegion _ _::_|.inRangeFunc _::_=>True
 |_=>False
theorem C9{fr:Frame}{cs:List Frame}{s:Sem Next}{w a:World}{v:Value}(h:s.run P w=.ok (.value v) a):(stepG.apply P true fr cs none s w).bare=.go {frame:=fr.finish v,callers:=cs,status:=.running,dying:=none} a:=by simp[stepG.apply,h]
theorem C'{fr:Frame}{cs:List Frame}{s:Sem Next}{w a:World}(h:s.run P w=.ok .skip a):(stepG.apply P true fr cs none s w).bare=.go {frame:=fr.finish undef,callers:=cs,status:=.running,dying:=none} a:=by simp[stepG.apply,h]
theorem G9{fr:Frame}(a:nO fr){cs:List Frame}{s:Sem Next}{w c:World}{f:FuncId}{args:Array Value}(h:s.run P w=.ok (.enter f args) c):(stepG.apply P true fr cs none s w).bare=.go {frame:=Frame.enter P f args .normal,callers:=fr::cs,status:=.running,dying:=none} c:=by obtain⟨fn,tmps,d,defers,mode,kind,e⟩:=fr;unfold nO at a;simp only at a;split at a<;>first|(exact False.elim a)|simp[stepG.apply,h]
theorem OW{fr:Frame}(a:nO fr){cs:List Frame}{s:Sem Next}{w c:World}{l:Nat}{f:FuncId}{tmps:Array Value}{assign body:Code}(h:s.run P w=.ok (.round l f tmps assign body) c):(stepG.apply P true fr cs none s w).bare=.go {frame:=Frame.round l f tmps assign body .normal,callers:=fr::cs,status:=.running,dying:=none} c:=by obtain⟨fn,tmps,d,defers,mode,kind,e⟩:=fr;unfold nO at a;simp only at a;split at a<;>first|(exact False.elim a)|simp[stepG.apply,h]
theorem Hc:∀(l:List AV)(p:Nat)(t:am AV)(i:Nat),(iL l (af.cq p) t).get .agx (af.cq i)=if p<=i/\i<p+l.length then l.getD (i - p) .agx else t.get .agx (af.cq i)
 |[],p,t,i=>by rw[iL,ap (by simp only[List.length_nil];omega)]
 |v::l,p,t,i=>by
  rw[iL,show(af.cq p).succ=af.cq (p+1)from rfl,Hc l (p+1),am.aJ];simp only[aeJ];by_cases h1:p+1<=i/\i<p+1+l.length;·rw[aH h1,aH ab,show i - p=(i - (p+1))+1 by omega];simp
  rw[ap h1];by_cases h2:i=p;·subst h2;rw[aH rfl,aH ab];simp
  rw[ap (λe=>h2 (af.br e)),ap ab]
theorem Da:∀p:af,(am.aF:am AV).get .agx p=.agx|.xH=>rfl|.xO p=>by show(am.aF:am AV).get .agx p=.agx;exact Da p|.xI p=>by show(am.aF:am AV).get .agx p=.agx;exact Da p
theorem Db{l:List AV}{args:Array Value}(h:aR ρ l args.toList)(e:l.length<=nt):fW ρ nt (iL l .xH .aF) (args++agk (nt - args.size) undef):=by
 have hl:l.length=args.size:=by have:=aR.length h;simpa using this
 refine⟨by simp;omega,λt f=>?_⟩;have:=Hc l 0 .aF t;rw[show af.cq 0=.xH from rfl]at this;rw[this,Da];by_cases h1:t<l.length
 .rw[aH ab];obtain⟨c,a,d⟩:=aR.get h t l[t] (by simp[h1]);have h2:t<args.size:=ab;have:(args++agk (nt - args.size) undef).getD t undef=c:=by rw[afi]at a;rw[ae6,Array.getElem?_append_left h2,a];rfl
  rw[this];simpa[agt,h1]using d
 rw[ap ab];have:(args++agk (nt - args.size) undef).getD t undef=undef:=by rw[ae6,Array.getElem?_append_right ab,Array.getElem?_replicate];split<;>rfl
 rw[this];exact VR.agx ρ
theorem Hd:∀{ps:List Tmp}{d:List AV}{cs:List Value}{aa:am AV}{tmps:Array Value},fW ρ nt aa tmps->aR ρ d cs->d.length=ps.length->fW ρ nt (kq (ps.map af.cq) d aa) ((ps.zip cs).foldl (λtmps(p:Tmp×Value)=>tmps.setIfInBounds p.1 p.2) tmps)|[],[],[],aa,tmps,h,_,_=>by simpa[kq]using h|p::ps,v::d,c::cs,aa,tmps,h,a,hl=>by simp only[aR]at a;simp only[aez,kq,List.zip_cons_cons,List.foldl_cons];exact Hd (h.set a.1) a.2 (by simpa using hl)|[],_::_,_,_,_,_,_,hl=>by simp at hl|_::_,[],_,_,_,_,_,hl=>by simp at hl|_,[],_::_,_,_,_,a,_=>by simp[aR]at a|_,_::_,[],_,_,_,a,_=>by simp[aR]at a
theorem zU:∀{l:List af}{k:List Deferred}{H H':ai}{w:World},bh P b ρ H w->ia ρ l k->gV H l=some H'->∀(fr:Frame)(cs:List Frame),fr.mode=.returning->∃w',Steps P (lone {fr with defers:=k} cs w) (lone {fr with defers:=[]} cs w')/\bh P b ρ H' w'/\cW b w w'
 |[],[],H,H',w,m,_,h,fr,cs,_=>by simp only[gV,aas]at h;subst h;exact⟨w,Steps.refl _ _,m,cW.refl b w⟩
 |i::l,d::k,H,H',w,m,a,h,fr,cs,o=>by
  simp only[ia]at a;obtain⟨⟨r,p,rfl⟩,a⟩:=a;simp only[gV]at h;split at h
  .rename_i hi;have g:H.get i≠.none:=by rw[hi];simp
   obtain⟨z,A,q,n,y,j,c⟩:=m.be g;rw[p]at n;injection n with n;injection n with s t;subst s;subst t;rw[hi]at c;cases q<;>simp only[OR]at c;rename_i cs';obtain⟨_,e⟩:=c;have e:=e trivial;subst e;have hu:=m.nI (i:=i) (o':=.deferred true) (ob':=.deferred none) g (by rw[hi];rfl) p rfl (by simp only[OR];exact⟨trivial,λh=>by cases h⟩) (by simp[ef]) (w':={w with heap:=w.heap.setIfInBounds r (.deferred none)}) rfl rfl rfl rfl;rw[hi]at hu;obtain⟨w',u,v,x⟩:=zU hu.1 a h fr cs o;have f:(Instr.takeDeferred r).run P w=.ok [] {w with heap:=w.heap.setIfInBounds r (.deferred none)}:=by simp only[Instr.takeDeferred,Sem.run_bind,uX j (λ_ _ _=>by simp),Result.andThen_ok,uV w j (λ_ _ _=>by simp),Sem.run_pure]
   refine⟨w',.head (step_lone_go (fr':={fr with defers:=k}) (cs':=cs) (w':={w with heap:=w.heap.setIfInBounds r (.deferred none)}) ?_) u,v,hu.2.trans x⟩;simp[stepG,o,unwind,Sem.runT_eq,f]
  cases h
 |[],_::_,_,_,_,_,a,_,_,_,_=>by simp[ia]at a
 |_::_,[],_,_,_,_,a,_,_,_,_=>by simp[ia]at a
def zV(tmps:Array Value):ResultVar->Sem Value
 |.tmp t=>pure (tmps.getD t undef)
 |.cell a t=>do loadVar t (<-asAddr (tmps.getD a undef))
theorem OX(fn:Func)(tmps:Array Value):results fn tmps=(do let a<-fn.results.mapM (zV tmps)pure (if h:a.size=1 then a[0]else .tuple a)):=rfl
theorem Dc(j:bh P b ρ H w){aa:am AV}{tmps:Array Value}(i:fW ρ nt aa tmps):∀{k:List ResultVar}{d:List fM}{l:List AV},k.mapM (uN P nt)=some d->ee aa H d=some l->∃e:List Value,aR ρ l e/\(k.mapM (zV tmps)).run P w=.ok e w
 |[],d,l,h1,h2=>by simp only[List.mapM_nil,aet,aas]at h1;subst h1;simp only[ee,aas]at h2;subst h2;exact⟨[],by simp[aR],aC⟩
 |r::k,d,l,h1,h2=>by
  simp only[agd,aep,aaw,aet,aas]at h1;obtain⟨ar,a,x,f,rfl⟩:=h1;cases r with
  |tmp t=>
   simp only[uN]at a;split at a
   .rename_i m;injection a with a;subst a;simp only[ee,aes]at h2;obtain⟨A,p,rfl⟩:=h2;obtain⟨e,n,o⟩:=Dc j i f p;refine⟨tmps.getD t undef::e,?_,?_⟩;·simp only[aR];exact⟨i.2 t m,n⟩
    simp only[agd,zV,Sem.run_bind,Sem.run_pure,Result.andThen_ok,o]
   cases a
  |cell ad t=>
   simp only[uN]at a;split at a
   .rename_i g s hg hs;split at a
    .rename_i m;injection a with a;subst a;simp only[ee]at h2;split at h2
     .rename_i v B y q;injection h2 with h2;subst h2;obtain⟨C,hb,c,z,u⟩:=Gw j (i.2 ad m) hg (λh=>by rw[h];exact hs) (λh=>by rw[h];rfl) y;obtain⟨e,n,o⟩:=Dc j i f q;refine⟨c::e,?_,?_⟩;·simp only[aR];exact⟨u,n⟩
      simp only[agd,zV,hb,asAddr,Sem.run_bind,Sem.run_pure,Result.andThen_ok,z,o]
     cases h2
    cases a
   cases a
theorem Dd(f:bh P b ρ H w){aa:am AV}{tmps:Array Value}{fn:Func}(g:fW ρ fn.ntmps aa tmps){d:List fM}{l:List AV}(h1:fn.results.toList.mapM (uN P fn.ntmps)=some d)(h2:ee aa H d=some l):∃c,(results fn tmps).run P w=.ok c w/\VR ρ (fG l) c:=by obtain⟨e,a,h⟩:=Dc f g h1 h2;have hl:=aR.length a;rw[OX,Array.mapM_eq_mapM_toList];simp only[Sem.run_bind,Sem.run_map,h,Result.andThen_ok,Sem.run_pure];match l,e,a,hl with|[],[],_,_=>exact⟨.tuple #[],aC,by simp[fG,VR,aR]⟩|[v],[c],a,_=>exact⟨c,aC,by simp only[aR]at a;exact a.1⟩|v::i::l,c::c2::e,a,_=>refine⟨.tuple (c::c2::e).toArray,aC,?_⟩;simp only[fG,VR];exact a
end
section
variable{P:Program}
abbrev cA:Nat->(Nat->Prop)->Prop:=λn k=>∀i,i<n->k i
def u6(P:Program)(e:bS)(f:aQ)(w:World)(s:Sem Next)(fr:Frame)(cs:List Frame)(K:KT):Prop:=
 ∃v b c w' fr1 a d,K v b/\b9 P e f w v b c w'/\
  (stepG.apply P true fr cs none s w).bare=.go {frame:=fr1,callers:=a,status:=.running,dying:=none} d/\Steps P (lone fr1 a d) (lone (fr.finish c) cs w')
def sS(P:Program)(f:FuncId)(g:List AV->ai->Option (AV×ai)):Prop:=
 ∀{c:bS}{a:aQ}{H d:ai}{w:World}{args:List AV}{v:AV}{argv:Array Value},g args H=some (v,d)->aR a args argv.toList->bh P c a H w->∀(fr:Frame)(cs:List Frame),nO fr->
  u6 P c a w (callFunc f argv) fr cs λe b=>e=v/\b=d
def oW(P:Program)(ac:Nat->aX)(n:Nat):Prop:=
 ∀{b:bS}{a:aQ}{H:ai}{w:World}{c:AV}{args:List AV}{K:KT}{fv:Value}{argv:Array Value},dT False cA ac n c args H K->VR a c fv->aR a args argv.toList->bh P b a H w->
  ∀(fr:Frame)(cs:List Frame),nO fr->u6 P b a w (lA fv argv) fr cs K
def gO(P:Program)(d:bS)(g:aQ)(h:Nat)(w:World)(b:Frame)(k:List Item)(cs:List Frame)(m:Machine)(K:bU->Fr->ai->Prop):Prop:=
 ∃j c e a f w' t,K j c e/\bR g a/\fD a h c b.roundOf f/\bh P d a e w'/\cW d w w'/\uZ k j t/\Steps P m (lone (b.atR f t) cs w')
def zW(P:Program)(t:Nat)(g:am AV->ai->Option (am AV×ai)):Prop:=
 ∀{f:bS}{e:aQ}{H h:ai}{w:World}{d:Nat}{fr:Fr}{c1 c2:Code}{x y:bg}{c:am AV}{b:Frame}{a:Act},dA P d c1=some x->dA P d c2=some y->Ov.code t=.seq x y->g fr.aa H=some (c,h)->fD e d fr b.roundOf a->bh P f e H w->
  ∀(k:List Item)(cs:List Frame),gO P f e d w b k cs (lone (b.atR a (.code (.seq c1 c2)::k)) cs w) λj fr1 H1=>j=.none/\fr1={fr with aa:=c}/\H1=h
structure gC(P:Program)(ac:Nat->aX):Prop where
 code:∀f nt rs body,ac f=.code nt rs body->∃fn,P.funcs[f]?=some fn/\oS P fn=some (.code nt rs body)/\(fn.name== "runtime.NumGoroutine")=false
 fV:∀f g,ac f=.fV g->sS P f g
 eF:∀t g,ac t=.eF g->zW P t g
def u9(P:Program)(ac:Nat->aX)(n:Nat):Prop:=
 ∀{f:bS}{d:aQ}{H:ai}{w:World}{e:Nat}{fr:Fr}{c:bg}{cc:Code}{K:bU->Fr->ai->Prop}{b:Frame}{a:Act},dA P e cc=some c->exec False cA ac n c fr H K->fD d e fr b.roundOf a->bh P f d H w->
  ∀(k:List Item)(cs:List Frame),gO P f d e w b k cs (lone (b.atR a (.code cc::k)) cs w) K
def pY(P:Program)(a:Nat)(aq:Array Oper):List Nat->List bu->Prop
 |[],[]=>True
 |i::is,x::l=>(∃o,aq[i]?=some o/\nG P a aq o=some x)/\pY P a aq is l
 |_,_=>False
def zX(P:Program)(ac:Nat->aX)(n:Nat):Prop:=
 ∀{e:bS}{c:aQ}{H:ai}{w:World}{d:Nat}{fr:Fr}{l:List bu}{is:List Nat}{aq:Array Oper}{K:Fr->ai->Prop}{b:Frame}{a:Act},pY P d aq is l->Go.ak.aq False cA ac n l fr H K->fD c d fr b.roundOf a->bh P e c H w->
  ∀(k:List Item)(cs:List Frame),gO P e c d w b k cs (lone (b.atR a (.inRegion aq is::k)) cs w) λj fr H=>(match j with|.none=>True|_=>False)/\K fr H
theorem gO.fI{d:bS}{e:aQ}{f:Nat}{w:World}{b:Frame}{k:List Item}{cs:List Frame}{m g:Machine}{K:bU->Fr->ai->Prop}(h:Steps P m g)(i:gO P d e f w b k cs g K):gO P d e f w b k cs m K:=by obtain⟨j,a,l,c,n,o,t,h1,h2,h3,p,q,r,s⟩:=i;exact⟨j,a,l,c,n,o,t,h1,h2,h3,p,q,r,h.trans s⟩
theorem gO.pZ{c:bS}{f a:aQ}{g:Nat}{w h:World}{b:Frame}{k:List Item}{cs:List Frame}{m:Machine}{K:bU->Fr->ai->Prop}(he:bR f a)(i:cW c w h)(l:gO P c a g h b k cs m K):gO P c f g w b k cs m K:=by obtain⟨j,d,n,e,o,p,t,h1,h2,h3,q,r,s,u⟩:=l;exact⟨j,d,n,e,o,p,t,h1,he.trans h2,h3,q,i.trans r,s,u⟩
theorem gO.mono{d:bS}{e:aQ}{nt:Nat}{w:World}{b:Frame}{k:List Item}{cs:List Frame}{m:Machine}{K f:bU->Fr->ai->Prop}(g:gO P d e nt w b k cs m K)(h:∀j fr H,K j fr H->f j fr H):gO P d e nt w b k cs m f:=by obtain⟨j,a,i,c,l,n,t,h1,h2⟩:=g;exact⟨j,a,i,c,l,n,t,h _ _ _ h1,h2⟩
theorem fD.put{b:aQ}{e:Nat}{fr:Fr}{f:Option Nat}{a:Act}(h:fD b e fr f a){v:AV}{c:Value}(g:VR b v c)(d:Option Tmp):fD b e {fr with aa:=aO fr.aa (d.map af.cq) v} f (a.put d c):=by cases d with|none=>exact⟨h.E,h.D,h.R⟩|some d=>exact⟨h.E.set g,h.D,h.R⟩
theorem vc{e:Nat}{aq:Array Oper}{o:Oper}{x:bu}(h:nG P e aq o=some x):x.dst=o.dst.map af.cq/\x.gu=[]/\x.re=[]/\x.op=(if((bG P e o).getD .lq).uL&&!uK o.op then .lq else(bG P e o).getD .lq)/\((o.guard=none/\x.guard=none)\/∃j a g d,o.guard=some (j,a)/\aq[j]?=some g/\g.dst=some d/\d<e/\x.guard=some (af.cq d,a)):=by
 unfold nG at h;simp only at h;split at h
 .rename_i d g hd hg;injection h with h;subst h;refine⟨?_,rfl,rfl,rfl,?_⟩
  .unfold Gm at hd;split at hd
   .rename_i k c;split at hd;·simp only[aas]at hd;rw[<-hd,c];rfl
    cases hd
   rename_i c;simp only[aas]at hd;rw[<-hd,c];rfl
  unfold Gn at hg;split at hg;·rename_i c;simp only[aas]at hg;exact .inl ⟨c,hg.symm⟩
  rename_i j a c;split at hg
  .rename_i k b;rw[aaw]at b;obtain⟨l,f,b⟩:=b;split at hg;·rename_i i;simp only[aas]at hg;exact .inr ⟨j,a,l,k,c,f,b,i,hg.symm⟩
   cases hg
  cases hg
 cases h
theorem De{aa:am AV}{g:Option (af×Bool)}(h:dc aa g=true):iM aa g=true:=by
 cases g with
 |none=>rfl
 |some g=>
  obtain⟨p,b⟩:=g;simp only[dc]at h;simp only[iM];split at h;·rename_i he;rw[he];rfl
  cases h
theorem He{k:aQ}{f:Nat}{fr:Fr}{ro:Option Nat}{a:Act}(h:fD k f fr ro a){aq:Array Oper}{o:Oper}{x:bu}(l:nG P f aq o=some x)(b:iM fr.aa x.guard=true):Region.wanted o (yielded aq a.tmps)=dc fr.aa x.guard:=by
 obtain⟨_,_,_,_,hg⟩:=vc l;rcases hg with⟨h1,h2⟩|⟨j,e,g,d,h1,h2,h3,i,m⟩;·rw[h2];simp[Region.wanted,h1,dc]
 rw[m]at b⊢;simp only[iM]at b;have c:=h.E.2 d i;have hs:d<a.tmps.size:=by rw[h.E.1];exact i
 have n:a.tmps[d]?=some (a.tmps.getD d undef):=by rw[ae6,getElem?_pos a.tmps d hs];rfl
 simp only[Region.wanted,h1,yielded,h2,h3,afY,n,dc];cases he:fr.aa.get .agx (af.cq d)with|bool q=>rw[he]at c;rw[c.nK];cases q<;>cases e<;>rfl|ct=>rw[he]at b;simp[AV.bq]at b|_=>rw[he]at c;cases p:a.tmps.getD d undef<;>rw[p]at c<;>first|rfl|(simp[VR]at c;done)
end
section
variable{P:Program}
theorem gO.zY{d:bS}{c:aQ}{H:ai}{w:World}{e:Nat}{fr:Fr}{K:bU->Fr->ai->Prop}{b:Frame}{a:Act}(f:fD c e fr b.roundOf a)(g:bh P d c H w)(h:K .none fr H)(k:List Item)(cs:List Frame):gO P d c e w b k cs (lone (b.atR a k) cs w) K:=⟨.none,fr,H,c,a,w,k,h,bR.refl c,f,g,cW.refl d w,rfl,Steps.refl _ _⟩
theorem Hf{b:Nat}{o:Oper}{f:aK}{args:List aK}(a:uK o.op=true)(e:bG P b o=some (.call f args)):∃c g,o.op=.call c/\c.callee=.value g/\eB P b g=some f/\qV P b c.args=some args:=by
 unfold uK at a;split at a
 .rename_i c h;split at a;·rename_i g hg;simp only[bG,h,hg,aep,aaw,aet,aas]at e;obtain⟨k,h1,d,h2,h3⟩:=e;injection h3 with i j;subst i;subst j;exact⟨c,g,h,hg,h1,h2⟩
  cases a
 cases a
theorem xB{a:Nat}{o:Oper}{x:bC}(b:bG P a o=some x):∀c,o.op≠.defer c:=by intro c e;simp[bG,e]at b
theorem OY{ac:Nat->aX}{n:Nat}(O:oW P ac n)(X:zX P ac n):zX P ac (n+1):=by
 intro V S H w B fr l is aq K b a T he C D k cs;cases l with
 |nil=>cases is with|cons i is=>simp[pY]at T|nil=>simp only[Go.ak.aq]at he;exact .fI (.one stepR_region_end) (.zY C D ⟨trivial,he⟩ k cs)
 |cons x l=>
  cases is with
  |nil=>simp[pY]at T
  |cons i is=>
   simp only[pY]at T;obtain⟨⟨o,A,hx⟩,T⟩:=T;obtain⟨xd,xh,xr,Z,_⟩:=vc hx;have hg:=He C hx;have after:∀{s:aQ}{z:ai}{w':World}{v:AV}{c:Value},bR S s->VR s v c->bh P V s z w'->cW V w w'->Steps P (lone (b.atR a (.inRegion aq (i::is)::k)) cs w) (lone (b.atR (a.put o.dst c) (.inRegion aq is::k)) cs w')->Go.ak.aq False cA ac n l {fr with aa:=aO fr.aa x.dst v} z K->gO P V S B w b k cs (lone (b.atR a (.inRegion aq (i::is)::k)) cs w) λj fr H=>(match j with|.none=>True|_=>False)/\K fr H:=by intro s z w' v c h F t G hs M;have W:=(C.mono h).put F o.dst;rw[<-xd]at W;exact .pZ h G (.fI hs (X T M W t k cs))
   have u:∀c,(b.atR a (.inRegion aq (i::is)::k)).finish c=b.atR (a.put o.dst c) (.inRegion aq is::k):=by intro c;rw[Frame.finish_atR,A];rfl
   simp only[Go.ak.aq,xh,xr,cS,cB,dl,bc]at he;cases N:dc fr.aa x.guard with
   |false=>
    rw[N]at he hg;simp only[abu,bA]at he;split at he;case isFalse=>exact he.elim
    rename_i ag;have hg:=hg ag;have cz:=stepR_op_skip (P:=P) (b:=b) (a:=a) (k:=k) (cs:=cs) (w:=w) (ops:=aq) (i:=i) (rest:=is) (by simp[A,hg]);rw[A]at cz;exact after (bR.refl S) (VR.agx S) D (cW.refl V w) (.one cz) he
   |true=>
    have hg:=hg (De N);rw[N]at he hg;simp only[bc]at he;have e:=stepGR_op (P:=P) (b:=b) (a:=a) (k:=k) (cs:=cs) (w:=w) (rest:=is) A hg;have plain:∀{v:AV}{z:ai},aE x.op fr.aa H=some (v,z)->Go.ak.aq False cA ac n l {fr with aa:=aO fr.aa x.dst v} z K->gO P V S B w b k cs (lone (b.atR a (.inRegion aq (i::is)::k)) cs w) λj fr H=>(match j with|.none=>True|_=>False)/\K fr H:=by
     intro v z p M;have r:bG P B o=some x.op:=by
      rw[Z]at p;rw[Z];split at p;·simp[aE]at p
      rename_i I;rw[ap I];cases J:bG P B o with|none=>rw[J]at p;simp[aE]at p|some q=>rfl
     rw[Oper.semAt_eq _ _ _ (xB r)]at e;obtain⟨c,w',y,s,h,F,t,G⟩:=uY (cO.mk C.E D) r p;refine after h F t G (.one (step_lone_go ?_)) M;rw[e,<-u];rcases y with L|⟨L,rfl⟩;·exact C9 L
     exact C' L
    split at he
    .rename_i f args d;have m:bG P B o=some (.call f args)/\uK o.op=true:=by
      rw[Z]at d;split at d;·cases d
      rename_i I;rw[d]at I;simp only[bC.uL,agj,afj,Bool.not_eq_false]at I;refine⟨?_,I⟩;cases J:bG P B o with|none=>rw[J]at d;cases d|some q=>rw[J]at d;simp only[afc]at d;rw[d]
     obtain⟨c,g,ho,av,h1,h2⟩:=Hf m.2 m.1;rw[Oper.semAt_eq _ _ _ (xB m.1)]at e;have Y:execOp a.eval o=lA (a.eval g) (c.args.map a.eval):=by simp only[execOp,ho,resolve,av,lA]
     rw[Y]at e;have Q:aR S (args.map (gv fr.aa)) (c.args.map a.eval).toList:=by rw[Array.toList_map];exact uT C.E D h2
     obtain⟨v,z,c',w',ay,a1,w1,G,⟨s,h,F,t,R⟩,hb,hs⟩:=O he (uS h1 C.E D) Q D (b.atR a (.inRegion aq (i::is)::k)) cs (by simp[nO,Frame.atR]);refine after h F t R ?_ G;rw[<-u];exact .head (step_lone_go (by rw[e];exact hb)) hs
    .rename_i it d;have r:bG P B o=some (.jy it):=by
      rw[Z]at d;split at d;·cases d
      cases J:bG P B o with|none=>rw[J]at d;cases d|some q=>rw[J]at d;simp only[afc]at d;rw[d]
     split at he
     .rename_i ax a2 I;obtain⟨j,cd,hj,aw,c,w',y,s,h,F,t,G⟩:=G8 (cO.mk C.E D) r I;have he:=he j hj;simp only[aw]at he;rw[Oper.semAt_eq _ _ _ (xB r)]at e;refine after h F t G (.one (step_lone_go ?_)) he;rw[e,<-u];rcases y with L|⟨L,rfl⟩;·exact C9 L
      exact C' L
     exact he.elim
    split at he;·rename_i v z p;exact plain p he
    exact he.elim
end
section
variable{P:Program}
def Hg(P:Program)(ac:Nat->aX)(n:Nat):Prop:=
 ∀{e:bS}{c:aQ}{H:ai}{w:World}{d:Nat}{fr:Fr}{l:List bu}{id:Nat}{aq:Array Oper}{K:Fr->ai->Prop}{b:Frame}{a:Act},sK P d aq true=some l->Go.ak.aq False cA ac n l fr H K->fD c d fr b.roundOf a->bh P e c H w->
  ∀(k:List Item)(cs:List Frame),gO P e c d w b k cs (lone (b.atR a (.code (.region id aq true)::k)) cs w) λj fr H=>(match j with|.none=>True|_=>False)/\K fr H
theorem uZ.oX{x:Item}(c:∀id k,exitTo id (x::k)=exitTo id k){k:List Item}{j:bU}{t:List Item}(hj:match j with|.none=>False|_=>True)(h:uZ (x::k) j t):uZ k j t:=by cases j with|none=>exact hj.elim|exit id=>obtain⟨d,h1,h2⟩:=h;exact⟨d,h1,h2.trans (c id k)⟩|ret=>exact h
theorem OZ{d:Nat}{aq:Array Oper}{l:List bu}(h:sK P d aq false=some l):pY P d aq (afD aq.size) l:=by
 simp only[sK,aep,aaw,Bool.not_false,bc,aet,aas]at h;obtain⟨e,h,rfl⟩:=h;have key:∀(ch c:List Oper)(l:List bu),aq.toList=ch++c->c.mapM (nG P d aq)=some l->pY P d aq (List.range' ch.length c.length) l:=by
  intro ch c;induction c generalizing ch with
  |nil=>intro l _ h;simp at h;subst h;simp[pY]
  |cons o c i=>
   intro l g h;simp only[agd,aep,aaw,aet,aas]at h;obtain⟨x,j,e,f,rfl⟩:=h;simp only[aeJ,List.range'_succ,pY];refine⟨⟨o,?_,j⟩,?_⟩;·rw[<-afi,g];simp
   have:=i (ch++[o]) e (by rw[g];simp) f;simpa using this
 have:=key [] aq.toList e rfl h;rw[List.range_eq_range'];simpa using this
section
variable{b:Frame}{a:Act}{k:List Item}{cs:List Frame}{w:World}
theorem Hh{c:Code}:step P (lone (b.atR a (.code (.scope c)::k)) cs w)=.next (lone (b.atR a (.code c:: .inScope c::k)) cs w):=step_lone_go (by simp[stepG,stepG.exec,Frame.atR])
theorem Hi{c:Code}:step P (lone (b.atR a (.inScope c::k)) cs w)=.next (lone (b.atR a k) cs w):=step_lone_go (by simp[stepG,stepG.exec,Frame.atR])
end
theorem vf{m:bS}{f:aQ}{H:ai}{w:World}(n:bh P m f H w){l:af}{st:oM}{bP:bU}{fn:Nat}{aa:am AV}{i:List af}{as j:bg}{d:af}(hl:H.get l=.loop st bP fn aa i as j d){b:Nat}{x:Nat}(hb:f l=some (b,x)):∃r,x=0/\w.heap[b]?=some (.loop r)/\mA st r.state/\mB bP r.pending/\f d=some (r.defers,0)/\r.params.toList.map af.cq=i/\∃g,fW f g aa r.tmps/\(∀p∈r.params.toList,p<g)/\dA P g r.assign=some as/\dA P g r.body=some j:=by obtain⟨u,v,o,e,t,h,c⟩:=n.be (i:=l) (by rw[hl];simp);rw[hb]at e;injection e with e;injection e with q s;subst q;subst s;rw[hl]at c;cases o<;>simp only[OR]at c;exact⟨_,c.1,h,c.2⟩
theorem xC{b:Nat}{r:Loop}{w:World}(h:w.heap[b]?=some (.loop r)):(Instr.getLoop b).run P w=.ok r w:=by simp only[Instr.getLoop,Sem.run_bind,uX h (λ_ _ _=>by simp),Result.andThen_ok,Sem.run_pure]
theorem Df{f:bS}{g:aQ}{H:ai}{w:World}(m:bh P f g H w){l:af}{st:oM}{bP:bU}{fn:Nat}{aa:am AV}{h:List af}{as i:bg}{d:af}(hl:H.get l=.loop st bP fn aa h as i d){b:Nat}(hb:g l=some (b,0)){r:Loop}(n:w.heap[b]?=some (.loop r)){st':oM}{pend':bU}{s':LoopState}{p':Option Code}(h1:mA st' s')(h2:mB pend' p')(e:Nat):(setObj b (.loop {r with state:=s',pending:=p'})).run P w=.ok () {w with heap:=w.heap.setIfInBounds b (.loop {r with state:=s',pending:=p'})}/\bh P f g (H.set l (.loop st' pend' e aa h as i d)) {w with heap:=w.heap.setIfInBounds b (.loop {r with state:=s',pending:=p'})}/\cW f w {w with heap:=w.heap.setIfInBounds b (.loop {r with state:=s',pending:=p'})}:=by
 obtain⟨s,_,c,t,u,o,p,q⟩:=vf m hl hb;rw[n]at c;injection c with c;injection c with c;subst c;have j:H.get l≠.none:=by rw[hl];simp
 have hu:=m.nI (i:=l) (o':=.loop st' pend' e aa h as i d) (ob':=.loop {r with state:=s',pending:=p'}) j (by rw[hl];rfl) hb rfl (by simp only[OR];exact⟨trivial,h1,h2,o,p,q⟩) (by simp[ef]) (w':={w with heap:=w.heap.setIfInBounds b (.loop {r with state:=s',pending:=p'})}) rfl rfl rfl rfl;rw[hl]at hu;exact⟨uV w n (λ_ _ _=>by simp) _,hu.1,hu.2⟩
end
section
variable{P:Program}
theorem O9{ac:Nat->aX}{n:Nat}(S:oW P ac n){W:bS}{z:aQ}{H:ai}{w:World}{A:Nat}{fr:Fr}{f:Operand}{of:aK}{q:Array Tmp}{as B:Code}{F G:bg}{K:bU->Fr->ai->Prop}{b:Frame}{a:Act}(hf:eB P A f=some of)(ba:dA P A as=some F)(bb:dA P A B=some G)(bd:∀p∈q.toList,p<A)(he:exec False cA ac (n+1) (.rangeFunc of (q.toList.map af.cq) F G) fr H K)(L:fD z A fr b.roundOf a)(X:bh P W z H w)(cf:List Item)(cs:List Frame):gO P W z A w b cf cs (lone (b.atR a (.code (.rangeFunc f q as B)::cf)) cs w) K:=by
 have J:∀{g:aQ}{H1:ai}{i:World}{fr1:Fr}{mark:List Deferred}{d:af}{bd':Nat},bR z g->cW W w i->bh P W g H1 i->fD g A fr1 b.roundOf {a with defers:=mark++a.defers}->g d=some (bd',0)->fr1.aa=fr.aa->(Instr.enterLoop b.fn a.tmps q as B b.roundOf).run P w=.ok (i.heap.size,mark) {i with heap:=i.heap.push (.loop {state:=.ready,pending:=none,fn:=b.fn,tmps:=a.tmps,params:=q,assign:=as,body:=B,defers:=bd'})}->(dT False cA ac n (gv fr1.aa of) [.yield H1.next] (H1.new (.loop .ready .none 0 fr1.aa (q.toList.map af.cq) F G d)) λ_ H'=>match H'.get H1.next with
  |.loop st bP fn aa q as B d=>match st with|.busy=>False|_=>K bP fr1 (H'.set H1.next (.loop .exhausted bP fn aa q as B d))
  |_=>False)->gO P W z A w b cf cs (lone (b.atR a (.code (.rangeFunc f q as B)::cf)) cs w) K:=by
  intro g H1 i fr1 mark d bd' s bv O Z hd ay a1 b0;have a2:∀j c y,g j=some (c,y)->c=i.heap.size->g.k i.heap.size=(0,0):=λj c y e hc=>by have:=O.dU j c y e;omega
  have t:bR g (g.add H1.next i.heap.size 0 (0,0)):=aQ.pS _ _ _ (O.dD _ (aeq _)).2 a2;obtain⟨M,q2,q3⟩:=O.alloc (o:=.loop .ready .none 0 fr1.aa (q.toList.map af.cq) F G d) (ob:=.loop {state:=.ready,pending:=none,fn:=b.fn,tmps:=a.tmps,params:=q,assign:=as,body:=B,defers:=bd'}) (0,0) (by simp[ef]) aC rfl (by simp only[OR];exact⟨trivial,by simp[mA],by simp[mB],(t _ _ hd).1,by trivial,A,by rw[ay];exact(L.E.mono s).mono t,bd,ba,bb⟩);have b3:VR (g.add H1.next i.heap.size 0 (0,0)) (gv fr1.aa of) (a.eval f):=uS (a:={a with defers:=mark++a.defers}) hf (Z.E.mono M) q2;obtain⟨v,H',c,w',b4,b6,w2,hK,⟨b7,m,hv,ag,T⟩,hb,hs⟩:=S b0 b3 (args:=[.yield H1.next]) (argv:= #[.func (.yield i.heap.size) #[] #[]]) (by simp only[aR,VR];exact⟨⟨aQ.dW ..,by trivial,by trivial⟩,trivial⟩) q2 (b.atR {a with defers:=mark++a.defers} (.inRangeFunc i.heap.size::cf)) cs (by simp[nO,Frame.atR]);rw[finish_atR_inRangeFunc]at hs;split at hK
  .rename_i st bP fn aa av aw ax d' hl;have u:=(m _ _ (aQ.dW g H1.next i.heap.size 0 (0,0))).1;obtain⟨r,_,C,g1,N,_⟩:=vf ag hl u;have b':st≠.busy/\K bP fr1 (H'.set H1.next (.loop .exhausted bP fn aa av aw ax d')):=by cases st<;>first|exact hK.elim|exact⟨aC,hK⟩
   obtain⟨s1,s2,s3⟩:=Df ag hl u C (st':=.exhausted) (s':=.exhausted) (pend':=bP) (p':=r.pending) (by simp[mA]) N fn;have a6:(Instr.endLoop i.heap.size).run P w'=.ok r.pending {w' with heap:=w'.heap.setIfInBounds i.heap.size (.loop {r with state:=.exhausted,pending:=r.pending})}:=by
    have cz:(r.state==.busy)=false:=by cases hs:r.state<;>rw[hs]at g1<;>cases st<;>simp_all[mA]
    simp only[Instr.endLoop,Sem.run_bind,xC C,Result.andThen_ok,cz,abu,bA,Sem.run_pure];have:(setObj i.heap.size (.loop {r with state:=.exhausted})).run P w'=_:=s1;rw[this];rfl
   have I:step P (lone (b.atR a (.code (.rangeFunc f q as B)::cf)) cs w)=.next (lone b4 b6 w2):=by
    refine step_lone_go ?_;rw[<-hb];have Q:=Frame.eval_atR b {a with defers:=mark++a.defers} (.inRangeFunc i.heap.size::cf);simp only[Frame.atR]at Q;have a8:(({a with defers:=mark++a.defers}:Act)).eval=a.eval:=by funext x;cases x<;>rfl
    rw[a8]at Q;have a':(do let d<-resolve a.eval {callee:=.value f,args:= #[.const (.func (.yield i.heap.size) #[] #[])],argTypes:= #[]} 0;invoke d.target d.args)=lA (a.eval f) #[.func (.yield i.heap.size) #[] #[]]:=by simp[lA,resolve,Act.eval]
    simp only[stepG,stepG.exec,Frame.atR,Sem.runT_eq,a1,GStep.bare_after,Q,a']
   have V:uZ cf bP ((r.pending.map Item.code).toList++cf):=by cases hp:r.pending with|none=>rw[hp]at N;cases bP<;>simp_all[mB,uZ]|some cc=>rw[hp]at N;cases bP with|none=>simp[mB]at N|exit id=>cases cc<;>simp only[mB]at N;subst N;exact⟨cf,rfl,rfl⟩|ret=>cases cc<;>simp only[mB]at N;exact⟨cf,rfl⟩
   refine⟨bP,fr1,_,b7,{a with defers:=mark++a.defers},_,_,b'.2,s.trans (M.trans m),(Z.mono M).mono m,s2,bv.trans (q3.trans (T.trans s3)),V,.head I (hs.trans (.one (stepR_endRangeFunc a6)))⟩
  exact hK.elim
 simp only[exec]at he;cases C:b.roundOf with
 |none=>
  have o:fr.bB=none:=by have:=L.R;rw[C]at this;cases h:fr.bB<;>rw[h]at this<;>simp_all[kS]
  rw[o]at he;simp only at he;have s:bR z (z.add H.next w.heap.size 0 (0,0)):=aQ.pS _ _ _ (X.dD _ (aeq _)).2 (λj c y e hc=>by have:=X.dU j c y e;omega);obtain⟨M,q2,q3⟩:=X.alloc (o:=.deferred false) (ob:=.deferred (some [])) (0,0) (by simp[ef]) aC rfl (by simp[OR]);refine J (fr1:=⟨fr.aa,H.next::fr.bz,none⟩) (mark:=[{target:=.collected w.heap.size,args:= #[]}]) (d:=H.next) (bd':=w.heap.size) M q3 q2 ⟨L.E.mono M,?_,?_⟩ (aQ.dW ..) rfl ?_ he;·simp only[afk,afz,ia];refine⟨?_,L.D.mono M⟩;exact⟨w.heap.size,aQ.dW ..,rfl⟩
  .simp only[C,kS]
  simp only[C,Instr.enterLoop,Sem.run_bind,run_newObj,Result.andThen_ok,Sem.run_pure]
 |some l=>
  obtain⟨Y,o⟩:∃Y,fr.bB=some Y:=by have:=L.R;rw[C]at this;cases h:fr.bB with|none=>rw[h]at this;simp[kS]at this|some Y=>exact⟨Y,rfl⟩
  have ca:z Y=some (l,0):=by have:=L.R;rw[C,o]at this;exact this
  rw[o]at he;simp only at he;split at he;·rename_i st bP fn aa av aw ax d' hl;obtain⟨r,_,cd,_,_,g3,_⟩:=vf X hl ca;refine J (mark:=[]) (d:=d') (bd':=r.defers) (bR.refl z) (cW.refl W w) X (by simpa using L) g3 rfl ?_ he;simp[Instr.enterLoop,C,xC cd]
  exact he.elim
theorem Steps.Pa{m d b:Machine}(h:Steps P m b)(hs:step P m=.next d)(c:b≠m):Steps P d b:=by obtain⟨n,a⟩:=h;cases n with|zero=>simp only[runN,Stepped.next.injEq]at a;exact absurd a.symm c|succ n=>simp only[runN,hs]at a;exact⟨n,a⟩
theorem Pb{ac:Nat->aX}(ht:gC P ac){n:Nat}(o:u9 P ac n)(M:zX P ac n)(I:Hg P ac n)(J:oW P ac n):u9 P ac (n+1):=by
 intro Wr O H w nt fr c cc K b a d he A B k cs;induction cc generalizing k c with
 |skip=>simp only[dA,aas]at d;subst d;simp only[exec]at he;exact .fI (.one stepR_skip) (.zY A B he k cs)
 |label l=>simp only[dA,aas]at d;subst d;simp only[exec]at he;exact .fI (.one stepR_label) (.zY A B he k cs)
 |region id aq N=>
  simp only[dA,aes]at d;obtain⟨l,hl,rfl⟩:=d;simp only[exec]at he;cases N with
  |false=>refine .fI (.one stepR_region) ((M (OZ hl) he A B k cs).mono ?_);rintro j fr H⟨h1,h2⟩;cases j<;>first|exact h2|exact h1.elim
  |true=>refine(I hl he A B k cs).mono ?_;rintro j fr H⟨h1,h2⟩;cases j<;>first|exact h2|exact h1.elim
 |seq x y Y Z=>
  simp only[dA]at d;split at d
  .rename_i V ba F Q;injection d with d;split at d
   .rename_i t ag;subst d;simp only[exec]at he;split at he
    .rename_i g hg;split at he;·rename_i a' v av;refine(ht.eF t g hg F Q (Ov.NE _ _ ag).symm av A B k cs).mono ?_;rintro j fr1 H1⟨rfl,rfl,rfl⟩;exact he
     exact he.elim
    exact he.elim
   subst d;simp only[exec]at he;obtain⟨j,q,v,r,C,D,t,h1,h2,h3,s,u,z,G⟩:=o F he A B (.code y::k) cs;refine .fI (.one stepR_seq) (.fI G ?_);cases j with|none=>rw[show t=.code y::k from z];exact .pZ h2 u (o Q h1 h3 s k cs)|exit id=>exact⟨.exit id,q,v,r,C,D,t,h1,h2,h3,s,u,z.oX (λ_ _=>rfl) trivial,Steps.refl _ _⟩|ret=>exact⟨.ret,q,v,r,C,D,t,h1,h2,h3,s,u,z.oX (λ_ _=>rfl) trivial,Steps.refl _ _⟩
  cases d
 |cond c0 x y Y Z=>
  simp only[dA]at d;split at d
  .rename_i oc V ba h0 F Q;injection d with d;subst d;simp only[exec]at he;have R:=uS h0 A.E B;split at he;·rename_i h;rw[h]at R;exact .fI (.one (stepR_cond R.nK)) (o F he A B k cs)
   .rename_i h;rw[h]at R;exact .fI (.one (stepR_cond R.nK)) (o Q he A B k cs)
   exact he.elim
  cases d
 |block id x W=>
  simp only[dA,aes]at d;obtain⟨V,F,rfl⟩:=d;simp only[exec]at he;obtain⟨j,q,v,r,C,D,t,h1,h2,h3,s,u,z,G⟩:=o F he A B (.inBlock id::k) cs;refine .fI (.one stepR_block) (.fI G ?_);cases j with
  |none=>rw[show t=.inBlock id::k from z];exact .fI (.one stepR_inBlock) ⟨.none,q,v,r,C,D,k,h1,h2,h3,s,u,rfl,Steps.refl _ _⟩
  |exit i=>
   obtain⟨S,rfl,L⟩:=z;simp only at h1;split at h1
   .rename_i hi;have hi:=aey hi;subst hi;have:exitTo i S=some k:=by rw[L];simp[exitTo]
    exact .fI (.one (stepR_exit this)) ⟨.none,q,v,r,C,D,k,h1,h2,h3,s,u,rfl,Steps.refl _ _⟩
   rename_i hi;have aw:(id==i)=false:=by have:¬id=i:=λe=>hi (by subst e;exact afM _);simpa using this
   exact⟨.exit i,q,v,r,C,D,_,h1,h2,h3,s,u,⟨S,rfl,by rw[L];simp[exitTo,aw]⟩,Steps.refl _ _⟩
  |ret=>exact⟨.ret,q,v,r,C,D,t,h1,h2,h3,s,u,z,Steps.refl _ _⟩
 |loop x W=>have ax:=d;simp only[dA,aes]at d;obtain⟨V,F,rfl⟩:=d;simp only[exec]at he;obtain⟨j,q,v,r,C,D,t,h1,h2,h3,s,u,z,G⟩:=o F he A B (.inLoop x::k) cs;refine .fI (.one stepR_loop) (.fI G ?_);cases j with|none=>rw[show t=.inLoop x::k from z];obtain⟨j2,ay,H2,a1,bb,w2,X,e1,e2,e3,e4,e5,T,e7⟩:=o ax h1 h3 s k cs;have hs:=Steps.Pa e7 stepR_loop (by intro e;have:X=.code (.loop x)::k:=congrArg (λm:Machine=>(m.gs.getD 0 (default:Goroutine)).frame.todo) e;cases j2 with|none=>have h:=T;rw[show X=k from h]at this;have:=congrArg List.length this;simp at this|exit id=>obtain⟨S,h,_⟩:=T;rw[h]at this;cases this|ret=>obtain⟨S,h⟩:=T;rw[h]at this;cases this);exact⟨j2,ay,H2,a1,bb,w2,X,e1,h2.trans e2,e3,e4,u.trans e5,T,.head stepR_inLoop hs⟩|exit id=>exact⟨.exit id,q,v,r,C,D,t,h1,h2,h3,s,u,z.oX (λ_ _=>rfl) trivial,Steps.refl _ _⟩|ret=>exact⟨.ret,q,v,r,C,D,t,h1,h2,h3,s,u,z.oX (λ_ _=>rfl) trivial,Steps.refl _ _⟩
 |scope x W=>simp only[dA]at d;obtain⟨j,q,v,r,C,D,t,h1,h2,h3,s,u,z,G⟩:=W d he (.inScope x::k);refine .fI (.one Hh) (.fI G ?_);cases j with|none=>rw[show t=.inScope x::k from z];exact .fI (.one Hi) ⟨.none,q,v,r,C,D,k,h1,h2,h3,s,u,rfl,Steps.refl _ _⟩|exit id=>exact⟨.exit id,q,v,r,C,D,t,h1,h2,h3,s,u,z.oX (λ_ _=>rfl) trivial,Steps.refl _ _⟩|ret=>exact⟨.ret,q,v,r,C,D,t,h1,h2,h3,s,u,z.oX (λ_ _=>rfl) trivial,Steps.refl _ _⟩
 |rangeFunc f ps as b3=>
  simp only[dA]at d;split at d
  .rename_i of bd bv h0 a2 a6;split at d;·rename_i a8;injection d with d;subst d;exact O9 J h0 a2 a6 (λp hp=>by have:=afv.1 a8 p hp;simpa using this) he A B k cs
   cases d
  cases d
 |exit id=>simp only[dA,aas]at d;subst d;simp only[exec]at he;exact⟨.exit id,fr,H,O,a,w,_,he,bR.refl O,A,B,cW.refl Wr w,⟨k,rfl,rfl⟩,Steps.refl _ _⟩
 |ret=>simp only[dA,aas]at d;subst d;simp only[exec]at he;exact⟨.ret,fr,H,O,a,w,_,he,bR.refl O,A,B,cW.refl Wr w,⟨k,rfl⟩,Steps.refl _ _⟩
 |goto l=>simp[dA]at d
 |refuse b0=>simp[dA]at d
end
section
variable{P:Program}
theorem Pc{ac:Nat->aX}(ht:gC P ac){n:Nat}(k:u9 P ac n):oW P ac (n+1):=by
 intro Wr Z H w fa args K fv e he hf ha hI fr cs hat;simp only[dT]at he;split at he
 .rename_i f first i;obtain⟨x,y,hx,hy,rfl⟩:=hf.zI;have eG:aR Z (first++args++i) ((x++e++y).toList):=by simp only[Array.toList_append];exact aR.append (aR.append hx ha) hy
  have q:lA (.func (.func f) x y) e=callFunc f (x++e++y):=by simp[lA,Deferred.ofValue,invoke]
  rw[q];split at he;·exact he.elim
  .exact he.elim
  .rename_i g hg;split at he;·rename_i v H' b0;obtain⟨v',dm,c,w',ag,b3,W,⟨rfl,rfl⟩,hp,hb,hs⟩:=ht.fV f g hg b0 eG hI fr cs hat;exact⟨_,_,c,w',ag,b3,W,he,hp,hb,hs⟩
   exact he.elim
  rename_i nt rs body hg;obtain⟨fn,O,av,S⟩:=ht.code f nt rs body hg;split at he;case isFalse=>exact he.elim
  rename_i Q;have Q:=aeG Q;simp only[oS,aep,aaw,aet,aas,aX.code.injEq]at av;obtain⟨cc,aw,cy,T,b4,b6,B,X,e3⟩:=av;subst B;subst X;subst e3;have s:(callFunc f (x++e++y)).run P w=.ok (.enter f (x++e++y)) w:=by simp only[callFunc,Sem.run_bind,run_program,Result.andThen_ok,O,S,aw,Option.isNone_some,abu,bA,Sem.run_pure]
  let b:Frame:={(default:Frame)with fn:=f,kind:=.normal};let a:Act:={tmps:=(x++e++y)++agk (fn.ntmps - (x++e++y).size) undef,defers:=[]};have C:Frame.enter P f (x++e++y) .normal=b.atR a [.code cc]:=by simp only[Frame.enter,Frame.atR,O,aw,b,a,aeT,afc,afY];rfl
  have hF:fD Z fn.ntmps ⟨iL (first++args++i) .xH .aF,[],none⟩ b.roundOf a:=⟨Db eG Q,trivial,trivial⟩;obtain⟨j,ax,H',b7,bv,w',t,h1,h2,h3,h4,h5,h6,h7⟩:=k T he hF hI [] (fr::cs);have a':∃N:Frame,N={b.atR bv N.todo with mode:=.returning}/\step P (lone (b.atR bv t) (fr::cs) w')=.next (lone N (fr::cs) w'):=by cases j with|none=>rw[show t=[]from h6];exact⟨_,rfl,stepR_end rfl⟩|exit id=>exact h1.elim|ret=>obtain⟨k0,rfl⟩:=h6;exact⟨_,rfl,stepR_ret rfl⟩
  obtain⟨N,m,cz⟩:=a';have o:(match gV H' ax.bz with
   |some H=>match ee ax.aa H b4 with|some l=>K (fG l) H|none=>False
   |none=>False):=by cases j with|none=>exact h1|exit id=>exact h1.elim|ret=>exact h1
  split at o
  .rename_i H2 hm;split at o
   .rename_i l hl;have ba:N={N with defers:=bv.defers}:=by rw[m];rfl
    obtain⟨L,s1,s2,s3⟩:=zU h4 h3.D hm N (fr::cs) (by rw[m]);rw[<-ba]at s1;obtain⟨c,hc,hv⟩:=Dd s2 h3.E b6 hl;refine⟨fG l,H2,c,L,_,_,_,o,⟨b7,h2,hv,s2,h5.trans s3⟩,G9 hat s,?_⟩;rw[C];refine h7.trans (.head cz (s1.trans (.one ?_)));refine step_leave_returned ⟨by rw[m],rfl,by rw[m];rfl,fn,by rw[m];exact O,?_⟩;rw[m];exact hc
   exact o.elim
  exact o.elim
 .rename_i l;obtain⟨bl,R,rfl⟩:=hf.zJ;have q:lA (.func (.yield bl) #[] #[]) e=Instr.yield bl e:=by simp[lA,Deferred.ofValue,invoke]
  rw[q];split at he
  .rename_i st bP dr aa ps as d1 d hl;obtain⟨r,_,hr,g1,g2,g3,g4,nt,g5,g6,g7,g8⟩:=vf hI hl R;split at he
   .split at he;case isFalse=>exact he.elim
    rename_i u;have b':e.size=r.params.size:=by have B:=aR.length ha;rw[<-g4]at u;simp at B u;omega
    have s:(Instr.yield bl e).run P w=.ok (.round bl r.fn ((r.params.zip e).foldl (λtmps(t,a)=>tmps.setIfInBounds t a) r.tmps) r.assign r.body) w:=by simp only[Instr.yield,Sem.run_bind,xC hr,Result.andThen_ok,b',ne_eq,not_true_eq_false,bA,Sem.run_pure]
    let b:Frame:={(default:Frame)with fn:=r.fn,kind:=.normal,roundOf:=some bl};let a:Act:={tmps:=(r.params.zip e).foldl (λtmps(t,a)=>tmps.setIfInBounds t a) r.tmps,defers:=[]};have F:Frame.round bl r.fn a.tmps r.assign r.body .normal=b.atR a [.code r.assign,.beginRound,.code r.body]:=rfl;have hE:fW Z nt (kq ps args aa) a.tmps:=by
     have:=Hd (ps:=r.params.toList) g5 ha (by rw[u,<-g4,aeR]);rw[g4]at this;have X:a.tmps=(r.params.toList.zip e.toList).foldl (λtmps(p:Tmp×Value)=>tmps.setIfInBounds p.1 p.2) r.tmps:=by show(r.params.zip e).foldl _ _=_;rw[<-Array.foldl_toList,Array.toList_zip]
     rw[X];exact this
    have hF:fD Z nt ⟨kq ps args aa,[],some l⟩ b.roundOf a:=⟨hE,trivial,R⟩;obtain⟨j,ag,H1,ds,d3,W,t,h1,h2,h3,h4,h5,h6,h7⟩:=k g7 he hF hI [.beginRound,.code r.body] (fr::cs);split at h1
    .rename_i V ca c' dv lX dx d4 ay;rw[show t=[.beginRound,.code r.body]from h6]at h7;have z:=(h2 _ _ R).1;obtain⟨Y,_,a1,q1,q2,q3,q4,dy,q5,q6,q7,q8⟩:=vf h4 ay z;obtain⟨s1,s2,s3⟩:=Df h4 ay z a1 (st':=.busy) (s':=.busy) (pend':=V) (p':=Y.pending) (by simp[mA]) q2 ca;have G:Y.state=.ready:=by cases hs:Y.state<;>rw[hs]at q1<;>simp_all[mA]
     have I:(Instr.beginRound bl).run P W=.ok () {W with heap:=W.heap.setIfInBounds bl (.loop {Y with state:=.busy,pending:=Y.pending})}:=by simp only[Instr.beginRound,Sem.run_bind,xC a1,Result.andThen_ok];have:(setObj bl (.loop {Y with state:=.busy})).run P W=_:=s1;rw[this];simp only[Result.andThen_ok,G,Sem.run_pure]
     obtain⟨j2,dz,H2,cd,c9,L,t2,B,X,e3,e4,e5,e6,e7⟩:=k g8 h1 h3 s2 [] (fr::cs);have J:Steps P (lone (Frame.round bl r.fn a.tmps r.assign r.body .normal) (fr::cs) w) (lone (b.atR c9 t2) (fr::cs) L):=by rw[F];exact h7.trans (.head (stepR_beginRound rfl I) e7)
     split at B
     .rename_i d0 cR a2 bb cf cn cp d2 a6;have M:=(X _ _ z).1;obtain⟨r2,_,a8,z1,z2,z3,z4,z5⟩:=vf e4 a6 M;have aA:∀(j:bU)(A:Option Code)(st':oM)(s':LoopState),mA st' s'->mB j A->s'=(if A.isNone then .ready else .done)->K (.bool A.isNone) (H2.set l (.loop st' j a2 bb cf cn cp d2))->(∀{v:Value}{w':World},(Instr.endRound bl A).run P L=.ok v w'->step P (lone (b.atR c9 t2) (fr::cs) L)=.next (lone (fr.finish v) cs w'))->u6 P Wr Z w (Instr.yield bl e) fr cs K:=by
       intro j A st' s' y1 y2 y3 y4 y5;obtain⟨u1,u2,u3⟩:=Df e4 a6 M a8 (st':=st') (s':=s') (pend':=j) (p':=A) y1 y2 a2;have bd:(Instr.endRound bl A).run P L=.ok (.bool A.isNone) {L with heap:=L.heap.setIfInBounds bl (.loop {r2 with state:=s',pending:=A})}:=by simp only[Instr.endRound,Sem.run_bind,xC a8,Result.andThen_ok,<-y3,u1,Sem.run_pure]
       exact⟨_,_,.bool A.isNone,_,_,_,_,y4,⟨cd,h2.trans X,by simp[VR],u2,h5.trans (s3.trans (e5.trans u3))⟩,OW hat s,J.trans (.one (y5 bd))⟩
      cases j2 with|none=>have cv:t2=[]:=e6;subst cv;exact aA .none none .ready .ready (by simp[mA]) (by simp[mB]) rfl B (λh=>stepR_round_end rfl rfl h)|exit id=>obtain⟨k0,rfl,cx⟩:=e6;exact aA (.exit id) (some (.exit id)) .done .done (by simp[mA]) (by simp[mB]) rfl B (λh=>stepR_round_exit rfl rfl cx h)|ret=>obtain⟨k0,rfl⟩:=e6;exact aA .ret (some .ret) .done .done (by simp[mA]) (by simp[mB]) rfl B (λh=>stepR_round_ret rfl rfl h)
     exact B.elim
    exact h1.elim
   exact he.elim
  exact he.elim
 exact he.elim
end
section
variable{P:Program}{aa env':am AV}{H H1 H':ai}{v:AV}
theorem ip:∀{x:aK},(∀p∈x.bV,aa.get .agx p=env'.get .agx p)->gv aa x=gv env' x|.t p,h=>h p (by simp[aK.bV])|.c _,_=>rfl
theorem xD:∀{l:List aK},(∀p∈l.flatMap aK.bV,aa.get .agx p=env'.get .agx p)->l.map (gv aa)=l.map (gv env')|[],_=>rfl|x::l,h=>by simp only[afp,aeu]at h;simp only[aez,ip (x:=x) λp a=>h p (.inl a),xD (l:=l) λp a=>h p (.inr a)]
theorem rh{x:Option aK}(h:∀p∈uJ x,aa.get .agx p=env'.get .agx p)(d y:Nat):gM aa x d y=gM env' x d y:=by cases x with|none=>rfl|some x=>simp only[gM,ip (x:=x) h]
theorem Dg:∀{a:List (Nat×Nat×aK)},(∀p∈a.flatMap (λp=>p.2.2.bV),aa.get .agx p=env'.get .agx p)->∀l,kp aa l a=kp env' l a
 |[],_,_=>rfl
 |(off,size,x)::a,h,l=>by
  simp only[afp,aeu]at h;simp only[kp,ip (x:=x) λp b=>h p (.inl b)];split
  .split;·exact Dg (λp b=>h p (.inr b)) _
   rfl
  rfl
theorem Dh{op:bC}(h:∀p∈op.bV,aa.get .agx p=env'.get .agx p)(H:ai):aE op aa H=aE op env' H:=by
 cases op<;>simp only[bC.bV,aeu]at h;case build j o=>simp only[aE,Dg h]
 case buildSlice e n j o=>simp only[aE,Dg h]
 case mu f a b=>simp only[aE,xD (l:=a) λp g=>h p (.inl g),xD (l:=b) λp g=>h p (.inr g)]
 case nk b l=>simp only[aE,xD h]
 case fill m i=>
  have:(i.map λp=>(⟨p.1,gv aa p.2,0⟩:aV))=i.map λp=>⟨p.1,gv env' p.2,0⟩:=afK λp g=>by rw[ip (x:=p.2) λq r=>h q (.inr (afO.2 ⟨p,g,r⟩))]
  simp only[aE,ip (x:=m) λp g=>h p (.inl g),this]
 case call f l=>rfl
 case uo n s x a b c=>simp only[aE,ip (x:=x) λp g=>h p (.inl g),rh (x:=a) λp g=>h p (.inr (.inl g)),rh (x:=b) λp g=>h p (.inr (.inr (.inl g))),rh (x:=c) λp g=>h p (.inr (.inr (.inr g)))]
 case gp e s x a b c=>simp only[aE,ip (x:=x) λp g=>h p (.inl g),rh (x:=a) λp g=>h p (.inr (.inl g)),rh (x:=b) λp g=>h p (.inr (.inr (.inl g))),rh (x:=c) λp g=>h p (.inr (.inr (.inr g)))]
 case sB x a b=>simp only[aE,ip (x:=x) λp g=>h p (.inl g),rh (x:=a) λp g=>h p (.inr (.inl g)),rh (x:=b) λp g=>h p (.inr (.inr g))]
 case pick c a b=>simp only[aE,ip (x:=c) λp g=>h p (.inl g),ip (x:=a) λp g=>h p (.inr (.inl g)),ip (x:=b) λp g=>h p (.inr (.inr g))]
 case iV d m k v=>simp only[aE,ip (x:=m) λp g=>h p (.inl g),ip (x:=k) λp g=>h p (.inr (.inl g)),ip (x:=v) λp g=>h p (.inr (.inr g))]
 case entryStore m k v=>simp only[aE,ip (x:=m) λp g=>h p (.inl g),ip (x:=k) λp g=>h p (.inr (.inl g)),ip (x:=v) λp g=>h p (.inr (.inr g))]
 all_goals first|rfl|(simp only[aE,ip h];done)|(rename_i x y;simp only[aE,ip (x:=x) λp g=>h p (.inl g),ip (x:=y) λp g=>h p (.inr g)];done)
theorem Pd{op:bC}(h:op.plain=true)(he:aE op aa H=some (v,H1)):H1=H/\∀H',aE op aa H'=some (v,H'):=by
 cases op<;>(try(simp[bC.plain]at h;done));case gp e s x lo hi i=>
  cases lo with
  |some q=>simp[bC.plain]at h
  |none=>
   simp only[aE,Option.isNone_none,Bool.or_true,Bool.true_or,bc]at he⊢;split at he;·simp only[aep,aaw,aas,acn]at he;obtain⟨m,f,g,c,l,d,rfl,rfl⟩:=he;exact⟨rfl,λH'=>by simp[f,c,d]⟩
   .simp only[aep,aaw,aas,acn]at he;obtain⟨m,f,g,c,l,d,rfl,rfl⟩:=he;exact⟨rfl,λH'=>by simp[f,c,d]⟩
   cases he
 case sB x a b=>
  simp only[aE]at he⊢;split at he;·simp only[aep,aaw,aas,acn]at he;obtain⟨g,c,l,d,rfl,rfl⟩:=he;exact⟨rfl,λH'=>by simp[c,d]⟩
  cases he
 case mw x a=>
  simp only[aE]at he⊢;split at he;·rw[aes]at he;obtain⟨q,h1,h2⟩:=he;rw[acn]at h2;obtain⟨rfl,rfl⟩:=h2;exact⟨rfl,λH'=>by rw[h1];rfl⟩
  cases he
 all_goals simp only[aE]at he⊢;first|(simp only[aas,acn]at he;obtain⟨rfl,rfl⟩:=he;exact⟨rfl,λ_=>rfl⟩)|(simp only[aes,acn]at he;obtain⟨a,h1,rfl,rfl⟩:=he;exact⟨rfl,λ_=>by simp[h1]⟩)|(split at he<;>first|(cases he;done)|(simp only[aas,acn]at he;obtain⟨rfl,rfl⟩:=he;exact⟨rfl,λ_=>rfl⟩)|(simp only[aes,acn]at he;obtain⟨a,h1,rfl,rfl⟩:=he;exact⟨rfl,λ_=>by simp[h1]⟩)|(simp only[aep,aaw,aas,acn]at he;obtain⟨m,f,g,c,l,d,rfl,rfl⟩:=he;exact⟨rfl,λH'=>by simp[f,c,d]⟩)|(simp only[aep,aaw,aas,acn]at he;obtain⟨g,c,l,d,rfl,rfl⟩:=he;exact⟨rfl,λH'=>by simp[c,d]⟩)|(split at he<;>first|(cases he;done)|(simp only[aas,acn]at he;obtain⟨rfl,rfl⟩:=he;exact⟨rfl,λ_=>by simp[*]⟩)|(simp only[aes,acn]at he;obtain⟨a,h1,rfl,rfl⟩:=he;exact⟨rfl,λ_=>by simp[*]⟩)|(split at he<;>first|(cases he;done)|(simp only[aas,acn]at he;obtain⟨rfl,rfl⟩:=he;exact⟨rfl,λ_=>by simp[*]⟩))))
def bC.target(aa:am AV):bC->Option af
 |.bk a|.fL _ a|.sD a|.nf a=>fj (gv aa a)
 |.lookup _ _ _ m _=>fj (gv aa m)
 |.gp _ _ x _ _ b=>match gv aa x with
  |.slice id _ _ _ false=>if b.isSome then none else some id
  |_=>none
 |_=>none
theorem Hj{id:af}{off n:Nat}{l:List AV}(h:du H id off n=some l):H.get id≠.none/\∀H',H'.get id=H.get id->du H' id off n=some l:=by
 unfold du at h⊢;split at h;·rename_i hi;exact⟨by rw[hi];simp,λH' e=>by rw[e,hi];exact h⟩
 cases h
theorem Hk{a:AV}{n:Nat}{g:Bool}(h:gz H a n g=some v):∃id off,a=.aD id off/\H.get id≠.none/\∀H',H'.get id=H.get id->gz H' a n g=some v:=by
 unfold gz at h⊢;split at h
 .rename_i id off;split at h;·rename_i l hl;obtain⟨h1,h2⟩:=Hj hl;exact⟨id,off,rfl,h1,λH' e=>by rw[h2 H' e];exact h⟩
  cases h
 cases h
theorem Hl{op:bC}(u:op.gX=true)(he:aE op aa H=some (v,H1)):H1=H/\(∀j,op.target aa=some j->H.get j≠.none)/\∀H',(∀j,op.target aa=some j->H'.get j=H.get j)->aE op aa H'=some (v,H'):=by
 cases op<;>(try(simp[bC.gX]at u;done));case bk a=>
  simp only[aE,aes,acn]at he⊢;obtain⟨q,h1,rfl,rfl⟩:=he;obtain⟨id,off,f,h2,h3⟩:=Hk h1;refine⟨rfl,λj hj=>?_,λH' hj=>⟨q,h3 H' (hj id ?_),by trivial,by trivial⟩⟩;·simp only[bC.target,f,fj,aas]at hj;subst hj;exact h2
  simp only[bC.target,f,fj]
 case fL n a=>
  simp only[aE,aes,acn]at he⊢;obtain⟨q,h1,rfl,rfl⟩:=he;obtain⟨id,off,f,h2,h3⟩:=Hk h1;refine⟨rfl,λj hj=>?_,λH' hj=>⟨q,h3 H' (hj id ?_),by trivial,by trivial⟩⟩;·simp only[bC.target,f,fj,aas]at hj;subst hj;exact h2
  simp only[bC.target,f,fj]
 case sD x=>
  simp only[aE]at he⊢;split at he;·rename_i b;simp only[aas,acn]at he;obtain⟨rfl,rfl⟩:=he;refine⟨rfl,λj hj=>?_,λH' hj=>by simp[b]⟩;simp[bC.target,b,fj]at hj
  .rename_i id b;split at he
   .rename_i hi;simp only[aas,acn]at he;obtain⟨rfl,rfl⟩:=he;refine⟨rfl,λj hj=>?_,λH' hj=>?_⟩;·simp only[bC.target,b,fj,aas]at hj;subst hj;rw[hi];simp
    have:=hj id (by simp only[bC.target,b,fj]);simp[b,this,hi]
   .rename_i hi;simp only[aas,acn]at he;obtain⟨rfl,rfl⟩:=he;refine⟨rfl,λj hj=>?_,λH' hj=>?_⟩;·simp only[bC.target,b,fj,aas]at hj;subst hj;rw[hi];simp
    have:=hj id (by simp only[bC.target,b,fj]);simp[b,this,hi]
   cases he
  cases he
 case nf x=>
  simp only[aE]at he⊢;split at he;·rename_i b;simp only[aas,acn]at he;obtain⟨rfl,rfl⟩:=he;refine⟨rfl,λj hj=>?_,λH' hj=>by simp[b]⟩;simp[bC.target,b,fj]at hj
  .rename_i id off len c e b;split at he
   .rename_i l hl;simp only[aes,acn]at he;obtain⟨q,h1,rfl,rfl⟩:=he;obtain⟨h2,h3⟩:=Hj hl;refine⟨rfl,λj hj=>?_,λH' hj=>?_⟩;·simp only[bC.target,b,fj,aas]at hj;subst hj;exact h2
    have:=h3 H' (hj id (by simp only[bC.target,b,fj]));simp[b,this,h1]
   cases he
  cases he
 case lookup d z ok m k=>
  simp only[aE]at he⊢;split at he;·cases he
  rename_i g;split at he;·rename_i b;simp only[aas,acn]at he;obtain⟨rfl,rfl⟩:=he;refine⟨rfl,λj hj=>?_,λH' hj=>by simp[b,g]⟩;simp[bC.target,b,fj]at hj
  .rename_i id b;have w:bC.target aa (.lookup d z ok m k)=some id:=by simp only[bC.target,b,fj]
   split at he;all_goals(try(cases he;done))
   all_goals
    rename_i hi;refine⟨?_,λj hj=>?_,λH' hj=>?_⟩;·split at he<;>first|(cases he;done)|(simp only[aas,acn]at he;exact he.2.symm)
    .rw[w]at hj;injection hj with hj;subst hj;rw[hi];simp
    have:=hj id w;simp only[b,g,this,hi,abu,bA];split at he<;>first|(cases he;done)|(simp only[aas,acn]at he;rename_i A;simp only[A,he.1])
  cases he
 case gp e s x lo hi y=>
  simp only[aE]at he⊢;split at he;·rename_i b;simp only[aep,aaw,aas,acn]at he;obtain⟨m,o,B,p,l,r,rfl,rfl⟩:=he;refine⟨rfl,λj hj=>?_,λH' hj=>by simp[b,o,p,r]⟩;simp[bC.target,b]at hj
  .rename_i id off len cap ex b;simp only[aep,aaw]at he;obtain⟨m,o,B,p,l,r,he⟩:=he;split at he
   .rename_i h;simp only[aas,acn]at he;obtain⟨rfl,rfl⟩:=he;refine⟨rfl,λj hj=>?_,λH' hj=>?_⟩
    .cases lo with
     |none=>simp[bC.gX]at u
     |some lo=>
      simp only[bC.target,b]at hj;cases ex with
      |true=>simp at hj
      |false=>
       simp only at hj;split at hj;·cases hj
       rename_i i;injection hj with hj;subst hj;simp only[Bool.false_or,Option.isNone_some,Bool.or_false,afm,i,false_or]at h;intro h0;simp[oN,h0]at h
    have t:(ex||y.isSome||lo.isNone||oN H' id e)=true:=by cases ex with|true=>simp|false=>cases i:y.isSome with|true=>simp|false=>rw[i]at h;have:=hj id (by simp[bC.target,b,i]);simpa[oN,this]using h
    simp only[b,o,p,r,aep,afY,t,bc]
   cases he
  cases he
inductive jF where
 |aD
 |slice(len cap:Nat)(exact:Bool)
 |map
def jF.of(n:jF)(i:af):AV:=
 match n with
 |.aD=>.aD i 0
 |.slice l c e=>.slice i 0 l c e
 |.map=>.map i
theorem jF.name(n:jF)(i:af):fj (n.of i)=some i:=by cases n<;>rfl
def bO.j7:bO->Prop
 |.cells _ _ _ rw aM _=>rw=true/\aM=[]
 |.map es _=>es=[]
 |.jN _ _ _=>True
 |_=>False
theorem Pe{op:bC}(d:op.jC=true)(he:aE op aa H=some (v,H1)):∃(n:jF)(cJ:bO),v=n.of H.next/\H1=H.new cJ/\cJ.j7/\∀H',aE op aa H'=some (n.of H'.next,H'.new cJ):=by
 cases op<;>(try(simp[bC.jC]at d;done));case alloc e a=>simp only[aE,aas,acn]at he⊢;obtain⟨rfl,rfl⟩:=he;exact⟨.aD,_,rfl,rfl,⟨rfl,rfl⟩,λ_=>⟨rfl,rfl⟩⟩
 case je=>simp only[aE,aas,acn]at he⊢;obtain⟨rfl,rfl⟩:=he;exact⟨.map,_,rfl,rfl,rfl,λ_=>⟨rfl,rfl⟩⟩
 case box e x=>
  simp only[aE]at he⊢;split at he;·rename_i h1;simp only[aas,acn]at he;obtain⟨rfl,rfl⟩:=he;exact⟨.aD,_,rfl,rfl,⟨rfl,rfl⟩,λ_=>by simp only[h1,bc];rfl⟩
  cases he
 case buildSlice e n a f=>
  simp only[aE]at he⊢;split at he
  .rename_i l hl;split at he;·rename_i h1;simp only[aas,acn]at he;obtain⟨rfl,rfl⟩:=he;exact⟨.slice n n true,_,rfl,rfl,⟨rfl,rfl⟩,λ_=>by simp only[h1,bc];rfl⟩
   cases he
  cases he
 case sy e x=>
  simp only[aE]at he⊢;split at he;·rename_i s hs;simp only[aas,acn]at he;obtain⟨rfl,rfl⟩:=he;exact⟨.slice s.length s.length false,_,rfl,rfl,⟨rfl,rfl⟩,λ_=>rfl⟩
  cases he
 case ng e b s a x y=>
  simp only[aE]at he⊢;split at he
  .rename_i l c hl g;split at he;·rename_i h1;simp only[aas,acn]at he;obtain⟨rfl,rfl⟩:=he;exact⟨.slice l c true,_,rfl,rfl,⟨rfl,rfl⟩,λ_=>by simp only[h1,bc];rfl⟩
   cases he
  cases he
 case oK x=>
  simp only[aE]at he⊢;split at he;·rename_i s hs;simp only[aas,acn]at he;obtain⟨rfl,rfl⟩:=he;exact⟨.aD,_,rfl,rfl,trivial,λ_=>rfl⟩
  cases he
theorem Di{a b:AV}(h:fC a b=true):a=b:=by
 have h1:∀{a b:AV},de a b=true->a=b:=by intro a b h;cases a<;>cases b<;>simp only[de,abu]at h<;>first|rfl|(simp only[beq_iff_eq]at h;rw[h])|(simp only[aew,Nat.beq_eq,eU,beq_iff_eq]at h;obtain⟨rfl,rfl⟩:=h;rfl)|(simp only[qX,beq_iff_eq]at h;rw[h])|(simp only[aew,Nat.beq_eq,af.fo]at h;obtain⟨rfl,rfl⟩:=h;rfl)|(simp only[af.fo]at h;rw[h])|(simp only[aew,Nat.beq_eq,af.fo,beq_iff_eq]at h;obtain⟨⟨⟨⟨rfl,rfl⟩,rfl⟩,rfl⟩,rfl⟩:=h;rfl)
 have h2:∀{l m:List AV},jO l m=true->l=m:=by intro l;induction l with|nil=>intro m h;cases m<;>simp[jO]at h;rfl|cons a l c=>intro m h;cases m with|nil=>simp[jO]at h|cons b m=>simp only[jO,aew]at h;rw[h1 h.1,c h.2]
 unfold fC at h;split at h;·rw[h2 h]
 .rw[h2 h]
 .simp only[aew,Nat.beq_eq]at h;obtain⟨⟨rfl,h3⟩,d⟩:=h;rw[h2 h3,h2 d]
 exact h1 h
end
section
variable{P:Program}{a:bS}{ρ:aQ}{H:ai}{w:World}
theorem Dj{H b:ai}(hg:∀j,b.get j=H.get j\/b.get j=.none)(i j:af)(hi:i∈(b.get j).aM):i∈(H.get j).aM:=by
 rcases hg j with e|e;·rw[e]at hi;exact hi
 rw[e]at hi;cases hi
theorem bh.sub(h:bh P a ρ H w){H2:ai}(d:H2.next=H.next)(hg:∀j,H2.get j=H.get j\/H2.get j=.none):bh P a ρ H2 w:=by
 have c:∀j,H2.get j≠.none->H2.get j=H.get j:=λj hj=>(hg j).resolve_right hj;have g:=Dj hg;constructor;·intro i hi;have e:=c i hi;rw[e]at hi⊢;exact h.cJ i hi
 .intro i j b x y f hi hj;have e:=c i hi;have k:=c j hj;rw[e]at hi⊢;rw[k]at hj⊢;exact h.iY i j b x y f hi hj
 .intro i j hi;obtain⟨h1,h2⟩:=h.aM i j (g i j hi);rw[d];exact⟨h1,λhj=>by have e:=c i hj;rw[e]at hj⊢;exact h2 hj⟩
 .intro i b x hi;have e:=c i hi;rw[e]at hi⊢;exact h.wr i b x hi
 .intro i hi;rw[d]at hi;obtain⟨h1,h2⟩:=h.dD i hi;exact⟨by rcases hg i with e|e<;>rw[e];exact h1,h2⟩
 .exact h.new
 .exact h.jP
 .intro i b x l hi;have e:=c i hi;rw[e]at hi⊢;exact h.im i b x l hi
 .exact h.dU
 .intro i b x hi;have e:=c i hi;rw[e]at hi;exact h.rd i b x hi
 .intro i hi;obtain⟨h1,h2,h3⟩:=h.un i hi;exact⟨by rcases hg i with e|e<;>rw[e];exact h1,by rw[d];exact h2,λj hj=>h3 j (g i j hj)⟩
 exact h.di
def bS.iN(a:bS)(ρ:aQ)(hl:af->Prop)(dd:af->Prop):bS where
 w b:=a.w b/\∀i x,hl i->ρ i≠some (b,x)
 r b:=a.r b/\∀i x,hl i->ρ i≠some (b,x)
 un i:=a.un i\/hl i\/dd i
 di i:=a.di i\/dd i
theorem sU{o:bO}(h:o.j7):o.jE=false/\o.aM=[]/\o≠.none:=by cases o<;>simp[bO.j7]at h<;>simp[bO.jE,bO.aM];exact h
def bO.vi(o:bO):Prop:=o.jE=false/\o.aM=[]/\o≠.none
theorem bh.iN(h:bh P a ρ H w){hl dd:af->Prop}(q:∀i,hl i->(H.get i).vi)(hd:∀i,dd i->H.get i=.none/\ρ i=none/\i.az<H.next.az/\∀j,i∉(H.get j).aM){H2:ai}(l:H2.next=H.next)(hg:∀j,H2.get j=H.get j\/H2.get j=.none)(r:∀i,hl i->H2.get i=.none):bh P (a.iN ρ hl dd) ρ H2 w:=by
 have hs:=h.sub l hg;have n:∀j,H2.get j≠.none->H2.get j=H.get j:=λj hj=>(hg j).resolve_right hj;have s:=Dj hg;have kV:∀j b x,H2.get j≠.none->ρ j=some (b,x)->∀i y,hl i->ρ i≠some (b,y):=by
  intro j b x hj u i y hi v;obtain⟨m,t,f⟩:=(q i hi);have o:i≠j:=λe=>hj (e▸r i hi);have p:H.get j≠.none:=by rw[<-n j hj];exact hj
  rcases h.iY i j b y x o f p v u with⟨g,_⟩|⟨g,_⟩;·have:=(h.aM i j g).2 f;rw[m]at this;cases this
  rw[t]at g;cases g
 constructor;·exact hs.cJ
 .exact hs.iY
 .exact hs.aM
 .intro i b x hi z e;exact⟨hs.wr i b x hi z e,λk y d=>kV i b x hi e k y d⟩
 .exact hs.dD
 .intro k d;have c:∀i x,hl i->ρ i≠some (k,x):=λi x _ e=>by have:=h.dU i k x e;omega
  exact⟨⟨(h.new k d).1,c⟩,⟨(h.new k d).2,c⟩⟩
 .exact hs.jP
 .exact hs.im
 .exact hs.dU
 .intro i b x hi e;exact⟨hs.rd i b x hi e,λk y d=>kV i b x hi e k y d⟩
 .intro i hi;rcases hi with hi|hi|hi;·exact hs.un i hi
  .obtain⟨m,t,f⟩:=(q i hi);refine⟨r i hi,by rw[l];exact h.zD f,λj hj=>?_⟩;have:=(h.aM i j (s i j hj)).2 f;rw[m]at this;cases this
  obtain⟨h0,h1,h2,h3⟩:=hd i hi;exact⟨by rcases hg i with e|e<;>rw[e];exact h0,by rw[l];exact h2,λj hj=>h3 j (s i j hj)⟩
 intro i hi;rcases hi with hi|hi;·exact⟨.inl (hs.di i hi).1,(hs.di i hi).2⟩
 exact⟨.inr (.inr hi),(hd i hi).2.1⟩
theorem bh.zZ(h:bh P a ρ H w){hl dd:af->Prop}(F:∀i,hl i->(H.get i).vi){n:aQ}{D:ai}{A:World}(o:bR ρ n)(g:bh P (a.iN ρ hl dd) n D A)(s:cW (a.iN ρ hl dd) w A){H2:ai}(G:H2.next=D.next)(h1:∀i,hl i->H2.get i=H.get i)(h2:∀i,¬hl i->H2.get i=D.get i):bh P a n H2 A/\cW a w A:=by
 have d:∀i,hl i->∃b x q,ρ i=some (b,x)/\n i=some (b,x)/\n.k b=ρ.k b/\w.heap[b]?=some q/\A.heap[b]?=some q/\OR P ρ (H.get i) x q:=by intro i hi;obtain⟨b,x,q,e,K,hb,Q⟩:=h.be (F i hi).2.2;exact⟨b,x,q,e,(o _ _ e).1,(o _ _ e).2,hb,by rw[s.block b K λI=>I.2 i x hi e];exact hb,Q⟩
 have r:∀i j,i∈(H2.get j).aM->¬hl i/\¬hl j/\i∈(D.get j).aM:=by
  intro i j hj;by_cases f:hl j;·rw[h1 j f,((F j f)).2.1]at hj;cases hj
  rw[h2 j f]at hj;exact⟨λhi=>(g.un i (.inr (.inl hi))).2.2 j hj,f,hj⟩
 refine⟨⟨?_,?_,?_,?_,?_,?_,?_,?_,?_,?_,?_,?_⟩,⟨s.os,s.tape,s.output,s.size,λW h1 I=>s.block W h1 λL=>I L.1⟩⟩
 .intro i hi;by_cases c:hl i;·obtain⟨b,x,q,_,t,_,_,R,S⟩:=d i c;rw[h1 i c];exact⟨b,x,q,t,R,OR.mono o S⟩
  rw[h2 i c]at hi⊢;exact g.cJ i hi
 .intro i j b x y C hi hj z p;by_cases c:hl i
  .obtain⟨b1,J,_,l,m,_⟩:=d i c;rw[m]at z;injection z with z;injection z with M N;subst M;subst N;by_cases f:hl j;·obtain⟨b2,T,_,c1,c2,_⟩:=d j f;rw[c2]at p;injection p with p;injection p with u v;subst u;subst v;rw[h1 i c]at hi⊢;rw[h1 j f]at hj⊢;exact h.iY i j _ _ _ C hi hj l c1
   rw[h2 j f]at hj;exact absurd l ((g.rd j _ y hj p).2 i _ c)
  by_cases f:hl j;·obtain⟨b2,T,_,c1,c2,_⟩:=d j f;rw[c2]at p;injection p with p;injection p with u v;subst u;subst v;rw[h2 i c]at hi;exact absurd c1 ((g.rd i _ x hi z).2 j _ f)
  rw[h2 i c]at hi⊢;rw[h2 j f]at hj⊢;exact g.iY i j b x y C hi hj z p
 .intro i j hj;obtain⟨l,m,a3⟩:=r i j hj;obtain⟨b1,b2⟩:=g.aM i j a3;rw[G];exact⟨b1,λhi=>by rw[h2 i l]at hi⊢;exact b2 hi⟩
 .intro i b x hi E e;by_cases c:hl i;·obtain⟨b1,J,_,l,m,_⟩:=d i c;rw[m]at e;injection e with e;injection e with B t;subst B;subst t;rw[h1 i c]at hi E;exact h.wr i _ _ hi E l
  rw[h2 i c]at hi E;exact(g.wr i b x hi E e).1
 .intro i hi;rw[G]at hi;obtain⟨l,m⟩:=g.dD i hi;have c:¬hl i:=λc=>by obtain⟨_,_,_,_,e,_⟩:=d i c;rw[m]at e;cases e
  exact⟨by rw[h2 i c];exact l,m⟩
 .intro W O;exact h.new W (af2 s.size O)
 .exact g.jP
 .intro i b x q hi e hb;by_cases c:hl i;·obtain⟨b1,J,V,l,m,a3,a4,a5,_⟩:=d i c;rw[m]at e;injection e with e;injection e with B t;subst B;subst t;rw[a5]at hb;injection hb with hb;subst hb;rw[h1 i c]at hi⊢;rw[a3];exact h.im i _ _ _ hi l a4
  rw[h2 i c]at hi⊢;exact g.im i b x q hi e hb
 .exact g.dU
 .intro i b x hi e;by_cases c:hl i;·obtain⟨b1,J,_,l,m,_⟩:=d i c;rw[m]at e;injection e with e;injection e with B t;subst B;subst t;rw[h1 i c]at hi;exact h.rd i _ _ hi l
  rw[h2 i c]at hi;exact(g.rd i b x hi e).1
 .intro i hi;obtain⟨l,m,a3⟩:=g.un i (.inl hi);have c:¬hl i:=λc=>((F i c)).2.2 (h.un i hi).1;exact⟨by rw[h2 i c];exact l,by rw[G];exact m,λj hj=>a3 j (r i j hj).2.2⟩
 intro i hi;exact⟨(h.di i hi).1,(g.di i (.inl hi)).2⟩
mutual
theorem VR.nP{j r m:aQ}(h:∀i x y,j i=some x->r i=some y->m i=some x/\m.k x.1=j.k x.1):∀(v:AV)(c d:Value),VR j v c->VR r v d->VR m v c
 |.tuple l,.tuple cs,.tuple z,L,q=>by simp only[VR]at L q⊢;exact aR.nP h l cs.toList z.toList L q
 |.agg l,.agg cs,.agg z,L,q=>by simp only[VR]at L q⊢;exact aR.nP h l cs.toList z.toList L q
 |.bool _,.bool _,_,L,_=>by simpa only[VR]using L
 |.int _ _,.int _ _,_,L,_=>by simpa only[VR]using L
 |.str _,.string _,_,L,_=>by simpa only[VR]using L
 |.aD i o,.pointer (some M),.pointer (some C),L,q=>by
  simp only[VR]at L q⊢;obtain⟨b,x,e,rfl⟩:=L;obtain⟨A,D,s,_⟩:=q;exact⟨b,x,(h _ _ _ e s).1,rfl⟩
 |.j5,.pointer none,_,_,_=>by simp only[VR]
 |.slice i o len cap ex,.slice (some M) n c,.slice (some C) I p,L,q=>by
  simp only[VR]at L q⊢;obtain⟨h1,h2,h3,E,b,x,e,F,G⟩:=L;obtain⟨_,_,_,_,A,D,s,_⟩:=q
  exact⟨h1,h2,h3,E,b,x,(h _ _ _ e s).1,F,by rw[show m.k b=j.k b from(h _ _ _ e s).2];exact G⟩
 |.aG,.slice none 0 0,_,_,_=>by simp only[VR]
 |.map i,.map (some b),.map (some A),L,q=>by simp only[VR]at L q⊢;exact(h _ _ _ L q).1
 |.d9,.map none,_,_,_=>by simp only[VR]
 |.func f M b,.func (.func g) c d,.func (.func J) p B,L,q=>by
  simp only[VR]at L q⊢;exact⟨L.1,aR.nP h M c.toList p.toList L.2.1 q.2.1,aR.nP h b d.toList B.toList L.2.2 q.2.2⟩
 |.yield i,.func (.yield b) c d,.func (.yield A) p B,L,q=>by simp only[VR]at L q⊢;exact⟨(h _ _ _ L.1 q.1).1,L.2⟩
 |.nilFunc,.nilFunc,_,_,_=>by simp only[VR]
 |.iface t v,.iface u c,.iface K p,L,q=>by simp only[VR]at L q⊢;exact⟨L.1,VR.nP h v c p L.2 q.2⟩
 |.nilIface,.nilIface,_,_,_=>by simp only[VR]
 |.ct,_,_,_,_=>by simp only[VR]
theorem aR.nP{b f e:aQ}(h:∀i x y,b i=some x->f i=some y->e i=some x/\e.k x.1=b.k x.1):∀(l:List AV)(m n:List Value),aR b l m->aR f l n->aR e l m
 |[],[],_,_,_=>by simp only[aR]
 |v::l,c::m,d::n,g,q=>by simp only[aR]at g q⊢;exact⟨VR.nP h v c d g.1 q.1,aR.nP h l m n g.2 q.2⟩
end
theorem OR.nP{d g f:aQ}(h:∀i x y,d i=some x->g i=some y->f i=some x/\f.k x.1=d.k x.1){o:bO}(m:o.j7){t u:Nat}{b j:Obj}(I:OR P d o t b)(q:OR P g o u j):OR P f o t b:=by
 cases o with
 |cells c n e rw aM fz=>cases b<;>simp only[OR]at I⊢;cases j<;>simp only[OR]at q;obtain⟨v,A,B,C⟩:=I;obtain⟨_,_,D,_⟩:=q;refine⟨v,A,λi hi=>?_,C⟩;obtain⟨y,E,F⟩:=B i hi;obtain⟨z,_,G⟩:=D i hi;exact⟨y,E,VR.nP h _ _ _ F G⟩
 |map es c=>simp only[bO.j7]at m;subst m;cases b<;>simp only[OR]at I⊢;refine⟨I.1,I.2.1,I.2.2.1,?_⟩;have:=I.2.2.2;generalize(Array.toList _)=l at this⊢;cases l with|nil=>simp[bf]|cons J l=>simp[bf]at this
 |jN s r p=>cases b<;>simp only[OR]at I⊢;exact I
 |_=>simp[bO.j7]at m
end
section
variable{P:Program}{b:bS}{ρ:aQ}{H:ai}{w:World}{nt:Nat}{aa:am AV}{a:Act}{o:Oper}{op:bC}
theorem nQ(n:af):∀p:af,ai.get ⟨.aF,n⟩ p=.none:=by
 have:∀p:af,(am.aF:am bO).get .none p=.none:=by intro p;induction p with|xH=>rfl|xO p c=>exact c|xI p c=>exact c
 exact this
theorem bh.empty(h:bh P b ρ H w){n:af}(d:H.next.az<=n.az):bh P ⟨λf=>w.heap.size<=f,λf=>w.heap.size<=f,λj=>ρ j=none/\j.az<n.az,λj=>ρ j=none/\j.az<n.az⟩ ρ ⟨.aF,n⟩ w:=by
 constructor;·intro i hi;exact absurd (nQ n i) hi
 .intro i j f x y _ hi;exact absurd (nQ n i) hi
 .intro i j hj;rw[nQ]at hj;cases hj
 .intro i f x hi;exact absurd (nQ n i) hi
 .intro i hi;exact⟨nQ n i,(h.dD i (af2 d hi)).2⟩
 .intro k c;exact⟨c,c⟩
 .exact h.jP
 .intro i f x e hi;exact absurd (nQ n i) hi
 .exact h.dU
 .intro i f x hi;exact absurd (nQ n i) hi
 .intro i hi;exact⟨nQ n i,hi.2,λj hj=>by rw[nQ]at hj;cases hj⟩
 intro i hi;exact⟨hi,hi.1⟩
theorem Pf(h:bh P b ρ H w)(hE:fW ρ nt aa a.tmps)(S:bG P nt o=some op){n:jF}{cJ:bO}(hy:cJ.j7)(he:∀X:ai,aE op aa X=some (n.of X.next,X.new cJ)){i:af}(h1:ρ i=none)(h2:i.az<H.next.az)(h3:¬b.un i)(h4:∀j,i∉(H.get j).aM):bo P b ρ w (execOp a.eval o) (n.of i) (H.set i cJ):=by
 obtain⟨f1,f2,T⟩:=sU hy;obtain⟨c,w',Q,u,Y,E,I,F⟩:=uY (cO.mk hE (h.empty (n:=H.next) (aeq _))) S (he _);obtain⟨c2,w2,_,ag,xb,_,Ib,_⟩:=uY (cO.mk hE (h.empty (n:=H.next.succ) (by rw[af.fH];omega))) S (he _);have ga:(ai.new ⟨.aF,H.next⟩ cJ).get H.next=cJ:=by rw[ai.cZ,aH rfl]
 have gb:(ai.new ⟨.aF,H.next.succ⟩ cJ).get H.next.succ=cJ:=by rw[ai.cZ,aH rfl]
 obtain⟨r,C,L,J,Z,e3⟩:=I.cJ H.next (by rw[ga];exact T);obtain⟨bb,yb,a1,_,_,d3⟩:=Ib.cJ H.next.succ (by rw[gb];exact T);rw[ga]at e3;rw[gb]at d3;have ay:w.heap.size<=r:=I.rd H.next r C (by rw[ga];exact T) J;have R:∀j z,u j=some z->j≠H.next->ρ j=some z:=by
  intro j z v hj;cases hr:ρ j with
  |some z'=>have:=(Y _ _ hr).1;rw[this]at v;exact v
  |none=>
   exfalso;rcases Nat.lt_trichotomy j.az H.next.az with hl|hl|hl;·have:=(I.di j ⟨hr,hl⟩).2;rw[this]at v;cases v
   .exact hj (af.qW hl)
   have:=(I.dD j (by show H.next.succ.az<=_;rw[af.fH];omega)).2;rw[this]at v;cases v
 have av:ag H.next=none:=(Ib.di H.next ⟨(h.dD _ (aeq _)).2,by rw[af.fH];omega⟩).2;have p:bR ρ (ρ.add i r C (u.k r)):=aQ.pS r C _ h1 (λj c y e S=>by have:=(Y _ _ e).2;simp only at this;rw[S]at this;exact this.symm);have a2:∀j z,ρ j=some z->j≠i:=λj z v e=>by rw[e,h1]at v;cases v
 have aw:OR P (ρ.add i r C (u.k r)) cJ C L:=by
  refine OR.nP ?_ hy e3 d3;intro j x y hx M;have hj:j≠H.next:=λe=>by rw[e,av]at M;cases M
  have:=R j x hx hj;exact⟨(p _ _ this).1,by rw[(p _ _ this).2,(Y _ _ this).2]⟩
 have eZ:∀a6,a6<w.heap.size->w'.heap[a6]?=w.heap[a6]?:=λa6 s=>F.block a6 s (by show¬w.heap.size<=a6;omega);refine⟨c,w',Q,ρ.add i r C (u.k r),p,?_,?_,⟨F.os,F.tape,F.output,F.size,λa6 s _=>eZ a6 s⟩⟩
 .cases n with
  |aD=>obtain⟨a8,x,m,t⟩:=VR.kT E;rw[J]at m;injection m with m;injection m with G K;subst G;subst K;rw[t];simp only[jF.of,VR];exact⟨_,_,aQ.dW ..,rfl⟩
  |slice l cp ex=>
   simp only[jF.of]at E⊢;cases c with
   |slice ad l' c'=>cases ad with|none=>simp[VR]at E|some ad=>simp only[VR]at E⊢;obtain⟨p1,p2,p3,p4,a8,x,m,t,G⟩:=E;rw[J]at m;injection m with m;injection m with K q5;subst K;subst q5;exact⟨p1,p2,p3,p4,_,_,aQ.dW ..,t,by rw[aQ.pR];exact G⟩
   |_=>simp[VR]at E
  |map=>obtain⟨a8,m,t⟩:=VR.ly E;rw[J]at m;injection m with m;injection m with G K;subst G;subst K;rw[t];simp only[jF.of,VR];exact aQ.dW ..
 have hg:∀j,(H.set i cJ).get j=if j=i then cJ else H.get j:=λj=>ai.aJ _ _ _ _;have D:∀j a6,j∈((H.set i cJ).get a6).aM->a6≠i/\j≠i/\j∈(H.get a6).aM:=by
  intro j a6 hj;rw[hg]at hj;by_cases e:a6=i;·rw[aH e,f2]at hj;cases hj
  rw[ap e]at hj;exact⟨e,λZ=>h4 a6 (Z▸hj),hj⟩
 have d:∀j,j≠i->(ρ.add i r C (u.k r)) j=ρ j:=λj hj=>by simp[aQ.add,hj]
 constructor
 .intro j hj;rw[hg]at hj⊢;by_cases e:j=i;·subst e;rw[aH rfl];exact⟨r,C,L,aQ.dW ..,Z,aw⟩
  rw[ap e]at hj⊢;obtain⟨a8,x,V,g1,g2,g3,g4⟩:=h.be hj;exact⟨a8,x,V,by rw[d j e];exact g1,by rw[eZ a8 g2];exact g3,OR.mono p g4⟩
 .intro j a6 a8 x y N hj s A B;rw[hg]at hj s;rw[hg,hg];by_cases e:j=i;·subst e;have f:a6≠j:=λe=>N e.symm;rw[ap f]at s;rw[aQ.dW]at A;injection A with A;injection A with A _;rw[d a6 f]at B;have:=h.dU a6 a8 y B;omega
  by_cases f:a6=i;·subst f;rw[ap e]at hj;rw[aQ.dW]at B;injection B with B;injection B with B _;rw[d j e]at A;have:=h.dU j a8 x A;omega
  rw[ap e]at hj⊢;rw[ap f]at s⊢;rw[d j e]at A;rw[d a6 f]at B;exact h.iY j a6 a8 x y N hj s A B
 .intro j a6 hj;obtain⟨g1,g2,g3⟩:=D j a6 hj;obtain⟨m,t⟩:=h.aM j a6 g3;exact⟨m,λO=>by rw[hg,ap g2]at O⊢;exact t O⟩
 .intro j a8 x hj hf e;rw[hg]at hj hf;by_cases f:j=i;·subst f;rw[aQ.dW]at e;injection e with e;injection e with e _;exact(h.new a8 ab).1
  rw[ap f]at hj hf;rw[d j f]at e;exact h.wr j a8 x hj hf e
 .intro j hj;have q:j≠i:=λe=>by subst e;have:H.next.az<=j.az:=hj;omega
  obtain⟨m,t⟩:=h.dD j hj;exact⟨by rw[hg,ap q];exact m,by rw[d j q];exact t⟩
 .intro a6 s;exact h.new a6 (af2 F.size s)
 .intro g ax;exact(p _ _ (h.jP g ax)).1
 .intro j a8 x V hj e hb;rw[hg]at hj⊢;by_cases f:j=i;·subst f;rw[aH rfl];rw[aQ.dW]at e;injection e with e;injection e with W e5;subst W;subst e5;rw[aQ.pR];have:=I.im H.next _ _ V (by rw[ga];exact T) J hb;rw[ga]at this;exact this
  rw[ap f]at hj⊢;rw[d j f]at e;rw[(p _ _ e).2];exact h.im j a8 x V hj e (by rw[<-eZ a8 (h.dU j a8 x e)];exact hb)
 .intro j a8 x e;by_cases f:j=i;·subst f;rw[aQ.dW]at e;injection e with e;injection e with W _;subst W;exact I.dU _ _ _ J
  rw[d j f]at e;exact ae2 (h.dU j a8 x e) F.size
 .intro j a8 x hj e;rw[hg]at hj;by_cases f:j=i;·subst f;rw[aQ.dW]at e;injection e with e;injection e with W _;exact(h.new a8 ab).2
  rw[ap f]at hj;rw[d j f]at e;exact h.rd j a8 x hj e
 .intro j hj;obtain⟨m,t,G⟩:=h.un j hj;have q:j≠i:=λe=>h3 (e▸hj);exact⟨by rw[hg,ap q];exact m,t,λa6 s=>G a6 (D j a6 s).2.2⟩
 intro j hj;have q:j≠i:=λe=>h3 (e▸(h.di j hj).1);exact⟨(h.di j hj).1,by rw[d j q];exact(h.di j hj).2⟩
end
section
variable{P:Program}{nt:Nat}{aq:Array Oper}{l:List bu}{cC:Array Nat}
def ey(cC:Array Nat)(i j:Nat):Prop:=(cC.getD i 0).testBit j=true
def In(L:Array Bool)(i:Nat):Prop:=L.getD i false=true
def iO(aq:Array Oper)(i j:Nat):Prop:=∃o e,aq[i]?=some o/\e∈o.after.toList/\Region.binds .any e=true/\e.on=j
theorem Hm(a:Array Nat)(j:Nat):∀(es:List Edge)(s:Nat),(es.foldl (λs e=>if Region.binds .any e then s|||2^e.on|||a.getD e.on 0 else s) s).testBit j=true->s.testBit j=true\/∃e∈es,Region.binds .any e=true/\(j=e.on\/(a.getD e.on 0).testBit j=true)
 |[],s,h=>.inl h
 |e::es,s,h=>by
  simp only[List.foldl_cons]at h;rcases Hm a j es _ h with h1|⟨b,he,h1⟩
  .split at h1
   .rename_i hb;simp only[Nat.testBit_or,afm,Nat.testBit_two_pow,decide_eq_true_eq]at h1;rcases h1 with(h1|h1)|h1;·exact .inl h1
    .exact .inr ⟨e,acm ..,hb,.inl h1.symm⟩
    exact .inr ⟨e,acm ..,hb,.inr h1⟩
   exact .inl h1
  exact .inr ⟨b,aen _ he,h1⟩
def oY(a:Array Nat)(o:Oper):Array Nat:=a.push (o.after.foldl (λs e=>if Region.binds .any e then s|||2^e.on|||a.getD e.on 0 else s) 0)
theorem Pg(aq:Array Oper):Region.before aq=aq.toList.foldl oY #[]:=by unfold Region.before;rw[<-Array.foldl_toList];rfl
theorem Hn(aq:Array Oper):∀(b ch:List Oper)(a:Array Nat),aq.toList=ch++b->a.size=ch.length->(∀i j,(a.getD i 0).testBit j=true->∃k,iO aq i k/\k<i/\(j=k\/(a.getD k 0).testBit j=true)\/(iO aq i j))->∀i j,((b.foldl oY a).getD i 0).testBit j=true->∃k,iO aq i k/\k<i/\(j=k\/((b.foldl oY a).getD k 0).testBit j=true)\/(iO aq i j)
 |[],_,_,_,_,h=>h
 |o::b,ch,a,p,hs,h=>by
  simp only[List.foldl_cons];refine Hn aq b (ch++[o]) _ (by rw[p];simp) (by simp[oY,hs]) ?_;intro i j c;have d:∀k,k<a.size->(oY a o).getD k 0=a.getD k 0:=by intro k f;simp only[oY,ae6];rw[afT,ap ab]
  have n:∀k,a.size<=k->a.getD k 0=0:=by intro k f;simp[ae6,ae3 f]
  rcases Nat.lt_trichotomy i a.size with hl|hl|hl
  .rw[d i hl]at c;obtain⟨k,f|f⟩:=h i j c;·exact⟨k,.inl ⟨f.1,f.2.1,by rw[d k ab];exact f.2.2⟩⟩
   exact⟨k,.inr f⟩
  .subst hl;have g:(oY a o).getD a.size 0=o.after.foldl (λs e=>if Region.binds .any e then s|||2^e.on|||a.getD e.on 0 else s) 0:=by simp only[oY,ae6];rw[afT,aH rfl];rfl
   rw[g,<-Array.foldl_toList]at c;have r:aq[a.size]?=some o:=by rw[<-afi,p,hs];simp
   rcases Hm a j _ _ c with h0|⟨e,he,hb,h1⟩;·simp at h0
   rcases h1 with h1|h1;·exact⟨0,.inr ⟨o,e,r,he,hb,h1.symm⟩⟩
   have m:e.on<a.size:=by
    rcases afg e.on a.size with q|q;·exact q
    rw[n _ q]at h1;simp at h1
   exact⟨e.on,.inl ⟨⟨o,e,r,he,hb,rfl⟩,m,.inr (by rw[d _ m];exact h1)⟩⟩
  have:(oY a o).getD i 0=0:=by simp only[oY,ae6];rw[ae3 (by simp;omega)];rfl
  rw[this]at c;simp at c
theorem Ph(aq:Array Oper){i j:Nat}(h:ey (Region.before aq) i j):∃k,iO aq i k/\k<i/\(j=k\/ey (Region.before aq) k j)\/iO aq i j:=by unfold ey at h⊢;rw[Pg]at h⊢;exact Hn aq aq.toList [] #[] rfl rfl (λi j h=>by simp at h) i j h
theorem nR{S:Nat->Prop}(a:∀i,S i->∀j,iO aq i j->S j):∀(i:Nat),(∀j,iO aq i j->S j)->∀j,ey (Region.before aq) i j->S j:=by
 intro i;induction i using Nat.strongRecOn with
 |ind i b=>
  intro hi j hj;obtain⟨k,⟨h1,h2,h3⟩|h1⟩:=Ph aq hj
  .rcases h3 with h3|h3;·rw[h3];exact hi k h1
   exact b k h2 (a k (hi k h1)) j h3
  exact hi j h1
theorem Pj(h:uM aq=true){i j:Nat}(hd:iO aq i j):j<i:=by
 obtain⟨o,e,h1,h2,h3,rfl⟩:=hd;unfold uM at h;rw[afv]at h;have a:(o,i)∈aq.toList.zipIdx:=by rw[List.mem_zipIdx_iff_getElem?];rw[afi];exact h1
 have:=h _ a;rw[Array.all_eq_true_iff_forall_mem]at this;have:=this e (by simpa using h2);simpa[h3]using this
theorem Pk{L:Array Bool}(U:L.size=aq.size){i:Nat}(h:i∈Region.ready .any aq L):i<aq.size/\¬In L i/\∀j,iO aq i j->In L j:=by
 simp only[Region.ready,age,afR,aew,afj]at h;obtain⟨h1,h2,h3⟩:=h;refine⟨h1,?_,?_⟩;·have a:i<L.size:=ab;unfold In;simp only[ae6,getElem?_pos L i a,afc]at h2⊢;rw[h2];simp
 rintro j⟨o,e,b,c,d,rfl⟩;rw[b]at h3;simp only[aeT,afc,Array.all_eq_true_iff_forall_mem]at h3;have:=h3 e (by simpa using c);unfold In;simpa[d]using this
theorem Pl{L:Array Bool}(U:L.size=aq.size)(he:uM aq=true)(h:Region.ready .any aq L=[]):∀i,i<aq.size->In L i:=by
 intro i;induction i using Nat.strongRecOn with
 |ind i d=>
  intro hi;by_cases a:In L i;·exact a
  exfalso;have:i∈Region.ready .any aq L:=by
   simp only[Region.ready,age,afR,aew,afj];refine⟨hi,?_,?_⟩;·have b:i<L.size:=ab;unfold In at a;simp only[ae6,getElem?_pos L i b,afc]at a⊢;simpa using a
   rw[getElem?_pos aq i hi];simp only[aeT,afc,Array.all_eq_true_iff_forall_mem];intro e c;cases hb:Region.binds .any e with|false=>simp|true=>have hd:iO aq i e.on:=⟨aq[i],e,getElem?_pos aq i hi,by simpa using c,hb,rfl⟩;have b:=Pj he hd;have:=d e.on b ab;simp only[aeY,Bool.false_or];exact this
  rw[h]at this;cases this
def sV(L:Array Bool)(n:Nat):Nat:=((afD n).filter λi=>!L.getD i false).length
theorem Ho{p q:Nat->Bool}{i:Nat}:∀(r:List Nat),r.Nodup->i∈r->p i=true->q i=false->(∀j,j≠i->q j=p j)->(r.filter q).length+1=(r.filter p).length
 |[],_,h,_,_,_=>by cases h
 |a::r,b,h,c,d,hj=>by
  rw[afX]at b;by_cases e:a=i;·subst e;have:r.filter q=r.filter p:=List.filter_congr λx f=>hj x λe=>b.1 (e▸f);simp[c,d,this]
  have g:i∈r:=by
   rcases aer.1 h with q|q;·exact absurd q.symm e
   exact q
  have:=Ho r b.2 g c d hj;simp only[List.filter_cons,hj a e];split;·simp only[aeJ];omega
  exact this
theorem vm{L:Array Bool}{i:Nat}(hi:i<L.size)(j:Nat):In (L.setIfInBounds i true) j↔j=i\/In L j:=by
 unfold In;simp only[ae6,aeH];by_cases e:i=j;·subst e;simp[hi]
 simp[e,Ne.symm e]
theorem Pm{L:Array Bool}{n i:Nat}(U:L.size=n)(hi:i<n)(h:¬In L i):sV (L.setIfInBounds i true) n+1=sV L n:=by
 refine Ho (i:=i) _ List.nodup_range (by simpa using hi) ?_ ?_ ?_;·unfold In at h;simpa using h
 .have:=(vm (L:=L) (i:=i) ab i).2 (.inl rfl);unfold In at this;simp[this]
 intro j hj;have:=vm (L:=L) (i:=i) ab j;unfold In at this;simp only[hj,false_or]at this;cases h1:L.getD j false<;>cases h2:(L.setIfInBounds i true).getD j false<;>simp_all
theorem Pn{L:Array Bool}{n i:Nat}(hi:i<n)(h:¬In L i):0<sV L n:=by
 unfold sV;apply List.length_pos_of_mem (a:=i);unfold In at h;have h:L.getD i false=false:=by simpa using h
 exact age.2 ⟨afR.2 hi,by rw[h];rfl⟩
def dH(l:List bu)(i:Nat)(t:af):Prop:=∃x,l[i]?=some x/\x.dst=some t
def Mk(l:List bu)(aa:am AV)(i:Nat)(j:af):Prop:=∃x d,l[i]?=some x/\x.op.jC=true/\x.dst=some d/\fj (aa.get .agx d)=some j
def Ch(l:List bu)(i:Nat):Prop:=∃x,l[i]?=some x/\x.op.fO=true
theorem Po{op:bC}(h:op.fO=true):op.jC=false/\op.gX=false/\op.plain=false:=by cases op<;>simp[bC.fO]at h<;>simp[bC.jC,bC.gX,bC.plain]
theorem vn{op:bC}(h:op.jC=true):op.fO=false/\op.gX=false/\op.plain=false:=by cases op<;>simp[bC.jC]at h<;>simp[bC.fO,bC.gX,bC.plain]
theorem qf{op:bC}(h:op.gX=true):op.fO=false/\op.jC=false/\op.plain=false:=by
 cases op<;>(try(simp[bC.gX]at h;done))<;>simp[bC.fO,bC.jC,bC.plain];rename_i lo _ _;cases lo;·simp[bC.gX]at h
 simp
theorem nS{i j:Nat}(h:pP l cC i j=true){x y:bu}(g:l[i]?=some x)(m:l[j]?=some y):i≠j/\¬ey cC i j/\(∀d,x.dst=some d->y.dst≠some d/\(d∈y.gY->ey cC j i))/\(∀d,y.dst=some d->d∈x.gY->ey cC j i/\x.op.gX=false)/\(x.op.fO=true->ey cC j i/\∀k,ey cC i k->ey cC j k):=by
 unfold pP at h;rw[g,m]at h;simp only[aew,bne_iff_ne,ne_eq,afj]at h;obtain⟨⟨⟨⟨h1,h2⟩,h3⟩,a⟩,b⟩:=h;refine⟨h1,by unfold ey;rw[h2];simp,?_,?_,?_⟩
 .intro d hd;rw[hd]at h3;simp only[aew,afm,afj]at h3;refine⟨λe=>?_,λc=>?_⟩;·rw[e]at h3;simp at h3
  rcases h3.2 with h|h;·exact h
  have:y.gY.contains d=true:=by simpa using c
  rw[this]at h;cases h
 .intro d hd c;rw[hd]at a;simp only[afm,aew,afj]at a;rcases a with h|h
  .have:x.gY.contains d=true:=by simpa using c
   rw[this]at h;cases h
  exact h
 intro n;simp only[n,aeY,Bool.false_or,aew,beq_iff_eq]at b;refine⟨b.1,λk f=>?_⟩;unfold ey at f⊢;rw[<-b.2,Nat.testBit_and,aew]at f;exact f.2
theorem xE:∀{aB:List Nat},sL l cC aB=true->aB.Pairwise (λi j=>pP l cC i j=true)/\∀i∈aB,∃x,l[i]?=some x/\pQ x=true
 |[],_=>⟨agv,λi h=>by cases h⟩
 |i::a,h=>by
  simp only[sL,aew,afv]at h;obtain⟨⟨h1,h2⟩,h3⟩:=h;obtain⟨b,c⟩:=xE h3;refine⟨afW.2 ⟨h2,b⟩,λj hj=>?_⟩;rcases aer.1 hj with e|e
  .subst e;split at h1;·rename_i x d;exact⟨x,d,h1⟩
   cases h1
  exact c j e
theorem Hp{c:Type}{R:c->c->Prop}:∀{s:List c},s.Pairwise R->∀{i j:c},i∈s->j∈s->i=j\/R i j\/R j i
 |[],_,i,_,h,_=>by cases h
 |a::s,h,i,j,hi,hj=>by
  rw[afW]at h;rcases aer.1 hi with e|e
  .subst e;rcases aer.1 hj with b|b;·exact .inl b.symm
   exact .inr (.inl (h.1 j b))
  rcases aer.1 hj with b|b;·subst b;exact .inr (.inr (h.1 i e))
  exact Hp h.2 e b
theorem dH.inj{aB:List Nat}(f:sL l cC aB=true){i j:Nat}(hi:i∈aB)(hj:j∈aB){t:af}(h1:dH l i t)(h2:dH l j t):i=j:=by
 obtain⟨x,a,b⟩:=h1;obtain⟨y,c,d⟩:=h2;rcases Hp (xE f).1 hi hj with e|e|e;·exact e
 .exact absurd d ((nS e a c).2.2.1 t b).1
 exact absurd b ((nS e c a).2.2.1 t d).1
def fN(aa:am AV)(a:List af):List af:=a.filterMap λp=>fj (aa.get .agx p)
theorem z6(aa:am AV):∀(a:List af)(H:ai)(j:af),(cS aa H a).1.get j=(if j∈fN aa a then .none else H.get j)/\(cS aa H a).1.next=H.next/\∀b,(cB b (cS aa H a).2).get j=(if j∈fN aa a then H.get j else b.get j)/\(cB b (cS aa H a).2).next=b.next
 |[],H,j=>by simp[cS,fN,cB]
 |p::a,H,j=>by
  unfold cS;cases g:fj (aa.get .agx p)with
  |none=>have:=z6 aa a H j;simpa[fN,g]using this
  |some i=>
   have c:=z6 aa a (H.set i .none) j;simp only;have d:∀q,q∈fN aa (p::a)↔q=i\/q∈fN aa a:=by intro q;simp[fN,g]
   refine⟨?_,by rw[c.2.1];rfl,λb=>⟨?_,?_⟩⟩
   .rw[c.1,ai.aJ];by_cases e:j=i;·subst e;simp[d]
    by_cases f:j∈fN aa a<;>simp[d,e,f]
   .rw[cB,ai.aJ,(c.2.2 b).1,ai.aJ];by_cases e:j=i;·subst e;simp[d]
    by_cases f:j∈fN aa a<;>simp[d,e,f]
   rw[cB,ai.eI];exact(c.2.2 b).2
theorem Hq{a:Option Nat}{seen:List Nat}{i:Nat}{aa:am AV}{j:af}:j∈fN aa (xj l cC a seen i)↔∃k∈seen,(¬ey cC i k\/a=some k)/\Mk l aa k j:=by
 simp only[fN,xj,List.mem_filterMap];constructor
 .rintro⟨p,⟨k,b,h1⟩,h2⟩;split at h1
  .rename_i r c;split at h1;·rename_i e;simp only[aew,afm,afj,beq_iff_eq]at e;exact⟨k,b,e.2.imp (λh=>by unfold ey;rw[h];simp) id,r,p,c,e.1,h1,h2⟩
   cases h1
  cases h1
 rintro⟨k,b,h1,r,d,c,h2,h3,f⟩;refine⟨d,⟨k,b,?_⟩,f⟩;have h1:(!(cC.getD i 0).testBit k||a==some k)=true:=by
  rcases h1 with h1|h1;·unfold ey at h1;rw[show(cC.getD i 0).testBit k=false by simpa using h1];rfl
  rw[h1];simp
 simp only[c,h2,h1,agq,bc,h3]
theorem Pp{seen:List Nat}{i k:Nat}(a:k∈seen){r:bu}(b:l[k]?=some r)(h1:r.op.gX=true)(h2:¬ey cC i k){d:af}(hd:r.dst=some d):(⟨d,r.op,r.guard⟩:fU)∈gX l cC seen i:=by
 simp only[gX,List.mem_filterMap];refine⟨k,a,?_⟩;unfold ey at h2;have h2:(cC.getD i 0).testBit k=false:=by simpa using h2
 simp only[b,h1,h2,Bool.not_false,agq,bc,hd,aeT]
theorem Hr{aa:am AV}{H:ai}:∀{re:List fU},dl aa H re=true->∀r∈re,dc aa r.guard=true->∃b,aE r.op aa H=some (aa.get .agx r.dst,b)
 |[],_,r,h,_=>by cases h
 |a::re,h,r,c,hg=>by
  simp only[dl,aew]at h;rcases aer.1 c with e|e
  .subst e;rw[hg]at h;simp only[bc]at h;have:=h.1;split at this;·rename_i w b d;rw[d,Di this];exact⟨b,rfl⟩
   cases this
  exact Hr h.2 r e hg
end
end
end Go.ak
end
