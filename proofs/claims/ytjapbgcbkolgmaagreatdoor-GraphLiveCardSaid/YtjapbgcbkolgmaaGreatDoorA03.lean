/- A part. No conditions. -/
import Derived.Test.YtjapbgcbkolgmaaGreatDoorA02
import Derived.RangeFuncIn
import Derived.Orders
set_option linter.all false
open List renaming range->agA,getD->ahn
open Nat renaming blt->afR,ble->ago
open Array renaming filter->ag2,replicate->aha
open UInt8 renaming toNat->agW,ofNat->ahh
open Eq renaming mpr->ahm
noncomputable section
namespace Go.al
section
variable[Ov]
section
variable{P:Program}{b:bS}{ρ:aO}{H H':ah}{w:World}{nt:Nat}{aa:ak AV}{a:Act}{o:Oper}{ao:bE}{v:AV}
theorem Q'(h:cO P b ρ H w nt aa a){t:TypeId}{x:Operand}(r:o.op=.range t x)(f:bG P nt o=some ao)(he:aD ao aa H=some (v,H')):bt P b ρ w (execOp a.eval o) v H':=by
 simp only[bG,r,acC,aaU]at f;obtain⟨d,hd,f⟩:=f;split at f
 .simp only[aaU,aeO,aaM]at f;obtain⟨z,h1,rfl⟩:=f;have g:=h.gv h1;simp only[aD]at he;split at he
  .rename_i s i;simp only[aaM,abS]at he;obtain⟨rfl,rfl⟩:=he;rw[i]at g;obtain⟨u,A,k⟩:=g.kJ;obtain⟨l,n,p⟩:=h.I.alloc (o:=.jU s s 0) (ob:=.stringIter u 0) (0,0) (by simp[dI]) aF rfl (by simp only[OR];exact⟨trivial,trivial,A,aF⟩);refine bt.val (c:=.pointer (some ⟨w.heap.size,0,none⟩)) (w':={w with heap:=w.heap.push (.stringIter u 0)}) ?_ ⟨_,l,?_,n,p⟩;·simp only[execOp,r,Instr.range,Sem.run_bind,bJ hd,Result.andThen_ok,k,Sem.run_pure,run_newObj]
   simp only[VR];exact⟨_,_,aO.dU ..,aF⟩
  cases he
 .simp only[aaU,aeO,aaM]at f;obtain⟨z,h1,rfl⟩:=f;have g:=h.gv h1;simp only[aD]at he;split at he
  .rename_i i;simp only[aaM,abS]at he;obtain⟨rfl,rfl⟩:=he;rw[i]at g;have k:=g.qi;obtain⟨l,n,p⟩:=h.I.alloc (o:=.mapIter none 0 [] 0) (ob:=.mapIter none 0 #[] 0) (0,0) (by simp[dI]) aF rfl (by simp only[OR];exact⟨trivial,by simp[lg],by trivial,by trivial,by trivial⟩);refine bt.val (c:=.pointer (some ⟨w.heap.size,0,none⟩)) (w':={w with heap:=w.heap.push (.mapIter none 0 #[] 0)}) ?_ ⟨_,l,?_,n,p⟩;·simp only[execOp,r,Instr.range,Sem.run_bind,bJ hd,Result.andThen_ok,k,Sem.run_pure,run_newObj]
   simp only[VR];exact⟨_,_,aO.dU ..,aF⟩
  .rename_i m i;rw[i]at g;obtain⟨F,hb,k⟩:=g.lO;split at he
   .rename_i es e B;simp only[aaM,abS]at he;obtain⟨rfl,rfl⟩:=he;obtain⟨bk,C,E⟩:=nX h.I B hb;have q:bQ ρ (ρ.add H.next w.heap.size 0 (0,0)):=aO.oZ _ _ _ (h.I.cS _ (adv _)).2 (λj c y D f=>by have:=h.I.dO j c y D;omega);obtain⟨l,n,p⟩:=h.I.alloc (o:=.mapIter (some m) e [] e) (ob:=.mapIter (some F) e #[] e) (0,0) (by simp[dI]) aF rfl (by simp only[OR];exact⟨trivial,by simp only[lg];exact(q _ _ hb).1,by trivial,by trivial,by trivial⟩);refine bt.val (c:=.pointer (some ⟨w.heap.size,0,none⟩)) (w':={w with heap:=w.heap.push (.mapIter (some F) e #[] e)}) ?_ ⟨_,l,?_,n,p⟩;·simp only[execOp,r,Instr.range,Sem.run_bind,bJ hd,Result.andThen_ok,k,Sem.run_pure,run_newObj,lj C]
    simp only[VR];exact⟨_,_,aO.dU ..,aF⟩
   cases he
  cases he
 cases f
theorem vq{i:Nat}{d:Obj}(h:w.heap[i]?=some d)(g:∀c e f,d≠.cells c e f):(getObj i).run P w=.ok d w:=by cases d with|cells c e f=>exact absurd rfl (g c e f)|_=>simp only[getObj,Sem.run,h]
theorem Ra(h:cO P b ρ H w nt aa a){F:Operand}{e:Bool}(u:o.op=.next F e)(t:bG P nt o=some ao)(he:aD ao aa H=some (v,H')):bt P b ρ w (execOp a.eval o) v H':=by
 cases e with
 |false=>simp only[bG,u,abe,bD,acC,aaU,aeO,aaM]at t;obtain⟨G,h1,rfl⟩:=t;simp[aD]at he
 |true=>
  simp only[bG,u,bf,acC,aaU,aeO,aaM]at t;obtain⟨G,h1,rfl⟩:=t;have D:=h.gv h1;simp only[aD]at he;split at he
  .rename_i id J;rw[J]at D;obtain⟨S,z,hb,C⟩:=D.li;split at he
   .rename_i s E N hi;have k:H.get id≠.none:=by rw[hi];simp
    obtain⟨Q,R,K,A,j,l,m⟩:=h.I.bm k;rw[hb]at A;injection A with A;injection A with L M;subst L;subst M;rw[hi]at m;cases K<;>simp only[OR]at m;rename_i bs p;obtain⟨rfl,rfl,bW,f⟩:=m;have g:(getObj S).run P w=.ok (.stringIter bs p) w:=vq l (λ_ _ _=>by simp);have O:bs.size=s.length:=by rw[<-bW,afJ,af7];rfl
    split at he
    .simp only[aaM,abS]at he;obtain⟨rfl,rfl⟩:=he;have q:¬p<bs.size:=by have:=List.drop_eq_nil_iff.1 f.symm;omega
     refine bt.val (c:=.tuple #[.bool false]) (w':=w) ?_ (bZ.bN h.I (by simp[VR,aQ]));simp only[execOp,u,Instr.next,C,ahc,Sem.run_bind,g,Result.andThen_ok,q,bD,Sem.run_pure]
    rename_i c r;split at he
    .rename_i j;simp only[aaM,abS]at he;obtain⟨rfl,rfl⟩:=he;have j:c<128:=afT (Nat.lt_succ_self c) (afx j);have n:s[p]?=some c:=by
      have:(s.drop p)[0]?=some c:=by rw[<-f];rfl
      rw[List.getElem?_drop]at this;simpa using this
     have B:p<bs.size:=by have:=(af3.1 n).1;omega
     have y:p<bs.data.size:=B;have t:(bs.data[p]).toNat=c:=by rw[<-bW,af0,aga,getElem?_pos bs.data p y]at n;simpa using n
     have i:Utf8.decode bs p=(c,1):=by
      have hg:(bs.get! (p+0)).toNat=c:=by rw[ahc,ByteArray.get!];rw[getElem!_pos bs.data p y];exact t
      simp only[Utf8.decode,hg,show c<0x80 from j,bf]
     have hu:=h.I.nV (i:=id) (o':=.jU s r (p+1)) (ob':=.stringIter bs (p+1)) k (by rw[hi];rfl) hb rfl (by simp only[OR];refine⟨trivial,trivial,bW,?_⟩;rw[<-List.drop_drop,<-f];rfl) (by simp[dI]) (w':={w with heap:=w.heap.setIfInBounds S (.stringIter bs (p+1))}) rfl rfl rfl rfl;rw[hi]at hu;refine bt.val (c:=.tuple #[.bool true,goInt p,.int .i32 c]) (w':={w with heap:=w.heap.setIfInBounds S (.stringIter bs (p+1))}) ?_ ⟨ρ,bQ.refl ρ,?_,hu.1,hu.2⟩;·simp only[execOp,u,Instr.next,C,ahc,Sem.run_bind,g,Result.andThen_ok,B,bf,i,vm w l (λ_ _ _=>by simp),Sem.run_pure]
     simp only[VR,aQ];exact⟨trivial,VR.goInt ρ p,by simp[kc],trivial⟩
    simp only[aaM,abS]at he;obtain⟨rfl,rfl⟩:=he;have B:p<bs.size:=by
     have:(s.drop p)[0]?=some c:=by rw[<-f];rfl
     rw[List.getElem?_drop]at this;have:=(af3.1 (by simpa using this)).1;omega
    have i:Utf8.decode bs p=u8 s p:=by
     have hd:(s.map ahh).toArray=bs.data:=by rw[<-bW,ag1,show ahh∘agW=_root_.id from funext λ(x:UInt8)=>by show ahh x.toNat=x;simp,ahi,Array.toArray_toList]
     unfold u8;rw[hd]
    generalize u8 s p=d at*;have hu:=h.I.nV (i:=id) (o':=.jU s (s.drop (p+d.2)) (p+d.2)) (ob':=.stringIter bs (p+d.2)) k (by rw[hi];rfl) hb rfl (by simp only[OR];exact⟨trivial,trivial,bW,trivial⟩) (by simp[dI]) (w':={w with heap:=w.heap.setIfInBounds S (.stringIter bs (p+d.2))}) rfl rfl rfl rfl;rw[hi]at hu;refine bt.val (c:=.tuple #[.bool true,goInt p,.int .i32 d.1]) (w':={w with heap:=w.heap.setIfInBounds S (.stringIter bs (p+d.2))}) ?_ ⟨ρ,bQ.refl ρ,?_,hu.1,hu.2⟩;·simp only[execOp,u,Instr.next,C,ahc,Sem.run_bind,g,Result.andThen_ok,B,bf,i,vm w l (λ_ _ _=>by simp),Sem.run_pure]
    simp only[VR,aQ];exact⟨trivial,VR.goInt ρ p,by simp[kc],trivial⟩
   cases he
  cases he
theorem Rb(h:cO P b ρ H w nt aa a){G:Operand}(A:o.op=.entry G)(B:bG P nt o=some ao)(he:aD ao aa H=some (v,H')):bt P b ρ w (execOp a.eval o) v H':=by
 simp only[bG,A,acC,aaU,aeO,aaM]at B;obtain⟨Z,h1,rfl⟩:=B;have C:=h.gv h1;simp only[aD]at he;split at he
 .rename_i id J;rw[J]at C;obtain⟨ag,z,hb,K⟩:=C.li;split at he
  .rename_i m x seen F hi;have s:H.get id≠.none:=by rw[hi];simp
   obtain⟨b',z',L,p,Y,t,c⟩:=h.I.bm s;rw[hb]at p;injection p with p;injection p with D M;subst D;subst M;rw[hi]at c;cases L<;>simp only[OR]at c;rename_i E N r O;obtain⟨rfl,d,rfl,g,rfl⟩:=c;have n:(getObj ag).run P w=.ok (.mapIter E N r O) w:=vq t (λ_ _ _=>by simp);cases E with
   |none=>simp[lg]at d
   |some mb=>
    simp only[lg]at d;split at he
    .rename_i bn es y hl Q;split at he
     .rename_i f;have f:=afo f;subst f;obtain⟨bk,R,S⟩:=nX h.I Q d;split at he
      .rename_i i T;obtain⟨_,_,e0,c0,q,V,W,X⟩:=bh.ma bn 0 i S T;split at he
       .rename_i D u;simp only[aaM,abS]at he;obtain⟨rfl,rfl⟩:=he;rw[ahg,u]at q;injection q with q;subst q;have j:r.back?=some bn:=by rw[<-g]at hl;obtain⟨l⟩:=r;simpa using hl
        have k:bk.find? (λe=>e.born==bn)=some c0:=by obtain⟨l⟩:=bk;simpa using V
        refine bt.val (c:=.tuple #[c0.key,c0.val]) (w':=w) ?_ (bZ.bN h.I (by simp only[VR,aQ];exact⟨W,X,trivial⟩));simp[execOp,A,Instr.entry,K,n,j,lj R,k]
       cases he
      cases he
     cases he
    cases he
  cases he
 cases he
theorem bh.filter{p:aT->Bool}{q:MapEntry->Bool}(d:∀(e:aT)(c:MapEntry),e.born=c.born->p e=q c):∀{es:List aT}{bk:List MapEntry},bh ρ es bk->bh ρ (es.filter p) (bk.filter q)
 |[],[],_=>by simp[bh]
 |e::es,c::bk,h=>by
  simp only[bh]at h;simp only[List.filter_cons,d e c h.2.2.1];split;·simp only[bh];exact⟨h.1,h.2.1,h.2.2.1,bh.filter d h.2.2.2⟩
  exact bh.filter d h.2.2.2
 |[],_::_,h=>by simp[bh]at h
 |_::_,[],h=>by simp[bh]at h
theorem bh.get:∀{es:List aT}{bk:List MapEntry},bh ρ es bk->∀(i:Nat)(c:MapEntry),bk[i]?=some c->∃e:aT,es[i]?=some e/\VR ρ e.key c.key/\VR ρ e.val c.val/\e.born=c.born|[],[],_,i,c,h=>by simp at h|e::es,c::bk,h,0,f,d=>by simp only[bh]at h;simp at d;subst d;exact⟨e,aF,h.1,h.2.1,h.2.2.1⟩|e::es,c::bk,h,i+1,f,d=>by simp only[bh]at h;simp at d;simpa using bh.get h.2.2.2 i f d|[],_::_,h,_,_,_=>by simp[bh]at h|_::_,[],h,_,_,_=>by simp[bh]at h
theorem bh.append:∀{es:List aT}{bk:List MapEntry}{f:List aT}{d:List MapEntry},bh ρ es bk->bh ρ f d->bh ρ (es++f) (bk++d)|[],[],_,_,_,h=>by simpa using h|e::es,c::bk,_,_,h,g=>by simp only[bh]at h;simp only[agb,bh];exact⟨h.1,h.2.1,h.2.2.1,bh.append h.2.2.2 g⟩|[],_::_,_,_,h,_=>by simp[bh]at h|_::_,[],_,_,h,_=>by simp[bh]at h
theorem bh.Kb(n:Nat):∀{es:List aT}{bk:List MapEntry},bh ρ es bk->es.all (λe=>ago n e.born)=bk.all (λe=>decide (e.born>=n))
 |[],[],_=>rfl
 |e::es,c::bk,h=>by
  simp only[bh]at h;simp only[List.all_cons,bh.Kb n h.2.2.2,h.2.2.1];congr 1;by_cases d:c.born>=n;·rw[decide_eq_true d,af8 d]
  rw[decide_eq_false d];cases hb:ago n c.born with|false=>rfl|true=>exact absurd (afx hb) d
 |[],_::_,h=>by simp[bh]at h
 |_::_,[],h=>by simp[bh]at h
theorem Kc(h:cO P b ρ H w nt aa a){it:aL}(D:bG P nt o=some (.jG it)){cs:List (Option aT)}{V:Option aT->AV×ah}(he:pR H (gv aa it)=some (cs,V)):∃i c,i<cs.length/\cs[i]?=some c/\bt P b ρ w (execOp a.eval o) (V c).1 (V c).2:=by
 obtain⟨x,ho,hx⟩:∃x,o.op=.next x false/\eC P nt x=some it:=by
  unfold bG at D;simp only[acC,aeO]at D;split at D;all_goals(try(exfalso;(repeat'(first|(cases D;done)|(rw[aaU]at D;obtain⟨_,_,D⟩:=D)|split at D));done))
  rename_i x s ho;cases s with|true=>simp only[bf,aaU,aaM,reduceCtorEq,and_false,exists_false]at D|false=>simp only[abe,bD,aaU,aaM,bE.jG.injEq]at D;obtain⟨y,h1,rfl⟩:=D;exact⟨x,ho,h1⟩
 have g1:=h.gv hx;unfold pR at he;split at he
 .rename_i id hv;rw[hv]at g1;obtain⟨cf,z,hb,aw⟩:=g1.li;split at he
  .rename_i hi;simp only[aaM,abS]at he;obtain⟨rfl,rfl⟩:=he;obtain⟨ca,z',ob,M,bd,O,r⟩:=h.I.bm (i:=id) (by rw[hi];simp);rw[hb]at M;injection M with M;injection M with e1 e2;subst e1;subst e2;rw[hi]at r;cases ob<;>simp only[OR]at r;rename_i m' g l t';obtain⟨rfl,h1,_⟩:=r;have:m'=none:=by cases m'<;>simp[lg]at h1;rfl
   subst this;refine⟨0,none,aF,rfl,bt.val (c:=.tuple #[.bool false]) (w':=w) ?_ (bZ.bN h.I (by simp[VR,aQ]))⟩;simp only[execOp,ho,Instr.next,aw,ahc,Sem.run_bind,vq O (λ_ _ _=>by simp),Result.andThen_ok,Sem.run_pure]
  .rename_i m b7 seen b' hi;split at he
   .rename_i es k hm;split at he;·cases he
    rename_i Y;simp only[aaM,abS]at he;obtain⟨rfl,rfl⟩:=he;obtain⟨ca,z',ob,M,bd,O,r⟩:=h.I.bm (i:=id) (by rw[hi];simp);rw[hb]at M;injection M with M;injection M with e1 e2;subst e1;subst e2;rw[hi]at r;cases ob<;>simp only[OR]at r;rename_i m' g l t';obtain⟨rfl,h1,rfl,h3,rfl⟩:=r;obtain⟨E,rfl⟩:∃E,m'=some E:=by cases m' with|none=>simp[lg]at h1|some E=>exact⟨E,rfl⟩
    have ax:ρ m=some (E,0):=h1;obtain⟨bk,k1,k2⟩:=nX h.I hm ax;have Z:∀n,l.contains n=seen.contains n:=λn=>by rw[<-h3,Array.contains_toList]
    have hl:=k2.filter (p:=λe=>!seen.contains e.born) (q:=λe=>!l.contains e.born) (λe c G=>by rw[G,Z]);have dV:=hl.filter (p:=λe=>afR e.born g) (q:=λe=>decide (e.born<g)) (λe c G=>by
     rw[G];by_cases q:c.born<g;·rw[decide_eq_true q];exact ahm agh q
     rw[decide_eq_false q];cases hb:afR c.born g with|false=>rfl|true=>exact absurd (Eq.mp agh hb) q);have J:=hl.filter (p:=λe=>!afR e.born g) (q:=λe=>decide (e.born>=g)) (λe c G=>by
     rw[G];by_cases q:c.born<g;·rw[decide_eq_false ab,show afR c.born g=true from ahm agh q];rfl
     rw[decide_eq_true ab];cases hb:afR c.born g with|false=>rfl|true=>exact absurd (Eq.mp agh hb) q);have d:=dV.append J;have Q:(!l.isEmpty&&!bk.isEmpty&&bk.all λe=>decide (e.born>=t'))=false:=by
     have e1:l.isEmpty=seen.isEmpty:=by rw[<-h3,Array.isEmpty_toList]
     have e2:bk.isEmpty=es.isEmpty:=by have hh:=bh.length k2;rw[<-Array.isEmpty_toList];cases a6:bk.toList<;>rw[a6]at hh<;>cases es<;>first|rfl|simp at hh
     have e3:=k2.Kb t';rw[e1,e2,<-Array.all_toList,<-e3];simpa using Y
    generalize bv:(es.filter λe=>!seen.contains e.born).filter (λe=>afR e.born g)=N at dV d⊢;generalize cd:(es.filter λe=>!seen.contains e.born).filter (λe=>!afR e.born g)=nA at J d⊢;generalize W:(bk.toList.filter λe=>!l.contains e.born).filter (λe=>decide (e.born<g))=F at dV d;generalize b0:(bk.toList.filter λe=>!l.contains e.born).filter (λe=>decide (e.born>=g))=nL at J d;have B:N.isEmpty=F.isEmpty:=by have hh:=bh.length dV;clear bv W dV d;cases N<;>cases F<;>first|rfl|simp at hh
    have a8:(N++nA).length=(F++nL).length:=bh.length d;let p:List (Option MapEntry):=(if F.isEmpty then[none]else[])++(F++nL).map some;have R:p.length=((if N.isEmpty then[none]else[])++(N++nA).map some:List (Option aT)).length:=by simp only[p,afq,afJ,B]at a8⊢;split<;>simp<;>omega
    have S:0<p.length:=by simp only[p,afq,afJ];cases F with|nil=>simp;omega|cons a cf=>simp;omega
    have b3:∃(j:Nat)(A:World),j<p.length/\(A=w\/A=w.drew)/\(choose (Question.mapNext p.length)).run P w=.ok j A:=by
     by_cases hf:p.length<=1;·exact⟨0,w,S,Or.inl rfl,by simp[choose,Sem.run,Question.forced,hf]⟩
     exact⟨_,w.drew,Nat.mod_lt _ S,Or.inr rfl,by simp only[choose,Sem.run,Question.forced,decide_eq_true_eq,hf,bD,Question.cut];rfl⟩
    obtain⟨j,A,hj,ay,a'⟩:=b3;have T:A.heap=w.heap:=by rcases ay with rfl|rfl<;>rfl
    have a1:bj P b ρ H A:=h.I.u9 T;have a2:cX b w A:=by rcases ay with rfl|rfl;exact cX.refl b _;exact(cX.refl b _).drew
    have K:((if(ag2 (λe:MapEntry=>decide (e.born<g)) (ag2 (λe:MapEntry=>!l.contains e.born) bk)).isEmpty=true then #[none]else #[])++Array.map some (ag2 (λe:MapEntry=>decide (e.born<g)) (ag2 (λe:MapEntry=>!l.contains e.born) bk)++ag2 (λe:MapEntry=>decide (e.born>=g)) (ag2 (λe:MapEntry=>!l.contains e.born) bk))).toList=p:=by
     simp only[p,Array.toList_append,Array.toList_map,Array.toList_filter,W,b0];congr 1;have:(ag2 (λe:MapEntry=>decide (e.born<g)) (ag2 (λe:MapEntry=>!l.contains e.born) bk)).isEmpty=F.isEmpty:=by rw[<-W,<-Array.toList_filter,<-Array.toList_filter,Array.isEmpty_toList]
     rw[this];split<;>rfl
    generalize ag:((if(ag2 (λe:MapEntry=>decide (e.born<g)) (ag2 (λe:MapEntry=>!l.contains e.born) bk)).isEmpty=true then #[none]else #[])++Array.map some (ag2 (λe:MapEntry=>decide (e.born<g)) (ag2 (λe:MapEntry=>!l.contains e.born) bk)++ag2 (λe:MapEntry=>decide (e.born>=g)) (ag2 (λe:MapEntry=>!l.contains e.born) bk)))=CA at K;have av:CA.size=p.length:=by rw[<-K,af7]
    have u:(execOp a.eval o).run P w=((match p[j]? with|some (some e)=>(do setObj cf (.mapIter (some E) g (l.push e.born) k);pure (.value (.tuple #[.bool true,e.key,e.val])))|some none=>pure (.value (.tuple #[.bool false]))|none=>stuck "Next: no such candidate"):Sem Next).run P A:=by simp only[execOp,ho,Instr.next,aw,ahc,Sem.run_bind,vq O (λ_ _ _=>by simp),Result.andThen_ok,lj k1,Q,abe,bD,ag,av,a'];rw[<-aga,K];cases f:p[j]? with|none=>simp only[stuck,Sem.run_bind];rfl|some c'=>cases c' with|none=>simp|some e=>simp only[Sem.run_bind,Sem.run_pure];cases Sem.run P (setObj cf (.mapIter (some E) g (l.push e.born) k)) A<;>rfl
    have L:=hj;rw[R]at L;cases f:p[j]? with
    |none=>rw[List.getElem?_eq_none_iff]at f;omega
    |some c'=>
     rw[f]at u;cases c' with
     |none=>
      have b4:((if N.isEmpty then[none]else[])++(N++nA).map some:List (Option aT))[j]?=some none:=by
       simp only[p]at f;by_cases he:F.isEmpty=true;·rw[B];simp only[he,bf]at f⊢;cases j with|zero=>simp|succ j=>simp only[List.singleton_append,af9,af0,adN]at f;obtain⟨_,_,h⟩:=f;cases h
       have X:F.isEmpty=false:=by simpa using he
       simp only[X,abe,bD,agq,af0,adN]at f;obtain⟨_,_,h⟩:=f;cases h
      refine⟨j,none,L,b4,bt.val (c:=.tuple #[.bool false]) (w':=A) ?_ ⟨ρ,bQ.refl ρ,by simp[VR,aQ],a1,a2⟩⟩;rw[u];simp
     |some e=>
      obtain⟨C,b6,v1,v2,v3⟩:∃C:aT,((if N.isEmpty then[none]else[])++(N++nA).map some:List (Option aT))[j]?=some (some C)/\VR ρ C.key e.key/\VR ρ C.val e.val/\C.born=e.born:=by
       simp only[p]at f;by_cases he:F.isEmpty=true;·rw[B];simp only[he,bf]at f⊢;cases j with|zero=>simp at f|succ j=>simp only[List.singleton_append,af9,af0,adN]at f⊢;obtain⟨e0,h0,t⟩:=f;injection t with t;subst t;obtain⟨C,q1,q2,q3,q4⟩:=d.get j e0 h0;exact⟨C,⟨C,q1,rfl⟩,q2,q3,q4⟩
       rw[B];have X:F.isEmpty=false:=by simpa using he
       simp only[X,abe,bD,agq,af0,adN]at f⊢;obtain⟨e0,h0,t⟩:=f;injection t with t;subst t;obtain⟨C,q1,q2,q3,q4⟩:=d.get j e0 h0;exact⟨C,⟨C,q1,rfl⟩,q2,q3,q4⟩
      have ba:A.heap[cf]?=some (.mapIter (some E) g l t'):=by rw[T];exact O
      have bb:=vm (P:=P) A ba (λ_ _ _=>by simp) (.mapIter (some E) g (l.push e.born) k);have hu:=a1.nV (i:=id) (o':=.mapIter (some m) g (seen++[C.born]) k) (ob':=.mapIter (some E) g (l.push e.born) k) (w':={A with heap:=A.heap.setIfInBounds cf (.mapIter (some E) g (l.push e.born) k)}) (by rw[hi];simp) (by rw[hi];rfl) hb rfl (by simp only[OR];exact⟨trivial,ax,trivial,by rw[Array.toList_push,h3,v3],trivial⟩) (by simp[dI]) rfl rfl rfl rfl;rw[hi]at hu;refine⟨j,some C,L,b6,bt.val (c:=.tuple #[.bool true,e.key,e.val]) (w':=_) ?_ ⟨ρ,bQ.refl ρ,by simp[VR,aQ,v1,v2],hu.1,a2.trans hu.2⟩⟩;rw[u];simp only[Sem.run_bind,bb,Result.andThen_ok,Sem.run_pure]
   cases he
  cases he
 cases he
end
section
variable{P:Program}{b:bS}{ρ:aO}{H H':ah}{w:World}{nt:Nat}{aa:ak AV}{a:Act}{o:Oper}{ao:bE}{v:AV}
theorem Rc(h:cO P b ρ H w nt aa a){op:BinOp}{t r:TypeId}{x y:Operand}(j:o.op=.binOp op t x y r)(c:bG P nt o=some ao)(he:aD ao aa H=some (v,H')):bt P b ρ w (execOp a.eval o) v H':=by
 have hu:∃d,P.underlying t=some d:=by simp only[bG,j,acC,eY]at c;cases hu:P.underlying t with|none=>rw[hu]at c;simp at c|some d=>exact⟨d,rfl⟩
 obtain⟨d,hu⟩:=hu;by_cases hint:∃k,d=.int k
 .obtain⟨k,rfl⟩:=hint;by_cases hs:op=.shl\/op=.shr;·exact Qk h j hu hs c he
  exact Qj h j hu (by simpa[not_or]using hs) c he
 by_cases f:d=.string;·subst f;exact Qn h j hu c he
 have n:∀k,P.underlying t≠some (.int k):=λk e=>by rw[hu]at e;injection e with e;exact hint ⟨k,e⟩
 have p:P.underlying t≠some .string:=λe=>by rw[hu]at e;injection e with e;exact f e
 have key:∃neg i l m,op=(if neg then .neq else .eql)/\hZ P 16 (nS x||nS y) t=some i/\uV P i t=true/\eC P nt x=some l/\eC P nt y=some m/\ao=.eq neg i l m:=by
  simp only[bG,j,acC,eY,hu,agH]at c;cases op<;>cases d<;>first|(exact absurd ⟨_,rfl⟩ hint)|(exact absurd rfl f)|(simp at c;done)|skip
  all_goals
   simp only[aaU]at c;obtain⟨i,g,c⟩:=c;split at c;case isFalse=>cases c
   rename_i hg;simp only[aaU,aeO,aaM]at c;obtain⟨l,h1,m,h2,h3⟩:=c;first|exact⟨false,i,l,m,rfl,g,hg,h1,h2,h3.symm⟩|exact⟨true,i,l,m,rfl,g,hg,h1,h2,h3.symm⟩
 obtain⟨neg,i,l,m,q,g,hg,h1,h2,rfl⟩:=key;exact QZ h j q g hg h1 h2 n p he
theorem Re(h:cO P b ρ H w nt aa a){c:Call}{l:Builtin}(f:o.op=.call c)(hb:c.callee=.builtin l)(g:bG P nt o=some ao)(he:aD ao aa H=some (v,H')):bt P b ρ w (execOp a.eval o) v H':=by
 cases l with
 |len=>exact QB h f hb g he
 |cap=>exact QC h f hb g he
 |append=>exact QO h f hb g he
 |copy=>exact QP h f hb g he
 |delete=>exact Q8 h f hb g he
 |min=>exact JH (isMax:=false) h f hb g he
 |max=>exact JH (isMax:=true) h f hb g he
 |clear=>
  have e:=g;simp only[bG,f,hb,acC,aaU]at e;obtain⟨t,j,d,hd,e⟩:=e;split at e;·simp only[aaU,aeO,aaM]at e;obtain⟨z,k,i,_,h3⟩:=e;exact QQ h f hb h3.symm g he
  .simp only[aaU,aeO,aaM]at e;obtain⟨i,_,h3⟩:=e;exact Q9 h f hb h3.symm g he
  cases e
 |_=>simp[bG,f,hb]at g
theorem vr(h:cO P b ρ H w nt aa a)(g:bG P nt o=some ao)(he:aD ao aa H=some (v,H')):bt P b ρ w (execOp a.eval o) v H':=by
 cases j:o.op with
 |move x=>exact Jz h (.inl j) g he
 |assign x=>exact Jz h (.inr j) g he
 |pick c x y=>exact Qa h j g he
 |alloc e=>exact Qb h j g he
 |box e x=>exact Qc h j g he
 |build t dA=>exact QE h j g he
 |buildSlice t len dA=>exact QF h j g he
 |insert t m k x=>exact J8 h (.inr j) g he
 |load t x=>exact Qd h j g he
 |store t x y=>exact Qf h j g he
 |nilCheck x=>exact Qg h j g he
 |binOp op t x y n=>exact Rc h j g he
 |unOp op t x=>exact Qo h j g he
 |convert s d x=>exact QI h j g he
 |makeInterface t x=>exact Qp h j g he
 |makeFunc f x y=>cases f with|func f=>exact Qq h j g he|_=>simp[bG,j]at g
 |makeMap t r=>cases r with|none=>exact Qr h j g he|some r=>simp[bG,j]at g
 |makeSlice t x y=>exact QH h j g he
 |slice t x lo hi p=>exact Qz h j g he
 |fieldAddr t x i=>exact Qt h j g he
 |field t x i=>exact Qs h j g he
 |indexAddr t x i=>exact Qv h j g he
 |index t x i=>exact Qw h j g he
 |lookup t m k ok=>exact Q3 h j g he
 |mapUpdate t m k x=>exact J8 h (.inl j) g he
 |mapEntry t m k=>exact Q5 h j g he
 |entryStore t m s x=>exact Q6 h j g he
 |range t x=>exact Q' h j g he
 |next l s=>exact Ra h j g he
 |entry l=>exact Rb h j g he
 |typeAssert x q t ok=>exact QJ h j g he
 |extract x i=>exact Qu h j g he
 |call c=>cases hb:c.callee with|builtin u=>exact Re h j hb g he|value f=>simp only[bG,j,hb,acC,aaU,aeO,aaM]at g;obtain⟨_,_,_,_,rfl⟩:=g;simp[aD]at he|invoke r m=>simp[bG,j,hb]at g
 |_=>simp[bG,j]at g
end
section
variable{P:Program}{b:bS}{ρ:aO}{H H':ah}{w:World}{nt:Nat}{aa:ak AV}
def ig(ρ:aO):List af->List Deferred->Prop
 |[],[]=>True
 |i::l,d::m=>(∃r,ρ i=some (r,0)/\d={target:=.collected r,args:= #[]})/\ig ρ l m
 |_,_=>False
theorem ig.mono{ρ a:aO}(h:bQ ρ a):∀{l:List af}{m:List Deferred},ig ρ l m->ig a l m|[],[],_=>trivial|_::_,_::_,k=>⟨by obtain⟨⟨r,h1,h2⟩,_⟩:=k;exact⟨r,(h _ _ h1).1,h2⟩,ig.mono h k.2⟩|[],_::_,k=>by simp[ig]at k|_::_,[],k=>by simp[ig]at k
structure fC(ρ:aO)(nt:Nat)(fr:Fr)(ro:Option Nat)(a:Act):Prop where
 E:gj ρ nt fr.aa a.tmps
 D:ig ρ fr.br a.defers
 R:lg ρ fr.bw ro
theorem fC.mono{ρ c:aO}(h:bQ ρ c){fr:Fr}{ro:Option Nat}{a:Act}(k:fC ρ nt fr ro a):fC c nt fr ro a:=⟨k.E.mono h,k.D.mono h,by
 have:=k.R;revert this;cases fr.bw<;>cases ro<;>simp only[lg]<;>intro q;·trivial
 .exact q
 .exact q
 exact(h _ _ q).1⟩
def vt(k:List Item):bU->List Item->Prop
 |.none,t=>t=k
 |.exit id,t=>∃a,t=.code (.exit id)::a/\exitTo id a=exitTo id k
 |.ret,t=>∃a,t=.code .ret::a
def lQ(f:Value)(args:Array Value):Sem Next:=do
 let d<-Deferred.ofValue f args
 invoke d.target d.args
def nZ(fr:Frame):Prop:=
 match fr.todo with
 |.inRegion _ _::_|.inRangeFunc _::_=>True
 |_=>False
theorem BM{fr:Frame}{cs:List Frame}{s:Sem Next}{w a:World}{v:Value}(h:s.run P w=.ok (.value v) a):(stepG.apply P true fr cs none s w).bare=.go {frame:=fr.finish v,callers:=cs,status:=.running,dying:=none} a:=by simp[stepG.apply,h]
theorem FW{fr:Frame}{cs:List Frame}{s:Sem Next}{w a:World}(h:s.run P w=.ok .skip a):(stepG.apply P true fr cs none s w).bare=.go {frame:=fr.finish undef,callers:=cs,status:=.running,dying:=none} a:=by simp[stepG.apply,h]
theorem Kd{fr:Frame}(a:nZ fr){cs:List Frame}{s:Sem Next}{w c:World}{f:FuncId}{args:Array Value}(h:s.run P w=.ok (.enter f args) c):(stepG.apply P true fr cs none s w).bare=.go {frame:=Frame.enter P f args .normal,callers:=fr::cs,status:=.running,dying:=none} c:=by obtain⟨fn,tmps,d,defers,mode,kind,e⟩:=fr;unfold nZ at a;simp only at a;split at a<;>first|(exact False.elim a)|simp[stepG.apply,h]
theorem Rf{fr:Frame}(a:nZ fr){cs:List Frame}{s:Sem Next}{w c:World}{l:Nat}{f:FuncId}{tmps:Array Value}{assign body:Code}(h:s.run P w=.ok (.round l f tmps assign body) c):(stepG.apply P true fr cs none s w).bare=.go {frame:=Frame.round l f tmps assign body .normal,callers:=fr::cs,status:=.running,dying:=none} c:=by obtain⟨fn,tmps,d,defers,mode,kind,e⟩:=fr;unfold nZ at a;simp only at a;split at a<;>first|(exact False.elim a)|simp[stepG.apply,h]
theorem Ke:∀(l:List AV)(p:Nat)(t:ak AV)(i:Nat),(iS l (af.cr p) t).get .ahp (af.cr i)=if p<=i/\i<p+l.length then l.getD (i - p) .ahp else t.get .ahp (af.cr i)
 |[],p,t,i=>by rw[iS,ap (by simp only[List.length_nil];omega)]
 |v::l,p,t,i=>by
  rw[iS,show(af.cr p).succ=af.cr (p+1)from rfl,Ke l (p+1),ak.aC];simp only[afB];by_cases h1:p+1<=i/\i<p+1+l.length;·rw[aJ h1,aJ ab,show i - p=(i - (p+1))+1 by omega];simp
  rw[ap h1];by_cases h2:i=p;·subst h2;rw[aJ rfl,aJ ab];simp
  rw[ap (λe=>h2 (af.aY e)),ap ab]
theorem FX:∀p:af,(ak.aG:ak AV).get .ahp p=.ahp|.xH=>rfl|.xO p=>by show(ak.aG:ak AV).get .ahp p=.ahp;exact FX p|.xI p=>by show(ak.aG:ak AV).get .ahp p=.ahp;exact FX p
theorem FY{l:List AV}{args:Array Value}(h:aQ ρ l args.toList)(e:l.length<=nt):gj ρ nt (iS l .xH .aG) (args++aha (nt - args.size) undef):=by
 have hl:l.length=args.size:=by have:=aQ.length h;simpa using this
 refine⟨by simp;omega,λt f=>?_⟩;have:=Ke l 0 .aG t;rw[show af.cr 0=.xH from rfl]at this;rw[this,FX];by_cases h1:t<l.length
 .rw[aJ ab];obtain⟨c,a,d⟩:=aQ.get h t l[t] (by simp[h1]);have h2:t<args.size:=ab;have:(args++aha (nt - args.size) undef).getD t undef=c:=by rw[aga]at a;rw[af1,Array.getElem?_append_left h2,a];rfl
  rw[this];simpa[ahn,h1]using d
 rw[ap ab];have:(args++aha (nt - args.size) undef).getD t undef=undef:=by rw[af1,Array.getElem?_append_right ab,Array.getElem?_replicate];split<;>rfl
 rw[this];exact VR.ahp ρ
theorem Kf:∀{ps:List Tmp}{d:List AV}{cs:List Value}{aa:ak AV}{tmps:Array Value},gj ρ nt aa tmps->aQ ρ d cs->d.length=ps.length->gj ρ nt (kF (ps.map af.cr) d aa) ((ps.zip cs).foldl (λtmps(p:Tmp×Value)=>tmps.setIfInBounds p.1 p.2) tmps)|[],[],[],aa,tmps,h,_,_=>by simpa[kF]using h|p::ps,v::d,c::cs,aa,tmps,h,a,hl=>by simp only[aQ]at a;simp only[afp,kF,List.zip_cons_cons,List.foldl_cons];exact Kf (h.set a.1) a.2 (by simpa using hl)|[],_::_,_,_,_,_,_,hl=>by simp at hl|_::_,[],_,_,_,_,_,hl=>by simp at hl|_,[],_::_,_,_,_,a,_=>by simp[aQ]at a|_,_::_,[],_,_,_,a,_=>by simp[aQ]at a
theorem BN:∀{l:List af}{k:List Deferred}{H H':ah}{w:World},bj P b ρ H w->ig ρ l k->gZ H l=some H'->∀(fr:Frame)(cs:List Frame),fr.mode=.returning->∃w',Steps P (lone {fr with defers:=k} cs w) (lone {fr with defers:=[]} cs w')/\bj P b ρ H' w'/\cX b w w'
 |[],[],H,H',w,m,_,h,fr,cs,_=>by simp only[gZ,aaM]at h;subst h;exact⟨w,Steps.refl _ _,m,cX.refl b w⟩
 |i::l,d::k,H,H',w,m,a,h,fr,cs,o=>by
  simp only[ig]at a;obtain⟨⟨r,p,rfl⟩,a⟩:=a;simp only[gZ]at h;split at h
  .rename_i hi;have g:H.get i≠.none:=by rw[hi];simp
   obtain⟨z,A,q,n,y,j,c⟩:=m.bm g;rw[p]at n;injection n with n;injection n with s t;subst s;subst t;rw[hi]at c;cases q<;>simp only[OR]at c;rename_i cs';obtain⟨_,e⟩:=c;have e:=e trivial;subst e;have hu:=m.nV (i:=i) (o':=.deferred true) (ob':=.deferred none) g (by rw[hi];rfl) p rfl (by simp only[OR];exact⟨trivial,λh=>by cases h⟩) (by simp[dI]) (w':={w with heap:=w.heap.setIfInBounds r (.deferred none)}) rfl rfl rfl rfl;rw[hi]at hu;obtain⟨w',u,v,x⟩:=BN hu.1 a h fr cs o;have f:(Instr.takeDeferred r).run P w=.ok [] {w with heap:=w.heap.setIfInBounds r (.deferred none)}:=by simp only[Instr.takeDeferred,Sem.run_bind,vq j (λ_ _ _=>by simp),Result.andThen_ok,vm w j (λ_ _ _=>by simp),Sem.run_pure]
   refine⟨w',.head (step_lone_go (fr':={fr with defers:=k}) (cs':=cs) (w':={w with heap:=w.heap.setIfInBounds r (.deferred none)}) ?_) u,v,hu.2.trans x⟩;simp[stepG,o,unwind,Sem.runT_eq,f]
  cases h
 |[],_::_,_,_,_,_,a,_,_,_,_=>by simp[ig]at a
 |_::_,[],_,_,_,_,a,_,_,_,_=>by simp[ig]at a
def BO(tmps:Array Value):ResultVar->Sem Value
 |.tmp t=>pure (tmps.getD t undef)
 |.cell a t=>do loadVar t (<-asAddr (tmps.getD a undef))
theorem Rg(fn:Func)(tmps:Array Value):results fn tmps=(do let a<-fn.results.mapM (BO tmps)pure (if h:a.size=1 then a[0]else .tuple a)):=rfl
theorem FZ(j:bj P b ρ H w){aa:ak AV}{tmps:Array Value}(i:gj ρ nt aa tmps):∀{k:List ResultVar}{d:List fR}{l:List AV},k.mapM (u6 P nt)=some d->ef aa H d=some l->∃e:List Value,aQ ρ l e/\(k.mapM (BO tmps)).run P w=.ok e w
 |[],d,l,h1,h2=>by simp only[List.mapM_nil,aeO,aaM]at h1;subst h1;simp only[ef,aaM]at h2;subst h2;exact⟨[],by simp[aQ],aF⟩
 |r::k,d,l,h1,h2=>by
  simp only[ag5,acC,aaU,aeO,aaM]at h1;obtain⟨ar,a,x,f,rfl⟩:=h1;cases r with
  |tmp t=>
   simp only[u6]at a;split at a
   .rename_i m;injection a with a;subst a;simp only[ef,adN]at h2;obtain⟨A,p,rfl⟩:=h2;obtain⟨e,n,o⟩:=FZ j i f p;refine⟨tmps.getD t undef::e,?_,?_⟩;·simp only[aQ];exact⟨i.2 t m,n⟩
    simp only[ag5,BO,Sem.run_bind,Sem.run_pure,Result.andThen_ok,o]
   cases a
  |cell ad t=>
   simp only[u6]at a;split at a
   .rename_i g s hg hs;split at a
    .rename_i m;injection a with a;subst a;simp only[ef]at h2;split at h2
     .rename_i v B y q;injection h2 with h2;subst h2;obtain⟨C,hb,c,z,u⟩:=JA j (i.2 ad m) hg (λh=>by rw[h];exact hs) (λh=>by rw[h];rfl) y;obtain⟨e,n,o⟩:=FZ j i f q;refine⟨c::e,?_,?_⟩;·simp only[aQ];exact⟨u,n⟩
      simp only[ag5,BO,hb,asAddr,Sem.run_bind,Sem.run_pure,Result.andThen_ok,z,o]
     cases h2
    cases a
   cases a
theorem F1(f:bj P b ρ H w){aa:ak AV}{tmps:Array Value}{fn:Func}(g:gj ρ fn.ntmps aa tmps){d:List fR}{l:List AV}(h1:fn.results.toList.mapM (u6 P fn.ntmps)=some d)(h2:ef aa H d=some l):∃c,(results fn tmps).run P w=.ok c w/\VR ρ (fL l) c:=by obtain⟨e,a,h⟩:=FZ f g h1 h2;have hl:=aQ.length a;rw[Rg,Array.mapM_eq_mapM_toList];simp only[Sem.run_bind,Sem.run_map,h,Result.andThen_ok,Sem.run_pure];match l,e,a,hl with|[],[],_,_=>exact⟨.tuple #[],aF,by simp[fL,VR,aQ]⟩|[v],[c],a,_=>exact⟨c,aF,by simp only[aQ]at a;exact a.1⟩|v::i::l,c::c2::e,a,_=>refine⟨.tuple (c::c2::e).toArray,aF,?_⟩;simp only[fL,VR];exact a
end
section
variable{P:Program}
abbrev cA:Nat->(Nat->Prop)->Prop:=λn k=>∀i,i<n->k i
def vu(P:Program)(e:bS)(f:aO)(w:World)(s:Sem Next)(fr:Frame)(cs:List Frame)(K:KT):Prop:=
 ∃v b c w' fr1 a d,K v b/\bZ P e f w v b c w'/\
  (stepG.apply P true fr cs none s w).bare=.go {frame:=fr1,callers:=a,status:=.running,dying:=none} d/\Steps P (lone fr1 a d) (lone (fr.finish c) cs w')
def rp(P:Program)(f:FuncId)(g:List AV->ah->Option (AV×ah)):Prop:=
 ∀{c:bS}{a:aO}{H d:ah}{w:World}{args:List AV}{v:AV}{argv:Array Value},g args H=some (v,d)->aQ a args argv.toList->bj P c a H w->∀(fr:Frame)(cs:List Frame),nZ fr->
  vu P c a w (callFunc f argv) fr cs λe b=>e=v/\b=d
def pc(P:Program)(ac:Nat->aX)(n:Nat):Prop:=
 ∀{b:bS}{a:aO}{H:ah}{w:World}{c:AV}{args:List AV}{K:KT}{fv:Value}{argv:Array Value},dT False cA ac n c args H K->VR a c fv->aQ a args argv.toList->bj P b a H w->
  ∀(fr:Frame)(cs:List Frame),nZ fr->vu P b a w (lQ fv argv) fr cs K
def gk(P:Program)(d:bS)(g:aO)(h:Nat)(w:World)(b:Frame)(k:List Item)(cs:List Frame)(m:Machine)(K:bU->Fr->ah->Prop):Prop:=
 ∃j c e a f w' t,K j c e/\bQ g a/\fC a h c b.roundOf f/\bj P d a e w'/\cX d w w'/\vt k j t/\Steps P m (lone (b.atR f t) cs w')
def tb(P:Program)(t:Nat)(g:ak AV->ah->Option (ak AV×ah)):Prop:=
 ∀{f:bS}{e:aO}{H h:ah}{w:World}{d:Nat}{fr:Fr}{c1 c2:Code}{x y:bg}{c:ak AV}{b:Frame}{a:Act},dt P d c1=some x->dt P d c2=some y->Ov.code t=.seq x y->g fr.aa H=some (c,h)->fC e d fr b.roundOf a->bj P f e H w->
  ∀(k:List Item)(cs:List Frame),gk P f e d w b k cs (lone (b.atR a (.code (.seq c1 c2)::k)) cs w) λj fr1 H1=>j=.none/\fr1={fr with aa:=c}/\H1=h
structure fM(P:Program)(ac:Nat->aX):Prop where
 code:∀f nt rs body,ac f=.code nt rs body->∃fn,P.funcs[f]?=some fn/\oX P fn=some (.code nt rs body)/\(fn.name== "runtime.NumGoroutine")=false
 gf:∀f g,ac f=.gf g->rp P f g
 dD:∀t g,ac t=.dD g->tb P t g
def vA(P:Program)(ac:Nat->aX)(n:Nat):Prop:=
 ∀{f:bS}{d:aO}{H:ah}{w:World}{e:Nat}{fr:Fr}{c:bg}{cc:Code}{K:bU->Fr->ah->Prop}{b:Frame}{a:Act},dt P e cc=some c->exec False cA ac n c fr H K->fC d e fr b.roundOf a->bj P f d H w->
  ∀(k:List Item)(cs:List Frame),gk P f d e w b k cs (lone (b.atR a (.code cc::k)) cs w) K
def qn(P:Program)(a:Nat)(az:Array Oper):List Nat->List bA->Prop
 |[],[]=>True
 |i::is,x::l=>(∃o,az[i]?=some o/\nT P a az o=some x)/\qn P a az is l
 |_,_=>False
def BP(P:Program)(ac:Nat->aX)(n:Nat):Prop:=
 ∀{e:bS}{c:aO}{H:ah}{w:World}{d:Nat}{fr:Fr}{l:List bA}{is:List Nat}{az:Array Oper}{K:Fr->ah->Prop}{b:Frame}{a:Act},qn P d az is l->Go.al.az False cA ac n l fr H K->fC c d fr b.roundOf a->bj P e c H w->
  ∀(k:List Item)(cs:List Frame),gk P e c d w b k cs (lone (b.atR a (.inRegion az is::k)) cs w) λj fr H=>(match j with|.none=>True|_=>False)/\K fr H
theorem gk.fN{d:bS}{e:aO}{f:Nat}{w:World}{b:Frame}{k:List Item}{cs:List Frame}{m g:Machine}{K:bU->Fr->ah->Prop}(h:Steps P m g)(i:gk P d e f w b k cs g K):gk P d e f w b k cs m K:=by obtain⟨j,a,l,c,n,o,t,h1,h2,h3,p,q,r,s⟩:=i;exact⟨j,a,l,c,n,o,t,h1,h2,h3,p,q,r,h.trans s⟩
theorem gk.qp{c:bS}{f a:aO}{g:Nat}{w h:World}{b:Frame}{k:List Item}{cs:List Frame}{m:Machine}{K:bU->Fr->ah->Prop}(he:bQ f a)(i:cX c w h)(l:gk P c a g h b k cs m K):gk P c f g w b k cs m K:=by obtain⟨j,d,n,e,o,p,t,h1,h2,h3,q,r,s,u⟩:=l;exact⟨j,d,n,e,o,p,t,h1,he.trans h2,h3,q,i.trans r,s,u⟩
theorem gk.mono{d:bS}{e:aO}{nt:Nat}{w:World}{b:Frame}{k:List Item}{cs:List Frame}{m:Machine}{K f:bU->Fr->ah->Prop}(g:gk P d e nt w b k cs m K)(h:∀j fr H,K j fr H->f j fr H):gk P d e nt w b k cs m f:=by obtain⟨j,a,i,c,l,n,t,h1,h2⟩:=g;exact⟨j,a,i,c,l,n,t,h _ _ _ h1,h2⟩
theorem fC.put{b:aO}{e:Nat}{fr:Fr}{f:Option Nat}{a:Act}(h:fC b e fr f a){v:AV}{c:Value}(g:VR b v c)(d:Option Tmp):fC b e {fr with aa:=aK fr.aa (d.map af.cr) v} f (a.put d c):=by cases d with|none=>exact⟨h.E,h.D,h.R⟩|some d=>exact⟨h.E.set g,h.D,h.R⟩
theorem vB{e:Nat}{az:Array Oper}{o:Oper}{x:bA}(h:nT P e az o=some x):x.dst=o.dst.map af.cr/\x.fQ=[]/\x.re=[]/\x.op=(if((bG P e o).getD .lG).uY&&!uX o.op then .lG else(bG P e o).getD .lG)/\((o.guard=none/\x.guard=none)\/∃j a g d,o.guard=some (j,a)/\az[j]?=some g/\g.dst=some d/\d<e/\x.guard=some (af.cr d,a)):=by
 unfold nT at h;simp only at h;split at h
 .rename_i d g hd hg;injection h with h;subst h;refine⟨?_,rfl,rfl,rfl,?_⟩
  .unfold Jr at hd;split at hd
   .rename_i k c;split at hd;·simp only[aaM]at hd;rw[<-hd,c];rfl
    cases hd
   rename_i c;simp only[aaM]at hd;rw[<-hd,c];rfl
  unfold Js at hg;split at hg;·rename_i c;simp only[aaM]at hg;exact .inl ⟨c,hg.symm⟩
  rename_i j a c;split at hg
  .rename_i k b;rw[aaU]at b;obtain⟨l,f,b⟩:=b;split at hg;·rename_i i;simp only[aaM]at hg;exact .inr ⟨j,a,l,k,c,f,b,i,hg.symm⟩
   cases hg
  cases hg
 cases h
theorem F3{aa:ak AV}{g:Option (af×Bool)}(h:dc aa g=true):iT aa g=true:=by
 cases g with
 |none=>rfl
 |some g=>
  obtain⟨p,b⟩:=g;simp only[dc]at h;simp only[iT];split at h;·rename_i he;rw[he];rfl
  cases h
theorem Kg{k:aO}{f:Nat}{fr:Fr}{ro:Option Nat}{a:Act}(h:fC k f fr ro a){az:Array Oper}{o:Oper}{x:bA}(l:nT P f az o=some x)(b:iT fr.aa x.guard=true):Region.wanted o (yielded az a.tmps)=dc fr.aa x.guard:=by
 obtain⟨_,_,_,_,hg⟩:=vB l;rcases hg with⟨h1,h2⟩|⟨j,e,g,d,h1,h2,h3,i,m⟩;·rw[h2];simp[Region.wanted,h1,dc]
 rw[m]at b⊢;simp only[iT]at b;have c:=h.E.2 d i;have hs:d<a.tmps.size:=by rw[h.E.1];exact i
 have n:a.tmps[d]?=some (a.tmps.getD d undef):=by rw[af1,getElem?_pos a.tmps d hs];rfl
 simp only[Region.wanted,h1,yielded,h2,h3,agH,n,dc];cases he:fr.aa.get .ahp (af.cr d)with|bool q=>rw[he]at c;rw[c.nW];cases q<;>cases e<;>rfl|b9=>rw[he]at b;simp[AV.bC]at b|_=>rw[he]at c;cases p:a.tmps.getD d undef<;>rw[p]at c<;>first|rfl|(simp[VR]at c;done)
end
section
variable{P:Program}
theorem gk.BQ{d:bS}{c:aO}{H:ah}{w:World}{e:Nat}{fr:Fr}{K:bU->Fr->ah->Prop}{b:Frame}{a:Act}(f:fC c e fr b.roundOf a)(g:bj P d c H w)(h:K .none fr H)(k:List Item)(cs:List Frame):gk P d c e w b k cs (lone (b.atR a k) cs w) K:=⟨.none,fr,H,c,a,w,k,h,bQ.refl c,f,g,cX.refl d w,rfl,Steps.refl _ _⟩
theorem Kh{b:Nat}{o:Oper}{f:aL}{args:List aL}(a:uX o.op=true)(e:bG P b o=some (.call f args)):∃c g,o.op=.call c/\c.callee=.value g/\eC P b g=some f/\rf P b c.args=some args:=by
 unfold uX at a;split at a
 .rename_i c h;split at a;·rename_i g hg;simp only[bG,h,hg,acC,aaU,aeO,aaM]at e;obtain⟨k,h1,d,h2,h3⟩:=e;injection h3 with i j;subst i;subst j;exact⟨c,g,h,hg,h1,h2⟩
  cases a
 cases a
theorem zG{a:Nat}{o:Oper}{x:bE}(b:bG P a o=some x):∀c,o.op≠.defer c:=by intro c e;simp[bG,e]at b
theorem Rh{ac:Nat->aX}{n:Nat}(O:pc P ac n)(X:BP P ac n):BP P ac (n+1):=by
 intro V S H w B fr l is az K b a T he C D k cs;cases l with
 |nil=>cases is with|cons i is=>simp[qn]at T|nil=>simp only[Go.al.az]at he;exact .fN (.one stepR_region_end) (.BQ C D ⟨trivial,he⟩ k cs)
 |cons x l=>
  cases is with
  |nil=>simp[qn]at T
  |cons i is=>
   simp only[qn]at T;obtain⟨⟨o,A,hx⟩,T⟩:=T;obtain⟨xd,xh,xr,Z,_⟩:=vB hx;have hg:=Kg C hx;have after:∀{s:aO}{z:ah}{w':World}{v:AV}{c:Value},bQ S s->VR s v c->bj P V s z w'->cX V w w'->Steps P (lone (b.atR a (.inRegion az (i::is)::k)) cs w) (lone (b.atR (a.put o.dst c) (.inRegion az is::k)) cs w')->Go.al.az False cA ac n l {fr with aa:=aK fr.aa x.dst v} z K->gk P V S B w b k cs (lone (b.atR a (.inRegion az (i::is)::k)) cs w) λj fr H=>(match j with|.none=>True|_=>False)/\K fr H:=by intro s z w' v c h F t G hs M;have W:=(C.mono h).put F o.dst;rw[<-xd]at W;exact .qp h G (.fN hs (X T M W t k cs))
   have u:∀c,(b.atR a (.inRegion az (i::is)::k)).finish c=b.atR (a.put o.dst c) (.inRegion az is::k):=by intro c;rw[Frame.finish_atR,A];rfl
   simp only[Go.al.az,xh,xr,cW,cH,du,bf]at he;cases N:dc fr.aa x.guard with
   |false=>
    rw[N]at he hg;simp only[abe,bD]at he;split at he;case isFalse=>exact he.elim
    rename_i ag;have hg:=hg ag;have cD:=stepR_op_skip (P:=P) (b:=b) (a:=a) (k:=k) (cs:=cs) (w:=w) (ops:=az) (i:=i) (rest:=is) (by simp[A,hg]);rw[A]at cD;exact after (bQ.refl S) (VR.ahp S) D (cX.refl V w) (.one cD) he
   |true=>
    have hg:=hg (F3 N);rw[N]at he hg;simp only[bf]at he;have e:=stepGR_op (P:=P) (b:=b) (a:=a) (k:=k) (cs:=cs) (w:=w) (rest:=is) A hg;have plain:∀{v:AV}{z:ah},aD x.op fr.aa H=some (v,z)->Go.al.az False cA ac n l {fr with aa:=aK fr.aa x.dst v} z K->gk P V S B w b k cs (lone (b.atR a (.inRegion az (i::is)::k)) cs w) λj fr H=>(match j with|.none=>True|_=>False)/\K fr H:=by
     intro v z p M;have r:bG P B o=some x.op:=by
      rw[Z]at p;rw[Z];split at p;·simp[aD]at p
      rename_i I;rw[ap I];cases J:bG P B o with|none=>rw[J]at p;simp[aD]at p|some q=>rfl
     rw[Oper.semAt_eq _ _ _ (zG r)]at e;obtain⟨c,w',y,s,h,F,t,G⟩:=vr (cO.mk C.E D) r p;refine after h F t G (.one (step_lone_go ?_)) M;rw[e,<-u];rcases y with L|⟨L,rfl⟩;·exact BM L
     exact FW L
    split at he
    .rename_i f args d;have m:bG P B o=some (.call f args)/\uX o.op=true:=by
      rw[Z]at d;split at d;·cases d
      rename_i I;rw[d]at I;simp only[bE.uY,ahb,af4,Bool.not_eq_false]at I;refine⟨?_,I⟩;cases J:bG P B o with|none=>rw[J]at d;cases d|some q=>rw[J]at d;simp only[af5]at d;rw[d]
     obtain⟨c,g,ho,av,h1,h2⟩:=Kh m.2 m.1;rw[Oper.semAt_eq _ _ _ (zG m.1)]at e;have Y:execOp a.eval o=lQ (a.eval g) (c.args.map a.eval):=by simp only[execOp,ho,resolve,av,lQ]
     rw[Y]at e;have Q:aQ S (args.map (gv fr.aa)) (c.args.map a.eval).toList:=by rw[Array.toList_map];exact vj C.E D h2
     obtain⟨v,z,c',w',ay,a1,w1,G,⟨s,h,F,t,R⟩,hb,hs⟩:=O he (vi h1 C.E D) Q D (b.atR a (.inRegion az (i::is)::k)) cs (by simp[nZ,Frame.atR]);refine after h F t R ?_ G;rw[<-u];exact .head (step_lone_go (by rw[e];exact hb)) hs
    .rename_i it d;have r:bG P B o=some (.jG it):=by
      rw[Z]at d;split at d;·cases d
      cases J:bG P B o with|none=>rw[J]at d;cases d|some q=>rw[J]at d;simp only[af5]at d;rw[d]
     split at he
     .rename_i ax a2 I;obtain⟨j,cd,hj,aw,c,w',y,s,h,F,t,G⟩:=Kc (cO.mk C.E D) r I;have he:=he j hj;simp only[aw]at he;rw[Oper.semAt_eq _ _ _ (zG r)]at e;refine after h F t G (.one (step_lone_go ?_)) he;rw[e,<-u];rcases y with L|⟨L,rfl⟩;·exact BM L
      exact FW L
     exact he.elim
    split at he;·rename_i v z p;exact plain p he
    exact he.elim
end
section
variable{P:Program}
def Ki(P:Program)(ac:Nat->aX)(n:Nat):Prop:=
 ∀{e:bS}{c:aO}{H:ah}{w:World}{d:Nat}{fr:Fr}{l:List bA}{id:Nat}{az:Array Oper}{K:Fr->ah->Prop}{b:Frame}{a:Act},sU P d az true=some l->Go.al.az False cA ac n l fr H K->fC c d fr b.roundOf a->bj P e c H w->
  ∀(k:List Item)(cs:List Frame),gk P e c d w b k cs (lone (b.atR a (.code (.region id az true)::k)) cs w) λj fr H=>(match j with|.none=>True|_=>False)/\K fr H
theorem vt.pd{x:Item}(c:∀id k,exitTo id (x::k)=exitTo id k){k:List Item}{j:bU}{t:List Item}(hj:match j with|.none=>False|_=>True)(h:vt (x::k) j t):vt k j t:=by cases j with|none=>exact hj.elim|exit id=>obtain⟨d,h1,h2⟩:=h;exact⟨d,h1,h2.trans (c id k)⟩|ret=>exact h
theorem Ri{d:Nat}{az:Array Oper}{l:List bA}(h:sU P d az false=some l):qn P d az (agA az.size) l:=by
 simp only[sU,acC,aaU,Bool.not_false,bf,aeO,aaM]at h;obtain⟨e,h,rfl⟩:=h;have key:∀(b8 c:List Oper)(l:List bA),az.toList=b8++c->c.mapM (nT P d az)=some l->qn P d az (List.range' b8.length c.length) l:=by
  intro b8 c;induction c generalizing b8 with
  |nil=>intro l _ h;simp at h;subst h;simp[qn]
  |cons o c i=>
   intro l g h;simp only[ag5,acC,aaU,aeO,aaM]at h;obtain⟨x,j,e,f,rfl⟩:=h;simp only[afB,List.range'_succ,qn];refine⟨⟨o,?_,j⟩,?_⟩;·rw[<-aga,g];simp
   have:=i (b8++[o]) e (by rw[g];simp) f;simpa using this
 have:=key [] az.toList e rfl h;rw[List.range_eq_range'];simpa using this
section
variable{b:Frame}{a:Act}{k:List Item}{cs:List Frame}{w:World}
theorem Kj{c:Code}:step P (lone (b.atR a (.code (.scope c)::k)) cs w)=.next (lone (b.atR a (.code c:: .inScope c::k)) cs w):=step_lone_go (by simp[stepG,stepG.exec,Frame.atR])
theorem Kk{c:Code}:step P (lone (b.atR a (.inScope c::k)) cs w)=.next (lone (b.atR a k) cs w):=step_lone_go (by simp[stepG,stepG.exec,Frame.atR])
end
theorem vC{m:bS}{f:aO}{H:ah}{w:World}(n:bj P m f H w){l:af}{st:oS}{bP:bU}{fn:Nat}{aa:ak AV}{i:List af}{as j:bg}{d:af}(hl:H.get l=.loop st bP fn aa i as j d){b:Nat}{x:Nat}(hb:f l=some (b,x)):∃r,x=0/\w.heap[b]?=some (.loop r)/\mP st r.state/\mQ bP r.pending/\f d=some (r.defers,0)/\r.params.toList.map af.cr=i/\∃g,gj f g aa r.tmps/\(∀p∈r.params.toList,p<g)/\dt P g r.assign=some as/\dt P g r.body=some j:=by obtain⟨u,v,o,e,t,h,c⟩:=n.bm (i:=l) (by rw[hl];simp);rw[hb]at e;injection e with e;injection e with q s;subst q;subst s;rw[hl]at c;cases o<;>simp only[OR]at c;exact⟨_,c.1,h,c.2⟩
theorem zH{b:Nat}{r:Loop}{w:World}(h:w.heap[b]?=some (.loop r)):(Instr.getLoop b).run P w=.ok r w:=by simp only[Instr.getLoop,Sem.run_bind,vq h (λ_ _ _=>by simp),Result.andThen_ok,Sem.run_pure]
theorem F4{f:bS}{g:aO}{H:ah}{w:World}(m:bj P f g H w){l:af}{st:oS}{bP:bU}{fn:Nat}{aa:ak AV}{h:List af}{as i:bg}{d:af}(hl:H.get l=.loop st bP fn aa h as i d){b:Nat}(hb:g l=some (b,0)){r:Loop}(n:w.heap[b]?=some (.loop r)){st':oS}{pend':bU}{s':LoopState}{p':Option Code}(h1:mP st' s')(h2:mQ pend' p')(e:Nat):(setObj b (.loop {r with state:=s',pending:=p'})).run P w=.ok () {w with heap:=w.heap.setIfInBounds b (.loop {r with state:=s',pending:=p'})}/\bj P f g (H.set l (.loop st' pend' e aa h as i d)) {w with heap:=w.heap.setIfInBounds b (.loop {r with state:=s',pending:=p'})}/\cX f w {w with heap:=w.heap.setIfInBounds b (.loop {r with state:=s',pending:=p'})}:=by
 obtain⟨s,_,c,t,u,o,p,q⟩:=vC m hl hb;rw[n]at c;injection c with c;injection c with c;subst c;have j:H.get l≠.none:=by rw[hl];simp
 have hu:=m.nV (i:=l) (o':=.loop st' pend' e aa h as i d) (ob':=.loop {r with state:=s',pending:=p'}) j (by rw[hl];rfl) hb rfl (by simp only[OR];exact⟨trivial,h1,h2,o,p,q⟩) (by simp[dI]) (w':={w with heap:=w.heap.setIfInBounds b (.loop {r with state:=s',pending:=p'})}) rfl rfl rfl rfl;rw[hl]at hu;exact⟨vm w n (λ_ _ _=>by simp) _,hu.1,hu.2⟩
end
section
variable{P:Program}
theorem Rj{ac:Nat->aX}{n:Nat}(S:pc P ac n){W:bS}{z:aO}{H:ah}{w:World}{A:Nat}{fr:Fr}{f:Operand}{of:aL}{q:Array Tmp}{as B:Code}{F G:bg}{K:bU->Fr->ah->Prop}{b:Frame}{a:Act}(hf:eC P A f=some of)(ba:dt P A as=some F)(bb:dt P A B=some G)(bd:∀p∈q.toList,p<A)(he:exec False cA ac (n+1) (.rangeFunc of (q.toList.map af.cr) F G) fr H K)(L:fC z A fr b.roundOf a)(X:bj P W z H w)(cf:List Item)(cs:List Frame):gk P W z A w b cf cs (lone (b.atR a (.code (.rangeFunc f q as B)::cf)) cs w) K:=by
 have J:∀{g:aO}{H1:ah}{i:World}{fr1:Fr}{mark:List Deferred}{d:af}{bd':Nat},bQ z g->cX W w i->bj P W g H1 i->fC g A fr1 b.roundOf {a with defers:=mark++a.defers}->g d=some (bd',0)->fr1.aa=fr.aa->(Instr.enterLoop b.fn a.tmps q as B b.roundOf).run P w=.ok (i.heap.size,mark) {i with heap:=i.heap.push (.loop {state:=.ready,pending:=none,fn:=b.fn,tmps:=a.tmps,params:=q,assign:=as,body:=B,defers:=bd'})}->(dT False cA ac n (gv fr1.aa of) [.yield H1.next] (H1.new (.loop .ready .none 0 fr1.aa (q.toList.map af.cr) F G d)) λ_ H'=>match H'.get H1.next with
  |.loop st bP fn aa q as B d=>match st with|.busy=>False|_=>K bP fr1 (H'.set H1.next (.loop .exhausted bP fn aa q as B d))
  |_=>False)->gk P W z A w b cf cs (lone (b.atR a (.code (.rangeFunc f q as B)::cf)) cs w) K:=by
  intro g H1 i fr1 mark d bd' s bv O Z hd ay a1 b0;have a2:∀j c y,g j=some (c,y)->c=i.heap.size->g.k i.heap.size=(0,0):=λj c y e hc=>by have:=O.dO j c y e;omega
  have t:bQ g (g.add H1.next i.heap.size 0 (0,0)):=aO.oZ _ _ _ (O.cS _ (adv _)).2 a2;obtain⟨M,q2,q3⟩:=O.alloc (o:=.loop .ready .none 0 fr1.aa (q.toList.map af.cr) F G d) (ob:=.loop {state:=.ready,pending:=none,fn:=b.fn,tmps:=a.tmps,params:=q,assign:=as,body:=B,defers:=bd'}) (0,0) (by simp[dI]) aF rfl (by simp only[OR];exact⟨trivial,by simp[mP],by simp[mQ],(t _ _ hd).1,by trivial,A,by rw[ay];exact(L.E.mono s).mono t,bd,ba,bb⟩);have b3:VR (g.add H1.next i.heap.size 0 (0,0)) (gv fr1.aa of) (a.eval f):=vi (a:={a with defers:=mark++a.defers}) hf (Z.E.mono M) q2;obtain⟨v,H',c,w',b4,b6,w2,hK,⟨b7,m,hv,ag,T⟩,hb,hs⟩:=S b0 b3 (args:=[.yield H1.next]) (argv:= #[.func (.yield i.heap.size) #[] #[]]) (by simp only[aQ,VR];exact⟨⟨aO.dU ..,by trivial,by trivial⟩,trivial⟩) q2 (b.atR {a with defers:=mark++a.defers} (.inRangeFunc i.heap.size::cf)) cs (by simp[nZ,Frame.atR]);rw[finish_atR_inRangeFunc]at hs;split at hK
  .rename_i st bP fn aa av aw ax d' hl;have u:=(m _ _ (aO.dU g H1.next i.heap.size 0 (0,0))).1;obtain⟨r,_,C,g1,N,_⟩:=vC ag hl u;have b':st≠.busy/\K bP fr1 (H'.set H1.next (.loop .exhausted bP fn aa av aw ax d')):=by cases st<;>first|exact hK.elim|exact⟨aF,hK⟩
   obtain⟨s1,s2,s3⟩:=F4 ag hl u C (st':=.exhausted) (s':=.exhausted) (pend':=bP) (p':=r.pending) (by simp[mP]) N fn;have a6:(Instr.endLoop i.heap.size).run P w'=.ok r.pending {w' with heap:=w'.heap.setIfInBounds i.heap.size (.loop {r with state:=.exhausted,pending:=r.pending})}:=by
    have cD:(r.state==.busy)=false:=by cases hs:r.state<;>rw[hs]at g1<;>cases st<;>simp_all[mP]
    simp only[Instr.endLoop,Sem.run_bind,zH C,Result.andThen_ok,cD,abe,bD,Sem.run_pure];have:(setObj i.heap.size (.loop {r with state:=.exhausted})).run P w'=_:=s1;rw[this];rfl
   have I:step P (lone (b.atR a (.code (.rangeFunc f q as B)::cf)) cs w)=.next (lone b4 b6 w2):=by
    refine step_lone_go ?_;rw[<-hb];have Q:=Frame.eval_atR b {a with defers:=mark++a.defers} (.inRangeFunc i.heap.size::cf);simp only[Frame.atR]at Q;have a8:(({a with defers:=mark++a.defers}:Act)).eval=a.eval:=by funext x;cases x<;>rfl
    rw[a8]at Q;have a':(do let d<-resolve a.eval {callee:=.value f,args:= #[.const (.func (.yield i.heap.size) #[] #[])],argTypes:= #[]} 0;invoke d.target d.args)=lQ (a.eval f) #[.func (.yield i.heap.size) #[] #[]]:=by simp[lQ,resolve,Act.eval]
    simp only[stepG,stepG.exec,Frame.atR,Sem.runT_eq,a1,GStep.bare_after,Q,a']
   have V:vt cf bP ((r.pending.map Item.code).toList++cf):=by cases hp:r.pending with|none=>rw[hp]at N;cases bP<;>simp_all[mQ,vt]|some cc=>rw[hp]at N;cases bP with|none=>simp[mQ]at N|exit id=>cases cc<;>simp only[mQ]at N;subst N;exact⟨cf,rfl,rfl⟩|ret=>cases cc<;>simp only[mQ]at N;exact⟨cf,rfl⟩
   refine⟨bP,fr1,_,b7,{a with defers:=mark++a.defers},_,_,b'.2,s.trans (M.trans m),(Z.mono M).mono m,s2,bv.trans (q3.trans (T.trans s3)),V,.head I (hs.trans (.one (stepR_endRangeFunc a6)))⟩
  exact hK.elim
 simp only[exec]at he;cases C:b.roundOf with
 |none=>
  have o:fr.bw=none:=by have:=L.R;rw[C]at this;cases h:fr.bw<;>rw[h]at this<;>simp_all[lg]
  rw[o]at he;simp only at he;have s:bQ z (z.add H.next w.heap.size 0 (0,0)):=aO.oZ _ _ _ (X.cS _ (adv _)).2 (λj c y e hc=>by have:=X.dO j c y e;omega);obtain⟨M,q2,q3⟩:=X.alloc (o:=.deferred false) (ob:=.deferred (some [])) (0,0) (by simp[dI]) aF rfl (by simp[OR]);refine J (fr1:=⟨fr.aa,H.next::fr.br,none⟩) (mark:=[{target:=.collected w.heap.size,args:= #[]}]) (d:=H.next) (bd':=w.heap.size) M q3 q2 ⟨L.E.mono M,?_,?_⟩ (aO.dU ..) rfl ?_ he;·simp only[agb,agq,ig];refine⟨?_,L.D.mono M⟩;exact⟨w.heap.size,aO.dU ..,rfl⟩
  .simp only[C,lg]
  simp only[C,Instr.enterLoop,Sem.run_bind,run_newObj,Result.andThen_ok,Sem.run_pure]
 |some l=>
  obtain⟨Y,o⟩:∃Y,fr.bw=some Y:=by have:=L.R;rw[C]at this;cases h:fr.bw with|none=>rw[h]at this;simp[lg]at this|some Y=>exact⟨Y,rfl⟩
  have ca:z Y=some (l,0):=by have:=L.R;rw[C,o]at this;exact this
  rw[o]at he;simp only at he;split at he;·rename_i st bP fn aa av aw ax d' hl;obtain⟨r,_,cd,_,_,g3,_⟩:=vC X hl ca;refine J (mark:=[]) (d:=d') (bd':=r.defers) (bQ.refl z) (cX.refl W w) X (by simpa using L) g3 rfl ?_ he;simp[Instr.enterLoop,C,zH cd]
  exact he.elim
theorem Steps.Rl{m d b:Machine}(h:Steps P m b)(hs:step P m=.next d)(c:b≠m):Steps P d b:=by obtain⟨n,a⟩:=h;cases n with|zero=>simp only[runN,Stepped.next.injEq]at a;exact absurd a.symm c|succ n=>simp only[runN,hs]at a;exact⟨n,a⟩
theorem Rm{ac:Nat->aX}(ht:fM P ac){n:Nat}(o:vA P ac n)(M:BP P ac n)(I:Ki P ac n)(J:pc P ac n):vA P ac (n+1):=by
 intro Wr O H w nt fr c cc K b a d he A B k cs;induction cc generalizing k c with
 |skip=>simp only[dt,aaM]at d;subst d;simp only[exec]at he;exact .fN (.one stepR_skip) (.BQ A B he k cs)
 |label l=>simp only[dt,aaM]at d;subst d;simp only[exec]at he;exact .fN (.one stepR_label) (.BQ A B he k cs)
 |region id az N=>
  simp only[dt,adN]at d;obtain⟨l,hl,rfl⟩:=d;simp only[exec]at he;cases N with
  |false=>refine .fN (.one stepR_region) ((M (Ri hl) he A B k cs).mono ?_);rintro j fr H⟨h1,h2⟩;cases j<;>first|exact h2|exact h1.elim
  |true=>refine(I hl he A B k cs).mono ?_;rintro j fr H⟨h1,h2⟩;cases j<;>first|exact h2|exact h1.elim
 |seq x y Y Z=>
  simp only[dt]at d;split at d
  .rename_i V ba F Q;injection d with d;split at d
   .rename_i t ag;subst d;simp only[exec]at he;split at he
    .rename_i g hg;split at he;·rename_i a' v av;refine(ht.dD t g hg F Q (Ov.P3 _ _ ag).symm av A B k cs).mono ?_;rintro j fr1 H1⟨rfl,rfl,rfl⟩;exact he
     exact he.elim
    exact he.elim
   subst d;simp only[exec]at he;obtain⟨j,q,v,r,C,D,t,h1,h2,h3,s,u,z,G⟩:=o F he A B (.code y::k) cs;refine .fN (.one stepR_seq) (.fN G ?_);cases j with|none=>rw[show t=.code y::k from z];exact .qp h2 u (o Q h1 h3 s k cs)|exit id=>exact⟨.exit id,q,v,r,C,D,t,h1,h2,h3,s,u,z.pd (λ_ _=>rfl) trivial,Steps.refl _ _⟩|ret=>exact⟨.ret,q,v,r,C,D,t,h1,h2,h3,s,u,z.pd (λ_ _=>rfl) trivial,Steps.refl _ _⟩
  cases d
 |cond c0 x y Y Z=>
  simp only[dt]at d;split at d
  .rename_i oc V ba h0 F Q;injection d with d;subst d;simp only[exec]at he;have R:=vi h0 A.E B;split at he;·rename_i h;rw[h]at R;exact .fN (.one (stepR_cond R.nW)) (o F he A B k cs)
   .rename_i h;rw[h]at R;exact .fN (.one (stepR_cond R.nW)) (o Q he A B k cs)
   exact he.elim
  cases d
 |block id x W=>
  simp only[dt,adN]at d;obtain⟨V,F,rfl⟩:=d;simp only[exec]at he;obtain⟨j,q,v,r,C,D,t,h1,h2,h3,s,u,z,G⟩:=o F he A B (.inBlock id::k) cs;refine .fN (.one stepR_block) (.fN G ?_);cases j with
  |none=>rw[show t=.inBlock id::k from z];exact .fN (.one stepR_inBlock) ⟨.none,q,v,r,C,D,k,h1,h2,h3,s,u,rfl,Steps.refl _ _⟩
  |exit i=>
   obtain⟨S,rfl,L⟩:=z;simp only at h1;split at h1
   .rename_i hi;have hi:=afo hi;subst hi;have:exitTo i S=some k:=by rw[L];simp[exitTo]
    exact .fN (.one (stepR_exit this)) ⟨.none,q,v,r,C,D,k,h1,h2,h3,s,u,rfl,Steps.refl _ _⟩
   rename_i hi;have aw:(id==i)=false:=by have:¬id=i:=λe=>hi (by subst e;exact agB _);simpa using this
   exact⟨.exit i,q,v,r,C,D,_,h1,h2,h3,s,u,⟨S,rfl,by rw[L];simp[exitTo,aw]⟩,Steps.refl _ _⟩
  |ret=>exact⟨.ret,q,v,r,C,D,t,h1,h2,h3,s,u,z,Steps.refl _ _⟩
 |loop x W=>have ax:=d;simp only[dt,adN]at d;obtain⟨V,F,rfl⟩:=d;simp only[exec]at he;obtain⟨j,q,v,r,C,D,t,h1,h2,h3,s,u,z,G⟩:=o F he A B (.inLoop x::k) cs;refine .fN (.one stepR_loop) (.fN G ?_);cases j with|none=>rw[show t=.inLoop x::k from z];obtain⟨j2,ay,H2,a1,bb,w2,X,e1,e2,e3,e4,e5,T,e7⟩:=o ax h1 h3 s k cs;have hs:=Steps.Rl e7 stepR_loop (by intro e;have:X=.code (.loop x)::k:=congrArg (λm:Machine=>(m.gs.getD 0 (default:Goroutine)).frame.todo) e;cases j2 with|none=>have h:=T;rw[show X=k from h]at this;have:=congrArg List.length this;simp at this|exit id=>obtain⟨S,h,_⟩:=T;rw[h]at this;cases this|ret=>obtain⟨S,h⟩:=T;rw[h]at this;cases this);exact⟨j2,ay,H2,a1,bb,w2,X,e1,h2.trans e2,e3,e4,u.trans e5,T,.head stepR_inLoop hs⟩|exit id=>exact⟨.exit id,q,v,r,C,D,t,h1,h2,h3,s,u,z.pd (λ_ _=>rfl) trivial,Steps.refl _ _⟩|ret=>exact⟨.ret,q,v,r,C,D,t,h1,h2,h3,s,u,z.pd (λ_ _=>rfl) trivial,Steps.refl _ _⟩
 |scope x W=>simp only[dt]at d;obtain⟨j,q,v,r,C,D,t,h1,h2,h3,s,u,z,G⟩:=W d he (.inScope x::k);refine .fN (.one Kj) (.fN G ?_);cases j with|none=>rw[show t=.inScope x::k from z];exact .fN (.one Kk) ⟨.none,q,v,r,C,D,k,h1,h2,h3,s,u,rfl,Steps.refl _ _⟩|exit id=>exact⟨.exit id,q,v,r,C,D,t,h1,h2,h3,s,u,z.pd (λ_ _=>rfl) trivial,Steps.refl _ _⟩|ret=>exact⟨.ret,q,v,r,C,D,t,h1,h2,h3,s,u,z.pd (λ_ _=>rfl) trivial,Steps.refl _ _⟩
 |rangeFunc f ps as b3=>
  simp only[dt]at d;split at d
  .rename_i of bd bv h0 a2 a6;split at d;·rename_i a8;injection d with d;subst d;exact Rj J h0 a2 a6 (λp hp=>by have:=agn.1 a8 p hp;simpa using this) he A B k cs
   cases d
  cases d
 |exit id=>simp only[dt,aaM]at d;subst d;simp only[exec]at he;exact⟨.exit id,fr,H,O,a,w,_,he,bQ.refl O,A,B,cX.refl Wr w,⟨k,rfl,rfl⟩,Steps.refl _ _⟩
 |ret=>simp only[dt,aaM]at d;subst d;simp only[exec]at he;exact⟨.ret,fr,H,O,a,w,_,he,bQ.refl O,A,B,cX.refl Wr w,⟨k,rfl⟩,Steps.refl _ _⟩
 |goto l=>simp[dt]at d
 |refuse b0=>simp[dt]at d
end
section
variable{P:Program}
theorem Rn{ac:Nat->aX}(ht:fM P ac){n:Nat}(k:vA P ac n):pc P ac (n+1):=by
 intro Wr Z H w fa args K fv e he hf ha hI fr cs hat;simp only[dT]at he;split at he
 .rename_i f first i;obtain⟨x,y,hx,hy,rfl⟩:=hf.BA;have eJ:aQ Z (first++args++i) ((x++e++y).toList):=by simp only[Array.toList_append];exact aQ.append (aQ.append hx ha) hy
  have q:lQ (.func (.func f) x y) e=callFunc f (x++e++y):=by simp[lQ,Deferred.ofValue,invoke]
  rw[q];split at he;·exact he.elim
  .exact he.elim
  .rename_i g hg;split at he;·rename_i v H' b0;obtain⟨v',c',c,w',ag,b3,W,⟨rfl,rfl⟩,hp,hb,hs⟩:=ht.gf f g hg b0 eJ hI fr cs hat;exact⟨_,_,c,w',ag,b3,W,he,hp,hb,hs⟩
   exact he.elim
  rename_i nt rs body hg;obtain⟨fn,O,av,S⟩:=ht.code f nt rs body hg;split at he;case isFalse=>exact he.elim
  rename_i Q;have Q:=afx Q;simp only[oX,acC,aaU,aeO,aaM,aX.code.injEq]at av;obtain⟨cc,aw,cy,T,b4,b6,B,X,e3⟩:=av;subst B;subst X;subst e3;have s:(callFunc f (x++e++y)).run P w=.ok (.enter f (x++e++y)) w:=by simp only[callFunc,Sem.run_bind,run_program,Result.andThen_ok,O,S,aw,Option.isNone_some,abe,bD,Sem.run_pure]
  let b:Frame:={(default:Frame)with fn:=f,kind:=.normal};let a:Act:={tmps:=(x++e++y)++aha (fn.ntmps - (x++e++y).size) undef,defers:=[]};have C:Frame.enter P f (x++e++y) .normal=b.atR a [.code cc]:=by simp only[Frame.enter,Frame.atR,O,aw,b,a,afL,af5,agH];rfl
  have hF:fC Z fn.ntmps ⟨iS (first++args++i) .xH .aG,[],none⟩ b.roundOf a:=⟨FY eJ Q,trivial,trivial⟩;obtain⟨j,ax,H',b7,bv,w',t,h1,h2,h3,h4,h5,h6,h7⟩:=k T he hF hI [] (fr::cs);have a':∃N:Frame,N={b.atR bv N.todo with mode:=.returning}/\step P (lone (b.atR bv t) (fr::cs) w')=.next (lone N (fr::cs) w'):=by cases j with|none=>rw[show t=[]from h6];exact⟨_,rfl,stepR_end rfl⟩|exit id=>exact h1.elim|ret=>obtain⟨k0,rfl⟩:=h6;exact⟨_,rfl,stepR_ret rfl⟩
  obtain⟨N,m,cD⟩:=a';have o:(match gZ H' ax.br with
   |some H=>match ef ax.aa H b4 with|some l=>K (fL l) H|none=>False
   |none=>False):=by cases j with|none=>exact h1|exit id=>exact h1.elim|ret=>exact h1
  split at o
  .rename_i H2 hm;split at o
   .rename_i l hl;have ba:N={N with defers:=bv.defers}:=by rw[m];rfl
    obtain⟨L,s1,s2,s3⟩:=BN h4 h3.D hm N (fr::cs) (by rw[m]);rw[<-ba]at s1;obtain⟨c,hc,hv⟩:=F1 s2 h3.E b6 hl;refine⟨fL l,H2,c,L,_,_,_,o,⟨b7,h2,hv,s2,h5.trans s3⟩,Kd hat s,?_⟩;rw[C];refine h7.trans (.head cD (s1.trans (.one ?_)));refine step_leave_returned ⟨by rw[m],rfl,by rw[m];rfl,fn,by rw[m];exact O,?_⟩;rw[m];exact hc
   exact o.elim
  exact o.elim
 .rename_i l;obtain⟨bl,R,rfl⟩:=hf.BB;have q:lQ (.func (.yield bl) #[] #[]) e=Instr.yield bl e:=by simp[lQ,Deferred.ofValue,invoke]
  rw[q];split at he
  .rename_i st bP dm aa ps as d0 d hl;obtain⟨r,_,hr,g1,g2,g3,g4,nt,g5,g6,g7,g8⟩:=vC hI hl R;split at he
   .split at he;case isFalse=>exact he.elim
    rename_i u;have b':e.size=r.params.size:=by have B:=aQ.length ha;rw[<-g4]at u;simp at B u;omega
    have s:(Instr.yield bl e).run P w=.ok (.round bl r.fn ((r.params.zip e).foldl (λtmps(t,a)=>tmps.setIfInBounds t a) r.tmps) r.assign r.body) w:=by simp only[Instr.yield,Sem.run_bind,zH hr,Result.andThen_ok,b',ne_eq,not_true_eq_false,bD,Sem.run_pure]
    let b:Frame:={(default:Frame)with fn:=r.fn,kind:=.normal,roundOf:=some bl};let a:Act:={tmps:=(r.params.zip e).foldl (λtmps(t,a)=>tmps.setIfInBounds t a) r.tmps,defers:=[]};have F:Frame.round bl r.fn a.tmps r.assign r.body .normal=b.atR a [.code r.assign,.beginRound,.code r.body]:=rfl;have hE:gj Z nt (kF ps args aa) a.tmps:=by
     have:=Kf (ps:=r.params.toList) g5 ha (by rw[u,<-g4,afJ]);rw[g4]at this;have X:a.tmps=(r.params.toList.zip e.toList).foldl (λtmps(p:Tmp×Value)=>tmps.setIfInBounds p.1 p.2) r.tmps:=by show(r.params.zip e).foldl _ _=_;rw[<-Array.foldl_toList,Array.toList_zip]
     rw[X];exact this
    have hF:fC Z nt ⟨kF ps args aa,[],some l⟩ b.roundOf a:=⟨hE,trivial,R⟩;obtain⟨j,ag,H1,dr,d1,W,t,h1,h2,h3,h4,h5,h6,h7⟩:=k g7 he hF hI [.beginRound,.code r.body] (fr::cs);split at h1
    .rename_i V ca c9 ds mf dv d3 ay;rw[show t=[.beginRound,.code r.body]from h6]at h7;have z:=(h2 _ _ R).1;obtain⟨Y,_,a1,q1,q2,q3,q4,dx,q5,q6,q7,q8⟩:=vC h4 ay z;obtain⟨s1,s2,s3⟩:=F4 h4 ay z a1 (st':=.busy) (s':=.busy) (pend':=V) (p':=Y.pending) (by simp[mP]) q2 ca;have G:Y.state=.ready:=by cases hs:Y.state<;>rw[hs]at q1<;>simp_all[mP]
     have I:(Instr.beginRound bl).run P W=.ok () {W with heap:=W.heap.setIfInBounds bl (.loop {Y with state:=.busy,pending:=Y.pending})}:=by simp only[Instr.beginRound,Sem.run_bind,zH a1,Result.andThen_ok];have:(setObj bl (.loop {Y with state:=.busy})).run P W=_:=s1;rw[this];simp only[Result.andThen_ok,G,Sem.run_pure]
     obtain⟨j2,dy,H2,cd,cR,L,t2,B,X,e3,e4,e5,e6,e7⟩:=k g8 h1 h3 s2 [] (fr::cs);have J:Steps P (lone (Frame.round bl r.fn a.tmps r.assign r.body .normal) (fr::cs) w) (lone (b.atR cR t2) (fr::cs) L):=by rw[F];exact h7.trans (.head (stepR_beginRound rfl I) e7)
     split at B
     .rename_i dz cE a2 bb cf cn cp d2 a6;have M:=(X _ _ z).1;obtain⟨r2,_,a8,z1,z2,z3,z4,z5⟩:=vC e4 a6 M;have aB:∀(j:bU)(A:Option Code)(st':oS)(s':LoopState),mP st' s'->mQ j A->s'=(if A.isNone then .ready else .done)->K (.bool A.isNone) (H2.set l (.loop st' j a2 bb cf cn cp d2))->(∀{v:Value}{w':World},(Instr.endRound bl A).run P L=.ok v w'->step P (lone (b.atR cR t2) (fr::cs) L)=.next (lone (fr.finish v) cs w'))->vu P Wr Z w (Instr.yield bl e) fr cs K:=by
       intro j A st' s' y1 y2 y3 y4 y5;obtain⟨u1,u2,u3⟩:=F4 e4 a6 M a8 (st':=st') (s':=s') (pend':=j) (p':=A) y1 y2 a2;have bd:(Instr.endRound bl A).run P L=.ok (.bool A.isNone) {L with heap:=L.heap.setIfInBounds bl (.loop {r2 with state:=s',pending:=A})}:=by simp only[Instr.endRound,Sem.run_bind,zH a8,Result.andThen_ok,<-y3,u1,Sem.run_pure]
       exact⟨_,_,.bool A.isNone,_,_,_,_,y4,⟨cd,h2.trans X,by simp[VR],u2,h5.trans (s3.trans (e5.trans u3))⟩,Rf hat s,J.trans (.one (y5 bd))⟩
      cases j2 with|none=>have cv:t2=[]:=e6;subst cv;exact aB .none none .ready .ready (by simp[mP]) (by simp[mQ]) rfl B (λh=>stepR_round_end rfl rfl h)|exit id=>obtain⟨k0,rfl,cx⟩:=e6;exact aB (.exit id) (some (.exit id)) .done .done (by simp[mP]) (by simp[mQ]) rfl B (λh=>stepR_round_exit rfl rfl cx h)|ret=>obtain⟨k0,rfl⟩:=e6;exact aB .ret (some .ret) .done .done (by simp[mP]) (by simp[mQ]) rfl B (λh=>stepR_round_ret rfl rfl h)
     exact B.elim
    exact h1.elim
   exact he.elim
  exact he.elim
 exact he.elim
end
section
variable{P:Program}{aa env':ak AV}{H H1 H':ah}{v:AV}
theorem iy:∀{x:aL},(∀p∈x.bO,aa.get .ahp p=env'.get .ahp p)->gv aa x=gv env' x|.t p,h=>h p (by simp[aL.bO])|.c _,_=>rfl
theorem zI:∀{l:List aL},(∀p∈l.flatMap aL.bO,aa.get .ahp p=env'.get .ahp p)->l.map (gv aa)=l.map (gv env')|[],_=>rfl|x::l,h=>by simp only[ags,ae8]at h;simp only[afp,iy (x:=x) λp a=>h p (.inl a),zI (l:=l) λp a=>h p (.inr a)]
theorem rq{x:Option aL}(h:∀p∈uW x,aa.get .ahp p=env'.get .ahp p)(d y:Nat):gS aa x d y=gS env' x d y:=by cases x with|none=>rfl|some x=>simp only[gS,iy (x:=x) h]
theorem F6:∀{a:List (Nat×Nat×aL)},(∀p∈a.flatMap (λp=>p.2.2.bO),aa.get .ahp p=env'.get .ahp p)->∀l,kE aa l a=kE env' l a
 |[],_,_=>rfl
 |(off,size,x)::a,h,l=>by
  simp only[ags,ae8]at h;simp only[kE,iy (x:=x) λp b=>h p (.inl b)];split
  .split;·exact F6 (λp b=>h p (.inr b)) _
   rfl
  rfl
theorem F7{op:bE}(h:∀p∈op.bO,aa.get .ahp p=env'.get .ahp p)(H:ah):aD op aa H=aD op env' H:=by
 cases op<;>simp only[bE.bO,ae8]at h;case build j o=>simp only[aD,F6 h]
 case buildSlice e n j o=>simp only[aD,F6 h]
 case mK f a b=>simp only[aD,zI (l:=a) λp g=>h p (.inl g),zI (l:=b) λp g=>h p (.inr g)]
 case nK b l=>simp only[aD,zI h]
 case fill m i=>
  have:(i.map λp=>(⟨p.1,gv aa p.2,0⟩:aT))=i.map λp=>⟨p.1,gv env' p.2,0⟩:=agG λp g=>by rw[iy (x:=p.2) λq r=>h q (.inr (agP.2 ⟨p,g,r⟩))]
  simp only[aD,iy (x:=m) λp g=>h p (.inl g),this]
 case call f l=>rfl
 case qU n s x a b c=>simp only[aD,iy (x:=x) λp g=>h p (.inl g),rq (x:=a) λp g=>h p (.inr (.inl g)),rq (x:=b) λp g=>h p (.inr (.inr (.inl g))),rq (x:=c) λp g=>h p (.inr (.inr (.inr g)))]
 case gD e s x a b c=>simp only[aD,iy (x:=x) λp g=>h p (.inl g),rq (x:=a) λp g=>h p (.inr (.inl g)),rq (x:=b) λp g=>h p (.inr (.inr (.inl g))),rq (x:=c) λp g=>h p (.inr (.inr (.inr g)))]
 case sJ x a b=>simp only[aD,iy (x:=x) λp g=>h p (.inl g),rq (x:=a) λp g=>h p (.inr (.inl g)),rq (x:=b) λp g=>h p (.inr (.inr g))]
 case pick c a b=>simp only[aD,iy (x:=c) λp g=>h p (.inl g),iy (x:=a) λp g=>h p (.inr (.inl g)),iy (x:=b) λp g=>h p (.inr (.inr g))]
 case iP d m k v=>simp only[aD,iy (x:=m) λp g=>h p (.inl g),iy (x:=k) λp g=>h p (.inr (.inl g)),iy (x:=v) λp g=>h p (.inr (.inr g))]
 case entryStore m k v=>simp only[aD,iy (x:=m) λp g=>h p (.inl g),iy (x:=k) λp g=>h p (.inr (.inl g)),iy (x:=v) λp g=>h p (.inr (.inr g))]
 all_goals first|rfl|(simp only[aD,iy h];done)|(rename_i x y;simp only[aD,iy (x:=x) λp g=>h p (.inl g),iy (x:=y) λp g=>h p (.inr g)];done)
theorem Ro{op:bE}(h:op.plain=true)(he:aD op aa H=some (v,H1)):H1=H/\∀H',aD op aa H'=some (v,H'):=by
 cases op<;>(try(simp[bE.plain]at h;done));case gD e s x lo hi i=>
  cases lo with
  |some q=>simp[bE.plain]at h
  |none=>
   simp only[aD,Option.isNone_none,Bool.or_true,Bool.true_or,bf]at he⊢;split at he;·simp only[acC,aaU,aaM,abS]at he;obtain⟨m,f,g,c,l,d,rfl,rfl⟩:=he;exact⟨rfl,λH'=>by simp[f,c,d]⟩
   .simp only[acC,aaU,aaM,abS]at he;obtain⟨m,f,g,c,l,d,rfl,rfl⟩:=he;exact⟨rfl,λH'=>by simp[f,c,d]⟩
   cases he
 case sJ x a b=>
  simp only[aD]at he⊢;split at he;·simp only[acC,aaU,aaM,abS]at he;obtain⟨g,c,l,d,rfl,rfl⟩:=he;exact⟨rfl,λH'=>by simp[c,d]⟩
  cases he
 case mL x a=>
  simp only[aD]at he⊢;split at he;·rw[adN]at he;obtain⟨q,h1,h2⟩:=he;rw[abS]at h2;obtain⟨rfl,rfl⟩:=h2;exact⟨rfl,λH'=>by rw[h1];rfl⟩
  cases he
 all_goals simp only[aD]at he⊢;first|(simp only[aaM,abS]at he;obtain⟨rfl,rfl⟩:=he;exact⟨rfl,λ_=>rfl⟩)|(simp only[adN,abS]at he;obtain⟨a,h1,rfl,rfl⟩:=he;exact⟨rfl,λ_=>by simp[h1]⟩)|(split at he<;>first|(cases he;done)|(simp only[aaM,abS]at he;obtain⟨rfl,rfl⟩:=he;exact⟨rfl,λ_=>rfl⟩)|(simp only[adN,abS]at he;obtain⟨a,h1,rfl,rfl⟩:=he;exact⟨rfl,λ_=>by simp[h1]⟩)|(simp only[acC,aaU,aaM,abS]at he;obtain⟨m,f,g,c,l,d,rfl,rfl⟩:=he;exact⟨rfl,λH'=>by simp[f,c,d]⟩)|(simp only[acC,aaU,aaM,abS]at he;obtain⟨g,c,l,d,rfl,rfl⟩:=he;exact⟨rfl,λH'=>by simp[c,d]⟩)|(split at he<;>first|(cases he;done)|(simp only[aaM,abS]at he;obtain⟨rfl,rfl⟩:=he;exact⟨rfl,λ_=>by simp[*]⟩)|(simp only[adN,abS]at he;obtain⟨a,h1,rfl,rfl⟩:=he;exact⟨rfl,λ_=>by simp[*]⟩)|(split at he<;>first|(cases he;done)|(simp only[aaM,abS]at he;obtain⟨rfl,rfl⟩:=he;exact⟨rfl,λ_=>by simp[*]⟩))))
def bE.target(aa:ak AV):bE->Option af
 |.bi a|.gR _ a|.sM a|.sI a=>fA (gv aa a)
 |.lookup _ _ _ m _=>fA (gv aa m)
 |.gD _ _ x _ _ b=>match gv aa x with
  |.slice id _ _ _ false=>if b.isSome then none else some id
  |_=>none
 |_=>none
theorem Kl{id:af}{off n:Nat}{l:List AV}(h:dK H id off n=some l):H.get id≠.none/\∀H',H'.get id=H.get id->dK H' id off n=some l:=by
 unfold dK at h⊢;split at h;·rename_i hi;exact⟨by rw[hi];simp,λH' e=>by rw[e,hi];exact h⟩
 cases h
theorem Km{a:AV}{n:Nat}{g:Bool}(h:gF H a n g=some v):∃id off,a=.aE id off/\H.get id≠.none/\∀H',H'.get id=H.get id->gF H' a n g=some v:=by
 unfold gF at h⊢;split at h
 .rename_i id off;split at h;·rename_i l hl;obtain⟨h1,h2⟩:=Kl hl;exact⟨id,off,rfl,h1,λH' e=>by rw[h2 H' e];exact h⟩
  cases h
 cases h
theorem Ko{op:bE}(u:op.ia=true)(he:aD op aa H=some (v,H1)):H1=H/\(∀j,op.target aa=some j->H.get j≠.none)/\∀H',(∀j,op.target aa=some j->H'.get j=H.get j)->aD op aa H'=some (v,H'):=by
 cases op<;>(try(simp[bE.ia]at u;done));case bi a=>
  simp only[aD,adN,abS]at he⊢;obtain⟨q,h1,rfl,rfl⟩:=he;obtain⟨id,off,f,h2,h3⟩:=Km h1;refine⟨rfl,λj hj=>?_,λH' hj=>⟨q,h3 H' (hj id ?_),by trivial,by trivial⟩⟩;·simp only[bE.target,f,fA,aaM]at hj;subst hj;exact h2
  simp only[bE.target,f,fA]
 case gR n a=>
  simp only[aD,adN,abS]at he⊢;obtain⟨q,h1,rfl,rfl⟩:=he;obtain⟨id,off,f,h2,h3⟩:=Km h1;refine⟨rfl,λj hj=>?_,λH' hj=>⟨q,h3 H' (hj id ?_),by trivial,by trivial⟩⟩;·simp only[bE.target,f,fA,aaM]at hj;subst hj;exact h2
  simp only[bE.target,f,fA]
 case sM x=>
  simp only[aD]at he⊢;split at he;·rename_i b;simp only[aaM,abS]at he;obtain⟨rfl,rfl⟩:=he;refine⟨rfl,λj hj=>?_,λH' hj=>by simp[b]⟩;simp[bE.target,b,fA]at hj
  .rename_i id b;split at he
   .rename_i hi;simp only[aaM,abS]at he;obtain⟨rfl,rfl⟩:=he;refine⟨rfl,λj hj=>?_,λH' hj=>?_⟩;·simp only[bE.target,b,fA,aaM]at hj;subst hj;rw[hi];simp
    have:=hj id (by simp only[bE.target,b,fA]);simp[b,this,hi]
   .rename_i hi;simp only[aaM,abS]at he;obtain⟨rfl,rfl⟩:=he;refine⟨rfl,λj hj=>?_,λH' hj=>?_⟩;·simp only[bE.target,b,fA,aaM]at hj;subst hj;rw[hi];simp
    have:=hj id (by simp only[bE.target,b,fA]);simp[b,this,hi]
   cases he
  cases he
 case sI x=>
  simp only[aD]at he⊢;split at he;·rename_i b;simp only[aaM,abS]at he;obtain⟨rfl,rfl⟩:=he;refine⟨rfl,λj hj=>?_,λH' hj=>by simp[b]⟩;simp[bE.target,b,fA]at hj
  .rename_i id off len c e b;split at he
   .rename_i l hl;simp only[adN,abS]at he;obtain⟨q,h1,rfl,rfl⟩:=he;obtain⟨h2,h3⟩:=Kl hl;refine⟨rfl,λj hj=>?_,λH' hj=>?_⟩;·simp only[bE.target,b,fA,aaM]at hj;subst hj;exact h2
    have:=h3 H' (hj id (by simp only[bE.target,b,fA]));simp[b,this,h1]
   cases he
  cases he
 case lookup d z ok m k=>
  simp only[aD]at he⊢;split at he;·cases he
  rename_i g;split at he;·rename_i b;simp only[aaM,abS]at he;obtain⟨rfl,rfl⟩:=he;refine⟨rfl,λj hj=>?_,λH' hj=>by simp[b,g]⟩;simp[bE.target,b,fA]at hj
  .rename_i id b;have w:bE.target aa (.lookup d z ok m k)=some id:=by simp only[bE.target,b,fA]
   split at he;all_goals(try(cases he;done))
   all_goals
    rename_i hi;refine⟨?_,λj hj=>?_,λH' hj=>?_⟩;·split at he<;>first|(cases he;done)|(simp only[aaM,abS]at he;exact he.2.symm)
    .rw[w]at hj;injection hj with hj;subst hj;rw[hi];simp
    have:=hj id w;simp only[b,g,this,hi,abe,bD];split at he<;>first|(cases he;done)|(simp only[aaM,abS]at he;rename_i A;simp only[A,he.1])
  cases he
 case gD e s x lo hi y=>
  simp only[aD]at he⊢;split at he;·rename_i b;simp only[acC,aaU,aaM,abS]at he;obtain⟨m,o,B,p,l,r,rfl,rfl⟩:=he;refine⟨rfl,λj hj=>?_,λH' hj=>by simp[b,o,p,r]⟩;simp[bE.target,b]at hj
  .rename_i id off len cap ex b;simp only[acC,aaU]at he;obtain⟨m,o,B,p,l,r,he⟩:=he;split at he
   .rename_i h;simp only[aaM,abS]at he;obtain⟨rfl,rfl⟩:=he;refine⟨rfl,λj hj=>?_,λH' hj=>?_⟩
    .cases lo with
     |none=>simp[bE.ia]at u
     |some lo=>
      simp only[bE.target,b]at hj;cases ex with
      |true=>simp at hj
      |false=>
       simp only at hj;split at hj;·cases hj
       rename_i i;injection hj with hj;subst hj;simp only[Bool.false_or,Option.isNone_some,Bool.or_false,agd,i,false_or]at h;intro h0;simp[oT,h0]at h
    have t:(ex||y.isSome||lo.isNone||oT H' id e)=true:=by cases ex with|true=>simp|false=>cases i:y.isSome with|true=>simp|false=>rw[i]at h;have:=hj id (by simp[bE.target,b,i]);simpa[oT,this]using h
    simp only[b,o,p,r,acC,agH,t,bf]
   cases he
  cases he
inductive jM where
 |aE
 |slice(len cap:Nat)(exact:Bool)
 |map
def jM.of(n:jM)(i:af):AV:=
 match n with
 |.aE=>.aE i 0
 |.slice l c e=>.slice i 0 l c e
 |.map=>.map i
theorem jM.name(n:jM)(i:af):fA (n.of i)=some i:=by cases n<;>rfl
def bL.kp:bL->Prop
 |.cells _ _ _ rw aM _=>rw=true/\aM=[]
 |.map es _=>es=[]
 |.jU _ _ _=>True
 |_=>False
theorem Rp{op:bE}(d:op.jK=true)(he:aD op aa H=some (v,H1)):∃(n:jM)(cI:bL),v=n.of H.next/\H1=H.new cI/\cI.kp/\∀H',aD op aa H'=some (n.of H'.next,H'.new cI):=by
 cases op<;>(try(simp[bE.jK]at d;done));case alloc e a=>simp only[aD,aaM,abS]at he⊢;obtain⟨rfl,rfl⟩:=he;exact⟨.aE,_,rfl,rfl,⟨rfl,rfl⟩,λ_=>⟨rfl,rfl⟩⟩
 case jo=>simp only[aD,aaM,abS]at he⊢;obtain⟨rfl,rfl⟩:=he;exact⟨.map,_,rfl,rfl,rfl,λ_=>⟨rfl,rfl⟩⟩
 case box e x=>
  simp only[aD]at he⊢;split at he;·rename_i h1;simp only[aaM,abS]at he;obtain⟨rfl,rfl⟩:=he;exact⟨.aE,_,rfl,rfl,⟨rfl,rfl⟩,λ_=>by simp only[h1,bf];rfl⟩
  cases he
 case buildSlice e n a f=>
  simp only[aD]at he⊢;split at he
  .rename_i l hl;split at he;·rename_i h1;simp only[aaM,abS]at he;obtain⟨rfl,rfl⟩:=he;exact⟨.slice n n true,_,rfl,rfl,⟨rfl,rfl⟩,λ_=>by simp only[h1,bf];rfl⟩
   cases he
  cases he
 case sH e x=>
  simp only[aD]at he⊢;split at he;·rename_i s hs;simp only[aaM,abS]at he;obtain⟨rfl,rfl⟩:=he;exact⟨.slice s.length s.length false,_,rfl,rfl,⟨rfl,rfl⟩,λ_=>rfl⟩
  cases he
 case nI e b s a x y=>
  simp only[aD]at he⊢;split at he
  .rename_i l c hl g;split at he;·rename_i h1;simp only[aaM,abS]at he;obtain⟨rfl,rfl⟩:=he;exact⟨.slice l c true,_,rfl,rfl,⟨rfl,rfl⟩,λ_=>by simp only[h1,bf];rfl⟩
   cases he
  cases he
 case oQ x=>
  simp only[aD]at he⊢;split at he;·rename_i s hs;simp only[aaM,abS]at he;obtain⟨rfl,rfl⟩:=he;exact⟨.aE,_,rfl,rfl,trivial,λ_=>rfl⟩
  cases he
theorem F8{a b:AV}(h:gT a b=true):a=b:=by
 have h1:∀{a b:AV},fy a b=true->a=b:=by intro a b h;cases a<;>cases b<;>simp only[fy,abe]at h<;>first|rfl|(simp only[beq_iff_eq]at h;rw[h])|(simp only[ae9,Nat.beq_eq,eT,beq_iff_eq]at h;obtain⟨rfl,rfl⟩:=h;rfl)|(simp only[rh,beq_iff_eq]at h;rw[h])|(simp only[ae9,Nat.beq_eq,af.eS]at h;obtain⟨rfl,rfl⟩:=h;rfl)|(simp only[af.eS]at h;rw[h])|(simp only[ae9,Nat.beq_eq,af.eS,beq_iff_eq]at h;obtain⟨⟨⟨⟨rfl,rfl⟩,rfl⟩,rfl⟩,rfl⟩:=h;rfl)
 have h2:∀{l m:List AV},lI l m=true->l=m:=by intro l;induction l with|nil=>intro m h;cases m<;>simp[lI]at h;rfl|cons a l c=>intro m h;cases m with|nil=>simp[lI]at h|cons b m=>simp only[lI,ae9]at h;rw[h1 h.1,c h.2]
 unfold gT at h;split at h;·rw[h2 h]
 .rw[h2 h]
 .simp only[ae9,Nat.beq_eq]at h;obtain⟨⟨rfl,h3⟩,d⟩:=h;rw[h2 h3,h2 d]
 exact h1 h
end
section
variable{P:Program}{a:bS}{ρ:aO}{H:ah}{w:World}
theorem F9{H b:ah}(hg:∀j,b.get j=H.get j\/b.get j=.none)(i j:af)(hi:i∈(b.get j).aM):i∈(H.get j).aM:=by
 rcases hg j with e|e;·rw[e]at hi;exact hi
 rw[e]at hi;cases hi
theorem bj.sub(h:bj P a ρ H w){H2:ah}(d:H2.next=H.next)(hg:∀j,H2.get j=H.get j\/H2.get j=.none):bj P a ρ H2 w:=by
 have c:∀j,H2.get j≠.none->H2.get j=H.get j:=λj hj=>(hg j).resolve_right hj;have g:=F9 hg;constructor;·intro i hi;have e:=c i hi;rw[e]at hi⊢;exact h.cI i hi
 .intro i j b x y f hi hj;have e:=c i hi;have k:=c j hj;rw[e]at hi⊢;rw[k]at hj⊢;exact h.jh i j b x y f hi hj
 .intro i j hi;obtain⟨h1,h2⟩:=h.aM i j (g i j hi);rw[d];exact⟨h1,λhj=>by have e:=c i hj;rw[e]at hj⊢;exact h2 hj⟩
 .intro i b x hi;have e:=c i hi;rw[e]at hi⊢;exact h.wr i b x hi
 .intro i hi;rw[d]at hi;obtain⟨h1,h2⟩:=h.cS i hi;exact⟨by rcases hg i with e|e<;>rw[e];exact h1,h2⟩
 .exact h.new
 .exact h.jV
 .intro i b x l hi;have e:=c i hi;rw[e]at hi⊢;exact h.iw i b x l hi
 .exact h.dO
 .intro i b x hi;have e:=c i hi;rw[e]at hi;exact h.rd i b x hi
 .intro i hi;obtain⟨h1,h2,h3⟩:=h.un i hi;exact⟨by rcases hg i with e|e<;>rw[e];exact h1,by rw[d];exact h2,λj hj=>h3 j (g i j hj)⟩
 exact h.di
def bS.iz(a:bS)(ρ:aO)(hl:af->Prop)(dd:af->Prop):bS where
 w b:=a.w b/\∀i x,hl i->ρ i≠some (b,x)
 r b:=a.r b/\∀i x,hl i->ρ i≠some (b,x)
 un i:=a.un i\/hl i\/dd i
 di i:=a.di i\/dd i
theorem tc{o:bL}(h:o.kp):o.jg=false/\o.aM=[]/\o≠.none:=by cases o<;>simp[bL.kp]at h<;>simp[bL.jg,bL.aM];exact h
def bL.vD(o:bL):Prop:=o.jg=false/\o.aM=[]/\o≠.none
theorem bj.iz(h:bj P a ρ H w){hl dd:af->Prop}(q:∀i,hl i->(H.get i).vD)(hd:∀i,dd i->H.get i=.none/\ρ i=none/\i.am<H.next.am/\∀j,i∉(H.get j).aM){H2:ah}(l:H2.next=H.next)(hg:∀j,H2.get j=H.get j\/H2.get j=.none)(r:∀i,hl i->H2.get i=.none):bj P (a.iz ρ hl dd) ρ H2 w:=by
 have hs:=h.sub l hg;have n:∀j,H2.get j≠.none->H2.get j=H.get j:=λj hj=>(hg j).resolve_right hj;have s:=F9 hg;have kL:∀j b x,H2.get j≠.none->ρ j=some (b,x)->∀i y,hl i->ρ i≠some (b,y):=by
  intro j b x hj u i y hi v;obtain⟨m,t,f⟩:=(q i hi);have o:i≠j:=λe=>hj (e▸r i hi);have p:H.get j≠.none:=by rw[<-n j hj];exact hj
  rcases h.jh i j b y x o f p v u with⟨g,_⟩|⟨g,_⟩;·have:=(h.aM i j g).2 f;rw[m]at this;cases this
  rw[t]at g;cases g
 constructor;·exact hs.cI
 .exact hs.jh
 .exact hs.aM
 .intro i b x hi z e;exact⟨hs.wr i b x hi z e,λk y d=>kL i b x hi e k y d⟩
 .exact hs.cS
 .intro k d;have c:∀i x,hl i->ρ i≠some (k,x):=λi x _ e=>by have:=h.dO i k x e;omega
  exact⟨⟨(h.new k d).1,c⟩,⟨(h.new k d).2,c⟩⟩
 .exact hs.jV
 .exact hs.iw
 .exact hs.dO
 .intro i b x hi e;exact⟨hs.rd i b x hi e,λk y d=>kL i b x hi e k y d⟩
 .intro i hi;rcases hi with hi|hi|hi;·exact hs.un i hi
  .obtain⟨m,t,f⟩:=(q i hi);refine⟨r i hi,by rw[l];exact h.Bv f,λj hj=>?_⟩;have:=(h.aM i j (s i j hj)).2 f;rw[m]at this;cases this
  obtain⟨h0,h1,h2,h3⟩:=hd i hi;exact⟨by rcases hg i with e|e<;>rw[e];exact h0,by rw[l];exact h2,λj hj=>h3 j (s i j hj)⟩
 intro i hi;rcases hi with hi|hi;·exact⟨.inl (hs.di i hi).1,(hs.di i hi).2⟩
 exact⟨.inr (.inr hi),(hd i hi).2.1⟩
theorem bj.BR(h:bj P a ρ H w){hl dd:af->Prop}(F:∀i,hl i->(H.get i).vD){n:aO}{D:ah}{A:World}(o:bQ ρ n)(g:bj P (a.iz ρ hl dd) n D A)(s:cX (a.iz ρ hl dd) w A){H2:ah}(G:H2.next=D.next)(h1:∀i,hl i->H2.get i=H.get i)(h2:∀i,¬hl i->H2.get i=D.get i):bj P a n H2 A/\cX a w A:=by
 have d:∀i,hl i->∃b x q,ρ i=some (b,x)/\n i=some (b,x)/\n.k b=ρ.k b/\w.heap[b]?=some q/\A.heap[b]?=some q/\OR P ρ (H.get i) x q:=by intro i hi;obtain⟨b,x,q,e,K,hb,Q⟩:=h.bm (F i hi).2.2;exact⟨b,x,q,e,(o _ _ e).1,(o _ _ e).2,hb,by rw[s.block b K λI=>I.2 i x hi e];exact hb,Q⟩
 have r:∀i j,i∈(H2.get j).aM->¬hl i/\¬hl j/\i∈(D.get j).aM:=by
  intro i j hj;by_cases f:hl j;·rw[h1 j f,((F j f)).2.1]at hj;cases hj
  rw[h2 j f]at hj;exact⟨λhi=>(g.un i (.inr (.inl hi))).2.2 j hj,f,hj⟩
 refine⟨⟨?_,?_,?_,?_,?_,?_,?_,?_,?_,?_,?_,?_⟩,⟨s.os,s.tape,s.output,s.size,λW h1 I=>s.block W h1 λL=>I L.1⟩⟩
 .intro i hi;by_cases c:hl i;·obtain⟨b,x,q,_,t,_,_,R,S⟩:=d i c;rw[h1 i c];exact⟨b,x,q,t,R,OR.mono o S⟩
  rw[h2 i c]at hi⊢;exact g.cI i hi
 .intro i j b x y C hi hj z p;by_cases c:hl i
  .obtain⟨b1,J,_,l,m,_⟩:=d i c;rw[m]at z;injection z with z;injection z with M N;subst M;subst N;by_cases f:hl j;·obtain⟨b2,T,_,c1,c2,_⟩:=d j f;rw[c2]at p;injection p with p;injection p with u v;subst u;subst v;rw[h1 i c]at hi⊢;rw[h1 j f]at hj⊢;exact h.jh i j _ _ _ C hi hj l c1
   rw[h2 j f]at hj;exact absurd l ((g.rd j _ y hj p).2 i _ c)
  by_cases f:hl j;·obtain⟨b2,T,_,c1,c2,_⟩:=d j f;rw[c2]at p;injection p with p;injection p with u v;subst u;subst v;rw[h2 i c]at hi;exact absurd c1 ((g.rd i _ x hi z).2 j _ f)
  rw[h2 i c]at hi⊢;rw[h2 j f]at hj⊢;exact g.jh i j b x y C hi hj z p
 .intro i j hj;obtain⟨l,m,a3⟩:=r i j hj;obtain⟨b1,b2⟩:=g.aM i j a3;rw[G];exact⟨b1,λhi=>by rw[h2 i l]at hi⊢;exact b2 hi⟩
 .intro i b x hi E e;by_cases c:hl i;·obtain⟨b1,J,_,l,m,_⟩:=d i c;rw[m]at e;injection e with e;injection e with B t;subst B;subst t;rw[h1 i c]at hi E;exact h.wr i _ _ hi E l
  rw[h2 i c]at hi E;exact(g.wr i b x hi E e).1
 .intro i hi;rw[G]at hi;obtain⟨l,m⟩:=g.cS i hi;have c:¬hl i:=λc=>by obtain⟨_,_,_,_,e,_⟩:=d i c;rw[m]at e;cases e
  exact⟨by rw[h2 i c];exact l,m⟩
 .intro W O;exact h.new W (agE s.size O)
 .exact g.jV
 .intro i b x q hi e hb;by_cases c:hl i;·obtain⟨b1,J,V,l,m,a3,a4,a5,_⟩:=d i c;rw[m]at e;injection e with e;injection e with B t;subst B;subst t;rw[a5]at hb;injection hb with hb;subst hb;rw[h1 i c]at hi⊢;rw[a3];exact h.iw i _ _ _ hi l a4
  rw[h2 i c]at hi⊢;exact g.iw i b x q hi e hb
 .exact g.dO
 .intro i b x hi e;by_cases c:hl i;·obtain⟨b1,J,_,l,m,_⟩:=d i c;rw[m]at e;injection e with e;injection e with B t;subst B;subst t;rw[h1 i c]at hi;exact h.rd i _ _ hi l
  rw[h2 i c]at hi;exact(g.rd i b x hi e).1
 .intro i hi;obtain⟨l,m,a3⟩:=g.un i (.inl hi);have c:¬hl i:=λc=>((F i c)).2.2 (h.un i hi).1;exact⟨by rw[h2 i c];exact l,by rw[G];exact m,λj hj=>a3 j (r i j hj).2.2⟩
 intro i hi;exact⟨(h.di i hi).1,(g.di i (.inl hi)).2⟩
mutual
theorem VR.n6{j r m:aO}(h:∀i x y,j i=some x->r i=some y->m i=some x/\m.k x.1=j.k x.1):∀(v:AV)(c d:Value),VR j v c->VR r v d->VR m v c
 |.tuple l,.tuple cs,.tuple z,L,q=>by simp only[VR]at L q⊢;exact aQ.n6 h l cs.toList z.toList L q
 |.agg l,.agg cs,.agg z,L,q=>by simp only[VR]at L q⊢;exact aQ.n6 h l cs.toList z.toList L q
 |.bool _,.bool _,_,L,_=>by simpa only[VR]using L
 |.int _ _,.int _ _,_,L,_=>by simpa only[VR]using L
 |.str _,.string _,_,L,_=>by simpa only[VR]using L
 |.aE i o,.pointer (some M),.pointer (some C),L,q=>by
  simp only[VR]at L q⊢;obtain⟨b,x,e,rfl⟩:=L;obtain⟨A,D,s,_⟩:=q;exact⟨b,x,(h _ _ _ e s).1,rfl⟩
 |.kn,.pointer none,_,_,_=>by simp only[VR]
 |.slice i o len cap ex,.slice (some M) n c,.slice (some C) I p,L,q=>by
  simp only[VR]at L q⊢;obtain⟨h1,h2,h3,E,b,x,e,F,G⟩:=L;obtain⟨_,_,_,_,A,D,s,_⟩:=q
  exact⟨h1,h2,h3,E,b,x,(h _ _ _ e s).1,F,by rw[show m.k b=j.k b from(h _ _ _ e s).2];exact G⟩
 |.aH,.slice none 0 0,_,_,_=>by simp only[VR]
 |.map i,.map (some b),.map (some A),L,q=>by simp only[VR]at L q⊢;exact(h _ _ _ L q).1
 |.cC,.map none,_,_,_=>by simp only[VR]
 |.func f M b,.func (.func g) c d,.func (.func J) p B,L,q=>by
  simp only[VR]at L q⊢;exact⟨L.1,aQ.n6 h M c.toList p.toList L.2.1 q.2.1,aQ.n6 h b d.toList B.toList L.2.2 q.2.2⟩
 |.yield i,.func (.yield b) c d,.func (.yield A) p B,L,q=>by simp only[VR]at L q⊢;exact⟨(h _ _ _ L.1 q.1).1,L.2⟩
 |.nilFunc,.nilFunc,_,_,_=>by simp only[VR]
 |.iface t v,.iface u c,.iface K p,L,q=>by simp only[VR]at L q⊢;exact⟨L.1,VR.n6 h v c p L.2 q.2⟩
 |.nilIface,.nilIface,_,_,_=>by simp only[VR]
 |.b9,_,_,_,_=>by simp only[VR]
theorem aQ.n6{b f e:aO}(h:∀i x y,b i=some x->f i=some y->e i=some x/\e.k x.1=b.k x.1):∀(l:List AV)(m n:List Value),aQ b l m->aQ f l n->aQ e l m
 |[],[],_,_,_=>by simp only[aQ]
 |v::l,c::m,d::n,g,q=>by simp only[aQ]at g q⊢;exact⟨VR.n6 h v c d g.1 q.1,aQ.n6 h l m n g.2 q.2⟩
end
theorem OR.n6{d g f:aO}(h:∀i x y,d i=some x->g i=some y->f i=some x/\f.k x.1=d.k x.1){o:bL}(m:o.kp){t u:Nat}{b j:Obj}(I:OR P d o t b)(q:OR P g o u j):OR P f o t b:=by
 cases o with
 |cells c n e rw aM fz=>cases b<;>simp only[OR]at I⊢;cases j<;>simp only[OR]at q;obtain⟨v,A,B,C⟩:=I;obtain⟨_,_,D,_⟩:=q;refine⟨v,A,λi hi=>?_,C⟩;obtain⟨y,E,F⟩:=B i hi;obtain⟨z,_,G⟩:=D i hi;exact⟨y,E,VR.n6 h _ _ _ F G⟩
 |map es c=>simp only[bL.kp]at m;subst m;cases b<;>simp only[OR]at I⊢;refine⟨I.1,I.2.1,I.2.2.1,?_⟩;have:=I.2.2.2;generalize(Array.toList _)=l at this⊢;cases l with|nil=>simp[bh]|cons J l=>simp[bh]at this
 |jU s r p=>cases b<;>simp only[OR]at I⊢;exact I
 |_=>simp[bL.kp]at m
end
section
variable{P:Program}{b:bS}{ρ:aO}{H:ah}{w:World}{nt:Nat}{aa:ak AV}{a:Act}{o:Oper}{op:bE}
theorem n8(n:af):∀p:af,ah.get ⟨.aG,n⟩ p=.none:=by
 have:∀p:af,(ak.aG:ak bL).get .none p=.none:=by intro p;induction p with|xH=>rfl|xO p c=>exact c|xI p c=>exact c
 exact this
theorem bj.empty(h:bj P b ρ H w){n:af}(d:H.next.am<=n.am):bj P ⟨λf=>w.heap.size<=f,λf=>w.heap.size<=f,λj=>ρ j=none/\j.am<n.am,λj=>ρ j=none/\j.am<n.am⟩ ρ ⟨.aG,n⟩ w:=by
 constructor;·intro i hi;exact absurd (n8 n i) hi
 .intro i j f x y _ hi;exact absurd (n8 n i) hi
 .intro i j hj;rw[n8]at hj;cases hj
 .intro i f x hi;exact absurd (n8 n i) hi
 .intro i hi;exact⟨n8 n i,(h.cS i (agE d hi)).2⟩
 .intro k c;exact⟨c,c⟩
 .exact h.jV
 .intro i f x e hi;exact absurd (n8 n i) hi
 .exact h.dO
 .intro i f x hi;exact absurd (n8 n i) hi
 .intro i hi;exact⟨n8 n i,hi.2,λj hj=>by rw[n8]at hj;cases hj⟩
 intro i hi;exact⟨hi,hi.1⟩
theorem Rr(h:bj P b ρ H w)(hE:gj ρ nt aa a.tmps)(S:bG P nt o=some op){n:jM}{cI:bL}(hy:cI.kp)(he:∀X:ah,aD op aa X=some (n.of X.next,X.new cI)){i:af}(h1:ρ i=none)(h2:i.am<H.next.am)(h3:¬b.un i)(h4:∀j,i∉(H.get j).aM):bt P b ρ w (execOp a.eval o) (n.of i) (H.set i cI):=by
 obtain⟨f1,f2,T⟩:=tc hy;obtain⟨c,w',Q,u,Y,E,I,F⟩:=vr (cO.mk hE (h.empty (n:=H.next) (adv _))) S (he _);obtain⟨c2,w2,_,ag,xb,_,Ib,_⟩:=vr (cO.mk hE (h.empty (n:=H.next.succ) (by rw[af.eI];omega))) S (he _);have ga:(ah.new ⟨.aG,H.next⟩ cI).get H.next=cI:=by rw[ah.cz,aJ rfl]
 have gb:(ah.new ⟨.aG,H.next.succ⟩ cI).get H.next.succ=cI:=by rw[ah.cz,aJ rfl]
 obtain⟨r,C,L,J,Z,e3⟩:=I.cI H.next (by rw[ga];exact T);obtain⟨bb,yb,a1,_,_,d3⟩:=Ib.cI H.next.succ (by rw[gb];exact T);rw[ga]at e3;rw[gb]at d3;have ay:w.heap.size<=r:=I.rd H.next r C (by rw[ga];exact T) J;have R:∀j z,u j=some z->j≠H.next->ρ j=some z:=by
  intro j z v hj;cases hr:ρ j with
  |some z'=>have:=(Y _ _ hr).1;rw[this]at v;exact v
  |none=>
   exfalso;rcases Nat.lt_trichotomy j.am H.next.am with hl|hl|hl;·have:=(I.di j ⟨hr,hl⟩).2;rw[this]at v;cases v
   .exact hj (af.pY hl)
   have:=(I.cS j (by show H.next.succ.am<=_;rw[af.eI];omega)).2;rw[this]at v;cases v
 have av:ag H.next=none:=(Ib.di H.next ⟨(h.cS _ (adv _)).2,by rw[af.eI];omega⟩).2;have p:bQ ρ (ρ.add i r C (u.k r)):=aO.oZ r C _ h1 (λj c y e S=>by have:=(Y _ _ e).2;simp only at this;rw[S]at this;exact this.symm);have a2:∀j z,ρ j=some z->j≠i:=λj z v e=>by rw[e,h1]at v;cases v
 have aw:OR P (ρ.add i r C (u.k r)) cI C L:=by
  refine OR.n6 ?_ hy e3 d3;intro j x y hx M;have hj:j≠H.next:=λe=>by rw[e,av]at M;cases M
  have:=R j x hx hj;exact⟨(p _ _ this).1,by rw[(p _ _ this).2,(Y _ _ this).2]⟩
 have dV:∀a6,a6<w.heap.size->w'.heap[a6]?=w.heap[a6]?:=λa6 s=>F.block a6 s (by show¬w.heap.size<=a6;omega);refine⟨c,w',Q,ρ.add i r C (u.k r),p,?_,?_,⟨F.os,F.tape,F.output,F.size,λa6 s _=>dV a6 s⟩⟩
 .cases n with
  |aE=>obtain⟨a8,x,m,t⟩:=VR.li E;rw[J]at m;injection m with m;injection m with G K;subst G;subst K;rw[t];simp only[jM.of,VR];exact⟨_,_,aO.dU ..,rfl⟩
  |slice l cp ex=>
   simp only[jM.of]at E⊢;cases c with
   |slice ad l' c'=>cases ad with|none=>simp[VR]at E|some ad=>simp only[VR]at E⊢;obtain⟨p1,p2,p3,p4,a8,x,m,t,G⟩:=E;rw[J]at m;injection m with m;injection m with K q5;subst K;subst q5;exact⟨p1,p2,p3,p4,_,_,aO.dU ..,t,by rw[aO.pZ];exact G⟩
   |_=>simp[VR]at E
  |map=>obtain⟨a8,m,t⟩:=VR.lO E;rw[J]at m;injection m with m;injection m with G K;subst G;subst K;rw[t];simp only[jM.of,VR];exact aO.dU ..
 have hg:∀j,(H.set i cI).get j=if j=i then cI else H.get j:=λj=>ah.aC _ _ _ _;have D:∀j a6,j∈((H.set i cI).get a6).aM->a6≠i/\j≠i/\j∈(H.get a6).aM:=by
  intro j a6 hj;rw[hg]at hj;by_cases e:a6=i;·rw[aJ e,f2]at hj;cases hj
  rw[ap e]at hj;exact⟨e,λZ=>h4 a6 (Z▸hj),hj⟩
 have d:∀j,j≠i->(ρ.add i r C (u.k r)) j=ρ j:=λj hj=>by simp[aO.add,hj]
 constructor
 .intro j hj;rw[hg]at hj⊢;by_cases e:j=i;·subst e;rw[aJ rfl];exact⟨r,C,L,aO.dU ..,Z,aw⟩
  rw[ap e]at hj⊢;obtain⟨a8,x,V,g1,g2,g3,g4⟩:=h.bm hj;exact⟨a8,x,V,by rw[d j e];exact g1,by rw[dV a8 g2];exact g3,OR.mono p g4⟩
 .intro j a6 a8 x y N hj s A B;rw[hg]at hj s;rw[hg,hg];by_cases e:j=i;·subst e;have f:a6≠j:=λe=>N e.symm;rw[ap f]at s;rw[aO.dU]at A;injection A with A;injection A with A _;rw[d a6 f]at B;have:=h.dO a6 a8 y B;omega
  by_cases f:a6=i;·subst f;rw[ap e]at hj;rw[aO.dU]at B;injection B with B;injection B with B _;rw[d j e]at A;have:=h.dO j a8 x A;omega
  rw[ap e]at hj⊢;rw[ap f]at s⊢;rw[d j e]at A;rw[d a6 f]at B;exact h.jh j a6 a8 x y N hj s A B
 .intro j a6 hj;obtain⟨g1,g2,g3⟩:=D j a6 hj;obtain⟨m,t⟩:=h.aM j a6 g3;exact⟨m,λO=>by rw[hg,ap g2]at O⊢;exact t O⟩
 .intro j a8 x hj hf e;rw[hg]at hj hf;by_cases f:j=i;·subst f;rw[aO.dU]at e;injection e with e;injection e with e _;exact(h.new a8 ab).1
  rw[ap f]at hj hf;rw[d j f]at e;exact h.wr j a8 x hj hf e
 .intro j hj;have q:j≠i:=λe=>by subst e;have:H.next.am<=j.am:=hj;omega
  obtain⟨m,t⟩:=h.cS j hj;exact⟨by rw[hg,ap q];exact m,by rw[d j q];exact t⟩
 .intro a6 s;exact h.new a6 (agE F.size s)
 .intro g ax;exact(p _ _ (h.jV g ax)).1
 .intro j a8 x V hj e hb;rw[hg]at hj⊢;by_cases f:j=i;·subst f;rw[aJ rfl];rw[aO.dU]at e;injection e with e;injection e with W e5;subst W;subst e5;rw[aO.pZ];have:=I.iw H.next _ _ V (by rw[ga];exact T) J hb;rw[ga]at this;exact this
  rw[ap f]at hj⊢;rw[d j f]at e;rw[(p _ _ e).2];exact h.iw j a8 x V hj e (by rw[<-dV a8 (h.dO j a8 x e)];exact hb)
 .intro j a8 x e;by_cases f:j=i;·subst f;rw[aO.dU]at e;injection e with e;injection e with W _;subst W;exact I.dO _ _ _ J
  rw[d j f]at e;exact afT (h.dO j a8 x e) F.size
 .intro j a8 x hj e;rw[hg]at hj;by_cases f:j=i;·subst f;rw[aO.dU]at e;injection e with e;injection e with W _;exact(h.new a8 ab).2
  rw[ap f]at hj;rw[d j f]at e;exact h.rd j a8 x hj e
 .intro j hj;obtain⟨m,t,G⟩:=h.un j hj;have q:j≠i:=λe=>h3 (e▸hj);exact⟨by rw[hg,ap q];exact m,t,λa6 s=>G a6 (D j a6 s).2.2⟩
 intro j hj;have q:j≠i:=λe=>h3 (e▸(h.di j hj).1);exact⟨(h.di j hj).1,by rw[d j q];exact(h.di j hj).2⟩
end
section
variable{P:Program}{nt:Nat}{az:Array Oper}{l:List bA}{cB:Array Nat}
def ev(cB:Array Nat)(i j:Nat):Prop:=(cB.getD i 0).testBit j=true
def In(L:Array Bool)(i:Nat):Prop:=L.getD i false=true
def iU(az:Array Oper)(i j:Nat):Prop:=∃o e,az[i]?=some o/\e∈o.after.toList/\Region.binds .any e=true/\e.on=j
theorem Kq(a:Array Nat)(j:Nat):∀(es:List Edge)(s:Nat),(es.foldl (λs e=>if Region.binds .any e then s|||2^e.on|||a.getD e.on 0 else s) s).testBit j=true->s.testBit j=true\/∃e∈es,Region.binds .any e=true/\(j=e.on\/(a.getD e.on 0).testBit j=true)
 |[],s,h=>.inl h
 |e::es,s,h=>by
  simp only[List.foldl_cons]at h;rcases Kq a j es _ h with h1|⟨b,he,h1⟩
  .split at h1
   .rename_i hb;simp only[Nat.testBit_or,agd,Nat.testBit_two_pow,decide_eq_true_eq]at h1;rcases h1 with(h1|h1)|h1;·exact .inl h1
    .exact .inr ⟨e,abL ..,hb,.inl h1.symm⟩
    exact .inr ⟨e,abL ..,hb,.inr h1⟩
   exact .inl h1
  exact .inr ⟨b,aco _ he,h1⟩
def pe(a:Array Nat)(o:Oper):Array Nat:=a.push (o.after.foldl (λs e=>if Region.binds .any e then s|||2^e.on|||a.getD e.on 0 else s) 0)
theorem Rt(az:Array Oper):Region.before az=az.toList.foldl pe #[]:=by unfold Region.before;rw[<-Array.foldl_toList];rfl
theorem Kr(az:Array Oper):∀(b b8:List Oper)(a:Array Nat),az.toList=b8++b->a.size=b8.length->(∀i j,(a.getD i 0).testBit j=true->∃k,iU az i k/\k<i/\(j=k\/(a.getD k 0).testBit j=true)\/(iU az i j))->∀i j,((b.foldl pe a).getD i 0).testBit j=true->∃k,iU az i k/\k<i/\(j=k\/((b.foldl pe a).getD k 0).testBit j=true)\/(iU az i j)
 |[],_,_,_,_,h=>h
 |o::b,b8,a,p,hs,h=>by
  simp only[List.foldl_cons];refine Kr az b (b8++[o]) _ (by rw[p];simp) (by simp[pe,hs]) ?_;intro i j c;have d:∀k,k<a.size->(pe a o).getD k 0=a.getD k 0:=by intro k f;simp only[pe,af1];rw[agF,ap ab]
  have n:∀k,a.size<=k->a.getD k 0=0:=by intro k f;simp[af1,afU f]
  rcases Nat.lt_trichotomy i a.size with hl|hl|hl
  .rw[d i hl]at c;obtain⟨k,f|f⟩:=h i j c;·exact⟨k,.inl ⟨f.1,f.2.1,by rw[d k ab];exact f.2.2⟩⟩
   exact⟨k,.inr f⟩
  .subst hl;have g:(pe a o).getD a.size 0=o.after.foldl (λs e=>if Region.binds .any e then s|||2^e.on|||a.getD e.on 0 else s) 0:=by simp only[pe,af1];rw[agF,aJ rfl];rfl
   rw[g,<-Array.foldl_toList]at c;have r:az[a.size]?=some o:=by rw[<-aga,p,hs];simp
   rcases Kq a j _ _ c with h0|⟨e,he,hb,h1⟩;·simp at h0
   rcases h1 with h1|h1;·exact⟨0,.inr ⟨o,e,r,he,hb,h1.symm⟩⟩
   have m:e.on<a.size:=by
    rcases afZ e.on a.size with q|q;·exact q
    rw[n _ q]at h1;simp at h1
   exact⟨e.on,.inl ⟨⟨o,e,r,he,hb,rfl⟩,m,.inr (by rw[d _ m];exact h1)⟩⟩
  have:(pe a o).getD i 0=0:=by simp only[pe,af1];rw[afU (by simp;omega)];rfl
  rw[this]at c;simp at c
theorem Rv(az:Array Oper){i j:Nat}(h:ev (Region.before az) i j):∃k,iU az i k/\k<i/\(j=k\/ev (Region.before az) k j)\/iU az i j:=by unfold ev at h⊢;rw[Rt]at h⊢;exact Kr az az.toList [] #[] rfl rfl (λi j h=>by simp at h) i j h
theorem n9{S:Nat->Prop}(a:∀i,S i->∀j,iU az i j->S j):∀(i:Nat),(∀j,iU az i j->S j)->∀j,ev (Region.before az) i j->S j:=by
 intro i;induction i using Nat.strongRecOn with
 |ind i b=>
  intro hi j hj;obtain⟨k,⟨h1,h2,h3⟩|h1⟩:=Rv az hj
  .rcases h3 with h3|h3;·rw[h3];exact hi k h1
   exact b k h2 (a k (hi k h1)) j h3
  exact hi j h1
theorem Rw(h:uZ az=true){i j:Nat}(hd:iU az i j):j<i:=by
 obtain⟨o,e,h1,h2,h3,rfl⟩:=hd;unfold uZ at h;rw[agn]at h;have a:(o,i)∈az.toList.zipIdx:=by rw[List.mem_zipIdx_iff_getElem?];rw[aga];exact h1
 have:=h _ a;rw[Array.all_eq_true_iff_forall_mem]at this;have:=this e (by simpa using h2);simpa[h3]using this
theorem Rx{L:Array Bool}(U:L.size=az.size){i:Nat}(h:i∈Region.ready .any az L):i<az.size/\¬In L i/\∀j,iU az i j->In L j:=by
 simp only[Region.ready,ag0,agK,ae9,af4]at h;obtain⟨h1,h2,h3⟩:=h;refine⟨h1,?_,?_⟩;·have a:i<L.size:=ab;unfold In;simp only[af1,getElem?_pos L i a,af5]at h2⊢;rw[h2];simp
 rintro j⟨o,e,b,c,d,rfl⟩;rw[b]at h3;simp only[afL,af5,Array.all_eq_true_iff_forall_mem]at h3;have:=h3 e (by simpa using c);unfold In;simpa[d]using this
theorem Ry{L:Array Bool}(U:L.size=az.size)(he:uZ az=true)(h:Region.ready .any az L=[]):∀i,i<az.size->In L i:=by
 intro i;induction i using Nat.strongRecOn with
 |ind i d=>
  intro hi;by_cases a:In L i;·exact a
  exfalso;have:i∈Region.ready .any az L:=by
   simp only[Region.ready,ag0,agK,ae9,af4];refine⟨hi,?_,?_⟩;·have b:i<L.size:=ab;unfold In at a;simp only[af1,getElem?_pos L i b,af5]at a⊢;simpa using a
   rw[getElem?_pos az i hi];simp only[afL,af5,Array.all_eq_true_iff_forall_mem];intro e c;cases hb:Region.binds .any e with|false=>simp|true=>have hd:iU az i e.on:=⟨az[i],e,getElem?_pos az i hi,by simpa using c,hb,rfl⟩;have b:=Rw he hd;have:=d e.on b ab;simp only[afP,Bool.false_or];exact this
  rw[h]at this;cases this
def tf(L:Array Bool)(n:Nat):Nat:=((agA n).filter λi=>!L.getD i false).length
theorem Ks{p q:Nat->Bool}{i:Nat}:∀(r:List Nat),r.Nodup->i∈r->p i=true->q i=false->(∀j,j≠i->q j=p j)->(r.filter q).length+1=(r.filter p).length
 |[],_,h,_,_,_=>by cases h
 |a::r,b,h,c,d,hj=>by
  rw[agf]at b;by_cases e:a=i;·subst e;have:r.filter q=r.filter p:=List.filter_congr λx f=>hj x λe=>b.1 (e▸f);simp[c,d,this]
  have g:i∈r:=by
   rcases acn.1 h with q|q;·exact absurd q.symm e
   exact q
  have:=Ks r b.2 g c d hj;simp only[List.filter_cons,hj a e];split;·simp only[afB];omega
  exact this
theorem vE{L:Array Bool}{i:Nat}(hi:i<L.size)(j:Nat):In (L.setIfInBounds i true) j↔j=i\/In L j:=by
 unfold In;simp only[af1,afA];by_cases e:i=j;·subst e;simp[hi]
 simp[e,ahf e]
theorem Rz{L:Array Bool}{n i:Nat}(U:L.size=n)(hi:i<n)(h:¬In L i):tf (L.setIfInBounds i true) n+1=tf L n:=by
 refine Ks (i:=i) _ List.nodup_range (by simpa using hi) ?_ ?_ ?_;·unfold In at h;simpa using h
 .have:=(vE (L:=L) (i:=i) ab i).2 (.inl rfl);unfold In at this;simp[this]
 intro j hj;have:=vE (L:=L) (i:=i) ab j;unfold In at this;simp only[hj,false_or]at this;cases h1:L.getD j false<;>cases h2:(L.setIfInBounds i true).getD j false<;>simp_all
theorem RA{L:Array Bool}{n i:Nat}(hi:i<n)(h:¬In L i):0<tf L n:=by
 unfold tf;apply List.length_pos_of_mem (a:=i);unfold In at h;have h:L.getD i false=false:=by simpa using h
 exact ag0.2 ⟨agK.2 hi,by rw[h];rfl⟩
def dJ(l:List bA)(i:Nat)(t:af):Prop:=∃x,l[i]?=some x/\x.dst=some t
def Mk(l:List bA)(aa:ak AV)(i:Nat)(j:af):Prop:=∃x d,l[i]?=some x/\x.op.jK=true/\x.dst=some d/\fA (aa.get .ahp d)=some j
def Ch(l:List bA)(i:Nat):Prop:=∃x,l[i]?=some x/\x.op.fW=true
theorem RB{op:bE}(h:op.fW=true):op.jK=false/\op.ia=false/\op.plain=false:=by cases op<;>simp[bE.fW]at h<;>simp[bE.jK,bE.ia,bE.plain]
theorem vF{op:bE}(h:op.jK=true):op.fW=false/\op.ia=false/\op.plain=false:=by cases op<;>simp[bE.jK]at h<;>simp[bE.fW,bE.ia,bE.plain]
theorem qq{op:bE}(h:op.ia=true):op.fW=false/\op.jK=false/\op.plain=false:=by
 cases op<;>(try(simp[bE.ia]at h;done))<;>simp[bE.fW,bE.jK,bE.plain];rename_i lo _ _;cases lo;·simp[bE.ia]at h
 simp
theorem og{i j:Nat}(h:pW l cB i j=true){x y:bA}(g:l[i]?=some x)(m:l[j]?=some y):i≠j/\¬ev cB i j/\(∀d,x.dst=some d->y.dst≠some d/\(d∈y.ib->ev cB j i))/\(∀d,y.dst=some d->d∈x.ib->ev cB j i/\x.op.ia=false)/\(x.op.fW=true->ev cB j i/\∀k,ev cB i k->ev cB j k):=by
 unfold pW at h;rw[g,m]at h;simp only[ae9,bne_iff_ne,ne_eq,af4]at h;obtain⟨⟨⟨⟨h1,h2⟩,h3⟩,a⟩,b⟩:=h;refine⟨h1,by unfold ev;rw[h2];simp,?_,?_,?_⟩
 .intro d hd;rw[hd]at h3;simp only[ae9,agd,af4]at h3;refine⟨λe=>?_,λc=>?_⟩;·rw[e]at h3;simp at h3
  rcases h3.2 with h|h;·exact h
  have:y.ib.contains d=true:=by simpa using c
  rw[this]at h;cases h
 .intro d hd c;rw[hd]at a;simp only[agd,ae9,af4]at a;rcases a with h|h
  .have:x.ib.contains d=true:=by simpa using c
   rw[this]at h;cases h
  exact h
 intro n;simp only[n,afP,Bool.false_or,ae9,beq_iff_eq]at b;refine⟨b.1,λk f=>?_⟩;unfold ev at f⊢;rw[<-b.2,Nat.testBit_and,ae9]at f;exact f.2
theorem zJ:∀{aA:List Nat},sV l cB aA=true->aA.Pairwise (λi j=>pW l cB i j=true)/\∀i∈aA,∃x,l[i]?=some x/\pX x=true
 |[],_=>⟨List.Pairwise.nil,λi h=>by cases h⟩
 |i::a,h=>by
  simp only[sV,ae9,agn]at h;obtain⟨⟨h1,h2⟩,h3⟩:=h;obtain⟨b,c⟩:=zJ h3;refine⟨agY.2 ⟨h2,b⟩,λj hj=>?_⟩;rcases acn.1 hj with e|e
  .subst e;split at h1;·rename_i x d;exact⟨x,d,h1⟩
   cases h1
  exact c j e
theorem Kt{c:Type}{R:c->c->Prop}:∀{s:List c},s.Pairwise R->∀{i j:c},i∈s->j∈s->i=j\/R i j\/R j i
 |[],_,i,_,h,_=>by cases h
 |a::s,h,i,j,hi,hj=>by
  rw[agY]at h;rcases acn.1 hi with e|e
  .subst e;rcases acn.1 hj with b|b;·exact .inl b.symm
   exact .inr (.inl (h.1 j b))
  rcases acn.1 hj with b|b;·subst b;exact .inr (.inr (h.1 i e))
  exact Kt h.2 e b
theorem dJ.inj{aA:List Nat}(f:sV l cB aA=true){i j:Nat}(hi:i∈aA)(hj:j∈aA){t:af}(h1:dJ l i t)(h2:dJ l j t):i=j:=by
 obtain⟨x,a,b⟩:=h1;obtain⟨y,c,d⟩:=h2;rcases Kt (zJ f).1 hi hj with e|e|e;·exact e
 .exact absurd d ((og e a c).2.2.1 t b).1
 exact absurd b ((og e c a).2.2.1 t d).1
def fV(aa:ak AV)(a:List af):List af:=a.filterMap λp=>fA (aa.get .ahp p)
theorem BS(aa:ak AV):∀(a:List af)(H:ah)(j:af),(cW aa H a).1.get j=(if j∈fV aa a then .none else H.get j)/\(cW aa H a).1.next=H.next/\∀b,(cH b (cW aa H a).2).get j=(if j∈fV aa a then H.get j else b.get j)/\(cH b (cW aa H a).2).next=b.next
 |[],H,j=>by simp[cW,fV,cH]
 |p::a,H,j=>by
  unfold cW;cases g:fA (aa.get .ahp p)with
  |none=>have:=BS aa a H j;simpa[fV,g]using this
  |some i=>
   have c:=BS aa a (H.set i .none) j;simp only;have d:∀q,q∈fV aa (p::a)↔q=i\/q∈fV aa a:=by intro q;simp[fV,g]
   refine⟨?_,by rw[c.2.1];rfl,λb=>⟨?_,?_⟩⟩
   .rw[c.1,ah.aC];by_cases e:j=i;·subst e;simp[d]
    by_cases f:j∈fV aa a<;>simp[d,e,f]
   .rw[cH,ah.aC,(c.2.2 b).1,ah.aC];by_cases e:j=i;·subst e;simp[d]
    by_cases f:j∈fV aa a<;>simp[d,e,f]
   rw[cH,ah.d8];exact(c.2.2 b).2
theorem Ku{a:Option Nat}{seen:List Nat}{i:Nat}{aa:ak AV}{j:af}:j∈fV aa (zq l cB a seen i)↔∃k∈seen,(¬ev cB i k\/a=some k)/\Mk l aa k j:=by
 simp only[fV,zq,List.mem_filterMap];constructor
 .rintro⟨p,⟨k,b,h1⟩,h2⟩;split at h1
  .rename_i r c;split at h1;·rename_i e;simp only[ae9,agd,af4,beq_iff_eq]at e;exact⟨k,b,e.2.imp (λh=>by unfold ev;rw[h];simp) id,r,p,c,e.1,h1,h2⟩
   cases h1
  cases h1
 rintro⟨k,b,h1,r,d,c,h2,h3,f⟩;refine⟨d,⟨k,b,?_⟩,f⟩;have h1:(!(cB.getD i 0).testBit k||a==some k)=true:=by
  rcases h1 with h1|h1;·unfold ev at h1;rw[show(cB.getD i 0).testBit k=false by simpa using h1];rfl
  rw[h1];simp
 simp only[c,h2,h1,ahj,bf,h3]
theorem RC{seen:List Nat}{i k:Nat}(a:k∈seen){r:bA}(b:l[k]?=some r)(h1:r.op.ia=true)(h2:¬ev cB i k){d:af}(hd:r.dst=some d):(⟨d,r.op,r.guard⟩:gE)∈ia l cB seen i:=by
 simp only[ia,List.mem_filterMap];refine⟨k,a,?_⟩;unfold ev at h2;have h2:(cB.getD i 0).testBit k=false:=by simpa using h2
 simp only[b,h1,h2,Bool.not_false,ahj,bf,hd,afL]
theorem Kv{aa:ak AV}{H:ah}:∀{re:List gE},du aa H re=true->∀r∈re,dc aa r.guard=true->∃b,aD r.op aa H=some (aa.get .ahp r.dst,b)
 |[],_,r,h,_=>by cases h
 |a::re,h,r,c,hg=>by
  simp only[du,ae9]at h;rcases acn.1 c with e|e
  .subst e;rw[hg]at h;simp only[bf]at h;have:=h.1;split at this;·rename_i w b d;rw[d,F8 this];exact⟨b,rfl⟩
   cases this
  exact Kv h.2 r e hg
end
end
end Go.al
end
