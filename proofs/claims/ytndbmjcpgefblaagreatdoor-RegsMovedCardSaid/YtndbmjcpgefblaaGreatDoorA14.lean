/- A part of the proof (an abstract machine, walks): no statement of its own, no conditions. -/
import Derived.Test.YtndbmjcpgefblaaGreatDoorA13
set_option linter.all false
namespace Go.Abs
variable [Ov]
variable {P:Program} {nt:Nat} {ops:Array Oper} {l:List AOper} {ord:List Nat}
variable {Wr:Acc} {tbl:Nat→AFunc} {K:Fr→Heap→Prop} {marks:List Pos} {rnd:Option Pos} {env0:Tree AV} {L:Array Bool} {seen rest:List Nat} {n:Nat} {env:Tree AV} {H:Heap} {epi:Tree AV} {pn:List Pos} {ρ:Names} {w:World} {tmps:Array Value}
theorem Mk.env_iff {env env':Tree AV} {i:Nat} {j:Pos} (h:∀ t,Dst l i t→env'.get .undef t=env.get .undef t):Mk l env' i j↔Mk l env i j:=by
  constructor
  · rintro ⟨x,t,hx,h1,h2,h3⟩;exact ⟨x,t,hx,h1,h2,by rw [← h t ⟨x,hx,h2⟩];exact h3⟩
  · rintro ⟨x,t,hx,h1,h2,h3⟩;exact ⟨x,t,hx,h1,h2,by rw [h t ⟨x,hx,h2⟩];exact h3⟩
theorem read_agree (hR:Reg P nt ops l ord) {c:Nat} {rest:List Nat} (ho:seen.reverse++c::rest=ord) {env' ex:Tree AV} {i:Nat} {y:AOper} {post pre:List Nat} (hy:l[i]?=some y) (hr:y.op.reads=true) (hs:seen=post++i::pre)
    (h1:∀ t,(∃ k∈pre,Dst l k t)→ex.get .undef t=env'.get .undef t) (h2:∀ t,(∀ k∈pre,¬ Dst l k t)→ex.get .undef t=env0.get .undef t) (h0:∀ t,(∀ k∈c::seen,¬ Dst l k t)→env'.get .undef t=env0.get .undef t) :
    ∀ t∈y.names,env'.get .undef t=ex.get .undef t:=by
  intro t ht
  by_cases hp:∃ k∈pre,Dst l k t
  · exact (h1 t hp).symm
  · rw [h2 t fun k hk hkt=>hp ⟨k,hk,hkt⟩]
    refine h0 t fun k hk hkt=>?_
    obtain ⟨z,hz,dz⟩:=hkt
    have his:i∈seen:=by rw [hs];simp
    have after:okPair l (Region.before ops) i k=true→False:=fun hok=>by
      have:=((okPair_spec hok hy hz).2.2.2.1 t dz ht).2
      rw [hr] at this;cases this
    rcases List.mem_cons.1 hk with rfl | hk
    · exact after ((pair_seen hR ho).2 i his k (List.mem_cons_self ..))
    · rw [hs,List.mem_append,List.mem_cons] at hk
      rcases hk with hk | rfl | hk
      · exact after ((pair_split hR ho hs).2 k hk)
      · obtain ⟨y',hy',hone⟩:=get_ord hR (seen_ord ho his)
        rw [hy] at hy';injection hy' with hy';subst hy'
        rw [hy] at hz;injection hz with hz;subst hz
        have:y.names.contains t=true:=by simpa using ht
        simp [okOne,(reads_kinds hr).1,(reads_kinds hr).2.2,(reads_kinds hr).2.1,dz,hr,this] at hone
        exact hone ht
      · exact hp ⟨k,hk,z,hz,dz⟩
theorem Dr.chain_fin (hR:Reg P nt ops l ord) {c:Nat} (d:Dr P Wr nt ops l ord tbl K marks rnd env0 L seen (c::rest) n env H epi pn ρ w tmps) {x:AOper} (hx:l[c]?=some x) (hxc:x.op.chain=true) (hdep:∀ j,Dep ops c j→In L j)
    {v:AV} {H2:Heap} {n':Nat} {ρ':Names} {w':World} {tmps':Array Value} (hext:Ext ρ ρ') (ha:∀ j k,k∈seen→¬ Anc (Region.before ops) c k→Mk l env k j→H2.get j=H.get j)
    (hI:Inv P Wr ρ' (H2.drops pn) w') (hdead:∀ j∈pn,ρ' j=none∧∀ k,j∉(H2.get k).par) (hidx:∀ j k,k∈seen→Mk l env k j→j.idx<H2.next.idx)
    (hre:∀ i∈seen,¬ In L i→∀ y,l[i]?=some y→y.op.reads=true→guardOk (setDst env x.dst v) y.guard=true→∀ t,y.dst=some t→(∀ j,H2.get j=H.get j)∨∃ H1,evalOp y.op (setDst env x.dst v) H2=some ((setDst env x.dst v).get .undef t,H1))
    (hE:ERel ρ' nt (setDst epi x.dst v) tmps') (hrun:Go.Abs.ops False allAsk tbl n' (addRe l (Region.before ops) (c::seen) rest) ⟨setDst env x.dst v,marks,rnd⟩ H2 K) :
    Dr P Wr nt ops l ord tbl K marks rnd env0 (L.setIfInBounds c true) (c::seen) rest n' (setDst env x.dst v) H2 (setDst epi x.dst v) pn ρ' w' tmps':=by
  obtain ⟨o,hio,hox⟩:=hR.op hx
  have hlt:c<ops.size:=by
    rcases Nat.lt_or_ge c ops.size with q | q
    · exact q
    · rw [Array.getElem?_eq_none q] at hio;cases hio
  have hin:∀ j,In (L.setIfInBounds c true) j↔j=c∨In L j:=in_set (by rw [d.size];exact hlt)
  have hnin:∀ j,¬ In (L.setIfInBounds c true) j→j≠c∧¬ In L j:=fun j hj=>⟨fun e=>hj ((hin j).2 (.inl e)),fun e=>hj ((hin j).2 (.inr e))⟩
  have hcr:c∈c::rest:=List.mem_cons_self ..
  have hcn:c∉seen:=rest_new hR d.ord_eq hcr
  have hdc:∀ t,Dst l c t↔x.dst=some t:=fun t=>⟨fun ⟨y,hy,dy⟩=>by rw [hx] at hy;injection hy with hy;subst hy;exact dy,fun h=>⟨x,hx,h⟩⟩
  have hinj:∀ i t,i∈seen→Dst l i t→x.dst≠some t:=fun i t hi hd e=>hcn (Dst.inj hR.hok (seen_ord d.ord_eq hi) (rest_ord d.ord_eq hcr) hd ((hdc t).2 e) ▸ hi)
  have henv:∀ t,x.dst≠some t→(setDst env x.dst v).get .undef t=env.get .undef t:=fun t h=>by rw [setDst_get,if_neg h]
  have hepi:∀ t,x.dst≠some t→(setDst epi x.dst v).get .undef t=epi.get .undef t:=fun t h=>by rw [setDst_get,if_neg h]
  have hmk:∀ i j,i∈c::seen→(Mk l (setDst env x.dst v) i j↔i∈seen∧Mk l env i j):=by
    intro i j hi
    rcases List.mem_cons.1 hi with e | e
    · subst e
      refine ⟨fun h=>?_,fun h=>absurd h.1 hcn⟩
      obtain ⟨y,t,hy,hm,_⟩:=h
      rw [hx] at hy;injection hy with hy;subst hy
      rw [(chain_kinds hxc).1] at hm;cases hm
    · rw [Mk.env_iff fun t ht=>henv t (hinj i t e ht)]
      exact ⟨fun h=>⟨e,h⟩,fun h=>h.2⟩
  have h0:∀ t,(∀ k∈c::seen,¬ Dst l k t)→(setDst env x.dst v).get .undef t=env0.get .undef t:=by
    intro t ht
    rw [henv t fun e=>ht c (List.mem_cons_self ..) ((hdc t).2 e)]
    exact d.env_same t fun k hk=>ht k (List.mem_cons_of_mem _ hk)
  refine ⟨by rw [← d.ord_eq];simp,by rw [Array.size_setIfInBounds];exact d.size,?_,?_,?_,hrun,h0,?_,?_,?_,?_,?_,?_,?_,?_,hE,hI⟩
  · intro j hj
    rcases (hin j).1 hj with e | e
    · rw [e];exact List.mem_cons_self ..
    · exact List.mem_cons_of_mem _ (d.sub j e)
  · intro j hj k hk
    rcases (hin j).1 hj with e | e
    · rw [e] at hk;exact (hin k).2 (.inr (hdep k hk))
    · exact (hin k).2 (.inr (d.closed j e k hk))
  · intro j hj hc
    rcases List.mem_cons.1 hj with e | e
    · exact (hin j).2 (.inl e)
    · exact (hin j).2 (.inr (d.chn j e hc))
  · intro t ht
    by_cases e:x.dst=some t
    · rw [setDst_get,setDst_get,if_pos e,if_pos e]
    · rw [hepi t e,henv t e]
      refine d.pi_env t fun k hk hn=>ht k (List.mem_cons_of_mem _ hk) fun h=>?_
      rcases (hin k).1 h with e' | e'
      · exact hcn (e' ▸ hk)
      · exact hn e'
  · intro t k hk hn hkt
    obtain ⟨g1,g2⟩:=hnin k hn
    have hks:k∈seen:=(List.mem_cons.1 hk).resolve_left g1
    rw [hepi t (hinj k t hks hkt)]
    exact d.pi_env0 t k hks g2 hkt
  · intro j
    rw [d.pn_iff]
    constructor
    · rintro ⟨k,hk,g1,g2⟩
      exact ⟨k,List.mem_cons_of_mem _ hk,fun h=>(hin k).1 h |>.elim (fun e=>hcn (e ▸ hk)) g1,(hmk k j (List.mem_cons_of_mem _ hk)).2 ⟨hk,g2⟩⟩
    · rintro ⟨k,hk,g1,g2⟩
      obtain ⟨g3,g4⟩:=(hmk k j hk).1 g2
      exact ⟨k,g3,(hnin k g1).2,g4⟩
  · intro i i' j hi hi' g1 g2
    obtain ⟨a1,a2⟩:=(hmk i j hi).1 g1
    obtain ⟨b1,b2⟩:=(hmk i' j hi').1 g2
    exact d.names i i' j a1 b1 a2 b2
  · intro i j hi g1
    obtain ⟨a1,a2⟩:=(hmk i j hi).1 g1
    refine ⟨hidx j i a1 a2,?_⟩
    rcases (d.top i j a1 a2).2 with g | g
    · exact .inl g
    · right;intro e
      cases hr:ρ j with
      | none=>exact g hr
      | some z=>rw [(hext _ _ hr).1] at e;cases e
  · intro i j hi g1 g2
    obtain ⟨a1,a2⟩:=(hmk i j hi).1 g1
    rw [ha j i a1 (g2 c (List.mem_cons_self ..) ⟨x,hx,hxc⟩) a2]
    exact d.young i j a1 a2 fun k hk=>g2 k (List.mem_cons_of_mem _ hk)
  · intro i hi hn
    obtain ⟨g1,g2⟩:=hnin i hn
    have his:i∈seen:=(List.mem_cons.1 hi).resolve_left g1
    obtain ⟨y,post,pre,ex,hy,hs,h1,h2,hcase⟩:=d.pend i his g2
    have h1':∀ t,(∃ k∈pre,Dst l k t)→ex.get .undef t=(setDst env x.dst v).get .undef t:=by
      rintro t ⟨k,hk,hkt⟩
      rw [henv t (hinj k t (by rw [hs];simp [hk]) hkt)]
      exact h1 t ⟨k,hk,hkt⟩
    have hval:∀ t,y.dst=some t→(setDst env x.dst v).get .undef t=env.get .undef t:=fun t ht=>henv t (hinj i t his ⟨y,hy,ht⟩)
    refine ⟨y,c::post,pre,ex,hy,by rw [hs];rfl,h1',h2,?_⟩
    rcases hcase with ⟨hg,hdf,hv⟩ | ⟨hg,u,hv,hcase⟩
    · exact .inl ⟨hg,hdf,fun t ht=>by rw [hval t ht];exact hv t ht⟩
    · refine .inr ⟨hg,u,fun t ht=>by rw [hval t ht];exact hv t ht,?_⟩
      rcases hcase with ⟨hm,hev⟩ | ⟨hr,htg,hev⟩ | ⟨hm,nv,obj,j0,hyy,hvv,hobj,hev⟩
      · exact .inl ⟨hm,hev⟩
      · have hag:=read_agree hR d.ord_eq hy hr hs h1' h2 h0
        obtain ⟨y',hy',hone⟩:=get_ord hR (seen_ord d.ord_eq his)
        rw [hy] at hy';injection hy' with hy';subst hy'
        obtain ⟨t0,ht0⟩:∃ t,y.dst=some t:=by
          cases hd:y.dst with
          | some t=>exact ⟨t,rfl⟩
          | none=>simp [okOne,hd,(reads_kinds hr).1,(reads_kinds hr).2.2] at hone
        right;left
        have hmk':∀ j,(∀ k∈seen,Mk l env k j→Anc (Region.before ops) i k)→∀ k∈c::seen,Mk l (setDst env x.dst v) k j→Anc (Region.before ops) i k:=fun j h k hk hm=>by
          obtain ⟨a1,a2⟩:=(hmk k j hk).1 hm
          exact h k a1 a2
        rcases hre i his g2 y hy hr (by rw [guardOk_congr hag];exact hg) t0 ht0 with hsame | ⟨H1,hev2⟩
        · exact ⟨hr,fun j hj=>⟨by rw [hsame];exact (htg j hj).1,hmk' j (htg j hj).2⟩,fun H' hH'=>hev H' fun j hj=>by rw [hH' j hj,hsame]⟩
        · rw [hval t0 ht0,hv t0 ht0,evalOp_congr (fun p hp=>hag p (op_names hp))] at hev2
          obtain ⟨_,q2,q3⟩:=reads_spec hr hev2
          exact ⟨hr,fun j hj=>⟨q2 j hj,hmk' j (htg j hj).2⟩,q3⟩
      · right;right
        refine ⟨hm,nv,obj,j0,hyy,hvv,?_,hev⟩
        rw [ha j0 i his (fun hA=>g2 (anc_in d.closed c hdep i hA)) ?_]
        · exact hobj
        · obtain ⟨y',hy',hone⟩:=get_ord hR (seen_ord d.ord_eq his)
          rw [hy] at hy';injection hy' with hy';subst hy'
          cases hd:y.dst with
          | some t=>exact ⟨y,t,hy,hm,hd,by rw [hv t hd,hvv];exact NewV.name nv j0⟩
          | none=>simp [okOne,hd,(makes_kinds hm).1,(makes_kinds hm).2.2] at hone
  · intro j hj
    exact ⟨(hdead j hj).1,(d.dead j hj).2.1,(hdead j hj).2⟩
theorem Dr.chain_step (hR:Reg P nt ops l ord) (hcall:∀ m,m<n→CallOk P tbl m) {c:Nat} (d:Dr P Wr nt ops l ord tbl K marks rnd env0 L seen (c::rest) n env H epi pn ρ w tmps) (hch:Ch l c) (hdep:∀ j,Dep ops c j→In L j) {b:Frame} {a:Act} (hat:a.tmps=tmps) (is:List Nat) (k:List Item) (cs:List Frame) :
    ∃ (ρ':Names) (w':World) (a':Act) (n':Nat) (env':Tree AV) (H':Heap) (epi':Tree AV) (pn':List Pos),n'≤n∧Ext ρ ρ'∧Kept Wr w w'∧a'.defers=a.defers∧Steps P (lone (b.atR a (.inRegion ops (c::is)::k)) cs w) (lone (b.atR a' (.inRegion ops is::k)) cs w') ∧
      Dr P Wr nt ops l ord tbl K marks rnd env0 (L.setIfInBounds c true) (c::seen) rest n' env' H' epi' pn' ρ' w' a'.tmps:=by
  subst hat
  obtain ⟨x,hx,hxc⟩:=hch
  obtain ⟨o,hio,hox⟩:=hR.op hx
  obtain ⟨xd,_,_,xo,_⟩:=cOper_inv hox
  have hcr:c∈c::rest:=List.mem_cons_self ..
  have hag:=d.agree_head hR hcr hdep hx
  have hgd:guardDefd env x.guard=true→Region.wanted o (yielded ops a.tmps)=guardOk env x.guard:=fun hdf=>by rw [guard_sound' d.E hox (by rw [guardDefd_congr hag];exact hdf)];exact guardOk_congr hag
  have hrun:=d.run
  simp only [addRe,hx] at hrun
  cases n with
  | zero=>simp only [Go.Abs.ops] at hrun
  | succ n =>
  have hnext:(H.drops pn).next=H.next:=Heap.next_drops _ _
  have hpnlt:∀ j∈pn,j.idx<H.next.idx:=fun j hj=>by
    obtain ⟨k',hk',_,hm⟩:=(d.pn_iff j).1 hj
    exact (d.top k' j hk' hm).1
  simp only [Go.Abs.ops,withRe,hxc,Bool.true_or,if_true] at hrun
  cases hg:guardOk env x.guard with
  | false =>
    rw [hg] at hrun hgd
    simp only [Bool.false_eq_true,if_false] at hrun
    split at hrun
    case isFalse=>exact hrun.elim
    rename_i hdf
    have hgd:=hgd hdf
    refine ⟨ρ,w,a.put o.dst undef,n,setDst env x.dst .undef,H,setDst epi x.dst .undef,pn,Nat.le_succ n,Ext.refl ρ,Kept.refl Wr w,put_defers' ..,op_skips hio hgd,?_⟩
    exact d.chain_fin hR hx hxc hdep (Ext.refl ρ) (fun _ _ _ _ _=>rfl) d.inv (fun j hj=>⟨(d.dead j hj).1,(d.dead j hj).2.2⟩) (fun j k hk hm=>(d.top k j hk hm).1) (fun _ _ _ _ _ _ _ _ _=>.inl fun _=>rfl) (by rw [xd];exact d.E.put (VR.undef ρ) o.dst) hrun
  | true =>
    have hgd:=hgd (guardOk_defd hg)
    rw [hg] at hrun hgd
    simp only [if_true] at hrun
    generalize hhid:hides l (Region.before ops) seen c=hid at hrun
    have hget:=hideAll_get env hid H
    have hmem:∀ j,j∈hidden env hid↔∃ k∈seen,¬ Anc (Region.before ops) c k∧Mk l env k j:=fun j=>by rw [← hhid];exact hides_mem
    have hpnh:∀ j∈pn,j∈hidden env hid:=fun j hj=>by
      obtain ⟨k',hk',hn,hm⟩:=(d.pn_iff j).1 hj
      exact (hmem j).2 ⟨k',hk',fun hA=>hn (anc_in d.closed c hdep k' hA),hm⟩
    have hyoung:∀ i,(i∈hidden env hid∧i∉pn)→((H.drops pn).get i).young:=by
      rintro i ⟨h1,h2⟩
      obtain ⟨k',hk',hn,hm⟩:=(hmem i).1 h1
      rw [drops_get,if_neg h2]
      refine d.young k' i hk' hm fun c' hc' ⟨z,hz,hzc⟩ hA=>?_
      exact hn (((okPair_spec ((pair_seen hR d.ord_eq).2 c' hc' c hcr) hz hx).2.2.2.2 hzc).2 k' hA)
    have Ish:=d.inv.shield (hl:=fun i=>i∈hidden env hid∧i∉pn) (dd:=fun j=>j∈pn) hyoung (fun j hj=>⟨by rw [drops_get,if_pos hj],(d.dead j hj).1,by rw [hnext];exact hpnlt j hj,fun k hk=>by
      rw [drops_get] at hk
      split at hk
      · cases hk
      · exact (d.dead j hj).2.2 k hk⟩) (H2:=(hideAll env H hid).1) (by rw [(hget .xH).2.1,hnext]) (fun j=>by
        rw [(hget j).1,drops_get]
        by_cases e:j∈hidden env hid
        · rw [if_pos e];exact .inr rfl
        · rw [if_neg e,if_neg fun h=>e (hpnh j h)];exact .inl rfl) (fun i hi=>by rw [(hget i).1,if_pos hi.1])
    have fin:∀ {v:AV} {H1:Heap} {cv:Value} {w':World} {ρ':Names},Ext ρ ρ'→VR ρ' v cv→Inv P (Wr.shield ρ (fun i=>i∈hidden env hid∧i∉pn) fun j=>j∈pn) ρ' H1 w'→Kept (Wr.shield ρ (fun i=>i∈hidden env hid∧i∉pn) fun j=>j∈pn) w w' →
        Steps P (lone (b.atR a (.inRegion ops (c::is)::k)) cs w) (lone (b.atR (a.put o.dst cv) (.inRegion ops is::k)) cs w') →
        (if recheck (setDst env x.dst v) (showAll H1 (hideAll env H hid).2) (reads l (Region.before ops) seen c)=true then Go.Abs.ops False allAsk tbl n (addRe l (Region.before ops) (c::seen) rest) ⟨setDst env x.dst v,marks,rnd⟩ (showAll H1 (hideAll env H hid).2) K else False) →
        ∃ (ρ':Names) (w':World) (a':Act) (n':Nat) (env':Tree AV) (H':Heap) (epi':Tree AV) (pn':List Pos),n'≤n+1∧Ext ρ ρ'∧Kept Wr w w'∧a'.defers=a.defers∧Steps P (lone (b.atR a (.inRegion ops (c::is)::k)) cs w) (lone (b.atR a' (.inRegion ops is::k)) cs w') ∧
          Dr P Wr nt ops l ord tbl K marks rnd env0 (L.setIfInBounds c true) (c::seen) rest n' env' H' epi' pn' ρ' w' a'.tmps:=by
      intro v H1 cv w' ρ' hext hv hI' hK hst hre
      split at hre
      case isFalse=>exact hre.elim
      rename_i hck
      have hsh:∀ j,(showAll H1 (hideAll env H hid).2).get j=if j∈hidden env hid then H.get j else H1.get j:=fun j=>((hget j).2.2 H1).1
      have hshn:(showAll H1 (hideAll env H hid).2).next=H1.next:=((hget .xH).2.2 H1).2
      generalize showAll H1 (hideAll env H hid).2=H2 at hre hck hsh hshn
      obtain ⟨u1,u2⟩:=d.inv.unshield hyoung hext hI' hK (H2:=H2.drops pn) (by rw [Heap.next_drops];exact hshn) (fun i hi=>by rw [drops_get,drops_get,if_neg hi.2,if_neg hi.2,hsh,if_pos hi.1]) (fun i hi=>by
        rw [drops_get]
        by_cases e:i∈pn
        · rw [if_pos e];exact (hI'.un i (.inr (.inr e))).1.symm
        · rw [if_neg e,hsh,if_neg fun h=>hi ⟨h,e⟩])
      refine ⟨ρ',w',a.put o.dst cv,n,setDst env x.dst v,H2,setDst epi x.dst v,pn,Nat.le_succ n,hext,u2,put_defers' ..,hst,?_⟩
      refine d.chain_fin hR hx hxc hdep (v:=v) hext (fun j k' hk' hn hm=>by rw [hsh,if_pos ((hmem j).2 ⟨k',hk',hn,hm⟩)]) u1 ?_ ?_ ?_ (by rw [xd];exact (d.E.mono hext).put hv o.dst) hre
      · intro j hj
        refine ⟨(hI'.dead j (.inr hj)).2,fun k' hk'=>?_⟩
        rw [hsh] at hk'
        split at hk'
        · exact (d.dead j hj).2.2 k' hk'
        · exact (hI'.un j (.inr (.inr hj))).2.2 k' hk'
      · intro j k' hk' hm
        rw [hshn]
        by_cases e:j∈hidden env hid
        · by_cases e':j∈pn
          · exact (hI'.un j (.inr (.inr e'))).2.1
          · exact (hI'.un j (.inr (.inl ⟨e,e'⟩))).2.1
        · have hl:ρ j≠none:=((d.top k' j hk' hm).2).resolve_left fun h=>e (hpnh j h)
          rcases Nat.lt_or_ge j.idx H1.next.idx with q | q
          · exact q
          · exfalso
            cases hr:ρ j with
            | none=>exact hl hr
            | some z =>
              have:=(hI'.fresh j q).2
              rw [(hext _ _ hr).1] at this;cases this
      · intro i hi hn y hy hr hgy t ht
        right
        have hm:=reads_mem (l:=l) (anc:=Region.before ops) (i:=c) hi hy hr (fun hA=>hn (anc_in d.closed c hdep i hA)) ht
        obtain ⟨H3,h3⟩:=recheck_mem hck _ hm hgy
        exact ⟨H3,h3⟩
    split at hrun
    ·
      rename_i f args hop
      have hcall':cOp P nt o=some (.call f args)∧isVCall o.op=true:=by
        rw [xo] at hop
        split at hop
        · cases hop
        · rename_i hn
          rw [hop] at hn
          simp only [AOp.isCall,Bool.true_and,Bool.not_eq_true',Bool.not_eq_false] at hn
          refine ⟨?_,hn⟩
          cases hc:cOp P nt o with
          | none=>rw [hc] at hop;cases hop
          | some q=>rw [hc] at hop;simp only [Option.getD_some] at hop;rw [hop]
      obtain ⟨cc,g,ho,hg',h1,h2⟩:=op_call hcall'.2 hcall'.1
      have hstep:=stepGR_op (P:=P) (b:=b) (a:=a) (k:=k) (cs:=cs) (w:=w) (rest:=is) hio hgd
      rw [Oper.semAt_eq _ _ _ (no_defer hcall'.1)] at hstep
      have hsem:execOp a.eval o=Invoked (a.eval g) (cc.args.map a.eval):=by
        simp only [execOp,ho,resolve,hg',Invoked]
      rw [hsem] at hstep
      have hf:gv env f=gv epi f:=gv_congr fun p hp=>(hag p (op_names (by rw [hop];simp [AOp.slots,hp]))).symm
      have has:args.map (gv env)=args.map (gv epi):=gvs_congr fun p hp=>(hag p (op_names (by rw [hop];simp only [AOp.slots,List.mem_append];exact .inr hp))).symm
      have hargs:VRs ρ (args.map (gv epi)) (cc.args.map a.eval).toList:=by
        rw [Array.toList_map];exact gvs_sound d.E d.inv h2
      obtain ⟨v,H1,c',w',fr1,cs1,w1,hK,⟨ρ',hext,hv,hI',hKept⟩,hb,hs⟩:=hcall n (Nat.lt_succ_self n) hrun (by rw [hf];exact gv_sound h1 d.E d.inv) (by rw [has];exact hargs) Ish (b.atR a (.inRegion ops (c::is)::k)) cs (by simp [atCall,Frame.atR])
      have hfin:(b.atR a (.inRegion ops (c::is)::k)).finish c'=b.atR (a.put o.dst c') (.inRegion ops is::k):=by rw [Frame.finish_atR,hio];rfl
      refine fin hext hv hI' hKept ?_ hK
      rw [← hfin]
      exact .head (step_lone_go (by rw [hstep];exact hb)) hs
    ·
      rename_i it hop
      have hcop:cOp P nt o=some (.nextMap it):=by
        rw [xo] at hop
        split at hop
        · cases hop
        · cases hc:cOp P nt o with
          | none=>rw [hc] at hop;cases hop
          | some q=>rw [hc] at hop;simp only [Option.getD_some] at hop;rw [hop]
      split at hrun
      · rename_i cands aft hn
        rw [gv_congr (env':=epi) (x:=it) fun p hp=>(hag p (op_names (by rw [hop];simpa [AOp.slots] using hp))).symm] at hn
        obtain ⟨j,cd,hj,hcd,cv,w',hr,ρ',hext,hv,hI',hKept⟩:=ok_nextMap (Ctx.mk d.E Ish) hcop hn
        have hrun:=hrun j hj
        simp only [hcd] at hrun
        exact fin hext hv hI' hKept (op_steps hio hcop hgd hr) hrun
      · exact hrun.elim
    · split at hrun
      · rename_i v H1 hev
        have hev':evalOp x.op epi (hideAll env H hid).1=some (v,H1):=by rw [evalOp_congr (fun p hp=>hag p (op_names hp))];exact hev
        have hcop:=cop_of_eval hox hev'
        obtain ⟨cv,w',hr,ρ',hext,hv,hI',hKept⟩:=ok_op (Ctx.mk d.E Ish) hcop hev'
        exact fin hext hv hI' hKept (op_steps hio hcop hgd hr) hrun
      · exact hrun.elim
end Go.Abs
namespace Go.Abs
variable [Ov]
variable {P:Program} {nt:Nat} {ops:Array Oper} {l:List AOper} {ord:List Nat}
variable {Wr:Acc} {tbl:Nat→AFunc} {K:Fr→Heap→Prop} {marks:List Pos} {rnd:Option Pos} {env0:Tree AV} {L:Array Bool} {seen rest:List Nat} {n:Nat} {env:Tree AV} {H:Heap} {epi:Tree AV} {pn:List Pos} {ρ:Names} {w:World} {tmps:Array Value}
theorem Dr.lt_next (d:Dr P Wr nt ops l ord tbl K marks rnd env0 L seen rest n env H epi pn ρ w tmps) {j:Pos} (h:H.get j≠.none):j.idx<H.next.idx:=by
  rcases Nat.lt_or_ge j.idx H.next.idx with q | q
  · exact q
  · exfalso
    have h1:=(d.inv.fresh j (by rw [Heap.next_drops];exact q)).1
    rw [drops_get] at h1
    split at h1
    · rename_i hj
      obtain ⟨k,hk,_,hm⟩:=(d.pn_iff j).1 hj
      have:=(d.top k j hk hm).1;omega
    · exact h h1
theorem Dr.adv_fin (hR:Reg P nt ops l ord) {i:Nat} (d:Dr P Wr nt ops l ord tbl K marks rnd env0 L seen (i::rest) n env H epi pn ρ w tmps) {x:AOper} (hx:l[i]?=some x) (hxc:x.op.chain=false)
    {v:AV} {H2:Heap} {n':Nat} {pn':List Pos} (hget:∀ j,H.get j≠.none→H2.get j=H.get j) (hnx:H.next.idx≤H2.next.idx) (hpn:∀ j,j∈pn'↔j∈pn∨Mk l (setDst env x.dst v) i j)
    (hnew:∀ j,Mk l (setDst env x.dst v) i j→H.next.idx≤j.idx∧j.idx<H2.next.idx∧(H2.get j).young∧ρ j=none∧¬ Wr.un j∧∀ k,j∉(H2.get k).par) (hI:Inv P Wr ρ (H2.drops pn') w) (hold:∀ j∈pn,∀ k,j∉(H2.get k).par)
    (hp:Pend l (Region.before ops) (i::seen) env0 (setDst env x.dst v) H2 i) (hrun:Go.Abs.ops False allAsk tbl n' (addRe l (Region.before ops) (i::seen) rest) ⟨setDst env x.dst v,marks,rnd⟩ H2 K) :
    Dr P Wr nt ops l ord tbl K marks rnd env0 L (i::seen) rest n' (setDst env x.dst v) H2 epi pn' ρ w tmps:=by
  have hir:i∈i::rest:=List.mem_cons_self ..
  have hin:i∉seen:=rest_new hR d.ord_eq hir
  have hiL:¬ In L i:=fun h=>hin (d.sub i h)
  have hdi:∀ t,Dst l i t↔x.dst=some t:=fun t=>⟨fun ⟨y,hy,dy⟩=>by rw [hx] at hy;injection hy with hy;subst hy;exact dy,fun h=>⟨x,hx,h⟩⟩
  have hinj:∀ k t,k∈seen→Dst l k t→x.dst≠some t:=fun k t hk hd e=>hin (Dst.inj hR.hok (seen_ord d.ord_eq hk) (rest_ord d.ord_eq hir) hd ((hdi t).2 e) ▸ hk)
  have henv:∀ t,x.dst≠some t→(setDst env x.dst v).get .undef t=env.get .undef t:=fun t h=>by rw [setDst_get,if_neg h]
  have hmk:∀ k j,k∈seen→(Mk l (setDst env x.dst v) k j↔Mk l env k j):=fun k j hk=>Mk.env_iff fun t ht=>henv t (hinj k t hk ht)
  have hfr:∀ j,Mk l (setDst env x.dst v) i j→H.get j=.none:=fun j hj=>by
    apply Classical.byContradiction
    intro hne
    have:=d.lt_next hne
    have:=(hnew j hj).1
    omega
  refine ⟨by rw [← d.ord_eq];simp,d.size,fun j hj=>List.mem_cons_of_mem _ (d.sub j hj),d.closed,?_,hrun,?_,?_,?_,?_,?_,?_,?_,?_,?_,d.E,hI⟩
  · intro j hj hc
    rcases List.mem_cons.1 hj with e | e
    · subst e
      obtain ⟨y,hy,hyc⟩:=hc
      rw [hx] at hy;injection hy with hy;subst hy
      rw [hxc] at hyc;cases hyc
    · exact d.chn j e hc
  · intro t ht
    rw [henv t fun e=>ht i (List.mem_cons_self ..) ((hdi t).2 e)]
    exact d.env_same t fun k hk=>ht k (List.mem_cons_of_mem _ hk)
  · intro t ht
    rw [henv t fun e=>ht i (List.mem_cons_self ..) hiL ((hdi t).2 e)]
    exact d.pi_env t fun k hk=>ht k (List.mem_cons_of_mem _ hk)
  · intro t k hk hn hkt
    rcases List.mem_cons.1 hk with e | e
    · subst e
      have hno:∀ k'∈seen,¬ Dst l k' t:=fun k' hk' hd=>hinj k' t hk' hd ((hdi t).1 hkt)
      rw [d.pi_env t fun k' hk' _=>hno k' hk']
      exact d.env_same t hno
    · exact d.pi_env0 t k e hn hkt
  · intro j
    rw [hpn,d.pn_iff]
    constructor
    · rintro (⟨k,hk,h1,h2⟩ | h)
      · exact ⟨k,List.mem_cons_of_mem _ hk,h1,(hmk k j hk).2 h2⟩
      · exact ⟨i,List.mem_cons_self ..,hiL,h⟩
    · rintro ⟨k,hk,h1,h2⟩
      rcases List.mem_cons.1 hk with e | e
      · subst e;exact .inr h2
      · exact .inl ⟨k,e,h1,(hmk k j e).1 h2⟩
  · intro k k' j hk hk' h1 h2
    rcases List.mem_cons.1 hk with e | e
    · rcases List.mem_cons.1 hk' with e' | e'
      · rw [e,e']
      · subst e
        have:=(d.top k' j e' ((hmk k' j e').1 h2)).1
        have:=(hnew j h1).1;omega
    · rcases List.mem_cons.1 hk' with e' | e'
      · subst e'
        have:=(d.top k j e ((hmk k j e).1 h1)).1
        have:=(hnew j h2).1;omega
      · exact d.names k k' j e e' ((hmk k j e).1 h1) ((hmk k' j e').1 h2)
  · intro k j hk hm
    rcases List.mem_cons.1 hk with e | e
    · subst e;exact ⟨(hnew j hm).2.1,.inl ((hpn j).2 (.inr hm))⟩
    · obtain ⟨h1,h2⟩:=d.top k j e ((hmk k j e).1 hm)
      exact ⟨by omega,h2.imp (fun h=>(hpn j).2 (.inl h)) id⟩
  · intro k j hk hm hc
    rcases List.mem_cons.1 hk with e | e
    · subst e;exact (hnew j hm).2.2.1
    · have hy:=d.young k j e ((hmk k j e).1 hm) fun c hc'=>hc c (List.mem_cons_of_mem _ hc')
      rw [hget j (young_fixed hy).2.2];exact hy
  · intro k hk hn
    rcases List.mem_cons.1 hk with e | e
    · subst e;exact hp
    · obtain ⟨y,post,pre,ex,hy,hs,h1,h2,hcase⟩:=d.pend k e hn
      have hval:∀ t,y.dst=some t→(setDst env x.dst v).get .undef t=env.get .undef t:=fun t ht=>henv t (hinj k t e ⟨y,hy,ht⟩)
      refine ⟨y,i::post,pre,ex,hy,by rw [hs];rfl,?_,h2,?_⟩
      · rintro t ⟨k',hk',hkt⟩
        rw [henv t (hinj k' t (by rw [hs];simp [hk']) hkt)]
        exact h1 t ⟨k',hk',hkt⟩
      rcases hcase with ⟨hg,hdf,hv⟩ | ⟨hg,u,hv,hcase⟩
      · exact .inl ⟨hg,hdf,fun t ht=>by rw [hval t ht];exact hv t ht⟩
      · refine .inr ⟨hg,u,fun t ht=>by rw [hval t ht];exact hv t ht,?_⟩
        rcases hcase with h | ⟨hr,htg,hev⟩ | ⟨hm,nv,obj,j0,hyy,hvv,hobj,hev⟩
        · exact .inl h
        · refine .inr (.inl ⟨hr,fun j hj=>?_,fun H' hH'=>hev H' fun j hj=>by rw [hH' j hj,hget j (htg j hj).1]⟩)
          obtain ⟨g1,g2⟩:=htg j hj
          refine ⟨by rw [hget j g1];exact g1,fun k' hk' hm=>?_⟩
          rcases List.mem_cons.1 hk' with e' | e'
          · subst e';exact absurd (hfr j hm) g1
          · exact g2 k' e' ((hmk k' j e').1 hm)
        · refine .inr (.inr ⟨hm,nv,obj,j0,hyy,hvv,?_,hev⟩)
          rw [hget j0 (by rw [hobj];exact (young_fixed hyy).2.2)];exact hobj
  · intro j hj
    rcases (hpn j).1 hj with h | h
    · exact ⟨(d.dead j h).1,(d.dead j h).2.1,hold j h⟩
    · exact (hnew j h).2.2.2
theorem Dr.advance (hR:Reg P nt ops l ord):∀ (rest:List Nat) {seen:List Nat} {n:Nat} {env:Tree AV} {H:Heap} {pn:List Pos},Dr P Wr nt ops l ord tbl K marks rnd env0 L seen rest n env H epi pn ρ w tmps →
    ∃ (seen' rest':List Nat) (n':Nat) (env':Tree AV) (H':Heap) (pn':List Pos),n'≤n∧Dr P Wr nt ops l ord tbl K marks rnd env0 L seen' rest' n' env' H' epi pn' ρ w tmps∧∀ i r,rest'=i::r→Ch l i
  | [],seen,n,env,H,pn,d=>⟨seen,[],n,env,H,pn,Nat.le_refl n,d,fun i r h=>by cases h⟩
  | i::rest,seen,n,env,H,pn,d=>by
    have hir:i∈i::rest:=List.mem_cons_self ..
    obtain ⟨x,hx,hone⟩:=get_ord hR (rest_ord d.ord_eq hir)
    cases hxc:x.op.chain with
    | true=>exact ⟨seen,i::rest,n,env,H,pn,Nat.le_refl n,d,fun i' r h=>by injection h with h _;subst h;exact ⟨x,hx,hxc⟩⟩
    | false =>
    have hrun:=d.run
    simp only [addRe,hx] at hrun
    cases n with
    | zero=>simp only [Go.Abs.ops] at hrun
    | succ n =>
    simp only [Go.Abs.ops,withRe,hxc,Bool.false_or,Bool.false_eq_true,if_false,recheck,if_true] at hrun
    have go:∀ {env':Tree AV} {H':Heap} {pn':List Pos},Dr P Wr nt ops l ord tbl K marks rnd env0 L (i::seen) rest n env' H' epi pn' ρ w tmps →
        ∃ (seen' rest':List Nat) (n':Nat) (env':Tree AV) (H':Heap) (pn':List Pos),n'≤n+1∧Dr P Wr nt ops l ord tbl K marks rnd env0 L seen' rest' n' env' H' epi pn' ρ w tmps∧∀ i r,rest'=i::r→Ch l i:=by
      intro env' H' pn' d'
      obtain ⟨s,r,m,e,h,p,h1,h2,h3⟩:=Dr.advance hR rest d'
      exact ⟨s,r,m,e,h,p,Nat.le_succ_of_le h1,h2,h3⟩
    have hin:i∉seen:=rest_new hR d.ord_eq hir
    have hinj:∀ k t,k∈seen→Dst l k t→x.dst≠some t:=fun k t hk hd e=>hin (Dst.inj hR.hok (seen_ord d.ord_eq hk) (rest_ord d.ord_eq hir) hd ⟨x,hx,e⟩ ▸ hk)
    have hex1:∀ v t,(∃ k∈seen,Dst l k t)→env.get .undef t=(setDst env x.dst v).get .undef t:=by
      rintro v t ⟨k,hk,hkt⟩
      rw [setDst_get,if_neg (hinj k t hk hkt)]
    have hmk:∀ v j,Mk l (setDst env x.dst v) i j→x.op.makes=true∧nameOf v=some j:=by
      rintro v j ⟨y,t,hy,g1,g2,g3⟩
      rw [hx] at hy;injection hy with hy;subst hy
      rw [setDst_get,if_pos g2] at g3
      exact ⟨g1,g3⟩
    have hval:∀ v t,x.dst=some t→(setDst env x.dst v).get .undef t=v:=fun v t ht=>by rw [setDst_get,if_pos ht]
    have quiet:∀ {v:AV} {H2:Heap},(∀ j,H2.get j=H.get j)→H2.next=H.next→(∀ j,¬ Mk l (setDst env x.dst v) i j)→Pend l (Region.before ops) (i::seen) env0 (setDst env x.dst v) H2 i →
        Go.Abs.ops False allAsk tbl n (addRe l (Region.before ops) (i::seen) rest) ⟨setDst env x.dst v,marks,rnd⟩ H2 K →
        ∃ (seen' rest':List Nat) (n':Nat) (env':Tree AV) (H':Heap) (pn':List Pos),n'≤n+1∧Dr P Wr nt ops l ord tbl K marks rnd env0 L seen' rest' n' env' H' epi pn' ρ w tmps∧∀ i r,rest'=i::r→Ch l i:=by
      intro v H2 h1 h2 h3 h4 h5
      refine go (d.adv_fin hR hx hxc (v:=v) (pn':=pn) (fun j _=>h1 j) (by rw [h2];exact Nat.le_refl _) (fun j=>⟨.inl,fun h=>h.resolve_right (h3 j)⟩) (fun j h=>absurd h (h3 j)) ?_ (fun j hj k=>by rw [h1];exact (d.dead j hj).2.2 k) h4 h5)
      exact d.inv.congr (by rw [Heap.next_drops,Heap.next_drops,h2]) fun j=>by rw [drops_get,drops_get,h1]
    cases hg:guardOk env x.guard with
    | false =>
      rw [hg] at hrun
      simp only [Bool.false_eq_true,if_false] at hrun
      split at hrun
      case isFalse=>exact hrun.elim
      rename_i hdf
      refine quiet (v:=.undef) (fun _=>rfl) rfl (fun j h=>?_) ?_ hrun
      · have:=(hmk _ j h).2;simp [AV.undef,nameOf] at this
      · exact ⟨x,[],seen,env,hx,rfl,hex1 _,fun t ht=>d.env_same t ht,.inl ⟨hg,hdf,fun t ht=>hval _ t ht⟩⟩
    | true =>
      rw [hg] at hrun
      simp only [if_true] at hrun
      split at hrun
      · rename_i hop;rw [hop] at hxc;simp [AOp.chain] at hxc
      · rename_i hop;rw [hop] at hxc;simp [AOp.chain] at hxc
      split at hrun
      case h_2=>exact hrun.elim
      rename_i v H1 hev
      cases hrd:x.op.reads with
      | true =>
        rw [hrd] at hev hrun
        simp only [if_true] at hev hrun
        generalize hhid:hides l (Region.before ops) seen i=hid at hev hrun
        have hgt:=hideAll_get env hid H
        have hmem:∀ j,j∈hidden env hid↔∃ k∈seen,¬ Anc (Region.before ops) i k∧Mk l env k j:=fun j=>by rw [← hhid];exact hides_mem
        obtain ⟨q1,q2,q3⟩:=reads_spec hrd hev
        subst q1
        have hsh:∀ j,(showAll (hideAll env H hid).1 (hideAll env H hid).2).get j=H.get j:=fun j=>by
          rw [((hgt j).2.2 _).1,(hgt j).1];split<;>rfl
        refine quiet (v:=v) hsh (by rw [((hgt .xH).2.2 _).2,(hgt .xH).2.1]) (fun j h=>?_) ?_ hrun
        · have:=(hmk _ j h).1;rw [(reads_kinds hrd).2.1] at this;cases this
        · refine ⟨x,[],seen,env,hx,rfl,hex1 _,fun t ht=>d.env_same t ht,.inr ⟨hg,v,fun t ht=>hval _ t ht,.inr (.inl ⟨hrd,fun j hj=>?_,fun H' hH'=>q3 H' fun j hj=>?_⟩)⟩⟩
          · have hne:=q2 j hj
            have hnh:j∉hidden env hid:=fun h=>hne (by rw [(hgt j).1,if_pos h])
            rw [(hgt j).1,if_neg hnh] at hne
            refine ⟨by rw [hsh];exact hne,fun k hk hm=>?_⟩
            rcases List.mem_cons.1 hk with e | e
            · subst e
              have:=(hmk _ j hm).1;rw [(reads_kinds hrd).2.1] at this;cases this
            · apply Classical.byContradiction
              intro hA
              exact hnh ((hmem j).2 ⟨k,e,hA,(Mk.env_iff fun t ht=>by rw [setDst_get,if_neg (hinj k t e ht)]).1 hm⟩)
          · have hne:=q2 j hj
            have hnh:j∉hidden env hid:=fun h=>hne (by rw [(hgt j).1,if_pos h])
            rw [hH' j hj,hsh,(hgt j).1,if_neg hnh]
      | false =>
        rw [hrd] at hev hrun
        simp only [Bool.false_eq_true,if_false,hideAll,showAll] at hev hrun
        cases hmk0:x.op.makes with
        | false =>
          have hpl:x.op.plain=true:=by
            simp only [okOne,hxc,Bool.false_or,hmk0,hrd,Bool.false_and,Bool.or_self,Bool.or_eq_true] at hone
            rcases hone with h | h
            · exact h
            · split at h<;>cases h
          obtain ⟨q1,q2⟩:=plain_spec hpl hev
          subst q1
          refine quiet (v:=v) (fun _=>rfl) rfl (fun j h=>?_) ?_ hrun
          · have:=(hmk _ j h).1;rw [hmk0] at this;cases this
          · exact ⟨x,[],seen,env,hx,rfl,hex1 _,fun t ht=>d.env_same t ht,.inr ⟨hg,v,fun t ht=>hval _ t ht,.inl ⟨hmk0,q2⟩⟩⟩
        | true =>
          obtain ⟨nv,obj,rfl,rfl,hy,hev'⟩:=makes_spec hmk0 hev
          obtain ⟨f1,f2,f3⟩:=young_fixed hy
          have hgn:∀ j,(H.new obj).get j=if j=H.next then obj else H.get j:=fun j=>Heap.get_new _ _ _
          have hnn:(H.new obj).next.idx=H.next.idx+1:=Pos.idx_succ _
          have hHn:H.get H.next=.none:=Classical.byContradiction fun h=>by have:=d.lt_next h;omega
          have hName:∀ j,Mk l (setDst env x.dst (nv.of H.next)) i j→j=H.next:=fun j h=>by
            have:=(hmk _ j h).2;rw [NewV.name] at this;injection this with this;exact this.symm
          have hMk:Mk l (setDst env x.dst (nv.of H.next)) i H.next:=by
            cases hd:x.dst with
            | some t=>exact ⟨x,t,hx,hmk0,hd,by rw [← hd,hval _ t hd];exact NewV.name nv _⟩
            | none=>simp [okOne,hd,hxc,(makes_kinds hmk0).2.2] at hone
          have hpar:∀ k,H.next∉((H.new obj).get k).par:=fun k hk=>by
            rw [hgn] at hk
            by_cases e:k=H.next
            · rw [if_pos e,f2] at hk;cases hk
            · rw [if_neg e] at hk
              by_cases e':k∈pn
              · obtain ⟨k',hk',hn,hm⟩:=(d.pn_iff k).1 e'
                have:=d.pend k' hk' hn
                obtain ⟨y,_,_,ex,hy',_,_,_,hcase⟩:=this
                obtain ⟨y',t,hy2,m1,m2,m3⟩:=hm
                rw [hy'] at hy2;injection hy2 with hy2;subst hy2
                rcases hcase with ⟨_,_,hv⟩ | ⟨_,u,hv,hcase⟩
                · rw [hv t m2] at m3;simp [AV.undef,nameOf] at m3
                · rcases hcase with ⟨hm,_⟩ | ⟨hr,_⟩ | ⟨_,nv',obj',j0,hyy,hvv,hobj,_⟩
                  · rw [m1] at hm;cases hm
                  · rw [(makes_kinds m1).2.1] at hr;cases hr
                  · rw [hv t m2,hvv,NewV.name] at m3;injection m3 with m3;subst m3
                    rw [hobj,(young_fixed hyy).2.1] at hk;cases hk
              · have:=(d.inv.par H.next k (by rw [drops_get,if_neg e'];exact hk)).1
                rw [Heap.next_drops] at this;omega
          refine go (d.adv_fin hR hx hxc (v:=nv.of H.next) (pn':=H.next::pn) (fun j hj=>by rw [hgn,if_neg (fun e:j=H.next=>hj (by rw [e];exact hHn))]) (by omega) (fun j=>?_) (fun j h=>?_) ?_ (fun j hj k hk=>?_) ?_ hrun)
          · rw [List.mem_cons]
            exact ⟨fun h=>h.elim (fun e=>.inr (e ▸ hMk)) .inl,fun h=>h.elim .inr fun h=>.inl (hName j h)⟩
          · rw [hName j h]
            refine ⟨Nat.le_refl _,by omega,by rw [hgn,if_pos rfl];exact hy,(d.inv.fresh H.next (by rw [Heap.next_drops];exact Nat.le_refl _)).2,fun hu=>?_,hpar⟩
            have:=(d.inv.un H.next hu).2.1
            rw [Heap.next_drops] at this;omega
          ·
            have h0:=d.inv
            have hgd:∀ j,((H.new obj).drops (H.next::pn)).get j=(H.drops pn).get j:=fun j=>by
              rw [drops_get,drops_get,hgn]
              by_cases e:j=H.next
              · subst e
                rw [if_pos (List.mem_cons_self ..)]
                split
                · rfl
                · exact hHn.symm
              · by_cases e':j∈pn
                · rw [if_pos (List.mem_cons_of_mem _ e'),if_pos e']
                · rw [if_neg (by simp [e,e']),if_neg e,if_neg e']
            have hnd:((H.new obj).drops (H.next::pn)).next.idx=(H.drops pn).next.idx+1:=by rw [Heap.next_drops,Heap.next_drops];exact hnn
            exact ⟨fun i hi=>by rw [hgd] at hi ⊢;exact h0.obj i hi,fun i j b x y hij hi hj=>by rw [hgd] at hi hj;rw [hgd,hgd];exact h0.sep i j b x y hij hi hj,
              fun i j hi=>by rw [hgd] at hi ⊢;exact ⟨by have:=(h0.par i j hi).1;omega,(h0.par i j hi).2⟩,fun i b x hi hf=>by rw [hgd] at hi hf;exact h0.wr i b x hi hf,fun i hi=>by rw [hgd];exact h0.fresh i (by omega),
              h0.new,h0.glob,fun i b x ob hi=>by rw [hgd] at hi ⊢;exact h0.info i b x ob hi,h0.dom,fun i b x hi=>by rw [hgd] at hi;exact h0.rd i b x hi,
              fun i hi=>by rw [hgd];exact ⟨(h0.un i hi).1,by have:=(h0.un i hi).2.1;omega,fun j=>by rw [hgd];exact (h0.un i hi).2.2 j⟩,h0.dead⟩
          · rw [hgn] at hk
            split at hk
            · rw [f2] at hk;cases hk
            · exact (d.dead j hj).2.2 k hk
          · exact ⟨x,[],seen,env,hx,rfl,hex1 _,fun t ht=>d.env_same t ht,.inr ⟨hg,_,fun t ht=>hval _ t ht,.inr (.inr ⟨hmk0,nv,obj,H.next,hy,rfl,by rw [hgn,if_pos rfl],hev'⟩)⟩⟩
end Go.Abs
