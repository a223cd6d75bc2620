/- A part of the proof (an abstract machine, walks): no statement of its own, no conditions. -/
import Derived.Test.YtndbmjcpgefblaaGreatDoorA20
import Derived.Sort.Grow
import Derived.Sort.Row
set_option linter.all false
namespace Go.Abs
theorem setIs_props {o:AObj} {ks:List Int} (h:setIs o ks):o≠.none∧o.par=[]∧o.fixed=false∧o.len=0:=by
  obtain ⟨_,es,h,_⟩:=h
  cases o<;>simp [mapEnts] at h<;>simp [AObj.par,AObj.fixed,AObj.len]
theorem eval_eqNil {env:Tree AV} {H:Heap} {x:Opd} (h:gv env x=.nilmap):evalOp (.eq false .map x (.c .nilmap)) env H=some (.bool true,H):=by
  simp only [evalOp,h,gvc];rfl
theorem eval_eqMap {env:Tree AV} {H:Heap} {x:Opd} {N:Pos} (h:gv env x=.map N):evalOp (.eq false .map x (.c .nilmap)) env H=some (.bool false,H):=by
  simp only [evalOp,h,gvc];rfl
section
variable {P:Program} {Hs:Heap} {m i i3:Pos} {c:Tree AV} {o n cn e fz o3 cp:Nat} {ex:Bool} {ks:List Int} {t0:Pos→List Int} {olds:List Pos} {esx:List AEnt} {clock:Nat} {l:List Int} {H1:Heap} {c':Tree AV} {nr:Int→Pos}
theorem out_round {env:Tree AV} {marks:List Pos} {rnd:Option Pos} {k:Int} (fk:∀ k∈ks,∃ j,k=.ofNat j∧j<n∧(c.getN .undef (o+k.toNat)=.nilmap∨∃ N,c.getN .undef (o+k.toNat)=.map N∧N≠m∧N≠i∧N.idx<Hs.next.idx∧N∈olds))
    (fo:∀ k k2 N,k∈ks→k2∈ks→c.getN .undef (o+k.toNat)=.map N→c.getN .undef (o+k2.toNat)=.map N→k=k2) (hm:m.idx<Hs.next.idx) (hi:i.idx<Hs.next.idx) (hmi:m≠i) (h3:i3.idx<Hs.next.idx) (h3m:i3≠m) (h3i:i3≠i) (h3o:i3∉olds) (hfz:fz≤o) (hon:o+n≤cn)
    (hc3:cellAt Hs i3 o3=some (.slice i o n cp ex)) (hk:k∈ks) {ksx:List Int} (hsx:setIs (.map esx clock) ksx) (hx:∀ x,x∈ksx↔x∈ks)
    (e3:env.get .undef (sl 3)=.ptr i3 o3) (e4:env.get .undef (sl 4)=.map m) (e5:env.get .undef (sl 5)=.int 3 k) (J:OutJ Hs m i c o cn e fz ks t0 olds esx clock l H1 c' nr) :
    Xc outTbl 60 outerBody ⟨env,marks,rnd⟩ H1 fun j fr1 H2=>j=.none∧fr1.marks=marks∧fr1.rnd=rnd∧(∀ t,t∉outerSlots→fr1.env.get .undef t=env.get .undef t)∧fr1.env.get .undef (sl 17)=env.get .undef (sl 17)∧H2.get Hs.next=H1.get Hs.next ∧
      ∃ c2 nr2,OutJ Hs m i c o cn e fz ks t0 olds esx clock (l++[k]) H2 c2 nr2:=by
  obtain ⟨j,hkj,hj,hcase⟩:=fk k hk
  have hto:o+k.toNat=o+j:=by rw [hkj];rfl
  have hJ:=J.nx
  have hc3':cellAt H1 i3 o3=some (.slice i o n cp ex):=by rw [cellAt_congr (J.frm i3 h3 h3m h3i h3o)];exact hc3
  have hcell:∀ {Hx:Heap} {cx:Tree AV},Hx.get i=.cells cx cn e true [] fz→cellAt Hx i (o+j)=some (cx.getN .undef (o+j)):=fun h=>by
    unfold cellAt;rw [h];simp only [show Nat.blt (o+j) cn=true from Eq.mpr Nat.blt_eq (by omega),if_true]
  have helem:∀ {Hx:Heap} {cx:Tree AV} {N:Pos},Hx.get i=.cells cx cn e true [] fz→cx.getN .undef (o+k.toNat)=.map N→elemAt Hx (.slice i o n cp ex) k=some (.map N):=fun h h'=>by
    rw [hkj];simp only [elemAt,show Nat.blt j n=true from Eq.mpr Nat.blt_eq hj,if_true,hcell h];rw [← hto,h']
  have fin:∀ (E:Tree AV) (Hx:Heap) (N:Pos) (tN:List Int) (cx c2:Tree AV) (nr2:Int→Pos),(∀ t,t∉outerSlots→E.get .undef t=env.get .undef t)→E.get .undef (sl 17)=env.get .undef (sl 17)→E.get .undef (sl 5)=.int 3 k→cellAt Hx i3 o3=some (.slice i o n cp ex) →
      Hx.get i=.cells cx cn e true [] fz→cx.getN .undef (o+k.toNat)=.map N→m≠N→Hx.get m=.map esx clock→setIs (Hx.get N) tN→Hs.next≠N→Hx.get Hs.next=H1.get Hs.next→OutJ Hs m i c o cn e fz ks t0 olds esx clock (l++[k]) ((Hx.set N (.umap (mkset (addks (without k ksx) tN)))).skip) c2 nr2 →
      Xc outTbl 10 (.over 1001) ⟨E,marks,rnd⟩ Hx fun j fr1 H2=>j=.none∧fr1.marks=marks∧fr1.rnd=rnd∧(∀ t,t∉outerSlots→fr1.env.get .undef t=env.get .undef t)∧fr1.env.get .undef (sl 17)=env.get .undef (sl 17)∧H2.get Hs.next=H1.get Hs.next ∧
        ∃ c2 nr2,OutJ Hs m i c o cn e fz ks t0 olds esx clock (l++[k]) H2 c2 nr2:=by
    intro E Hx N tN cx c2 nr2 a1 a2 a3 a4 a5 a6 a7 a8 a9 a10 a11 a12
    have b3:E.get .undef (sl 3)=.ptr i3 o3:=(a1 _ (by decide)).trans e3
    have b4:E.get .undef (sl 4)=.map m:=(a1 _ (by decide)).trans e4
    have hkm:keysAt Hx m=some ksx:=setIs_keys (by rw [a8];exact hsx)
    have hsub:∀ t,t∈innerSlots→t∈outerSlots:=by decide
    refine Xc.over (n:=9) (g:=gInner) rfl (gInner_eq b4 a3 b3 a4 (helem a5 a6) a7 hkm (setIs_at a9)) ⟨rfl,rfl,rfl,fun t ht=>?_,?_,?_,c2,nr2,a12⟩
    · show (junks E innerSlots).get .undef t=_
      rw [junks_get,if_neg fun h=>ht (hsub t h)];exact a1 t ht
    · show (junks E innerSlots).get .undef (sl 17)=_
      rw [junks_get,if_neg (by decide)];exact a2
    · show (Hx.set N _).get Hs.next=_
      rw [Heap.get_set,if_neg a10];exact a11
  refine Xc.seq' (n:=50) (m:=10) (k:=59) (by omega) (by omega) (Xc.seq' (n:=48) (m:=48) (k:=49) (by omega) (by omega) (Xc.region (n:=47) ?_))
  refine Xo.op (n:=46) (v:=.slice i o n cp ex) (H':=H1) (eval_load1 (by simp [gv];exact e3) hc3') ?_
  refine Xo.op (n:=45) (v:=.int 3 k) (H':=H1) (by simp [evalOp,gv,setDst,Tree.get_set,slot_inj];exact e5) ?_
  refine Xo.op (n:=44) (v:=.ptr i (o+j)) (H':=H1) (eval_idxSl (n:=n) (c:=cp) (e:=ex) (j:=j) (k:=3) (by simp [gv,setDst,Tree.get_set,slot_inj]) (by simp [gv,setDst,Tree.get_set,slot_inj];exact hkj) hj) ?_
  refine Xo.op (n:=43) (v:=c'.getN .undef (o+j)) (H':=H1) (eval_load1 (by simp [gv,setDst,Tree.get_set,slot_inj]) (hcell J.ii)) ?_
  by_cases hA:c.getN .undef (o+k.toNat)=.nilmap∧k∉l
  ·
    obtain ⟨hv,J2⟩:=out_made fk hm hi hmi J hx hk hA.1 hA.2
    rw [hto] at hv
    refine Xo.op (n:=42) (v:=.bool true) (H':=H1) (eval_eqNil (by simp [gv,setDst,Tree.get_set,slot_inj,hv])) (Xo.nil (n:=41) ?_)
    refine Xc.condT (n:=47) (by simp [gv,setDst,Tree.get_set,slot_inj]) (Xc.region (n:=46) ?_)
    refine Xo.op (n:=45) (v:=.slice i o n cp ex) (H':=H1) (eval_load1 (by simp [gv,setDst,Tree.get_set,slot_inj];exact e3) hc3') ?_
    refine Xo.op (n:=44) (v:=.int 3 k) (H':=H1) (by simp [evalOp,gv,setDst,Tree.get_set,slot_inj];exact e5) ?_
    refine Xo.op (n:=43) (v:=.map H1.next) (H':=H1.new (.map [] 0)) rfl ?_
    refine Xo.op (n:=42) (v:=.ptr i (o+j)) (H':=H1.new (.map [] 0)) (eval_idxSl (n:=n) (c:=cp) (e:=ex) (j:=j) (k:=3) (by simp [gv,setDst,Tree.get_set,slot_inj]) (by simp [gv,setDst,Tree.get_set,slot_inj];exact hkj) hj) ?_
    have gi:(H1.new (.map [] 0)).get i=.cells c' cn e true [] fz:=by rw [Heap.get_new,if_neg (ne_idx (by omega))];exact J.ii
    have wr:writeAt (H1.new (.map [] 0)) i (o+j) [.map H1.next]=some ((H1.new (.map [] 0)).set i (.cells (writeCells c' (o+j) [.map H1.next]) cn e true [] fz)):=by
      unfold writeAt
      rw [gi]
      have e1:decide (fz≤o+j)=true:=by simp;omega
      have e2:decide (o+j+([.map H1.next]:List AV).length≤cn)=true:=by simp;omega
      simp only [e1,e2,Bool.true_and]
      rfl
    refine Xo.op (n:=41) (v:=.undef) (H':=(H1.new (.map [] 0)).set i (.cells (writeCells c' (o+j) [.map H1.next]) cn e true [] fz)) ?_ (Xo.nil (n:=40) ?_)
    · simp only [evalOp,gv,setDst,Tree.get_set,slot_inj,if_true]
      simp [AV.cells,wr]
    have hh:∀ p:Pos,p≠i→p≠H1.next→((H1.new (.map [] 0)).set i (.cells (writeCells c' (o+j) [.map H1.next]) cn e true [] fz)).get p=H1.get p:=fun p p1 p2=>by
      rw [Heap.get_set,if_neg p1,Heap.get_new,if_neg p2]
    rw [hto] at J2
    refine fin _ _ H1.next [] _ _ _ ?_ ?_ ?_ ?_ (by rw [Heap.get_set,if_pos rfl]) ?_ (ne_idx (by omega)) ?_ ?_ (ne_idx (by omega)) ?_ J2
    · intro t ht
      have:t∉[sl 22,sl 23,sl 24,sl 25,sl 26,sl 27,sl 28,sl 29,sl 30]:=fun h=>ht ((by decide:∀ t∈[sl 22,sl 23,sl 24,sl 25,sl 26,sl 27,sl 28,sl 29,sl 30],t∈outerSlots) t h)
      simp only [List.mem_cons,List.not_mem_nil,or_false,not_or] at this
      simp [setDst,Tree.get_set,this]
    · simp [setDst,Tree.get_set,slot_inj]
    · simp [setDst,Tree.get_set,slot_inj];exact e5
    · rw [cellAt_congr (hh i3 h3i (ne_idx (by omega)))];exact hc3'
    · rw [hto,writeCells_get];simp
    · rw [hh m hmi (ne_idx (by omega))];exact J.mm
    · rw [Heap.get_set,if_neg (ne_idx (by omega)),Heap.get_new,if_pos rfl]
      exact ⟨List.nodup_nil,[],rfl,rfl⟩
    · exact hh _ (ne_idx (by omega)) (ne_idx (by omega))
  ·
    obtain ⟨N,tN,g1,g2,g3,g4,g5,J2⟩:=out_there fk fo hm hi J hx hk hA
    have hv:c'.getN .undef (o+j)=.map N:=by rw [← hto];exact g1
    refine Xo.op (n:=42) (v:=.bool false) (H':=H1) (eval_eqMap (N:=N) (by simp [gv,setDst,Tree.get_set,slot_inj,hv])) (Xo.nil (n:=41) ?_)
    refine Xc.condF (n:=47) (by simp [gv,setDst,Tree.get_set,slot_inj]) (Xc.skip (n:=46) ?_)
    refine fin _ _ N tN c' c' nr ?_ ?_ ?_ hc3' J.ii g1 g2 J.mm g5 (Ne.symm g4) rfl J2
    · intro t ht
      have:t∉[sl 22,sl 23,sl 24,sl 25,sl 26,sl 27,sl 28,sl 29,sl 30]:=fun h=>ht ((by decide:∀ t∈[sl 22,sl 23,sl 24,sl 25,sl 26,sl 27,sl 28,sl 29,sl 30],t∈outerSlots) t h)
      simp only [List.mem_cons,List.not_mem_nil,or_false,not_or] at this
      simp [setDst,Tree.get_set,this]
    · simp [setDst,Tree.get_set,slot_inj]
    · simp [setDst,Tree.get_set,slot_inj];exact e5
end
end Go.Abs
namespace Go.Abs
open Classical in
theorem outer_ok {P:Program}:OverOk P 1002 gOuter:=by
  intro Wr ρ H H' w nt fr c1 c2 x y env' b a hc1 hc2 hov hg hF hI k cs
  have hov:ACode.seq outerHead outerLoop=ACode.seq x y:=hov
  injection hov with hx hy
  subst hx;subst hy
  unfold gOuter at hg
  split at hg
  case h_2=>cases hg
  rename_i m i3 o3 g1 g2
  split at hg
  case h_2=>cases hg
  rename_i i o n cp ex g3
  split at hg
  case h_2=>cases hg
  rename_i ks c cn e fz g4 g5
  split at hg
  case isFalse=>cases hg
  rename_i hcnd
  split at hg
  case h_2=>cases hg
  rename_i cE HE hgo
  injection hg with hg;injection hg with hg1 hg2
  subst hg1;subst hg2
  simp only [Bool.and_eq_true,Bool.not_eq_true'] at hcnd
  obtain ⟨⟨⟨hne,hfz⟩,hon⟩,hod⟩:=hcnd
  have h3i:i3≠i:=ne_of_beq hne
  have hfz:=Nat.le_of_ble_eq_true hfz
  have hon:=Nat.le_of_ble_eq_true hon
  have hod:=(nodupP_iff _).1 hod
  have hms:=setAt_is g4
  have live:∀ j:Pos,H.get j≠.none→j.idx<H.next.idx:=fun j hj=>by
    rcases Nat.lt_or_ge j.idx H.next.idx with h | h
    · exact h
    · exact absurd (hI.fresh j h).1 hj
  have hset:∀ N t,setAt H N=some t→N.idx<H.next.idx:=fun N t h=>live N (setIs_props (setAt_is h)).1
  obtain ⟨s1,s2,s3,s4,s5,nm,s6,s7,s8⟩:=outGo_spec hgo hset hms.1 hod
  have hmlt:m.idx<H.next.idx:=hset m ks g4
  have hilt:i.idx<H.next.idx:=live i (by rw [g5];simp)
  have h3lt:i3.idx<H.next.idx:=by
    obtain ⟨_,_,_,_,_,_,q,_⟩:=cellAt_cells g3
    exact live i3 (by rw [q];simp)
  have hmi:m≠i:=by
    rintro rfl
    obtain ⟨_,es,q,_⟩:=hms
    rw [g5] at q;simp [mapEnts] at q
  have h3m:i3≠m:=by
    rintro rfl
    obtain ⟨_,es,q,_⟩:=hms
    obtain ⟨_,_,_,_,_,_,q',_⟩:=cellAt_cells g3
    rw [q'] at q;simp [mapEnts] at q
  let olds:=oldsOf c o ks
  have hold:∀ N,N∈olds→∃ k∈ks,∃ t0,c.getN .undef (o+k.toNat)=.map N∧N≠m∧setAt H N=some t0∧HE.get N=.umap (mkset (addks (without k ks) t0)):=by
    intro N hN
    obtain ⟨k,h1,h2⟩:=oldsOf_mem.1 hN
    obtain ⟨j,_,_,h3 | ⟨N',t0,h3,h4,h5,h6⟩⟩:=s1 k h1
    · rw [h3] at h2;cases h2
    · rw [h3] at h2;injection h2 with h2;subst h2
      exact ⟨k,h1,t0,h3,h4,h5,h6⟩
  have holdlt:∀ N,N∈olds→N.idx<H.next.idx:=fun N h=>by obtain ⟨_,_,t0,_,_,h5,_⟩:=hold N h;exact hset N t0 h5
  have hio:i∉olds:=fun h=>by
    obtain ⟨_,_,t0,_,_,h5,_⟩:=hold i h
    obtain ⟨_,es,q,_⟩:=setAt_is h5
    rw [g5] at q;simp [mapEnts] at q
  have h3o:i3∉olds:=fun h=>by
    obtain ⟨_,_,t0,_,_,h5,_⟩:=hold i3 h
    obtain ⟨_,es,q,_⟩:=setAt_is h5
    obtain ⟨_,_,_,_,_,_,q',_⟩:=cellAt_cells g3
    rw [q'] at q;simp [mapEnts] at q
  have hmo:m∉olds:=fun h=>by
    obtain ⟨_,_,_,_,h4,_⟩:=hold m h
    exact h4 rfl
  let hl:Pos→Prop:=fun j=>(H.get j).own∧j≠i3∧j≠i∧j≠m∧j∉olds
  have hl3:¬ hl i3:=fun h=>h.2.1 rfl
  have hli:¬ hl i:=fun h=>h.2.2.1 rfl
  have hlm:¬ hl m:=fun h=>h.2.2.2.1 rfl
  have hlo:∀ N,N∈olds→¬ hl N:=fun N hN h=>h.2.2.2.2 hN
  have hln:∀ j,H.next.idx≤j.idx→¬ hl j:=fun j hj h=>h.1.2.2 (hI.fresh j hj).1
  obtain ⟨Hs,hsn,hsg⟩:=H.hide (fun j h=>(hI.fresh j h).1) hl
  have hIs:Inv P (Wr.shield ρ hl fun _=>False) ρ Hs w:=hI.apart (fun i h=>h.1) (fun _ h=>h.elim) hsn (fun j=>by
    by_cases h:hl j
    · exact .inr ((hsg j).1 h)
    · exact .inl ((hsg j).2 h)) (fun j h=>(hsg j).1 h)
  have gs:∀ j,¬ hl j→Hs.get j=H.get j:=fun j h=>(hsg j).2 h
  let res:Heap:=((HE.set i (.cells cE cn e true [] fz)).set m (.umap (mkset ks))).skip
  have hres:∀ j,res.get j=if j=m then .umap (mkset ks) else if j=i then .cells cE cn e true [] fz else HE.get j:=fun j=>by
    show ((HE.set i _).set m _).get j=_
    rw [Heap.get_set]
    split
    · rfl
    · rw [Heap.get_set]
  have hresn:res.next.idx=HE.next.idx+1:=Pos.idx_succ _
  have hresf:∀ j:Pos,res.next.idx≤j.idx→res.get j=.none:=fun j hj=>by
    rw [hresn] at hj
    rw [hres,if_neg (ne_idx (by omega)),if_neg (ne_idx (by omega)),s4 j (by omega)]
    exact (hI.fresh j (by omega)).1
  obtain ⟨Rs,rsn,rsg⟩:=res.hide hresf hl
  have gr:∀ j,¬ hl j→Rs.get j=res.get j:=fun j h=>(rsg j).2 h
  have fk:∀ k∈ks,∃ j,k=.ofNat j∧j<n∧(c.getN .undef (o+k.toNat)=.nilmap∨∃ N,c.getN .undef (o+k.toNat)=.map N∧N≠m∧N≠i∧N.idx<Hs.next.idx∧N∈olds):=by
    intro k hk
    obtain ⟨j,h1,h2,h3 | ⟨N,t0,h3,h4,h5,h6⟩⟩:=s1 k hk
    · exact ⟨j,h1,h2,.inl h3⟩
    · have hN:N∈olds:=oldsOf_mem.2 ⟨k,hk,h3⟩
      exact ⟨j,h1,h2,.inr ⟨N,h3,h4,fun h=>hio (h ▸ hN),by rw [hsn];exact hset N t0 h5,hN⟩⟩
  have fo:∀ k k2 N,k∈ks→k2∈ks→c.getN .undef (o+k.toNat)=.map N→c.getN .undef (o+k2.toNat)=.map N→k=k2:=fun k k2 N h1 h2 h3 h4=>olds_inj hod h1 h2 h3 h4
  have hsmlt:m.idx<Hs.next.idx:=by rw [hsn];exact hmlt
  have hsilt:i.idx<Hs.next.idx:=by rw [hsn];exact hilt
  have hs3lt:i3.idx<Hs.next.idx:=by rw [hsn];exact h3lt
  have hc3:cellAt Hs i3 o3=some (.slice i o n cp ex):=by rw [cellAt_congr (gs i3 hl3)];exact g3
  obtain ⟨mes,mes1,mes2,mes3⟩:=keysAt_inv (setIs_keys hms)
  have hmes:mes.map AEnt.kv=ks.map sk:=by
    obtain ⟨_,es,q1,q2⟩:=hms
    rw [mes1] at q1;injection q1 with q1;subst q1;exact q2
  let t0:Pos→List Int:=fun N=>(setAt H N).getD []
  have hfr:fr=⟨fr.env,fr.marks,fr.rnd⟩:=rfl
  have main:Ends P (Wr.shield ρ hl fun _=>False) ρ nt w b k cs (lone (b.atR a (.code (.seq c1 c2)::k)) cs w) fun j fr1 H1=>j=.none∧fr1={ fr with env:=junks fr.env outerSlots }∧H1=Rs:=by
    refine known_loop outTbl_ok hc1 hc2 (slots:=outerSlots) (by decide) (by decide) (by decide) (by decide) (by decide) (by decide) (by decide) (by decide) (by decide) (by decide) (by decide) (by decide) (by decide) hF hIs (m:=m) (es:=mes) (ks:=ks) (by rw [gs m hlm];exact mes1) mes2 20 60 ?_
      (J:=fun esx clock l H1=>(∃ ksx,setIs (.map esx clock) ksx∧∀ x,x∈ksx↔x∈ks)∧∃ c' nr,OutJ Hs m i c o cn e fz ks t0 olds esx clock l H1 c' nr) ?_ ?_ ?_ ?_ ?_ k cs
    · intro esx clock
      rw [hfr]
      refine Xc.region (n:=19) ?_
      refine Xo.op (n:=18) (v:=.map m) (H':=Hs.set m (.map esx clock)) (by simp [evalOp,gv,g1]) ?_
      refine Xo.op (n:=17) (v:=.ptr Hs.next 0) (H':=(Hs.set m (.map esx clock)).new (.mapIter (some m) clock [] clock)) (by simp [evalOp,gv,setDst,Tree.get_set,slot_inj,Heap.get_set];rfl) (Xo.nil (n:=16) ?_)
      refine ⟨rfl,rfl,rfl,?_,?_,rfl⟩
      · intro t ht
        have:t∉[sl 16,sl 17]:=fun h=>ht ((by decide:∀ t∈[sl 16,sl 17],t∈outerSlots) t h)
        simp only [List.mem_cons,List.not_mem_nil,or_false,not_or] at this
        simp [setDst,Tree.get_set,this]
      · simp [setDst,Tree.get_set,slot_inj]
    · intro esx clock hp
      obtain ⟨ksx,q1,q2⟩:=setIs_perm mes3 hmes hp clock
      refine ⟨⟨ksx,q1,fun x=>q2.mem_iff⟩,c,fun _=>.xH,?_⟩
      have hget:∀ j:Pos,((Hs.set m (.map esx clock)).new (.mapIter (some m) clock [] clock)).get j=if j=Hs.next then .mapIter (some m) clock [] clock else if j=m then .map esx clock else Hs.get j:=fun j=>by
        rw [Heap.get_new,Heap.next_set,Heap.get_set]
      refine ⟨by show Hs.next.idx<Hs.next.succ.idx;rw [Pos.idx_succ];omega,fun j h1 h2 h3 h4=>?_,?_,?_,by simp,by simp,fun _ _=>rfl,fun k hk N hN=>?_,fun j hj hg=>?_,by simp⟩
      · rw [hget,if_neg (ne_idx (by omega)),if_neg h2]
      · rw [hget,if_neg (ne_idx (by omega)),if_pos rfl]
      · rw [hget,if_neg (ne_idx (by omega)),if_neg (Ne.symm hmi),gs i hli];exact g5
      · obtain ⟨_,_,_,h' | ⟨N',h',hNm,_,hlt,hNo⟩⟩:=fk k hk
        · rw [h'] at hN;cases hN
        · rw [h'] at hN;injection hN with hN;subst hN
          obtain ⟨_,_,tt,_,_,h5,_⟩:=hold N' hNo
          rw [hget,if_neg (ne_idx (by omega)),if_neg hNm,gs N' (hlo N' hNo)]
          refine ⟨tt,setAt_is h5,fun x=>?_⟩
          have:t0 N'=tt:=by show (setAt H N').getD []=tt;rw [h5];rfl
          rw [this];simp
      · rw [hget,if_neg (ne_idx (by omega)),if_neg (ne_idx (by omega))] at hg
        rw [hsn] at hj
        rw [gs j (hln j (by omega))] at hg
        exact absurd (hI.fresh j (by omega)).1 hg
    · rintro esx clock l H1 it ⟨q1,c',nr,J⟩
      refine ⟨q1,c',nr,J.set it hsmlt hsilt fun k hk N hN=>?_⟩
      obtain ⟨_,_,_,h' | ⟨N',h',_,_,hlt,_⟩⟩:=fk k hk
      · rw [h'] at hN;cases hN
      · rw [h'] at hN;injection hN with hN;subst hN;exact hlt
    · rintro esx clock l H1 ⟨_,c',nr,J⟩
      exact J.mm
    · rintro esx clock l env H1 kk hkk ⟨⟨ksx,q1,q2⟩,c',nr,J⟩ he hkv
      have b3:env.get .undef (sl 3)=.ptr i3 o3:=(he _ (by decide)).trans g2
      have b4:env.get .undef (sl 4)=.map m:=(he _ (by decide)).trans g1
      refine (out_round fk fo hsmlt hsilt hmi hs3lt h3m h3i h3o hfz hon hc3 hkk q1 q2 b3 b4 hkv J).mono (Nat.le_refl _) ?_
      rintro j fr1 H2 ⟨r1,r2,r3,r4,r5,r6,c2',nr2,J2⟩
      exact ⟨r1,r2,r3,fun t ht=>(r4 t ht).trans (he t ht),r5,r6,⟨ksx,q1,q2⟩,c2',nr2,J2⟩
    · rintro esx clock l H1 ρ' w' hlk ⟨⟨ksx,hsx,hxm⟩,c',nr,J⟩ hxt hI' _
      let new:Pos→Prop:=fun j=>∃ k,k∈ks∧c.getN .undef (o+k.toNat)=.nilmap∧nm k=j
      let σ:Pos→Pos:=fun j=>if h:new j then nr (Classical.choose h) else j
      have hσ:∀ k,k∈ks→c.getN .undef (o+k.toNat)=.nilmap→σ (nm k)=nr k:=by
        intro k hk hn
        have hnw:new (nm k):=⟨k,hk,hn,rfl⟩
        have hsp:=Classical.choose_spec hnw
        have:Classical.choose hnw=k:=s7 _ _ hsp.1 hk hsp.2.1 hn hsp.2.2
        show (if h:new (nm k) then nr (Classical.choose h) else nm k)=nr k
        rw [dif_pos hnw,this]
      let ρ2:Names:=⟨fun j=>if j.idx<Hs.next.idx then ρ j else if new j then ρ' (σ j) else none,ρ'.k⟩
      have hρn:∀ k,k∈ks→c.getN .undef (o+k.toNat)=.nilmap→ρ2 (nm k)=ρ' (nr k):=by
        intro k hk hn
        have hnw:new (nm k):=⟨k,hk,hn,rfl⟩
        have:=(s6 k hk hn).1
        show (if (nm k).idx<Hs.next.idx then ρ (nm k) else if new (nm k) then ρ' (σ (nm k)) else none)=_
        rw [if_neg (by rw [hsn];omega),if_pos hnw,hσ k hk hn]
      have hext:Ext ρ ρ2:=by
        intro j x hj
        refine ⟨?_,(hxt j x hj).2⟩
        show (if j.idx<Hs.next.idx then ρ j else _)=_
        rcases Nat.lt_or_ge j.idx Hs.next.idx with h | h
        · rw [if_pos h];exact hj
        · rw [(hIs.fresh j h).2] at hj;cases hj
      refine ⟨ρ2,Inv.rename hIs hxt hI' (by rw [rsn,hresn,hsn];omega) σ new ρ2 rfl ?_ ?_ ?_ ?_⟩
      · intro j hj hg
        rw [hsn] at hj
        rw [gr j (hln j hj),hres,if_neg (ne_idx (by omega)),if_neg (ne_idx (by omega))] at hg
        rcases Nat.lt_or_ge j.idx HE.next.idx with h | h
        · obtain ⟨k,h1,h2,h3⟩:=s8 j hj h
          exact ⟨k,h1,h2,h3⟩
        · rw [s4 j h] at hg;exact absurd (hI.fresh j hj).1 hg
      · rintro j ⟨k,hk,hn,rfl⟩
        obtain ⟨q1,q2,q3,q4⟩:=s6 k hk hn
        obtain ⟨r1,r2,r3,ks',r4,r5⟩:=J.new k ((hlk k).2 hk) hn
        have hrs:Rs.get (nm k)=.umap (mkset (without k ks)):=by
          rw [gr _ (hln _ q1),hres,if_neg (ne_idx (by omega)),if_neg (ne_idx (by omega))];exact q3
        have hsp:=setIs_props r4
        rw [hσ k hk hn,hrs]
        refine ⟨by rw [hsn];exact q1,by rw [rsn,hresn];omega,by omega,hsp.1,hsp.2.1,hsp.2.2.1,rfl,rfl,hsp.2.2.2,fun x ob hor=>OR.canon r4 ?_ hor,fun q ob _=>by simp [InfoR]⟩
        refine (List.perm_ext_iff_of_nodup r4.1 (without_nodup hms.1)).2 fun x=>?_
        rw [r5,without_mem]
      · rintro j1 j2 ⟨k1,h1,n1,rfl⟩ ⟨k2,h2,n2,rfl⟩ he
        rw [hσ k1 h1 n1,hσ k2 h2 n2] at he
        rw [J.inj k1 k2 ((hlk k1).2 h1) ((hlk k2).2 h2) n1 n2 he]
      · intro j hj hg
        rw [hsn] at hj
        have hlj:¬ hl j:=fun h=>hg ((rsg j).1 h)
        rw [gr j hlj] at hg ⊢
        rw [gs j hlj]
        by_cases e1:j=m
        · subst e1
          have p1:=setIs_props hms
          have p2:=setIs_props hsx
          have hr:res.get j=.umap (mkset ks):=by rw [hres,if_pos rfl]
          rw [hr,J.mm]
          refine ⟨p1.1,by simp,p1.2.1 ▸ rfl,p1.2.1 ▸ rfl,rfl,rfl,fun x ob hor=>OR.canon hsx ?_ hor,fun q ob _=>by simp [InfoR]⟩
          exact (List.perm_ext_iff_of_nodup hsx.1 hms.1).2 hxm
        by_cases e2:j=i
        · subst e2
          have hr:res.get j=.cells cE cn e true [] fz:=by rw [hres,if_neg e1,if_pos rfl]
          rw [hr,J.ii,g5]
          refine ⟨by simp,by simp,rfl,rfl,rfl,rfl,fun x ob hor=>?_,fun q ob hq=>?_⟩
          · obtain ⟨b0,x0,ob0,_,_,hor0⟩:=hIs.obj j (by rw [gs j hlj,g5];simp)
            rw [gs j hlj,g5] at hor0
            cases ob0<;>simp only [OR] at hor0
            cases ob<;>simp only [OR] at hor ⊢
            refine ⟨hor.1,hor.2.1,fun y hy=>?_,hor.2.2.2⟩
            obtain ⟨v,hv1,hv2⟩:=hor.2.2.1 y hy
            refine ⟨v,hv1,?_⟩
            by_cases hk:∃ k,k∈ks∧c.getN .undef (o+k.toNat)=.nilmap∧y=o+k.toNat
            · obtain ⟨k,hk1,hk2,hk3⟩:=hk
              subst hk3
              rw [(s6 k hk1 hk2).2.2.2]
              rw [(J.new k ((hlk k).2 hk1) hk2).2.2.1] at hv2
              cases v with
              | map bb =>
                cases bb with
                | none=>simp [VR] at hv2
                | some bb=>simp only [VR] at hv2 ⊢;rw [hρn k hk1 hk2];exact hv2
              | _=>simp [VR] at hv2
            · have h1:c'.getN .undef y=c.getN .undef y:=J.cc y fun k hk' hn' he=>hk ⟨k,(hlk k).1 hk',hn',he⟩
              have h2:cE.getN .undef y=c.getN .undef y:=s5 y fun k hk' hn' he=>hk ⟨k,hk',hn',he⟩
              rw [h1] at hv2
              rw [h2]
              obtain ⟨v0,_,hv0⟩:=hor0.2.2.1 y hy
              exact VR.mono hext _ _ (VR.back hxt _ _ _ hv0 hv2)
          · cases ob<;>simp only [InfoR] at hq ⊢
            exact hq
        by_cases e3:j∈olds
        · obtain ⟨k,hk,tt,h3,h4,h5,h6⟩:=hold j e3
          have hr:res.get j=.umap (mkset (addks (without k ks) tt)):=by rw [hres,if_neg e1,if_neg e2];exact h6
          obtain ⟨ks',r1,r2⟩:=J.old k hk j h3
          have p1:=setIs_props (setAt_is h5)
          have p2:=setIs_props r1
          rw [hr]
          refine ⟨p1.1,p2.1,p2.2.1.trans p1.2.1.symm,p1.2.1 ▸ rfl,p2.2.2.1,p2.2.2.2,fun x ob hor=>OR.canon r1 ?_ hor,fun q ob _=>by simp [InfoR]⟩
          refine (List.perm_ext_iff_of_nodup r1.1 (addks_nodup _ (setAt_is h5).1)).2 fun x=>?_
          have:t0 j=tt:=by show (setAt H j).getD []=tt;rw [h5];rfl
          rw [r2,this,addks_mem,without_mem,hlk]
          constructor
          · rintro (h | ⟨_,h⟩)
            · exact .inr h
            · exact .inl h
          · rintro (h | h)
            · exact .inr ⟨hk,h⟩
            · exact .inl h
        · have h1:H1.get j=H.get j:=by rw [J.frm j (by rw [hsn];exact hj) e1 e2 e3,gs j hlj]
          have hr:res.get j=H.get j:=by rw [hres,if_neg e1,if_neg e2,s3 j hj e3]
          rw [hr] at hg ⊢
          rw [h1]
          refine ⟨hg,hg,rfl,rfl,rfl,rfl,fun x ob hor=>?_,fun q ob hq=>hq⟩
          obtain ⟨b0,x0,ob0,_,_,hor0⟩:=hIs.obj j (by rw [gs j hlj];exact hg)
          rw [gs j hlj] at hor0
          have hcells:∃ c n e rw' par fz,H.get j=.cells c n e rw' par fz:=by
            by_cases h3:j=i3
            · obtain ⟨c,n,e,rw',par,fz,q,_⟩:=cellAt_cells g3
              rw [h3];exact ⟨c,n,e,rw',par,fz,q⟩
            · have hno:¬ (H.get j).own:=fun h=>hlj ⟨h,h3,e2,e1,e3⟩
              cases ho:H.get j with
              | cells c n e rw' par fz=>exact ⟨c,n,e,rw',par,fz,rfl⟩
              | none=>exact absurd ho hg
              | _=>exact absurd ⟨by rw [ho];rfl,by rw [ho];rfl,hg⟩ hno
          obtain ⟨_,_,_,_,_,_,hc⟩:=hcells
          rw [hc] at hor hor0 ⊢
          exact OR.mono hext (OR.back_cells hxt hor0 hor)
  obtain ⟨j,fr',H',ρ',a',w',t,⟨rfl,rfl,rfl⟩,q2,q3,q4,q5,q6,q7⟩:=main
  have hap:∀ j,hl j→res.get j=H.get j:=fun j h=>by
    rw [hres,if_neg h.2.2.2.1,if_neg h.2.2.1,s3 j (live j h.1.2.2) h.2.2.2.2]
  obtain ⟨u1,u2⟩:=hI.unapart (fun j h=>h.1) q2 q4 q5 (H2:=res) rsn.symm hap (fun j h=>(gr j h).symm)
  exact ⟨.none,_,res,ρ',a',w',t,⟨rfl,rfl,rfl⟩,q2,q3,u1,u2,q6,q7⟩
end Go.Abs
namespace Go.Abs
section
variable [Ov]
variable {P:Program}
theorem Inv.grow {Wr:Acc} {ρ:Names} {H:Heap} {w w':World} {os:Array Obj} (h:Inv P Wr ρ H w) (hh:w'.heap=w.heap++os) (ho:w'.os=w.os) (ht:w'.tape=w.tape) (hu:w'.output=w.output):Inv P Wr ρ H w'∧Kept Wr w w':=by
  have hs:w.heap.size≤w'.heap.size:=by rw [hh];simp
  have hb:∀ b,b<w.heap.size→w'.heap[b]?=w.heap[b]?:=fun b hb=>by rw [hh,Array.getElem?_append_left hb]
  have hl:∀ {b:Nat} {ob:Obj},w.heap[b]?=some ob→b<w.heap.size:=fun e=>(Array.getElem?_eq_some_iff.1 e).1
  refine ⟨⟨?_,h.sep,h.par,h.wr,h.fresh,fun k hk=>h.new k (Nat.le_trans hs hk),h.glob,?_,fun i b x e=>Nat.lt_of_lt_of_le (h.dom i b x e) hs,h.rd,h.un,h.dead⟩,⟨ho,ht,hu,hs,fun k hk _=>hb k hk⟩⟩
  · intro i hi
    obtain ⟨b,x,ob,e,h1,h2⟩:=h.obj i hi
    exact ⟨b,x,ob,e,by rw [hb b (hl h1)];exact h1,h2⟩
  · intro i b x ob hi e h1
    rw [hb b (h.dom i b x e)] at h1
    exact h.info i b x ob hi e h1
structure HasBody (P:Program) (f:FuncId):Prop where
  fn:∃ fn,P.funcs[f]?=some fn∧(fn.name== "runtime.NumGoroutine")=false∧fn.body.isNone=false
theorem comes_of_calls {f:FuncId} (hf:HasBody P f) {Wr:Acc} {ρ:Names} {w:World} {argv:Array Value} {R:Ending→World→Prop} (hc:Calls P f argv w R) {v:AV} {H':Heap}
    (hR:∀ e w',R e w'→∃ c,e=.returned c∧Post P Wr ρ w v H' c w') (fr:Frame) (cs:List Frame) (hat:atCall fr):Comes' P Wr ρ w (callFunc f argv) fr cs fun v' H''=>v'=v∧H''=H':=by
  obtain ⟨fn,h1,h2,h3⟩:=hf.fn
  have hrun:(callFunc f argv).run P w=.ok (.enter f argv) w:=by
    simp only [callFunc,Sem.run_bind,run_program,Result.andThen_ok,h1,h2,h3,Bool.false_eq_true,if_false,Sem.run_pure]
  obtain ⟨e,w',fe,hr,hcm,_,hlv⟩:=hc (fr::cs)
  obtain ⟨c,rfl,hp⟩:=hR e w' hr
  refine ⟨v,H',c,w',_,_,_,⟨rfl,rfl⟩,hp,apply_enter hat hrun,?_⟩
  exact Steps.trans hcm (.one (step_leave_returned hlv))
theorem insI_perm (x:Int):∀ l,(insI x l).Perm (x::l)
  | []=>List.Perm.refl _
  | y::l=>by
    simp only [insI]
    split
    · exact ((insI_perm x l).cons y).trans (List.Perm.swap x y l)
    · exact List.Perm.refl _
theorem sortI_perm:∀ l,(sortI l).Perm l
  | []=>List.Perm.refl _
  | x::l=>(insI_perm x (sortI l)).trans ((sortI_perm l).cons x)
theorem insI_sorted (x:Int):∀ l,l.Pairwise (·≤·)→(insI x l).Pairwise (·≤·)
  | [],_=>by simp [insI]
  | y::l,h=>by
    simp only [insI]
    rw [List.pairwise_cons] at h
    split
    · rename_i hlt
      rw [ilt_iff] at hlt
      have hlt:y<x:=by simpa using hlt
      rw [List.pairwise_cons]
      refine ⟨fun z hz=>?_,insI_sorted x l h.2⟩
      rcases List.mem_cons.1 ((insI_perm x l).mem_iff.1 hz) with e | e
      · rw [e];omega
      · exact h.1 z e
    · rename_i hlt
      rw [ilt_iff] at hlt
      have hlt:¬ y<x:=by simpa using hlt
      rw [List.pairwise_cons]
      refine ⟨fun z hz=>?_,List.pairwise_cons.2 h⟩
      rcases List.mem_cons.1 hz with e | e
      · rw [e];omega
      · have:=h.1 z e;omega
theorem sortI_sorted:∀ l,(sortI l).Pairwise (·≤·)
  | []=>List.Pairwise.nil
  | x::l=>insI_sorted x _ (sortI_sorted l)
theorem sorted_unique:∀ {l m:List Int},l.Pairwise (·≤·)→m.Pairwise (·≤·)→l.Perm m→l=m
  | [],m,_,_,h=>(List.nil_perm.1 h).symm
  | a::l,[],_,_,h=>by simp at h
  | a::l,b::m,h1,h2,h=>by
    rw [List.pairwise_cons] at h1 h2
    have hab:a=b:=by
      have ha:a∈b::m:=h.mem_iff.1 (List.mem_cons_self ..)
      have hb:b∈a::l:=h.mem_iff.2 (List.mem_cons_self ..)
      rcases List.mem_cons.1 ha with e | e
      · exact e
      · rcases List.mem_cons.1 hb with e' | e'
        · exact e'.symm
        · have:=h1.1 b e';have:=h2.1 a e;omega
    subst hab
    rw [sorted_unique h1.2 h2.2 ((List.perm_cons a).1 h)]
theorem sort_eq {zs ks:List Int} (h:zs.Perm ks):(zs.mergeSort fun x y=>decide (x≤y))=sortI ks:=by
  refine sorted_unique ?_ (sortI_sorted ks) ((List.mergeSort_perm zs _).trans (h.trans (sortI_perm ks).symm))
  have:=List.pairwise_mergeSort (le:=fun x y:Int=>decide (x≤y)) (by simp;omega) (by simp;omega) zs
  simpa using this
def intsN (c:Tree AV):Nat→Nat→Option (List Int)
  | _,0=>some []
  | o,n+1=>match c.getN .undef o,intsN c (o+1) n with
    | .int 3 z,some l=>some (z::l)
    | _,_=>none
theorem intsN_get {c:Tree AV}:∀ {n o:Nat} {zs:List Int},intsN c o n=some zs→zs.length=n∧∀ i (h:i<zs.length),c.getN .undef (o+i)=.int 3 (zs[i])
  | 0,o,zs,h=>by simp only [intsN,Option.some.injEq] at h;subst h;simp
  | n+1,o,zs,h=>by
    simp only [intsN] at h
    split at h
    · rename_i z l h1 h2
      injection h with h;subst h
      obtain ⟨g1,g2⟩:=intsN_get h2
      refine ⟨by simp [g1],fun i hi=>?_⟩
      cases i with
      | zero=>simpa using h1
      | succ i =>
        have:=g2 i (by simpa using hi)
        rw [show o+(i+1)=o+1+i by omega,this];rfl
    · cases h
def gSort (args:List AV) (H:Heap):Option (AV × Heap) :=
  match args with
  | [.nilslice]=>some (.tuple [],H)
  | [.slice id 0 n _ _]=>match H.get id with
    | .cells c m 3 true par 0=>if Nat.beq m n&&Nat.blt 0 n&&Nat.ble n 4000000 then match intsN c 0 n with
        | some zs=>some (.tuple [],(H.drops par).set id (.cells (mkCells ((sortI zs).map fun z=>.int 3 z)) n 3 true [] 0))
        | none=>none
      else none
    | _=>none
  | _=>none
open Go.Sort in
theorem gSort_ok {f:FuncId} (hf:HasBody P f)
    (hs:∀ (blk off cap:Nat) (zs:List Int) (w:World),Holds (Value.int .i64) w blk off zs.toArray→blk<w.heap.size→zs.length<4611686018427387904 →
      Calls P f #[.slice (some ⟨blk,off,none⟩) zs.length cap] w fun e w'=>e=.returned (.tuple #[])∧∃ n os,w'=grow (putRow (Value.int .i64) (Sort.ahead w n) blk off (zs.mergeSort fun x y=>decide (x≤y)).toArray) os)
    (hn:∀ (p:Option Addr) (cap:Nat) (w:World),Calls P f #[.slice p 0 cap] w fun e w'=>e=.returned (.tuple #[])∧w'=w):PrimOk P f gSort:=by
  intro Wr ρ H H' w args v argv hg ha hI fr cs hat
  unfold gSort at hg
  split at hg
  · injection hg with hg;injection hg with hg1 hg2
    subst hg1;subst hg2
    obtain ⟨l⟩:=argv
    cases l with
    | nil=>simp [VRs] at ha
    | cons c l =>
      cases l with
      | cons _ _=>simp [VRs] at ha
      | nil =>
        simp only [VRs,and_true] at ha
        have hc:c=.slice none 0 0:=by
          exact ha.nilslice_inv
        subst hc
        refine comes_of_calls hf (hn none 0 w) ?_ fr cs hat
        rintro e w' ⟨rfl,rfl⟩
        exact ⟨_,rfl,Post.same hI (by simp [VR,VRs])⟩
  · rename_i id n cap ex
    split at hg
    case h_2=>cases hg
    rename_i c m par ho
    split at hg
    case isFalse=>cases hg
    rename_i hcnd
    simp only [Bool.and_eq_true] at hcnd
    obtain ⟨⟨hmn,hn0⟩,hnb⟩:=hcnd
    have hmn:=Nat.eq_of_beq_eq_true hmn
    subst hmn
    have hn0:0<m:=Eq.mp Nat.blt_eq hn0
    have hnb:=Nat.le_of_ble_eq_true hnb
    split at hg
    case h_2=>cases hg
    rename_i zs hz
    injection hg with hg;injection hg with hg1 hg2
    subst hg1;subst hg2
    obtain ⟨hzl,hzg⟩:=intsN_get hz
    obtain ⟨l⟩:=argv
    cases l with
    | nil=>simp [VRs] at ha
    | cons cv l =>
      cases l with
      | cons _ _=>simp [VRs] at ha
      | nil =>
        simp only [VRs,and_true] at ha
        obtain ⟨b,x,ob,eb,hlt,hob,hor⟩:=hI.blk (i:=id) (by rw [ho];simp)
        have hcv:∃ cc,cv=.slice (some ⟨b,x,none⟩) m cc:=by
          cases cv with
          | slice a n' cc =>
            cases a with
            | none=>simp [VR] at ha
            | some a =>
              simp only [VR] at ha
              obtain ⟨h1,h2,h3,h4,b',x',e',h5,h6⟩:=ha
              rw [eb] at e';injection e' with e';injection e' with q1 q2;subst q1;subst q2
              rw [h5 (by omega),h1]
              exact ⟨cc,rfl⟩
          | _=>simp [VR] at ha
        obtain ⟨cc,rfl⟩:=hcv
        rw [ho] at hor
        cases ob<;>simp only [OR] at hor
        rename_i cells el fz
        obtain ⟨rfl,hsz,hval,hfrz⟩:=hor
        have hH:Holds (Value.int .i64) w b x zs.toArray:=by
          intro j hj
          have hj':j<zs.length:=by simpa using hj
          obtain ⟨y,hy,hv⟩:=hval j (by omega)
          have:=hzg j hj'
          rw [Nat.zero_add] at this
          rw [this] at hv
          constructor
          · simp only [World.cell?,hob,Option.isSome_none,Bool.false_eq_true,if_false,hy]
            cases y<;>simp only [VR] at hv
            rename_i kk z
            obtain ⟨h1,h2⟩:=hv
            have:kk=.i64:=by cases kk<;>simp [kc] at h1<;>rfl
            subst this
            rw [← h2]
            simp [getElem!_pos,hj']
          · have:=hfrz trivial (x+j) (by omega) (by omega)
            obtain ⟨lo,hi⟩:=fz
            simp only [World.frozen?,hob]
            simp only at this
            simp;omega
        have hcalls:=hs b x cc zs w hH hlt (by omega)
        rw [hzl] at hcalls
        refine comes_of_calls hf hcalls ?_ fr cs hat
        rintro e w' ⟨rfl,k,os,rfl⟩
        refine ⟨_,rfl,?_⟩
        rw [sort_eq (List.Perm.refl zs)]
        have hsl:(sortI zs).length=m:=by rw [(sortI_perm zs).length_eq,hzl]
        have hob':Inv P Wr ρ ((H.drops par).set id (.cells (mkCells ((sortI zs).map fun z=>.int 3 z)) m 3 true [] 0)) { w with heap:=w.heap.setIfInBounds b (.cells (putCells (Value.int .i64) x (sortI zs).toArray cells) 3 fz) }∧Kept Wr w { w with heap:=w.heap.setIfInBounds b (.cells (putCells (Value.int .i64) x (sortI zs).toArray cells) 3 fz) }:=by
          have:=hI.update (i:=id) (b:=b) (x:=x) (o':=.cells (mkCells ((sortI zs).map fun z=>.int 3 z)) m 3 true [] 0) (ob':=.cells (putCells (Value.int .i64) x (sortI zs).toArray cells) 3 fz) (w':={ w with heap:=w.heap.setIfInBounds b (.cells (putCells (Value.int .i64) x (sortI zs).toArray cells) 3 fz) })
            (by rw [ho];simp) (by rw [ho];rfl) eb rfl ?_ ?_ rfl rfl rfl rfl
          · rw [ho] at this;exact this
          · simp only [OR]
            refine ⟨trivial,by simp [putCells];exact hsz,fun i hi=>?_,fun _ i h1 h2=>hfrz trivial i h1 (by simpa [putCells] using h2)⟩
            have hi':i<(sortI zs).length:=by omega
            refine ⟨.int .i64 ((sortI zs)[i]),?_,?_⟩
            · simp only [putCells,Array.getElem?_mapIdx]
              rw [getElem?_pos cells (x+i) (by omega)]
              simp [hsl,hi,hi',getElem!_pos]
            · rw [mkCells_get _ _ (by simpa using hi')]
              simp [List.getD,hi',VR,kc]
          · have hinf:=hI.info id b x _ (by rw [ho];simp) eb hob
            rw [ho] at hinf
            simp only [InfoR] at hinf ⊢
            rw [hinf];simp [putCells]
        have hheap:(grow (putRow (Value.int .i64) (Sort.ahead w k) b x (sortI zs).toArray) os).heap=w.heap.setIfInBounds b (.cells (putCells (Value.int .i64) x (sortI zs).toArray cells) 3 fz)++os:=by
          show (w.heap.modify b (onCells _))++os=_
          congr 1
          apply Array.ext_getElem?
          intro i
          rw [Array.getElem?_modify,Array.getElem?_setIfInBounds]
          by_cases hi:b=i
          · subst hi
            rw [if_pos rfl,if_pos rfl,hob,if_pos hlt];rfl
          · rw [if_neg hi,if_neg hi]
        obtain ⟨u1,u2⟩:=Inv.grow hob'.1 (w':=grow (putRow (Value.int .i64) (Sort.ahead w k) b x (sortI zs).toArray) os) (os:=os) hheap rfl rfl rfl
        exact ⟨ρ,Ext.refl ρ,by simp [VR,VRs],u1,hob'.2.trans u2⟩
  · cases hg
end
end Go.Abs
