/- A part of the proof (an abstract machine, walks): no statement of its own, no conditions. -/
import Derived.Test.YtndbmjcpgefblaaGreatDoorA22
set_option linter.all false
namespace Go.Abs
section
variable [Ov]
variable {tbl:Nat→AFunc}
theorem Xf.prim {n f:Nat} {g:List AV→Heap→Option (AV × Heap)} {first args captured:List AV} {H H':Heap} {v:AV} {K:AV→Heap→Prop} (hf:tbl f=.prim g) (hg:g (first++args++captured) H=some (v,H')) (hK:K v H'):Xf tbl (n+1) (.func f first captured) args H K:=by
  simp only [Xf,callV,hf,hg];exact hK
theorem coll_call {collF appF iterF n e2:Nat} (hc:tbl collF=.code 5 [.tmp (sl 2)] (collCode appF)) (hf:tbl appF=.code 13 [.tmp (sl 4)] (appCode e2)) {bv:AV} {A A1:Heap} {ks:List Int} (hit:IterOk tbl n iterF bv A ks) {B1:Pos} {e1:Nat} (hB:A1.get B1=.cells (mkCells [bv]) 1 e1 true [] 0) (ho:A.next.idx≤B1.idx) (ho':B1.idx<A1.next.idx)
    (hfr:∀ j:Pos,j.idx<A.next.idx→A1.get j=A.get j) {K:AV→Heap→Prop}
    (hK:∀ sv H3 lo l,A.next.idx≤lo∧lo<H3.next.idx→SvIs H3 lo l sv→l.Perm ks→(∀ j:Pos,j.idx<A.next.idx→H3.get j=A.get j)→K sv H3):Xf tbl (n+60) (.func collF [] []) [.func iterF [] [.ptr B1 0]] A1 K:=by
  refine Xf.code (n:=n+59) hc (by simp) ?_
  rw [show putArgs ([]++[AV.func iterF [] [.ptr B1 0]]++[]) .xH .leaf=Tree.leaf.set AV.undef (sl 0) (.func iterF [] [.ptr B1 0]) from rfl]
  generalize hE:Tree.leaf.set AV.undef (sl 0) (.func iterF [] [.ptr B1 0])=env
  have h0:env.get .undef (sl 0)=.func iterF [] [.ptr B1 0]:=by rw [← hE];simp [Tree.get_set]
  clear hE
  refine Xc.seq' (n:=20) (m:=n+57) (k:=n+58) (by omega) (by omega) (Xc.region (n:=19) ?_)
  refine Xo.op (n:=18) (v:=.nilslice) (H':=A1) (by simp [evalOp,gv]) (Xo.nil (n:=17) ?_)
  refine Xc.seq' (n:=n+50) (m:=10) (k:=n+56) (by omega) (by omega) (Xc.region (n:=n+49) ?_)
  refine Xo.op (n:=n+48) (v:=.func iterF [] [.ptr B1 0]) (H':=A1) (by simp [evalOp,gv,setDst,Tree.get_set,slot_inj];exact h0) ?_
  refine Xo.call (n:=n+47) ?_
  simp only [gv,setDst,Tree.get_set,slot_inj,List.map_cons,List.map_nil]
  refine Xf.mono (n:=n+40) (by omega) (fun _ _ h=>h) (app_call hf hit hB ho ho' hfr fun sv H3 lo l q1 q2 q3 q4=>?_)
  refine Xo.op (n:=n+46) (v:=sv) (H':=H3) (by simp [evalOp,gv,setDst,Tree.get_set]) (Xo.nil (n:=n+45) ?_)
  exact Xc.ret (n:=9) ⟨trivial,rfl,[sv],by simp [readRes,setDst,Tree.get_set],hK sv H3 lo l q1 q2 q3 q4⟩
theorem intsN_of {c:Tree AV}:∀ {l:List Int} {o:Nat},(∀ i (h:i<l.length),c.getN .undef (o+i)=.int 3 (l[i]))→intsN c o l.length=some l
  | [],_,_=>rfl
  | z::l,o,h=>by
    have h0:c.getN .undef o=.int 3 z:=h 0 (by simp)
    have ih:=intsN_of (c:=c) (l:=l) (o:=o+1) fun i hi=>by
      have:=h (i+1) (by simpa using hi)
      rw [show o+(i+1)=o+1+i by omega] at this
      exact this
    simp only [List.length_cons,intsN,h0,ih]
def SortedIs (H:Heap) (lo:Nat) (ks:List Int) (v:AV):Prop :=
  (ks=[]∧v=.nilslice)∨∃ id,v=.slice id 0 ks.length ks.length false∧ks≠[]∧lo≤id.idx∧H.get id=.cells (mkCells ((sortI ks).map fun z=>.int 3 z)) ks.length 3 true [] 0
theorem sort_call {sortF:Nat} (hs:tbl sortF=.prim gSort) {A H3:Heap} {sv:AV} {lo:Nat} {l ks:List Int} (h1:A.next.idx≤lo∧lo<H3.next.idx) (h2:SvIs H3 lo l sv) (h3:l.Perm ks) (hkl:ks.length≤1000) (h4:∀ j:Pos,j.idx<A.next.idx→H3.get j=A.get j) {n:Nat} {K:AV→Heap→Prop}
    (hK:∀ H4,SortedIs H4 A.next.idx ks sv→(∀ j:Pos,j.idx<A.next.idx→H4.get j=A.get j)→((∀ id o n c e,sv=.slice id o n c e→id.idx<H4.next.idx)∧A.next.idx≤H4.next.idx)→K (.tuple []) H4):Xf tbl (n+1) (.func sortF [] []) [sv] H3 K:=by
  have hlen:=h3.length_eq
  rcases h2 with ⟨rfl,rfl⟩ | ⟨id,c,par,rfl,g1,g2,g3,g4,g5,g6⟩
  · refine Xf.prim hs (H':=H3) (v:=.tuple []) rfl (hK H3 (.inl ⟨List.nil_perm.1 h3,rfl⟩) h4 ⟨fun _ _ _ _ _ h=>(by cases h),by omega⟩)
  · have hpos:0<l.length:=by
      cases l with
      | nil=>exact absurd rfl g1
      | cons _ _=>simp
    have hsrt:sortI l=sortI ks:=sorted_unique (sortI_sorted l) (sortI_sorted ks) ((sortI_perm l).trans (h3.trans (sortI_perm ks).symm))
    have hg:gSort [.slice id 0 l.length l.length false] H3=some (.tuple [],(H3.drops par).set id (.cells (mkCells ((sortI l).map fun z=>.int 3 z)) l.length 3 true [] 0)):=by
      have e1:(Nat.beq l.length l.length&&Nat.blt 0 l.length&&Nat.ble l.length 4000000)=true:=by
        rw [Nat.beq_refl,show Nat.blt 0 l.length=true from Eq.mpr Nat.blt_eq hpos,Nat.ble_eq_true_of_le (by omega)];rfl
      simp only [gSort,g4,e1,if_true,intsN_of (l:=l) (o:=0) fun i hi=>by rw [Nat.zero_add];exact g5 i hi]
    refine Xf.prim hs hg (hK _ (.inr ⟨id,by rw [hlen],fun e=>?_,by omega,?_⟩) (fun j hj=>?_) ⟨fun _ _ _ _ _ h=>(by injection h with h;subst h;rw [Heap.next_set,Heap.next_drops];exact g3),by rw [Heap.next_set,Heap.next_drops];omega⟩)
    · rw [e] at hlen;simp at hlen;exact g1 (by simpa using hlen)
    · rw [Heap.get_set,if_pos rfl,hsrt,hlen]
    · rw [Heap.get_set,if_neg (ne_idx (by omega)),Heap.get_drops,if_neg fun h=>by have:=g6 j h;omega]
      exact h4 j hj
theorem sorted_call {sortedF sortF collF appF iterF n e2:Nat} (hd:tbl sortedF=.code 9 [.tmp (sl 2)] (sortedCode collF sortF)) (hs:tbl sortF=.prim gSort) (hc:tbl collF=.code 5 [.tmp (sl 2)] (collCode appF)) (hf:tbl appF=.code 13 [.tmp (sl 4)] (appCode e2)) {bv:AV} {A A1:Heap} {ks:List Int} (hkl:ks.length≤1000)
    (hit:IterOk tbl n iterF bv A ks) {B1:Pos} {e1:Nat} (hB:A1.get B1=.cells (mkCells [bv]) 1 e1 true [] 0) (ho:A.next.idx≤B1.idx) (ho':B1.idx<A1.next.idx)
    (hfr:∀ j:Pos,j.idx<A.next.idx→A1.get j=A.get j) {K:AV→Heap→Prop} (hK:∀ v H4,SortedIs H4 A.next.idx ks v→(∀ j:Pos,j.idx<A.next.idx→H4.get j=A.get j)→((∀ id o n c e,v=.slice id o n c e→id.idx<H4.next.idx)∧A.next.idx≤H4.next.idx)→K v H4):Xf tbl (n+90) (.func sortedF [] []) [.func iterF [] [.ptr B1 0]] A1 K:=by
  refine Xf.code (n:=n+89) hd (by simp) ?_
  rw [show putArgs ([]++[AV.func iterF [] [.ptr B1 0]]++[]) .xH .leaf=Tree.leaf.set AV.undef (sl 0) (.func iterF [] [.ptr B1 0]) from rfl]
  generalize hE:Tree.leaf.set AV.undef (sl 0) (.func iterF [] [.ptr B1 0])=env
  have h0:env.get .undef (sl 0)=.func iterF [] [.ptr B1 0]:=by rw [← hE];simp [Tree.get_set]
  clear hE
  refine Xc.seq' (n:=20) (m:=n+87) (k:=n+88) (by omega) (by omega) (Xc.region (n:=19) ?_)
  refine Xo.op (n:=18) (v:=.nilslice) (H':=A1) (by simp [evalOp,gv]) (Xo.nil (n:=17) ?_)
  refine Xc.seq' (n:=n+70) (m:=n+80) (k:=n+86) (by omega) (by omega) (Xc.region (n:=n+69) ?_)
  refine Xo.op (n:=n+68) (v:=.func iterF [] [.ptr B1 0]) (H':=A1) (by simp [evalOp,gv,setDst,Tree.get_set,slot_inj];exact h0) ?_
  refine Xo.call (n:=n+67) ?_
  simp only [gv,setDst,Tree.get_set,slot_inj,List.map_cons,List.map_nil]
  refine Xf.mono (n:=n+60) (by omega) (fun _ _ h=>h) (coll_call hc hf hit hB ho ho' hfr fun sv H3 lo l q1 q2 q3 q4=>?_)
  refine Xo.op (n:=n+66) (v:=sv) (H':=H3) (by simp [evalOp,gv,setDst,Tree.get_set]) (Xo.nil (n:=n+65) ?_)
  refine Xc.seq' (n:=20) (m:=20) (k:=n+79) (by omega) (by omega) (Xc.region (n:=19) ?_)
  refine Xo.op (n:=18) (v:=sv) (H':=H3) (by simp [evalOp,gv,setDst,Tree.get_set]) ?_
  refine Xo.call (n:=17) ?_
  simp only [gv,setDst,Tree.get_set,slot_inj,List.map_cons,List.map_nil]
  refine sort_call hs q1 q2 q3 hkl q4 fun H4 r1 r2 r3=>?_
  refine Xo.nil (n:=16) ?_
  refine Xc.seq' (n:=10) (m:=10) (k:=19) (by omega) (by omega) (Xc.region (n:=9) ?_)
  refine Xo.op (n:=8) (v:=sv) (H':=H4) (by simp [evalOp,gv,setDst,Tree.get_set,slot_inj]) ?_
  refine Xo.op (n:=7) (v:=sv) (H':=H4) (by simp [evalOp,gv,setDst,Tree.get_set,slot_inj]) (Xo.nil (n:=6) ?_)
  exact Xc.ret (n:=9) ⟨trivial,rfl,[sv],by simp [readRes,setDst,Tree.get_set],hK sv H4 r1 r2 r3⟩
theorem keys_call {keysF iterF e1:Nat} (hk:tbl keysF=.code 4 [.tmp (sl 2)] (keysCode iterF e1)) {bv:AV} (hb:bv.cells=[bv]) (hb':bv.oneCell=true) {A:Heap} {K:AV→Heap→Prop} (hK:K (.func iterF [] [.ptr A.next 0]) (A.new (.cells (mkCells [bv]) 1 e1 true [] 0))) :
    Xf tbl 40 (.func keysF [] []) [bv] A K:=by
  refine Xf.code (n:=39) hk (by simp) ?_
  rw [show putArgs ([]++[bv]++[]) .xH .leaf=Tree.leaf.set AV.undef (sl 0) bv from rfl]
  generalize hE:Tree.leaf.set AV.undef (sl 0) bv=env
  have h0:env.get .undef (sl 0)=bv:=by rw [← hE];simp [Tree.get_set]
  clear hE
  refine Xc.seq' (n:=20) (m:=30) (k:=38) (by omega) (by omega) (Xc.region (n:=19) ?_)
  refine Xo.op (n:=18) (v:=.ptr A.next 0) (H':=A.new (.cells (mkCells [bv]) 1 e1 true [] 0)) (eval_box1 h0 hb hb') ?_
  refine Xo.op (n:=17) (v:=.nilFunc) (H':=A.new (.cells (mkCells [bv]) 1 e1 true [] 0)) (by simp [evalOp,gv]) (Xo.nil (n:=16) ?_)
  refine Xc.seq' (n:=20) (m:=20) (k:=29) (by omega) (by omega) (Xc.region (n:=19) ?_)
  refine Xo.op (n:=18) (v:=.func iterF [] [.ptr A.next 0]) (H':=A.new (.cells (mkCells [bv]) 1 e1 true [] 0)) (by simp [evalOp,gv,setDst,Tree.get_set,slot_inj]) ?_
  refine Xo.op (n:=17) (v:=.func iterF [] [.ptr A.next 0]) (H':=A.new (.cells (mkCells [bv]) 1 e1 true [] 0)) (by simp [evalOp,gv,setDst,Tree.get_set,slot_inj]) (Xo.nil (n:=16) ?_)
  exact Xc.ret (n:=19) ⟨trivial,rfl,[.func iterF [] [.ptr A.next 0]],by simp [readRes,setDst,Tree.get_set],hK⟩
theorem list_call {listF keysF sortedF sortF collF appF iterF n e1 e2:Nat} (hl:tbl listF=.code 6 [.tmp (sl 2)] (listCode keysF sortedF)) (hk:tbl keysF=.code 4 [.tmp (sl 2)] (keysCode iterF e1)) (hd:tbl sortedF=.code 9 [.tmp (sl 2)] (sortedCode collF sortF)) (hs:tbl sortF=.prim gSort)
    (hc:tbl collF=.code 5 [.tmp (sl 2)] (collCode appF)) (hf:tbl appF=.code 13 [.tmp (sl 4)] (appCode e2)) {bv:AV} (hb:bv.cells=[bv]) (hb':bv.oneCell=true) {A:Heap} {ks:List Int} (hkl:ks.length≤1000) (hit:IterOk tbl n iterF bv A ks)
    {K:AV→Heap→Prop} (hK:∀ v H4,SortedIs H4 A.next.idx ks v→(∀ j:Pos,j.idx<A.next.idx→H4.get j=A.get j)→K v H4):Xf tbl (n+150) (.func listF [] []) [bv] A K:=by
  refine Xf.code (n:=n+149) hl (by simp) ?_
  rw [show putArgs ([]++[bv]++[]) .xH .leaf=Tree.leaf.set AV.undef (sl 0) bv from rfl]
  generalize hE:Tree.leaf.set AV.undef (sl 0) bv=env
  have h0:env.get .undef (sl 0)=bv:=by rw [← hE];simp [Tree.get_set]
  clear hE
  refine Xc.seq' (n:=20) (m:=n+140) (k:=n+148) (by omega) (by omega) (Xc.region (n:=19) ?_)
  refine Xo.op (n:=18) (v:=.nilslice) (H':=A) (by simp [evalOp,gv]) (Xo.nil (n:=17) ?_)
  refine Xc.seq' (n:=n+130) (m:=10) (k:=n+139) (by omega) (by omega) (Xc.region (n:=n+129) ?_)
  refine Xo.op (n:=n+128) (v:=bv) (H':=A) (by simp [evalOp,gv,setDst,Tree.get_set,slot_inj];exact h0) ?_
  refine Xo.call (n:=n+127) ?_
  simp only [gv,setDst,Tree.get_set,slot_inj,List.map_cons,List.map_nil]
  refine Xf.mono (n:=40) (by omega) (fun _ _ h=>h) (keys_call hk hb hb' ?_)
  refine Xo.call (n:=n+126) ?_
  simp only [gv,setDst,Tree.get_set,slot_inj,List.map_cons,List.map_nil]
  refine Xf.mono (n:=n+90) (by omega) (fun _ _ h=>h) (sorted_call hd hs hc hf hkl hit (A1:=A.new (.cells (mkCells [bv]) 1 e1 true [] 0)) (B1:=A.next) (e1:=e1) (by rw [Heap.get_new,if_pos rfl]) (Nat.le_refl _) (by show _<A.next.succ.idx;rw [Pos.idx_succ];omega)
    (fun j hj=>by rw [Heap.get_new,if_neg (ne_idx (by omega))]) fun v H4 r1 r2 _=>?_)
  refine Xo.op (n:=n+125) (v:=v) (H':=H4) (by simp [evalOp,gv,setDst,Tree.get_set]) (Xo.nil (n:=n+124) ?_)
  exact Xc.ret (n:=9) ⟨trivial,rfl,[v],by simp [readRes,setDst,Tree.get_set],hK v H4 r1 r2⟩
end
end Go.Abs
namespace Go.Abs
section
variable [Ov]
variable {P:Program}
theorem EntsR.back {ρ ρ':Names} (h:Ext ρ ρ'):∀ {es:List AEnt} {l0 l:List MapEntry},EntsR ρ es l0→EntsR ρ' es l→EntsR ρ es l
  | [],_,[],_,_=>by simp [EntsR]
  | [],_,_::_,_,k=>by simp [EntsR] at k
  | _::_,[],_,k0,_=>by simp [EntsR] at k0
  | _::_,_::_,[],_,k=>by simp [EntsR] at k
  | e::es,c0::l0,c::l,k0,k=>by
    simp only [EntsR] at k0 k ⊢
    exact ⟨VR.back h _ _ _ k0.1 k.1,VR.back h _ _ _ k0.2.1 k.2.1,k.2.2.1,EntsR.back h k0.2.2.2 k.2.2.2⟩
theorem EntsU.back {ρ ρ':Names} (h:Ext ρ ρ'):∀ {es:List AEnt} {l0 l:List MapEntry},EntsU ρ es l0→EntsU ρ' es l→EntsU ρ es l
  | [],_,[],_,_=>by simp [EntsU]
  | [],_,_::_,_,k=>by simp [EntsU] at k
  | _::_,[],_,k0,_=>by simp [EntsU] at k0
  | _::_,_::_,[],_,k=>by simp [EntsU] at k
  | e::es,c0::l0,c::l,k0,k=>by
    simp only [EntsU] at k0 k ⊢
    exact ⟨VR.back h _ _ _ k0.1 k.1,VR.back h _ _ _ k0.2.1 k.2.1,EntsU.back h k0.2.2 k.2.2⟩
theorem OR.back {ρ ρ':Names} (h:Ext ρ ρ') {o:AObj} (ho:(∃ c n e rw' par fz,o=.cells c n e rw' par fz)∨∃ es,mapEnts o=some es) {x0 x:Nat} {ob0 ob:Obj} (k0:OR P ρ o x0 ob0) (k:OR P ρ' o x ob):OR P ρ o x ob:=by
  rcases ho with ⟨c,n,e,rw',par,fz,rfl⟩ | ⟨es,he⟩
  · exact OR.back_cells h k0 k
  · cases o with
    | map es0 c =>
      cases ob0<;>simp only [OR] at k0
      cases ob<;>simp only [OR] at k ⊢
      exact ⟨k.1,k.2.1,k.2.2.1,EntsR.back h k0.2.2.2 k.2.2.2⟩
    | umap es0 =>
      cases ob0<;>simp only [OR] at k0
      cases ob<;>simp only [OR] at k ⊢
      obtain ⟨_,_,l0,_,q0⟩:=k0
      obtain ⟨k1,k2,l,k3,q⟩:=k
      exact ⟨k1,k2,l,k3,EntsU.back h q0 q⟩
    | _=>simp [mapEnts] at he
variable {Wr:Acc} {ρ:Names} {H:Heap} {w:World}
theorem Inv.fresh_none (hI:Inv P Wr ρ H w) {hl:Pos→Prop} (hy:∀ j,hl j→(H.get j).own) {Hs:Heap} (hsn:Hs.next=H.next) (hsg:∀ j,(hl j→Hs.get j=.none)∧(¬ hl j→Hs.get j=H.get j)) (hIs:Inv P (Wr.shield ρ hl fun _=>False) ρ Hs w) {ρ':Names} {H4:Heap} {w':World} (hx:Ext ρ ρ')
    (hI4:Inv P (Wr.shield ρ hl fun _=>False) ρ' H4 w') (hk:Kept (Wr.shield ρ hl fun _=>False) w w') (hfr:∀ j:Pos,j.idx<H.next.idx→H4.get j=Hs.get j) (hob:∀ j,¬ hl j→H.get j≠.none→(∃ c n e rw' par fz,H.get j=.cells c n e rw' par fz)∨∃ es,mapEnts (H.get j)=some es) :
    ∃ ρ2,Ext ρ ρ2∧Inv P Wr ρ2 H w'∧Kept Wr w w':=by
  classical
  let ρ2:Names:=⟨fun j=>if j.idx<Hs.next.idx then ρ j else if False then ρ' j else none,ρ'.k⟩
  have hext:Ext ρ ρ2:=by
    intro j x hj
    refine ⟨?_,(hx j x hj).2⟩
    show (if j.idx<Hs.next.idx then ρ j else _)=_
    rcases Nat.lt_or_ge j.idx Hs.next.idx with h | h
    · rw [if_pos h];exact hj
    · rw [(hIs.fresh j h).2] at hj;cases hj
  have hr:=Inv.rename hIs hx hI4 (H2:=Hs) (Nat.le_refl _) id (fun _=>False) ρ2 rfl (fun j h1 h2=>absurd (hIs.fresh j h1).1 h2) (fun _ h=>h.elim) (fun _ _ h=>h.elim) (fun j hj hg=>by
    have hlj:¬ hl j:=fun h=>hg ((hsg j).1 h)
    have e1:=hfr j (by rw [← hsn];exact hj)
    rw [e1]
    refine ⟨hg,hg,rfl,rfl,rfl,rfl,fun x ob hor=>?_,fun _ _ h=>h⟩
    obtain ⟨b0,x0,ob0,_,_,hor0⟩:=hIs.obj j hg
    rw [(hsg j).2 hlj] at hor hor0 hg ⊢
    exact OR.mono hext (OR.back hx (hob j hlj hg) hor0 hor))
  obtain ⟨u1,u2⟩:=hI.unapart hy hr.1 hr.2 hk (H2:=H) hsn.symm (fun _ _=>rfl) (fun j h=>((hsg j).2 h).symm)
  exact ⟨ρ2,hr.1,u1,u2⟩
theorem Inv.fresh_one (hI:Inv P Wr ρ H w) {hl:Pos→Prop} (hy:∀ j,hl j→(H.get j).own) {Hs:Heap} (hsn:Hs.next=H.next) (hsg:∀ j,(hl j→Hs.get j=.none)∧(¬ hl j→Hs.get j=H.get j)) (hIs:Inv P (Wr.shield ρ hl fun _=>False) ρ Hs w) {ρ':Names} {H4:Heap} {w':World} (hx:Ext ρ ρ')
    (hI4:Inv P (Wr.shield ρ hl fun _=>False) ρ' H4 w') (hk:Kept (Wr.shield ρ hl fun _=>False) w w') (hfr:∀ j:Pos,j.idx<H.next.idx→H4.get j=Hs.get j) (hob:∀ j,¬ hl j→H.get j≠.none→(∃ c n e rw' par fz,H.get j=.cells c n e rw' par fz)∨∃ es,mapEnts (H.get j)=some es)
    {id:Pos} {o:AObj} (hid:H.next.idx≤id.idx) (ho:H4.get id=o) (hown:o.own) (hcl:∀ ρ1 ρ2:Names,∀ x ob,OR P ρ1 o x ob→OR P ρ2 o x ob) :
    ∃ ρ2:Names,Ext ρ ρ2∧Inv P Wr ρ2 (H.new o) w'∧Kept Wr w w'∧ρ2 H.next=ρ' id∧ρ2.k=ρ'.k:=by
  classical
  let ρ2:Names:=⟨fun j=>if j.idx<Hs.next.idx then ρ j else if j=H.next then ρ' ((fun _=>id) j) else none,ρ'.k⟩
  have hext:Ext ρ ρ2:=by
    intro j x hj
    refine ⟨?_,(hx j x hj).2⟩
    show (if j.idx<Hs.next.idx then ρ j else _)=_
    rcases Nat.lt_or_ge j.idx Hs.next.idx with h | h
    · rw [if_pos h];exact hj
    · rw [(hIs.fresh j h).2] at hj;cases hj
  have hn2:ρ2 H.next=ρ' id:=by
    show (if H.next.idx<Hs.next.idx then _ else if H.next=H.next then _ else _)=_
    rw [if_neg (by rw [hsn];omega),if_pos rfl]
  have hsuc:(Hs.new o).next.idx=Hs.next.idx+1:=Pos.idx_succ _
  obtain ⟨b,x,ob,eb,hlt,hbb,hor⟩:=hI4.blk (i:=id) (by rw [ho];exact hown.2.2)
  rw [ho] at hor
  have hr:=Inv.rename hIs hx hI4 (H2:=Hs.new o) (by rw [hsuc];omega) (fun _=>id) (fun j=>j=H.next) ρ2 rfl (fun j h1 h2=>by
      rw [Heap.get_new] at h2
      split at h2
      · rename_i e;rw [e,hsn]
      · exact absurd (hIs.fresh j h1).1 h2) (fun j hj=>by
      rw [hj,ho,Heap.get_new,if_pos hsn.symm]
      exact ⟨by rw [hsn];exact Nat.le_refl _,by rw [hsuc,hsn];omega,by rw [hsn];exact hid,hown.2.2,hown.2.1,hown.1,hown.2.1,hown.1,rfl,fun x ob h=>hcl _ _ x ob h,fun _ _ h=>h⟩)
    (fun i j h1 h2 _=>h1.trans h2.symm) (fun j hj hg=>by
    rw [Heap.get_new,if_neg (ne_idx (by omega))] at hg ⊢
    have hlj:¬ hl j:=fun h=>hg ((hsg j).1 h)
    have e1:=hfr j (by rw [← hsn];exact hj)
    rw [e1]
    refine ⟨hg,hg,rfl,rfl,rfl,rfl,fun x ob hor=>?_,fun _ _ h=>h⟩
    obtain ⟨b0,x0,ob0,_,_,hor0⟩:=hIs.obj j hg
    rw [(hsg j).2 hlj] at hor hor0 hg ⊢
    exact OR.mono hext (OR.back hx (hob j hlj hg) hor0 hor))
  have hnl:¬ hl H.next:=fun h=>(hy _ h).2.2 (hI.fresh _ (Nat.le_refl _)).1
  obtain ⟨u1,u2⟩:=hI.unapart hy hr.1 hr.2 hk (H2:=H.new o) (by show H.next.succ=Hs.next.succ;rw [hsn]) (fun j h=>by
    rw [Heap.get_new,if_neg fun e:j=H.next=>hnl (e ▸ h)]) (fun j h=>by
    rw [Heap.get_new,Heap.get_new,hsn]
    split
    · rfl
    · exact ((hsg j).2 h).symm)
  exact ⟨ρ2,hr.1,u1,u2,hn2,rfl⟩
theorem apart_all (hI:Inv P Wr ρ H w) (keep:Pos→Prop):∃ (hl:Pos→Prop) (Hs:Heap),(∀ j,hl j→(H.get j).own)∧(∀ j,keep j→¬ hl j)∧Hs.next=H.next∧(∀ j,(hl j→Hs.get j=.none)∧(¬ hl j→Hs.get j=H.get j))∧Inv P (Wr.shield ρ hl fun _=>False) ρ Hs w ∧
    ∀ j,¬ hl j→H.get j≠.none→keep j∨∃ c n e rw' par fz,H.get j=.cells c n e rw' par fz:=by
  classical
  let hl:Pos→Prop:=fun j=>(H.get j).own∧¬ keep j
  obtain ⟨Hs,hsn,hsg⟩:=H.hide (fun j h=>(hI.fresh j h).1) hl
  refine ⟨hl,Hs,fun j h=>h.1,fun j hk h=>h.2 hk,hsn,hsg,hI.apart (fun i h=>h.1) (fun _ h=>h.elim) hsn (fun j=>?_) (fun j h=>(hsg j).1 h),fun j h1 h2=>?_⟩
  · by_cases h:hl j
    · exact .inr ((hsg j).1 h)
    · exact .inl ((hsg j).2 h)
  · by_cases hk:keep j
    · exact .inl hk
    · right
      have hno:¬ (H.get j).own:=fun h=>h1 ⟨h,hk⟩
      cases ho:H.get j with
      | cells c n e rw' par fz=>exact ⟨c,n,e,rw',par,fz,rfl⟩
      | none=>exact absurd ho h2
      | _=>exact absurd ⟨by rw [ho];rfl,by rw [ho];rfl,h2⟩ hno
theorem ints_closed {l:List Int} {n e:Nat} (hn:n=l.length) (ρ1 ρ2:Names) (x:Nat) (ob:Obj) (h:OR P ρ1 (.cells (mkCells (l.map fun z=>.int 3 z)) n e true [] 0) x ob):OR P ρ2 (.cells (mkCells (l.map fun z=>.int 3 z)) n e true [] 0) x ob:=by
  cases ob<;>simp only [OR] at h ⊢
  refine ⟨h.1,h.2.1,fun i hi=>?_,h.2.2.2⟩
  obtain ⟨v,h1,h2⟩:=h.2.2.1 i hi
  refine ⟨v,h1,?_⟩
  have hi':i<l.length:=by omega
  rw [mkCells_get _ _ (by simpa using hi')] at h2 ⊢
  simp only [List.getD,List.getElem?_map,getElem?_pos l i hi',Option.map_some,Option.getD_some] at h2 ⊢
  cases v<;>simp only [VR] at h2 ⊢
  exact h2
theorem keyInts_map:∀ {es:List AEnt} {ks:List Int},keyInts es=some ks↔es.map (·.key)=ks.map fun k=>.int 3 k
  | [],ks=>by cases ks<;>simp [keyInts]
  | e::es,ks=>by
    simp only [keyInts]
    constructor
    · intro h
      split at h
      · rename_i k l h1 h2
        injection h with h;subst h
        simp only [List.map_cons,h1,keyInts_map.1 h2]
      · cases h
    · intro h
      cases ks with
      | nil=>simp at h
      | cons k ks =>
        simp only [List.map_cons,List.cons.injEq] at h
        simp only [h.1,keyInts_map.2 h.2]
theorem keyInts_perm {es esx:List AEnt} {ks:List Int} (hp:(esx.map AEnt.kv).Perm (es.map AEnt.kv)) (h:keyInts es=some ks):∃ ksx,keyInts esx=some ksx∧ksx.Perm ks:=by
  have hk:(esx.map (·.key)).Perm (ks.map fun k=>.int 3 k):=by
    have:=hp.map Prod.fst
    rw [List.map_map,List.map_map] at this
    rw [← keyInts_map.1 h]
    exact this
  let f:AV→Int:=fun v=>match v with | .int _ k=>k | _=>0
  have e:(ks.map fun k=>AV.int 3 k).map f=ks:=by
    rw [List.map_map]
    have:(f ∘ fun k=>AV.int 3 k)=id:=by funext k;rfl
    rw [this,List.map_id]
  refine ⟨(esx.map (·.key)).map f,keyInts_map.2 ?_,by have:=hk.map f;rw [e] at this;exact this⟩
  rw [List.map_map]
  conv=>lhs;rw [← List.map_id (esx.map (·.key))]
  refine List.map_congr_left fun v hv=>?_
  have:=hk.mem_iff.1 hv
  rw [List.mem_map] at this
  obtain ⟨k,_,rfl⟩:=this
  rfl
theorem list_ok {tbl:Nat→AFunc} (ht:TblOk P tbl) {listF keysF sortedF sortF collF appF iterF e1 e2:Nat} (hl:tbl listF=.code 6 [.tmp (sl 2)] (listCode keysF sortedF)) (hk:tbl keysF=.code 4 [.tmp (sl 2)] (keysCode iterF e1)) (hd:tbl sortedF=.code 9 [.tmp (sl 2)] (sortedCode collF sortF)) (hs:tbl sortF=.prim gSort)
    (hc:tbl collF=.code 5 [.tmp (sl 2)] (collCode appF)) (hf:tbl appF=.code 13 [.tmp (sl 4)] (appCode e2)) (hi:tbl iterF=.code 14 [] iterCode):PrimOk P listF gList:=by
  have main:∀ {Wr:Acc} {ρ:Names} {H A:Heap} {w:World} {hl':Pos→Prop} {Hs:Heap} {bv:AV} {ks:List Int} {argv:Array Value} {n:Nat} (back:∀ {Wr':Acc} {ρ':Names} {H2:Heap} {w':World},Inv P Wr' ρ' H2 w'→(∀ j:Pos,j.idx<H.next.idx→H2.get j=A.get j)→∃ H3:Heap,H3.next=H2.next∧Inv P Wr' ρ' H3 w'∧(∀ j:Pos,j.idx<H.next.idx→H3.get j=Hs.get j)∧∀ j:Pos,H.next.idx≤j.idx→H3.get j=H2.get j),
      Inv P Wr ρ H w→(∀ j,hl' j→(H.get j).own)→Hs.next=H.next→(∀ j,(hl' j→Hs.get j=.none)∧(¬ hl' j→Hs.get j=H.get j))→Inv P (Wr.shield ρ hl' fun _=>False) ρ A w→A.next=H.next→Inv P (Wr.shield ρ hl' fun _=>False) ρ Hs w →
      (∀ j,¬ hl' j→H.get j≠.none→(∃ c n e rw' par fz,H.get j=.cells c n e rw' par fz)∨∃ es,mapEnts (H.get j)=some es)→VRs ρ [bv] argv.toList→bv.cells=[bv]→bv.oneCell=true→ks.length≤1000→IterOk tbl n iterF bv A ks→∀ (fr:Frame) (cs:List Frame),atCall fr →
      Comes' P Wr ρ w (callFunc listF argv) fr cs fun v' H''=>(ks=[]∧v'=.nilslice∧H''=H)∨(ks≠[]∧v'=.slice H.next 0 ks.length ks.length false∧H''=H.new (.cells (mkCells ((sortI ks).map fun n=>.int 3 n)) ks.length 3 true [] 0)):=by
    intro Wr ρ H A w hl' Hs bv ks argv n back hI hy hsn hsg hIA hAn hIs hob ha hb1 hb2 hkl hit fr cs hat
    have hrun:=list_call (n:=n) hl hk hd hs hc hf hb1 hb2 hkl hit (K:=fun v H4=>SortedIs H4 A.next.idx ks v∧∀ j:Pos,j.idx<A.next.idx→H4.get j=A.get j) (fun v H4 h1 h2=>⟨h1,h2⟩)
    have hcall:=(all_ok ht (n+150)).1 (n+150) (Nat.le_refl _) hrun (fv:=.func (.func listF) #[] #[]) (by simp [VR,VRs]) ha hIA fr cs hat
    have hinv:Invoked (.func (.func listF) #[] #[]) argv=callFunc listF argv:=by simp [Invoked,Deferred.ofValue,invoke]
    rw [hinv] at hcall
    obtain ⟨v,H4,c,w',fr1,cs1,w1,⟨k1,k2⟩,⟨ρ',hx,hv,hI4,hkept⟩,q1,q2⟩:=hcall
    rw [hAn] at k1 k2
    obtain ⟨H3,n3,hI3,f1,f2⟩:=back hI4 k2
    rcases k1 with ⟨rfl,rfl⟩ | ⟨id,rfl,hne,hid,hg⟩
    · obtain ⟨ρ2,x1,x2,x3⟩:=Inv.fresh_none hI hy hsn hsg hIs hx hI3 hkept f1 hob
      have hcv:=hv.nilslice_inv
      subst hcv
      exact ⟨.nilslice,H,_,w',fr1,cs1,w1,.inl ⟨rfl,rfl,rfl⟩,⟨ρ2,x1,by simp [VR],x2,x3⟩,q1,q2⟩
    · have hsl:ks.length=(sortI ks).length:=(sortI_perm ks).length_eq.symm
      obtain ⟨ρ2,x1,x2,x3,x4,x5⟩:=Inv.fresh_one hI hy hsn hsg hIs hx hI3 hkept f1 hob hid (by rw [f2 id hid];exact hg) ⟨rfl,rfl,by simp⟩ (ints_closed hsl)
      refine ⟨_,_,c,w',fr1,cs1,w1,.inr ⟨hne,rfl,rfl⟩,⟨ρ2,x1,?_,x2,x3⟩,q1,q2⟩
      cases c with
      | slice a n' m' =>
        cases a with
        | none=>simp [VR] at hv
        | some a=>simp only [VR] at hv ⊢;rw [x4,x5];exact hv
      | _=>simp [VR] at hv
  intro Wr ρ H H' w args v argv hg ha hI fr cs hat
  unfold gList at hg
  split at hg
  ·
    injection hg with hg;injection hg with hg1 hg2
    subst hg1;subst hg2
    obtain ⟨hl',Hs,y1,_,y2,y3,y4,y5⟩:=apart_all hI fun _=>False
    obtain ⟨v,H'',c,w',fr1,cs1,w1,hK,r⟩:=main (A:=Hs) (ks:=[]) (n:=100) (bv:=.nilmap) (fun h1 h2=>⟨_,rfl,h1,h2,fun _ _=>rfl⟩) hI y1 y2 y3 y4 y2 y4 (fun j h1 h2=>.inl ((y5 j h1 h2).resolve_left id)) ha rfl rfl (by simp) (iter_nil hi) fr cs hat
    rcases hK with ⟨_,rfl,rfl⟩ | ⟨h,_⟩
    · exact ⟨_,_,c,w',fr1,cs1,w1,⟨rfl,rfl⟩,r⟩
    · exact absurd rfl h
  · rename_i m
    have go:∀ {ks:List Int},keysAt H m=some ks→ks.length≤1000→Comes' P Wr ρ w (callFunc listF argv) fr cs fun v' H''=>(ks=[]∧v'=.nilslice∧H''=H)∨(ks≠[]∧v'=.slice H.next 0 ks.length ks.length false∧H''=H.new (.cells (mkCells ((sortI ks).map fun n=>.int 3 n)) ks.length 3 true [] 0)):=by
      intro ks hks hkl
      obtain ⟨es,e1,e2,e3⟩:=keysAt_inv hks
      obtain ⟨hl',Hs,y1,y0,y2,y3,y4,y5⟩:=apart_all hI fun j=>j=m
      have gm:Hs.get m=H.get m:=(y3 m).2 (y0 m rfl)
      have hmn:m.idx<H.next.idx:=by
        rcases Nat.lt_or_ge m.idx H.next.idx with h | h
        · exact h
        · rw [(hI.fresh m h).1] at e1;simp [mapEnts] at e1
      obtain ⟨esx,clock,i1,p1,p2,p3,back⟩:=ranged y4 (m:=m) (es:=es) (by rw [gm];exact e1)
      obtain ⟨ksx,x1,x2⟩:=keyInts_perm p1 e2
      have hit:IterOk tbl (esx.length+100) iterF (.map m) (Hs.set m (.map esx clock)) ksx:=iter_map hi (m:=m) (A:=Hs.set m (.map esx clock)) (by rw [Heap.get_set,if_pos rfl]) (by show m.idx<Hs.next.idx;rw [y2];exact hmn) p2 p3 x1 (x2.nodup_iff.2 e3) (by rw [x2.length_eq];exact hkl)
      obtain ⟨v,H'',c,w',fr1,cs1,w1,hK,r⟩:=main (A:=Hs.set m (.map esx clock)) (ks:=ksx) (bv:=.map m) (H:=H) (Hs:=Hs) (fun {Wr' ρ' H2 w'} h1 h2=>⟨H2.set m (Hs.get m),rfl,back h1 (by rw [h2 m hmn,Heap.get_set,if_pos rfl]),fun j hj=>by
          rw [Heap.get_set]
          split
          · rename_i e;rw [e]
          · rename_i e;rw [h2 j hj,Heap.get_set,if_neg e],fun j hj=>by rw [Heap.get_set,if_neg (ne_idx (by omega))]⟩) hI y1 y2 y3 i1 (by show Hs.next=_;exact y2) y4 (fun j h1 h2=>by
          rcases y5 j h1 h2 with h | h
          · exact .inr ⟨es,by rw [h];exact e1⟩
          · exact .inl h) ha rfl rfl (by rw [x2.length_eq];exact hkl) hit fr cs hat
      refine ⟨v,H'',c,w',fr1,cs1,w1,?_,r⟩
      rw [sorted_unique (sortI_sorted ksx) (sortI_sorted ks) ((sortI_perm ksx).trans (x2.trans (sortI_perm ks).symm)),x2.length_eq] at hK
      rcases hK with ⟨h,h'⟩ | ⟨h,h'⟩
      · exact .inl ⟨by rw [h] at x2;exact List.nil_perm.1 x2,h'⟩
      · exact .inr ⟨fun e=>h (by rw [e] at x2;exact List.perm_nil.1 x2),h'⟩
    split at hg
    · rename_i hks
      injection hg with hg;injection hg with hg1 hg2
      subst hg1;subst hg2
      obtain ⟨v,H'',c,w',fr1,cs1,w1,hK,r⟩:=go hks (by simp)
      rcases hK with ⟨_,rfl,rfl⟩ | ⟨h,_⟩
      · exact ⟨_,_,c,w',fr1,cs1,w1,⟨rfl,rfl⟩,r⟩
      · exact absurd rfl h
    · rename_i ks hne hks
      split at hg
      case isFalse=>cases hg
      rename_i hle
      injection hg with hg;injection hg with hg1 hg2
      subst hg1;subst hg2
      obtain ⟨v,H'',c,w',fr1,cs1,w1,hK,r⟩:=go hks (Nat.le_of_ble_eq_true hle)
      rcases hK with ⟨h,_⟩ | ⟨_,rfl,rfl⟩
      · exact (hne h).elim
      · exact ⟨_,_,c,w',fr1,cs1,w1,⟨rfl,rfl⟩,r⟩
    · cases hg
  · cases hg
end
end Go.Abs
namespace Go.Abs
section
variable [Ov]
variable {P:Program}
theorem clone_ok {f:FuncId} {fn:Func} (h1:P.funcs[f]?=some fn) (h2:(fn.name== "runtime.NumGoroutine")=false) (h3:fn.body.isNone=true) (h4:Extern.findNext fn=none) (h5:Extern.find fn=some Extern.MapsClone.clone):PrimOk P f gClone:=by
  intro Wr ρ H H' w args v argv hg ha hI fr cs hat
  unfold gClone at hg
  split at hg
  case h_2=>cases hg
  rename_i t m
  split at hg
  case h_2=>cases hg
  rename_i es c ho
  injection hg with hg;injection hg with hg1 hg2
  subst hg1;subst hg2
  obtain ⟨b,x,ob,eb,hlt,hob,hor⟩:=hI.blk (i:=m) (by rw [ho];simp)
  rw [ho] at hor
  cases ob<;>simp only [OR] at hor
  rename_i ces k
  obtain ⟨rfl,rfl,hok,hr⟩:=hor
  have hav:argv=#[.iface t (.map (some b))]:=by
    obtain ⟨l⟩:=argv
    cases l with
    | nil=>simp [VRs] at ha
    | cons cv l =>
      cases l with
      | cons _ _=>simp [VRs] at ha
      | nil =>
        simp only [VRs,and_true] at ha
        cases cv with
        | iface u z =>
          simp only [VR] at ha
          obtain ⟨rfl,ha⟩:=ha
          cases z with
          | map bb =>
            cases bb with
            | none=>simp [VR] at ha
            | some bb =>
              simp only [VR] at ha
              rw [eb] at ha;injection ha with ha;injection ha with ha _
              rw [ha]
          | _=>simp [VR] at ha
        | _=>simp [VR] at ha
  subst hav
  have hgo:(getObj b).run P w=.ok (.map ces k) w:=by simp [getObj,Sem.run,hob]
  have hrun:(callFunc f #[.iface t (.map (some b))]).run P w=.ok (.value (.iface t (.map (some w.heap.size)))) { w with heap:=w.heap.push (.map ces k) }:=by
    have hc:Extern.MapsClone.clone #[.iface t (.map (some b))]=((getObj b).bind fun o=>match o with
        | .map entries clock=>(newObj (.map entries clock)).bind fun r=>pure (.iface t (.map (some r)))
        | _=>stuck "maps.clone: a map expected"):=rfl
    have hcr:(Extern.MapsClone.clone #[.iface t (.map (some b))]).run P w=.ok (.iface t (.map (some w.heap.size))) { w with heap:=w.heap.push (.map ces k) }:=by
      rw [hc]
      have:∀ {α β:Type} (x:Sem α) (g:α→Sem β),x.bind g=x >>= g:=fun _ _=>rfl
      simp only [this,Sem.run_bind,hgo,Result.andThen_ok,run_newObj,Sem.run_pure]
    simp only [callFunc,Sem.run_bind,run_program,Result.andThen_ok,h1,h2,h3,h4,h5,Bool.false_eq_true,if_false,if_true,run_mark,Sem.run_pure,hcr]
  obtain ⟨x1,x2,x3⟩:=hI.alloc (o:=.map es k) (ob:=.map ces k) (0,0) (by simp [InfoR]) (by simp) rfl (by
    simp only [OR]
    refine ⟨trivial,trivial,hok,EntsR.mono (Names.add_ext w.heap.size 0 (0,0) (hI.fresh H.next (Nat.le_refl _)).2 fun j c y e hc=>by have:=hI.dom j c y e;omega) hr⟩)
  exact ⟨_,_,_,_,_,_,_,⟨rfl,rfl⟩,⟨_,x1,by simp [VR,Names.add_same],x2,x3⟩,apply_value hrun,Steps.refl _ _⟩
end
end Go.Abs
namespace Go.Abs
section
variable [Ov]
variable {P:Program}
def EntOk (P:Program) (f:Nat):AFunc→Prop
  | .none=>True
  | .code nt rs body=>∃ fn,P.funcs[f]?=some fn∧cFunc P fn=some (.code nt rs body)∧(fn.name== "runtime.NumGoroutine")=false
  | .prim g=>PrimOk P f g
  | .over g=>OverOk P f g
theorem tblOk {tbl:Nat→AFunc} (h:∀ f,EntOk P f (tbl f)):TblOk P tbl:=by
  have key:∀ f v,tbl f=v→EntOk P f v:=fun f v e=>e ▸ h f
  exact ⟨fun f nt rs body e=>key f _ e,fun f g e=>key f (.prim g) e,fun f g e=>key f (.over g) e⟩
def AllN (Q:Nat→AFunc→Prop):Tree AFunc→(Nat→Nat)→Prop
  | .leaf,_=>True
  | .node l v r,g=>Q (g 0) v∧AllN Q l (fun m=>g (2*m+1))∧AllN Q r (fun m=>g (2*m+2))
theorem AllN.get {Q:Nat→AFunc→Prop} (hd:∀ n,Q n .none):∀ {t:Tree AFunc} {g:Nat→Nat},AllN Q t g→∀ n,Q (g n) (t.getN .none n)
  | .leaf,g,_,n=>by simp only [Tree.getN];exact hd _
  | .node l v r,g,h,0=>by simp only [Tree.getN];exact h.1
  | .node l v r,g,h,m+1=>by
    simp only [Tree.getN]
    split
    · rename_i he
      have:=AllN.get hd h.2.1 (m / 2)
      rw [show 2*(m / 2)+1=m+1 by omega] at this
      exact this
    · rename_i he
      have:=AllN.get hd h.2.2 (m / 2)
      rw [show 2*(m / 2)+2=m+1 by omega] at this
      exact this
theorem tree_ok {t:Tree AFunc} (h:AllN (EntOk P) t fun n=>n):TblOk P (t.getN .none):=tblOk fun f=>h.get (fun _=>trivial) f
theorem live_tbl_ok {addF withF:Nat} (h1:EntOk P addF (.code 32 [] (addCode withF))) (h2:EntOk P withF (.code 13 [.tmp (sl 4)] withCode)):TblOk P (liveTbl addF withF):=tblOk fun f=>by
  unfold liveTbl
  split
  · rename_i h;rw [Nat.eq_of_beq_eq_true h];exact h1
  · split
    · rename_i h;rw [Nat.eq_of_beq_eq_true h];exact h2
    · trivial
def assoc (l:List (Nat × AFunc)) (f:Nat):AFunc :=
  match l with
  | []=>.none
  | (n,v)::l=>if Nat.beq n f then v else assoc l f
def AllL (Q:Nat→AFunc→Prop):List (Nat × AFunc)→Prop
  | []=>True
  | (n,v)::l=>Q n v∧AllL Q l
theorem assoc_ok:∀ {l:List (Nat × AFunc)},AllL (EntOk P) l→∀ f,EntOk P f (assoc l f)
  | [],_,_=>trivial
  | (n,v)::l,h,f=>by
    simp only [assoc]
    split
    · rename_i e;rw [← Nat.eq_of_beq_eq_true e];exact h.1
    · exact assoc_ok h.2 f
end
end Go.Abs
namespace Go.Abs
section
variable [Ov]
variable {P:Program}
theorem calls_of {tbl:Nat→AFunc} (ht:TblOk P tbl) {f nt:Nat} {rs:List ARes} {body:ACode} (hg:tbl f=.code nt rs body) {n:Nat} {args:List AV} {H:Heap} {K:AV→Heap→Prop} (he:Xf tbl n (.func f [] []) args H K) {Wr:Acc} {ρ:Names} {w:World} {argv:Array Value} (ha:VRs ρ args argv.toList) (hI:Inv P Wr ρ H w) :
    Calls P f argv w fun e w'=>∃ v H' c,e=.returned c∧K v H'∧Post P Wr ρ w v H' c w':=by
  intro cs
  cases n with
  | zero=>simp only [Xf,callV] at he
  | succ n =>
    have hexec:ExecOk P tbl n:=(all_ok ht n).2.1
    simp only [Xf,callV,hg,List.nil_append,List.append_nil] at he
    obtain ⟨fn,hfn,hcf,hname⟩:=ht.code f nt rs body hg
    split at he
    case isFalse=>exact he.elim
    rename_i hle
    have hle:=Nat.le_of_ble_eq_true hle
    simp only [cFunc,Option.bind_eq_bind,Option.bind_eq_some_iff,Option.pure_def,Option.some.injEq,AFunc.code.injEq] at hcf
    obtain ⟨cc,hcc,body',hbody,rs',hrs,e1,e2,e3⟩:=hcf
    subst e1;subst e2;subst e3
    let b:Frame:={ (default:Frame) with fn:=f,kind:=.normal }
    let a:Act:={ tmps:=argv++Array.replicate (fn.ntmps-argv.size) undef,defers:=[] }
    have henter:Frame.enter P f argv .normal=b.atR a [.code cc]:=by
      simp only [Frame.enter,Frame.atR,hfn,hcc,b,a,Option.map_some,Option.getD_some,Option.bind_some]
      rfl
    have hF:FrR ρ fn.ntmps ⟨putArgs args .xH .leaf,[],none⟩ b.roundOf a:=⟨putArgs_sound ha hle,trivial,trivial⟩
    obtain ⟨j,fr',H',ρ',a',w',t,h1,h2,h3,h4,h5,h6,h7⟩:=hexec hbody he hF hI [] cs
    have hret:∃ fe:Frame,fe={ b.atR a' fe.todo with mode:=.returning }∧step P (lone (b.atR a' t) cs w')=.next (lone fe cs w'):=by
      cases j with
      | none=>rw [show t=[] from h6];exact ⟨_,rfl,stepR_end rfl⟩
      | exit id=>exact h1.elim
      | ret=>obtain ⟨k0,rfl⟩:=h6;exact ⟨_,rfl,stepR_ret rfl⟩
    obtain ⟨fe,hfe,hst⟩:=hret
    have h1' : (match takeMarks H' fr'.marks with
          | some H=>match readRes fr'.env H rs' with
            | some l=>K (resV l) H
            | none=>False
          | none=>False):=by
      cases j with
      | none=>exact h1
      | exit id=>exact h1.elim
      | ret=>exact h1
    split at h1'
    · rename_i H2 hm
      split at h1'
      · rename_i l hl
        have hfed:fe={ fe with defers:=a'.defers }:=by rw [hfe];rfl
        obtain ⟨w2,s1,s2,s3⟩:=takeMarks_sound h4 h3.D hm fe cs (by rw [hfe])
        rw [← hfed] at s1
        obtain ⟨c,hc,hv⟩:=readRes_sound s2 h3.E hrs hl
        refine ⟨.returned c,w2,{ fe with defers:=[] },⟨resV l,H2,c,rfl,h1',ρ',h2,hv,s2,h5.trans s3⟩,?_,?_,?_⟩
        · rw [henter]
          exact h7.trans (.head hst s1)
        · show fe.fn=f
          rw [hfe];rfl
        · refine ⟨by rw [hfe],rfl,by rw [hfe];rfl,fn,by rw [hfe];exact hfn,?_⟩
          rw [hfe];exact hc
      · exact h1'.elim
    · exact h1'.elim
end
end Go.Abs
namespace Go.Abs
section
variable [Ov]
variable {P:Program}
def newAcc (w:World):Acc:=⟨fun b=>w.heap.size≤b,fun b=>w.heap.size≤b,fun _=>False,fun _=>False⟩
def globNames (n:Nat):Names:=⟨fun j=>if j.idx≤n then some (j.idx-1,0) else none,fun _=>(0,0)⟩
theorem init_inv {n:Nat} (hn:P.globals.size=n) {w:World} (hw:n≤w.heap.size):Inv P (newAcc w) (globNames n) ⟨.leaf,Pos.slot n⟩ w:=by
  have hg:∀ j,Heap.get ⟨.leaf,Pos.slot n⟩ j=.none:=get_leaf_none _
  have hi:∀ j b x,globNames n j=some (b,x)→j.idx≤n∧b=j.idx-1:=by
    intro j b x h
    have:(if j.idx≤n then some (j.idx-1,0) else none)=some (b,x):=h
    split at this
    · rename_i hle;injection this with this;injection this with h1 _;exact ⟨hle,h1.symm⟩
    · cases this
  refine ⟨fun i h=>absurd (hg i) h,fun i j b x y _ h=>absurd (hg i) h,fun i j h=>?_,fun i b x h=>absurd (hg i) h,fun i h=>⟨hg i,?_⟩,fun k hk=>⟨hk,hk⟩,fun g h=>?_,fun i b x ob h=>absurd (hg i) h,fun i b x h=>?_,fun i b x h=>absurd (hg i) h,fun i h=>h.elim,fun i h=>h.elim⟩
  · rw [hg] at h;cases h
  · have:(Pos.slot n).idx≤i.idx:=h
    rw [Pos.idx_slot] at this
    show (if i.idx≤n then _ else _)=_
    rw [if_neg (by omega)]
  · show (if (Pos.slot g).idx≤n then _ else _)=_
    rw [Pos.idx_slot,if_pos (by omega)];simp
  · obtain ⟨h1,h2⟩:=hi i b x h
    have:=Pos.idx_pos i
    omega
end
end Go.Abs
