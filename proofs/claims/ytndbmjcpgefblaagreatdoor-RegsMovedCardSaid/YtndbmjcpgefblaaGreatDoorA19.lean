/- A part of the proof (an abstract machine, walks): no statement of its own, no conditions. -/
import Derived.Test.YtndbmjcpgefblaaGreatDoorA18
set_option linter.all false
namespace Go.Abs
section
variable [Ov]
variable {tbl:Nat→AFunc}
theorem with_call {withF:Nat} (hw:tbl withF=.code 13 [.tmp (sl 4)] withCode) {H:Heap} {N:Pos} {v:Int} {ks:List Int} (hs:setIs (H.get N) ks) {K:AV→Heap→Prop}
    (hK:∀ H2:Heap,H2.next=H.next→(∀ j,j≠N→H2.get j=H.get j)→setIs (H2.get N) (addk v ks)→K (.bool (!hasI v ks)) H2):Xf tbl 30 (.func withF [] []) [.map N,.int 3 v] H K:=by
  refine Xf.code (n:=29) hw (by simp) ?_
  show Xc tbl 29 withCode ⟨(Tree.leaf.set .undef (sl 0) (.map N)).set .undef (sl 1) (.int 3 v),[],none⟩ H _
  generalize hE:(Tree.leaf.set AV.undef (sl 0) (.map N)).set .undef (sl 1) (.int 3 v)=env
  have h0:env.get .undef (sl 0)=.map N:=by rw [← hE];simp [Tree.get_set,slot_inj]
  have h1:env.get .undef (sl 1)=.int 3 v:=by rw [← hE];simp [Tree.get_set,slot_inj]
  clear hE
  refine Xc.seq' (n:=28) (m:=28) (k:=28) (by omega) (by omega) (Xc.region (n:=27) ?_)
  refine Xo.op (n:=26) (v:=.bool false) (H':=H) (by simp [evalOp,gv]) (Xo.nil (n:=25) ?_)
  refine Xc.seq' (n:=27) (m:=27) (k:=27) (by omega) (by omega) (Xc.region (n:=26) ?_)
  refine Xo.op (n:=25) (v:=.map N) (H':=H) (by simp [evalOp,gv,setDst,Tree.get_set,slot_inj];exact h0) ?_
  refine Xo.op (n:=24) (v:=.int 3 v) (H':=H) (by simp [evalOp,gv,setDst,Tree.get_set,slot_inj];exact h1) ?_
  refine Xo.op (n:=23) (v:=.bool (hasI v ks)) (H':=H) (has_set (N:=N) (x:=v) (by simp [gv,setDst,Tree.get_set,slot_inj]) (by simp [gv,setDst,Tree.get_set,slot_inj]) hs) ?_
  refine Xo.op (n:=22) (v:=.bool (!hasI v ks)) (H':=H) (by simp [evalOp,gv,setDst,Tree.get_set,slot_inj,unV]) ?_
  refine Xo.op (n:=21) (v:=.bool (!hasI v ks)) (H':=H) (by simp [evalOp,gv,setDst,Tree.get_set,slot_inj]) (Xo.nil (n:=20) ?_)
  refine Xc.seq' (n:=26) (m:=26) (k:=26) (by omega) (by omega) (Xc.region (n:=25) ?_)
  obtain ⟨H2,u1,u2,u3,u4⟩:=upd_set (H:=H) (N:=N) (x:=v) (ks:=ks)
    (env:=setDst (setDst (setDst (setDst (setDst (setDst (setDst (setDst env (some (sl 4)) (.bool false)) (some (sl 6)) (.map N)) (some (sl 7)) (.int 3 v)) (some (sl 8)) (.bool (hasI v ks))) (some (sl 9)) (.bool (!hasI v ks))) (some (sl 5)) (.bool (!hasI v ks))) (some (sl 10)) (.map N)) (some (sl 11)) (.int 3 v)) (om:=tt 10) (ok_:=tt 11) (by simp [gv,setDst,Tree.get_set,slot_inj]) (by simp [gv,setDst,Tree.get_set,slot_inj]) hs
  refine Xo.op (n:=24) (v:=.map N) (H':=H) (by simp [evalOp,gv,setDst,Tree.get_set,slot_inj];exact h0) ?_
  refine Xo.op (n:=23) (v:=.int 3 v) (H':=H) (by simp [evalOp,gv,setDst,Tree.get_set,slot_inj];exact h1) ?_
  refine Xo.op (n:=22) (v:=.undef) (H':=H2) u1 (Xo.nil (n:=21) ?_)
  refine Xc.seq' (n:=25) (m:=25) (k:=25) (by omega) (by omega) (Xc.region (n:=24) ?_)
  refine Xo.op (n:=23) (v:=.bool (!hasI v ks)) (H':=H2) (by simp [evalOp,gv,setDst,Tree.get_set,slot_inj]) ?_
  refine Xo.op (n:=22) (v:=.bool (!hasI v ks)) (H':=H2) (by simp [evalOp,gv,setDst,Tree.get_set,slot_inj]) (Xo.nil (n:=21) ?_)
  refine Xc.ret (n:=24) ⟨trivial,rfl,[.bool (!hasI v ks)],?_,hK H2 u2 u3 u4⟩
  simp [readRes,setDst,Tree.get_set,slot_inj]
theorem writeAt_one {H:Heap} {ni:Pos} {no n fz:Nat} {c:Tree AV} {e:Nat} (h:H.get ni=.cells c n e true [] fz) (h1:fz≤no) (h2:no<n) (b:Bool):writeAt H ni no [.bool b]=some (H.set ni (.cells (writeCells c no [.bool b]) n e true [] fz)):=by
  unfold writeAt
  rw [h]
  have e1:decide (fz≤no)=true:=by simpa using h1
  have e2:decide (no+([.bool b]:List AV).length≤n)=true:=by simp;omega
  simp only [e1,e2,Bool.true_and]
  rfl
theorem add_call {addF withF:Nat} (ha:tbl addF=.code 32 [] (addCode withF)) (hw:tbl withF=.code 13 [.tmp (sl 4)] withCode) {H:Heap} {c1 c2 c3 s2:AV} {pm ni N:Pos} {no n fz kb e:Nat} {pl:List (Int × Int)} {pks ks:List Int} {v at_ b:Int} {c:Tree AV} {q:Bool}
    (g1:cellP H c1=some (.map pm)) (g2:cellP H c2=some s2) (g3:cellP H c3=some (.int kb b)) (g4:mapAt H pm=some pl) (g5:keysAt H pm=some pks) (g6:elemAt H s2 b=some (.map N)) (g7:H.get ni=.cells c n e true [] fz) (g8:fz≤no) (g9:no<n) (g10:c.getN .undef no=.bool q) (hs:setIs (H.get N) ks)
    {K:AV→Heap→Prop}
    (hK:∀ (r:AV) (H2:Heap) ks2 c2,H2.next=H.next→(∀ j,j≠N→j≠ni→H2.get j=H.get j)→setIs (H2.get N) ks2→(∀ x,x∈ks2↔x∈ks∨(x=v∧liveOf.isLive pl at_ v=true))→H2.get ni=.cells c2 n e true [] fz→(∀ i,i≠no→c2.getN .undef i=c.getN .undef i) →
      c2.getN .undef no=.bool (q||(liveOf.isLive pl at_ v&&!hasI v ks))→K r H2):Xf tbl 80 (.func addF [] [c1,c2,c3,.ptr ni no]) [.int 3 v,.int 3 at_] H K:=by
  obtain ⟨i1,o1,rfl,g1⟩:=cellP_inv g1
  obtain ⟨i2,o2,rfl,g2⟩:=cellP_inv g2
  obtain ⟨i3,o3,rfl,g3⟩:=cellP_inv g3
  obtain ⟨is,os,ns,cs',es',js,e5,e6,e7,c5⟩:=elemAt_inv g6
  have hNni:N≠ni:=by
    rintro rfl
    obtain ⟨_,_,h,_⟩:=hs
    rw [g7] at h;simp [mapEnts] at h
  have gq:cellAt H ni no=some (.bool q):=by
    unfold cellAt;rw [g7];simp only [Eq.mpr Nat.blt_eq g9,if_true,g10]
  refine Xf.code (n:=79) ha (by simp) ?_
  show Xc tbl 79 (addCode withF) ⟨(((((Tree.leaf.set .undef (sl 0) (.int 3 v)).set .undef (sl 1) (.int 3 at_)).set .undef (sl 2) (.ptr i1 o1)).set .undef (sl 3) (.ptr i2 o2)).set .undef (sl 4) (.ptr i3 o3)).set .undef (sl 5) (.ptr ni no),[],none⟩ H _
  generalize hE:(((((Tree.leaf.set AV.undef (sl 0) (.int 3 v)).set .undef (sl 1) (.int 3 at_)).set .undef (sl 2) (.ptr i1 o1)).set .undef (sl 3) (.ptr i2 o2)).set .undef (sl 4) (.ptr i3 o3)).set .undef (sl 5) (.ptr ni no)=env
  have h0:env.get .undef (sl 0)=.int 3 v:=by rw [← hE];simp [Tree.get_set,slot_inj]
  have h1:env.get .undef (sl 1)=.int 3 at_:=by rw [← hE];simp [Tree.get_set,slot_inj]
  have h2:env.get .undef (sl 2)=.ptr i1 o1:=by rw [← hE];simp [Tree.get_set,slot_inj]
  have h3:env.get .undef (sl 3)=.ptr i2 o2:=by rw [← hE];simp [Tree.get_set,slot_inj]
  have h4:env.get .undef (sl 4)=.ptr i3 o3:=by rw [← hE];simp [Tree.get_set,slot_inj]
  have h5:env.get .undef (sl 5)=.ptr ni no:=by rw [← hE];simp [Tree.get_set,slot_inj]
  clear hE
  rw [isLive_look] at hK
  generalize hg:(lookI pl v).1=gg at hK
  generalize hi:(lookI pl v).2=ii at hK
  have hlook:=fun (env:Tree AV) (om ok_:Opd) (hm:gv env om=.map pm) (hk:gv env ok_=.int 3 v)=>look_map (H:=H) hm hk g4 g5
  rw [hg,hi] at hlook
  refine Xc.seq' (n:=70) (m:=70) (k:=78) (by omega) (by omega) (Xc.region (n:=69) ?_)
  refine Xo.op (n:=68) (v:=.map pm) (H':=H) (eval_load1 (by simp [gv];exact h2) g1) ?_
  refine Xo.op (n:=67) (v:=.int 3 v) (H':=H) (by simp [evalOp,gv,setDst,Tree.get_set,slot_inj];exact h0) ?_
  refine Xo.op (n:=66) (v:=.tuple [.int 3 gg,.bool ii]) (H':=H) (hlook _ _ _ (by simp [gv,setDst,Tree.get_set,slot_inj]) (by simp [gv,setDst,Tree.get_set,slot_inj])) ?_
  refine Xo.op (n:=65) (v:=.tuple [.int 3 gg,.bool ii]) (H':=H) (by simp [evalOp,gv,setDst,Tree.get_set,slot_inj]) ?_
  refine Xo.op (n:=64) (v:=.int 3 gg) (H':=H) (by simp [evalOp,gv,setDst,Tree.get_set,slot_inj,nthV]) ?_
  refine Xo.op (n:=63) (v:=.bool ii) (H':=H) (by simp [evalOp,gv,setDst,Tree.get_set,slot_inj,nthV]) ?_
  refine Xo.op (n:=62) (v:=.int 3 gg) (H':=H) (by simp [evalOp,gv,setDst,Tree.get_set,slot_inj]) ?_
  refine Xo.op (n:=61) (v:=.bool ii) (H':=H) (by simp [evalOp,gv,setDst,Tree.get_set,slot_inj]) (Xo.nil (n:=60) ?_)
  generalize hE:setDst (setDst (setDst (setDst (setDst (setDst (setDst (setDst env (some (sl 11)) (.map pm)) (some (sl 12)) (.int 3 v)) (some (sl 13)) (.tuple [.int 3 gg,.bool ii])) (some (sl 10)) (.tuple [.int 3 gg,.bool ii])) (some (sl 14)) (.int 3 gg)) (some (sl 15)) (.bool ii)) (some (sl 8)) (.int 3 gg)) (some (sl 9)) (.bool ii)=env1
  have k0:env1.get .undef (sl 0)=.int 3 v:=by rw [← hE];simp [setDst,Tree.get_set,slot_inj];exact h0
  have k1:env1.get .undef (sl 1)=.int 3 at_:=by rw [← hE];simp [setDst,Tree.get_set,slot_inj];exact h1
  have k3:env1.get .undef (sl 3)=.ptr i2 o2:=by rw [← hE];simp [setDst,Tree.get_set,slot_inj];exact h3
  have k4:env1.get .undef (sl 4)=.ptr i3 o3:=by rw [← hE];simp [setDst,Tree.get_set,slot_inj];exact h4
  have k5:env1.get .undef (sl 5)=.ptr ni no:=by rw [← hE];simp [setDst,Tree.get_set,slot_inj];exact h5
  have k8:env1.get .undef (sl 8)=.int 3 gg:=by rw [← hE];simp [setDst,Tree.get_set,slot_inj]
  have k9:env1.get .undef (sl 9)=.bool ii:=by rw [← hE];simp [setDst,Tree.get_set,slot_inj]
  clear hE h0 h1 h2 h3 h4 h5 hlook
  have cond:∀ env2:Tree AV,env2.get .undef (sl 22)=.bool (!ii||!ilt gg at_)→env2.get .undef (sl 0)=.int 3 v→env2.get .undef (sl 3)=.ptr i2 o2→env2.get .undef (sl 4)=.ptr i3 o3→env2.get .undef (sl 5)=.ptr ni no →
      Xc tbl 60 (.cond (tt 22) (.region [op1 23 (.load1 (tt 3)),op1 24 (.load1 (tt 4)),op1 25 (.idxSl 1 (tt 23) (tt 24)),op1 26 (.load1 (tt 25)),op1 27 (.mov (tt 0)),op1 28 (.call (.c (.func withF [] [])) [tt 26,tt 27]),op1 29 (.mov (tt 28)),⟨some (sl 30),.load1 (tt 5),some (sl 29,false),[],[]⟩,op1 31 (.pick (tt 29) (.c (.bool true)) (tt 30)),op0 (.store 1 (tt 5) (tt 31))]) .skip) ⟨env2,[],none⟩ H
        fun j fr H'=>(match j with | .exit _=>False | _=>True)∧fr.marks=[]∧∃ l,readRes fr.env H' []=some l∧K (resV l) H':=by
    intro env2 m22 m0 m3 m4 m5
    cases hl:(!ii||!ilt gg at_) with
    | false =>
      rw [hl] at m22 hK
      refine Xc.condF (n:=59) (by simp [gv];exact m22) (Xc.skip (n:=58) ⟨trivial,rfl,[],rfl,hK _ H ks c rfl (fun _ _ _=>rfl) hs (by simp) g7 (fun _ _=>rfl) (by simpa using g10)⟩)
    | true =>
      rw [hl] at m22 hK
      refine Xc.condT (n:=59) (by simp [gv];exact m22) (Xc.region (n:=58) ?_)
      refine Xo.op (n:=57) (v:=s2) (H':=H) (eval_load1 (by simp [gv];exact m3) g2) ?_
      refine Xo.op (n:=56) (v:=.int kb b) (H':=H) (eval_load1 (by simp [gv,setDst,Tree.get_set,slot_inj];exact m4) g3) ?_
      refine Xo.op (n:=55) (v:=.ptr is (os+js)) (H':=H) (eval_idxSl (by simp [gv,setDst,Tree.get_set,slot_inj];exact e5) (by simp [gv,setDst,Tree.get_set,slot_inj];exact ⟨rfl,e6⟩) e7) ?_
      refine Xo.op (n:=54) (v:=.map N) (H':=H) (eval_load1 (by simp [gv,setDst,Tree.get_set,slot_inj]) c5) ?_
      refine Xo.op (n:=53) (v:=.int 3 v) (H':=H) (by simp [evalOp,gv,setDst,Tree.get_set,slot_inj];exact m0) ?_
      refine Xo.call (n:=52) ?_
      simp only [gv,setDst,Tree.get_set,slot_inj,List.map_cons,List.map_nil]
      refine Xf.mono (n:=30) (by omega) (fun _ _ h=>h) (with_call hw hs fun H2 w1 w2 w3=>?_)
      have gni:H2.get ni=.cells c n e true [] fz:=by rw [w2 _ (Ne.symm hNni)];exact g7
      have gq2:cellAt H2 ni no=some (.bool q):=by rw [cellAt_congr (w2 ni (Ne.symm hNni))];exact gq
      refine Xo.op (n:=51) (v:=.bool (!hasI v ks)) (H':=H2) (by simp [evalOp,gv,setDst,Tree.get_set,slot_inj]) ?_
      have fin:∀ env3:Tree AV,env3.get .undef (sl 5)=.ptr ni no→env3.get .undef (sl 31)=.bool (q||!hasI v ks)→Xo tbl 40 [op0 (.store 1 (tt 5) (tt 31))] ⟨env3,[],none⟩ H2
          fun fr H'=>(match AJump.none with | .exit _=>False | _=>True)∧fr.marks=[]∧∃ l,readRes fr.env H' []=some l∧K (resV l) H':=by
        intro env3 p5 p31
        refine Xo.op (n:=39) (v:=.undef) (H':=H2.set ni (.cells (writeCells c no [.bool (q||!hasI v ks)]) n e true [] fz)) ?_ (Xo.nil (n:=38) ?_)
        · have e1:gv env3 (tt 5)=.ptr ni no:=p5
          have e2:gv env3 (tt 31)=.bool (q||!hasI v ks):=p31
          simp only [evalOp,e1,e2,AV.cells,List.length_cons,List.length_nil,writeAt_one gni g8 g9]
          rfl
        · refine ⟨trivial,rfl,[],rfl,hK _ _ (addk v ks) (writeCells c no [.bool (q||!hasI v ks)]) w1 (fun j j1 j2=>?_) ?_ (fun x=>?_) ?_ (fun i hi=>?_) ?_⟩
          · rw [Heap.get_set,if_neg j2];exact w2 j j1
          · rw [Heap.get_set,if_neg hNni];exact w3
          · rw [addk_mem];simp [or_comm]
          · rw [Heap.get_set,if_pos rfl]
          · rw [writeCells_get];rw [if_neg (by simp;omega)]
          · rw [writeCells_get];simp
      cases hh:hasI v ks with
      | true =>
        rw [hh] at fin
        refine Xo.opG (n:=50) (v:=.bool q) (H':=H2) (by simp [guardOk,setDst,Tree.get_set,slot_inj,hh]) (eval_load1 (by simp [gv,setDst,Tree.get_set,slot_inj];exact m5) gq2) ?_
        refine Xo.op (n:=49) (v:=.bool (q||!true)) (H':=H2) (by simp [evalOp,gv,setDst,Tree.get_set,slot_inj,hh]) ?_
        exact (fin _ (by simp [setDst,Tree.get_set,slot_inj];exact m5) (by simp [setDst,Tree.get_set,slot_inj])).mono (by omega) (fun _ _ h=>h)
      | false =>
        rw [hh] at fin
        refine Xo.opS (n:=50) (by simp [guardOk,setDst,Tree.get_set,slot_inj,hh]) (by simp [guardDefd,setDst,Tree.get_set,slot_inj,hh,AV.defd]) ?_
        refine Xo.op (n:=49) (v:=.bool (q||!false)) (H':=H2) (by simp [evalOp,gv,setDst,Tree.get_set,slot_inj,hh]) ?_
        exact (fin _ (by simp [setDst,Tree.get_set,slot_inj];exact m5) (by simp [setDst,Tree.get_set,slot_inj])).mono (by omega) (fun _ _ h=>h)
  refine Xc.seq' (n:=60) (m:=60) (k:=69) (by omega) (by omega) (Xc.region (n:=59) ?_)
  refine Xo.op (n:=58) (v:=.bool ii) (H':=H) (by simp [evalOp,gv];exact k9) ?_
  refine Xo.op (n:=57) (v:=.bool (!ii)) (H':=H) (by simp [evalOp,gv,setDst,Tree.get_set,slot_inj,unV]) ?_
  refine Xo.op (n:=56) (v:=.bool (!ii)) (H':=H) (by simp [evalOp,gv,setDst,Tree.get_set,slot_inj]) ?_
  cases ii with
  | true =>
    refine Xo.opG (n:=55) (v:=.int 3 gg) (H':=H) (by simp [guardOk,setDst,Tree.get_set,slot_inj]) (by simp [evalOp,gv,setDst,Tree.get_set,slot_inj];exact k8) ?_
    refine Xo.opG (n:=54) (v:=.int 3 at_) (H':=H) (by simp [guardOk,setDst,Tree.get_set,slot_inj]) (by simp [evalOp,gv,setDst,Tree.get_set,slot_inj];exact k1) ?_
    refine Xo.opG (n:=53) (v:=.bool (!ilt gg at_)) (H':=H) (by simp [guardOk,setDst,Tree.get_set,slot_inj]) (by simp [evalOp,gv,setDst,Tree.get_set,slot_inj,arith2,arithV]) ?_
    refine Xo.op (n:=52) (v:=.bool (!ilt gg at_)) (H':=H) (by simp [evalOp,gv,setDst,Tree.get_set,slot_inj]) (Xo.nil (n:=51) ?_)
    exact cond _ (by simp [setDst,Tree.get_set,slot_inj]) (by simp [setDst,Tree.get_set,slot_inj];exact k0) (by simp [setDst,Tree.get_set,slot_inj];exact k3) (by simp [setDst,Tree.get_set,slot_inj];exact k4) (by simp [setDst,Tree.get_set,slot_inj];exact k5)
  | false =>
    refine Xo.opS (n:=55) (by simp [guardOk,setDst,Tree.get_set,slot_inj]) (by simp [guardDefd,setDst,Tree.get_set,slot_inj,AV.defd]) ?_
    refine Xo.opS (n:=54) (by simp [guardOk,setDst,Tree.get_set,slot_inj]) (by simp [guardDefd,setDst,Tree.get_set,slot_inj,AV.defd]) ?_
    refine Xo.opS (n:=53) (by simp [guardOk,setDst,Tree.get_set,slot_inj]) (by simp [guardDefd,setDst,Tree.get_set,slot_inj,AV.defd]) ?_
    refine Xo.op (n:=52) (v:=.bool true) (H':=H) (by simp [evalOp,gv,setDst,Tree.get_set,slot_inj]) (Xo.nil (n:=51) ?_)
    exact cond _ (by simp [setDst,Tree.get_set,slot_inj]) (by simp [setDst,Tree.get_set,slot_inj];exact k0) (by simp [setDst,Tree.get_set,slot_inj];exact k3) (by simp [setDst,Tree.get_set,slot_inj];exact k4) (by simp [setDst,Tree.get_set,slot_inj];exact k5)
end
end Go.Abs
namespace Go.Abs
theorem isLive_mem (pl:List (Int × Int)) (at_ x:Int):∀ l,x∈liveOf pl at_ l↔x∈l∧liveOf.isLive pl at_ x=true
  | []=>by simp [liveOf]
  | y::l=>by
    simp only [liveOf]
    split
    · rename_i h
      rw [List.mem_cons,isLive_mem pl at_ x l,List.mem_cons]
      constructor
      · rintro (h1 | ⟨h1,h2⟩)
        · exact ⟨.inl h1,h1 ▸ h⟩
        · exact ⟨.inr h1,h2⟩
      · rintro ⟨h1 | h1,h2⟩
        · exact .inl h1
        · exact .inr ⟨h1,h2⟩
    · rename_i h
      rw [isLive_mem pl at_ x l,List.mem_cons]
      constructor
      · rintro ⟨h1,h2⟩;exact ⟨.inr h1,h2⟩
      · rintro ⟨h1 | h1,h2⟩
        · rw [h1] at h2;exact absurd h2 h
        · exact ⟨h1,h2⟩
theorem anyNew_iff (t0:List Int):∀ l,anyNew t0 l=true↔∃ x∈l,x∉t0
  | []=>by simp [anyNew]
  | y::l=>by
    simp only [anyNew,Bool.or_eq_true,anyNew_iff t0 l,Bool.not_eq_true',List.mem_cons]
    have:hasI y t0=false↔y∉t0:=by rw [← hasI_iff];simp
    rw [this]
    constructor
    · rintro (h | ⟨x,h1,h2⟩)
      · exact ⟨y,.inl rfl,h⟩
      · exact ⟨x,.inr h1,h2⟩
    · rintro ⟨x,h1 | h1,h2⟩
      · exact .inl (h1 ▸ h2)
      · exact .inr ⟨x,h1,h2⟩
section
variable [Ov]
variable {P:Program}
theorem cellX_inv {H:Heap} {q:Pos} {a v:AV} (h:cellX H q a=some v):∃ i o,a=.ptr i o∧i≠q∧cellAt H i o=some v:=by
  unfold cellX at h
  split at h
  · split at h
    · cases h
    · rename_i hb;exact ⟨_,_,rfl,fun e=>hb (by rw [e];exact Pos.beq_iff.2 rfl),h⟩
  · cases h
theorem elemX_inv {H:Heap} {q:Pos} {s v:AV} {x:Int} (h:elemX H q s x=some v):∃ i o n c e j,s=.slice i o n c e∧x=.ofNat j∧j<n∧i≠q∧cellAt H i (o+j)=some v:=by
  unfold elemX at h
  split at h
  · split at h
    · cases h
    · rename_i hb
      obtain ⟨i,o,n,c,e,j,h1,h2,h3,h4⟩:=elemAt_inv h
      injection h1 with q1 q2 q3 q4 q5
      subst q1;subst q2;subst q3;subst q4;subst q5
      exact ⟨_,_,_,_,_,j,rfl,h2,h3,fun e=>hb (by rw [e];exact Pos.beq_iff.2 rfl),h4⟩
  · cases h
theorem Inv.recell {Wr:Acc} {ρ:Names} {H:Heap} {w:World} (h:Inv P Wr ρ H w) {i:Pos} {o':AObj} (hi:H.get i≠.none) (hf:(H.get i).fixed=false) (hp:(H.get i).par=[]) (hp':o'.par=[])
    (hr:∀ x ob,OR P ρ (H.get i) x ob→OR P ρ o' x ob) (hq:∀ q ob,InfoR P q (H.get i) ob→InfoR P q o' ob):Inv P Wr ρ (H.set i o') w:=by
  obtain ⟨b,x,ob,e,hl,hb,hor⟩:=h.blk hi
  have:=(h.update (w':=w) hi hf e hp' (hr x ob hor) (hq _ _ (h.info i b x ob hi e hb)) (by rw [set_self hb]) rfl rfl rfl).1
  rw [hp] at this;exact this
theorem live_gen {addF withF:Nat} (hne:addF≠withF) (ht:TblOk P (liveTbl addF withF)) {Wr:Acc} {ρ:Names} {H:Heap} {w:World} {nt:Nat} {fr:Fr} {b:Frame} {a:Act} {c1 c2:Code} {xh body:ACode} {bid cid:Nat} {it tup ok et ex kv:Pos}
    (h1:cCode P nt c1=some xh) (h2:cCode P nt c2=some (mapLoop bid cid it tup ok et ex kv body)) (hbc:bid≠cid) (d1:it≠tup) (d2:it≠ok) (d3:tup≠ok) (d4:it≠et) (d5:et≠ex) (d6:it≠ex) (d7:it≠kv)
    {slots:List Pos} (s1:tup∈slots) (s2:ok∈slots) (s3:et∈slots) (s4:ex∈slots) (s5:kv∈slots)
    (hF:FrR ρ nt fr b.roundOf a) (hI:Inv P Wr ρ H w) {at_:Int} {a1 a2 a3 sets:AV} {m pm ni N:Pos} {no n fz kb e:Nat} {pl:List (Int × Int)} {pks ks t0:List Int} {bb:Int} {c:Tree AV} {nw:Bool}
    (g1:cellX H ni a1=some (.map pm)) (g2:cellX H ni a2=some sets) (g3:cellX H ni a3=some (.int kb bb)) (g4:mapAt H pm=some pl) (g5:keysAt H pm=some pks) (g6:elemX H ni sets bb=some (.map N)) (g7:H.get ni=.cells c n e true [] fz) (g8:fz≤no) (g9:no<n) (g10:c.getN .undef no=.bool nw)
    (hk:keysAt H m=some ks) (hN:setAt H N=some t0) (hmN:m≠N) (hpN:pm≠N) (hmp:m≠pm) (nh fb:Nat)
    (head:∀ esx clock,Xc (liveTbl addF withF) nh xh fr (H.set m (.map esx clock)) fun j fr1 H1=>j=.none∧fr1.marks=fr.marks∧fr1.rnd=fr.rnd∧(∀ t,t∉slots→fr1.env.get .undef t=fr.env.get .undef t)∧fr1.env.get .undef it=.ptr H.next 0 ∧
      H1=(H.set m (.map esx clock)).new (.mapIter (some m) clock [] clock))
    (round:∀ env H1 kk (K:AJump→Fr→Heap→Prop),(∀ j,j≠N→j≠m→j≠H.next→j≠ni→H1.get j=H.get j)→(∀ t,t∉slots→env.get .undef t=fr.env.get .undef t)→env.get .undef kv=.int 3 kk →
      Xf (liveTbl addF withF) 80 (.func addF [] [a1,a2,a3,.ptr ni no]) [.int 3 kk,.int 3 at_] H1 (fun _ H2=>∀ env',(∀ t,t∉slots→env'.get .undef t=env.get .undef t)→env'.get .undef it=env.get .undef it→K .none ⟨env',fr.marks,fr.rnd⟩ H2) →
      Xc (liveTbl addF withF) fb body ⟨env,fr.marks,fr.rnd⟩ H1 K)
    (k:List Item) (cs:List Frame):Ends P Wr ρ nt w b k cs (lone (b.atR a (.code (.seq c1 c2)::k)) cs w) fun j fr1 H1=>j=.none∧fr1={ fr with env:=junks fr.env slots } ∧
      H1=((H.set N (.umap (mkset (addks (liveOf pl at_ ks) t0)))).set ni (.cells (writeCells c no [.bool (nw||anyNew t0 (liveOf pl at_ ks))]) n e true [] fz)).skip:=by
  obtain ⟨es,hm,hks,hnd⟩:=keysAt_inv hk
  have hNs:=setAt_is hN
  have hNn:N≠H.next:=fun e=>by
    have:=(hI.fresh H.next (Nat.le_refl _)).1
    obtain ⟨_,q,q1,_⟩:=hNs
    rw [e,this] at q1;simp [mapEnts] at q1
  have hmn:m≠H.next:=fun e=>by
    have:=(hI.fresh H.next (Nat.le_refl _)).1
    rw [← e] at this;rw [this] at hm;simp [mapEnts] at hm
  have hnn:ni≠H.next:=fun e=>by
    have:=(hI.fresh H.next (Nat.le_refl _)).1
    rw [← e,g7] at this;cases this
  have hNni:N≠ni:=by
    rintro rfl
    obtain ⟨_,_,h,_⟩:=hNs
    rw [g7] at h;simp [mapEnts] at h
  have hmni:m≠ni:=by
    rintro rfl
    rw [g7] at hm;simp [mapEnts] at hm
  obtain ⟨pes,hpe,_⟩:=keysAt_inv g5
  have hpn:pm≠H.next:=fun e=>by
    have:=(hI.fresh H.next (Nat.le_refl _)).1
    rw [← e] at this;rw [this] at hpe;simp [mapEnts] at hpe
  have hpni:pm≠ni:=by
    rintro rfl
    rw [g7] at hpe;simp [mapEnts] at hpe
  obtain ⟨i1,o1,e1,ne1,k1⟩:=cellX_inv g1
  obtain ⟨i2,o2,e2,ne2,k2⟩:=cellX_inv g2
  obtain ⟨i3,o3,e3,ne3,k3⟩:=cellX_inv g3
  obtain ⟨is,os,ns,scp,sex,js,e5,e6,e7,ne5,k5⟩:=elemX_inv g6
  obtain ⟨Ns,hNe⟩:=setAt_ents hN
  have ha:liveTbl addF withF addF=.code 32 [] (addCode withF):=by simp [liveTbl]
  have hw:liveTbl addF withF withF=.code 13 [.tmp (sl 4)] withCode:=by
    have:Nat.beq withF addF=false:=by
      cases h:Nat.beq withF addF with
      | false=>rfl
      | true=>exact absurd (Nat.eq_of_beq_eq_true h).symm hne
    simp [liveTbl,this]
  refine known_loop ht h1 h2 hbc d1 d2 d3 d4 d5 d6 d7 s1 s2 s3 s4 s5 hF hI hm hks nh fb head
    (J:=fun esx clock l H1=>H1.next=H.next.succ∧(∀ j,j≠N→j≠m→j≠H.next→j≠ni→H1.get j=H.get j)∧H1.get m=.map esx clock ∧
      ∃ ks' c' q,setIs (H1.get N) ks'∧(∀ x,x∈ks'↔x∈t0∨(x∈l∧liveOf.isLive pl at_ x=true))∧H1.get ni=.cells c' n e true [] fz∧(∀ i,i≠no→c'.getN .undef i=c.getN .undef i)∧c'.getN .undef no=.bool q∧(q=true↔nw=true∨∃ x∈ks',x∉t0))
    ?_ ?_ ?_ ?_ ?_ k cs
  · intro esx clock _
    refine ⟨rfl,fun j j1 j2 j3 _=>?_,?_,t0,c,nw,?_,by simp,?_,fun _ _=>rfl,g10,by simp⟩
    · rw [Heap.get_new,Heap.next_set,if_neg j3,Heap.get_set,if_neg j2]
    · rw [Heap.get_new,Heap.next_set,if_neg hmn,Heap.get_set,if_pos rfl]
    · rw [Heap.get_new,Heap.next_set,if_neg hNn,Heap.get_set,if_neg (Ne.symm hmN)];exact hNs
    · rw [Heap.get_new,Heap.next_set,if_neg hnn,Heap.get_set,if_neg (Ne.symm hmni)];exact g7
  · rintro esx clock l H1 o ⟨q1,q2,q3,ks',c',q,q4,q5,q6,q7⟩
    refine ⟨q1,fun j j1 j2 j3 j4=>?_,?_,ks',c',q,?_,q5,?_,q7⟩
    · rw [Heap.get_set,if_neg j3];exact q2 j j1 j2 j3 j4
    · rw [Heap.get_set,if_neg hmn];exact q3
    · rw [Heap.get_set,if_neg hNn];exact q4
    · rw [Heap.get_set,if_neg hnn];exact q6
  · rintro esx clock l H1 ⟨q1,q2,q3,_⟩
    exact q3
  · rintro esx clock l env H1 kk hkk ⟨q1,q2,q3,ks',c',q,q4,q5,q6,q7,q8,q9⟩ he hkv
    refine round env H1 kk _ q2 he hkv ?_
    have cc:∀ {i o v},cellAt H i o=some v→i≠ni→cellAt H1 i o=some v:=fun h hq=>by
      rw [cellAt_congr (q2 _ (cellAt_off h hNe) (cellAt_off h hm) (cellAt_next hI h) hq)];exact h
    have hp:H1.get pm=H.get pm:=q2 pm hpN (Ne.symm hmp) hpn hpni
    refine add_call ha hw (pm:=pm) (s2:=sets) (N:=N) (pl:=pl) (pks:=pks) (ks:=ks') (c:=c') (q:=q) (e:=e) (n:=n) (fz:=fz) (kb:=kb) (b:=bb) ?_ ?_ ?_ ?_ ?_ ?_ q6 g8 g9 q8 q4 ?_
    · rw [e1];exact cc k1 ne1
    · rw [e2];exact cc k2 ne2
    · rw [e3];exact cc k3 ne3
    · unfold mapAt;rw [hp];exact g4
    · unfold keysAt;rw [hp];exact g5
    · rw [e5,e6];simp only [elemAt,Eq.mpr Nat.blt_eq e7,if_true];exact cc k5 ne5
    · intro r H2 ks2 c2' r1 r2 r3 r4 r5 r6 r7 env' w1 w2
      refine ⟨rfl,rfl,rfl,fun t ht=>(w1 t ht).trans (he t ht),w2,r2 _ (Ne.symm hNn) (Ne.symm hnn),r1.trans q1,fun j j1 j2 j3 j4=>(r2 j j1 j4).trans (q2 j j1 j2 j3 j4),(r2 m hmN hmni).trans q3,ks2,c2',_,r3,fun x=>?_,r5,fun i hi=>(r6 i hi).trans (q7 i hi),r7,?_⟩
      · rw [r4,q5]
        simp only [List.mem_append,List.mem_singleton]
        constructor
        · rintro ((h | ⟨h,h'⟩) | ⟨h,h'⟩)
          · exact .inl h
          · exact .inr ⟨.inl h,h'⟩
          · subst h;exact .inr ⟨.inr rfl,h'⟩
        · rintro (h | ⟨h | h,h'⟩)
          · exact .inl (.inl h)
          · exact .inl (.inr ⟨h,h'⟩)
          · subst h;exact .inr ⟨rfl,h'⟩
      · rw [Bool.or_eq_true,Bool.and_eq_true,q9,Bool.not_eq_true']
        have hh:hasI kk ks'=false↔kk∉ks':=by rw [← hasI_iff];simp
        rw [hh]
        constructor
        · rintro ((h | ⟨x,h,h'⟩) | ⟨h,h'⟩)
          · exact .inl h
          · exact .inr ⟨x,(r4 x).2 (.inl h),h'⟩
          · exact .inr ⟨kk,(r4 kk).2 (.inr ⟨rfl,h⟩),fun ht=>h' ((q5 kk).2 (.inl ht))⟩
        · rintro (h | ⟨x,h,h'⟩)
          · exact .inl (.inl h)
          · rcases (r4 x).1 h with h | ⟨h,h2⟩
            · exact .inl (.inr ⟨x,h,h'⟩)
            · subst h
              by_cases hx:x∈ks'
              · exact .inl (.inr ⟨x,hx,h'⟩)
              · exact .inr ⟨h2,hx⟩
  · rintro esx clock l H1 ρ' w' hl ⟨q1,q2,q3,ks',c',q,q4,q5,q6,q7,q8,q9⟩ hxt hI' back
    refine ⟨ρ',hxt,?_⟩
    have i1:=back hI' q3
    have hmem:∀ x,x∈ks'↔x∈addks (liveOf pl at_ ks) t0:=fun x=>by
      rw [q5,addks_mem,isLive_mem,hl,or_comm]
    have hp:ks'.Perm (addks (liveOf pl at_ ks) t0):=(List.perm_ext_iff_of_nodup q4.1 (addks_nodup _ hNs.1)).2 hmem
    have i2:=i1.canon (N:=N) (ks:=ks') (ks2:=addks (liveOf pl at_ ks) t0) (by rw [Heap.get_set,if_neg (Ne.symm hmN)];exact q4) hp
    have hq:q=(nw||anyNew t0 (liveOf pl at_ ks)):=by
      have:q=true↔(nw||anyNew t0 (liveOf pl at_ ks))=true:=by
        rw [q9,Bool.or_eq_true,anyNew_iff]
        constructor
        · rintro (h | ⟨x,h,h'⟩)
          · exact .inl h
          · have:=(hmem x).1 h
            rw [addks_mem] at this
            exact .inr ⟨x,this.resolve_right h',h'⟩
        · rintro (h | ⟨x,h,h'⟩)
          · exact .inl h
          · exact .inr ⟨x,(hmem x).2 ((addks_mem x _ _).2 (.inl h)),h'⟩
      cases q<;>cases h:(nw||anyNew t0 (liveOf pl at_ ks))<;>simp_all
    have gni:((H1.set m (H.get m)).set N (.umap (mkset (addks (liveOf pl at_ ks) t0)))).get ni=.cells c' n e true [] fz:=by
      rw [Heap.get_set,if_neg (Ne.symm hNni),Heap.get_set,if_neg (Ne.symm hmni)];exact q6
    have i3:=i2.recell (i:=ni) (o':=.cells (writeCells c no [.bool (nw||anyNew t0 (liveOf pl at_ ks))]) n e true [] fz) (by rw [gni];simp) (by rw [gni];rfl) (by rw [gni];rfl) rfl (by
      intro x ob hor
      rw [gni] at hor
      have hget:∀ i,(writeCells c no [.bool (nw||anyNew t0 (liveOf pl at_ ks))]).getN .undef i=c'.getN .undef i:=by
        intro i
        rw [writeCells_get]
        by_cases hi:i=no
        · subst hi;rw [if_pos (by simp)];rw [q8,hq];simp
        · rw [if_neg (by simp;omega),q7 i hi]
      cases ob<;>simp only [OR] at hor ⊢
      refine ⟨hor.1,hor.2.1,fun i hi=>?_,hor.2.2.2⟩
      rw [hget];exact hor.2.2.1 i hi) (by
      intro q ob hq
      rw [gni] at hq
      cases ob<;>simp only [InfoR] at hq ⊢
      exact hq)
    refine i3.sub (H2:=((H.set N (.umap (mkset (addks (liveOf pl at_ ks) t0)))).set ni (.cells (writeCells c no [.bool (nw||anyNew t0 (liveOf pl at_ ks))]) n e true [] fz)).skip) (by show H.next.succ=H1.next;exact q1.symm) fun j=>?_
    show ((H.set N _).set ni _).get j=_∨((H.set N _).set ni _).get j=_
    simp only [Heap.get_set]
    by_cases e0:j=ni
    · left;simp [e0]
    by_cases e1:j=N
    · left;simp [e0,e1]
    by_cases e2:j=m
    · left;simp [e0,e1,e2]
    by_cases e3:j=H.next
    · right;simp only [if_neg e1,if_neg e0];rw [e3];exact (hI.fresh _ (Nat.le_refl _)).1
    · left;simp only [if_neg e0,if_neg e1,if_neg e2];exact (q2 j e1 e2 e3 e0).symm
end
end Go.Abs
namespace Go.Abs
theorem live1Slots_eq:live1Slots=[sl 16,sl 53,sl 54,sl 55,sl 56,sl 57,sl 58,sl 59,sl 60,sl 61,sl 62,sl 63,sl 64,sl 65,sl 66,sl 67]:=by decide
theorem live2Slots_eq:live2Slots=[sl 19,sl 76,sl 77,sl 78,sl 79,sl 80,sl 81,sl 82,sl 83,sl 84,sl 85,sl 86,sl 87]:=by decide
theorem ne_of_beq {i j:Pos} (h:Pos.beq i j=false):i≠j:=fun e=>by rw [Pos.beq_iff.2 e] at h;cases h
theorem gLive_inv {addF:Nat} {at':Pos→Option Int} {to:Nat} {slots:List Pos} {env env':Tree AV} {H H':Heap} (h:gLive addF at' to slots env H=some (env',H')) :
    ∃ f a1 a2 a3 ni no s5 kt t dmy pm sets kb bb at_ m N c n e fz ks pks pl t0 nw,f=addF∧cellP H (env.get .undef (sl 11))=some (.func f [] [a1,a2,a3,.ptr ni no])∧cellX H ni (env.get .undef (sl 5))=some s5∧env.get .undef (sl to)=.int kt t∧cellX H ni (env.get .undef (sl 11))=some dmy ∧
      cellX H ni a1=some (.map pm)∧cellX H ni a2=some sets∧cellX H ni a3=some (.int kb bb)∧at' ni=some at_∧elemX H ni s5 t=some (.map m)∧elemX H ni sets bb=some (.map N)∧H.get ni=.cells c n e true [] fz ∧
      m≠N∧pm≠N∧m≠pm∧fz≤no∧no<n∧keysAt H m=some ks∧keysAt H pm=some pks∧mapAt H pm=some pl∧setAt H N=some t0∧c.getN .undef no=.bool nw ∧
      env'=junks env slots∧H'=((H.set N (.umap (mkset (addks (liveOf pl at_ ks) t0)))).set ni (.cells (writeCells c no [.bool (nw||anyNew t0 (liveOf pl at_ ks))]) n e true [] fz)).skip:=by
  unfold gLive at h
  split at h
  case h_2=>cases h
  rename_i f a1 a2 a3 ni no g1
  split at h
  case isFalse=>cases h
  rename_i hf
  split at h
  case h_2=>cases h
  rename_i s5 kt t dmy pm sets kb bb at_ g2 g3 g4 g5 g6 g7 g8
  split at h
  case h_2=>cases h
  rename_i m N c n e fz g9 g10 g11
  split at h
  case isTrue=>cases h
  rename_i hb
  simp only [Bool.or_eq_true,Bool.not_eq_true',Bool.and_eq_false_iff,not_or,Bool.not_eq_true,Bool.not_eq_false] at hb
  obtain ⟨⟨⟨b1,b2⟩,b3⟩,b4,b5⟩:=hb
  split at h
  case h_2=>cases h
  rename_i ks pks pl t0 nw u1 u2 u3 u4 u5
  injection h with h;injection h with h1 h2
  exact ⟨f,a1,a2,a3,ni,no,s5,kt,t,dmy,pm,sets,kb,bb,at_,m,N,c,n,e,fz,ks,pks,pl,t0,nw,Nat.eq_of_beq_eq_true hf,g1,g2,g3,g4,g5,g6,g7,g8,g9,g10,g11,ne_of_beq b1,ne_of_beq b2,ne_of_beq b3,Nat.le_of_ble_eq_true b4,Eq.mp Nat.blt_eq b5,u1,u2,u3,u4,u5,h1.symm,h2.symm⟩
theorem live1_ok {P:Program} {addF withF:Nat} (hne:addF≠withF) (ht:TblOk P (liveTbl addF withF)):OverOk P 1004 (gLive1 addF):=by
  intro Wr ρ H H' w nt fr c1 c2 x y env' b a hc1 hc2 hov hg hF hI k cs
  have hov:ACode.seq live1Head live1Loop=ACode.seq x y:=hov
  injection hov with hx hy
  subst hx;subst hy
  unfold gLive1 at hg
  obtain ⟨f,a1,a2,a3,ni,no,s5,kt,t,dmy,pm,sets,kb,bb,at_,m,N,c,n,e,fz,ks,pks,pl,t0,nw,hf,v1,v2,v3,v4,v5,v6,v7,v8,v9,v10,v11,n1,n2,n3,n4,n5,w1,w2,w3,w4,w5,rfl,rfl⟩:=gLive_inv hg
  subst hf
  obtain ⟨i11,o11,e11,c11⟩:=cellP_inv v1
  obtain ⟨i5,o5,e5,ne5,c5⟩:=cellX_inv v2
  obtain ⟨j11,p11,e11',ne11,_⟩:=cellX_inv v4
  rw [e11] at e11';injection e11' with q1 q2;subst q1;subst q2
  obtain ⟨is,os,ns,cs',es',js,e6,e7,e8,nes,c6⟩:=elemX_inv v9
  obtain ⟨ms,hms⟩:=keysAt_ents w1
  obtain ⟨Ns,hNs⟩:=setAt_ents w4
  have hfr:fr=⟨fr.env,fr.marks,fr.rnd⟩:=rfl
  have hat:∃ i7 o7,fr.env.get .undef (sl 7)=.ptr i7 o7∧i7≠ni∧∃ sv,cellAt H i7 (o7+1)=some sv∧∀ (x:Opd) (env2:Tree AV) (H2:Heap),gv env2 x=sv→evalOp (.lenSl x) env2 H2=some (.int 3 at_,H2):=by
    split at v8
    case h_2=>cases v8
    rename_i i7 o7 he7
    split at v8
    · cases v8
    rename_i hb
    refine ⟨i7,o7,he7,fun e=>hb (by rw [e];exact Pos.beq_iff.2 rfl),?_⟩
    split at v8
    · rename_i sv hsv
      injection v8 with v8;subst v8
      exact ⟨_,hsv,fun x env2 H2 hx=>by simp [evalOp,hx]⟩
    · rename_i hsv
      injection v8 with v8;subst v8
      exact ⟨_,hsv,fun x env2 H2 hx=>by simp [evalOp,hx]⟩
    · cases v8
  obtain ⟨i7,o7,e7',ne7,sv,c7,hlen⟩:=hat
  refine (live_gen hne ht hc1 hc2 (slots:=live1Slots) (by decide) (by decide) (by decide) (by decide) (by decide) (by decide) (by decide) (by decide) (by decide) (by decide) (by decide) (by decide) (by decide) hF hI (at_:=at_) v5 v6 v7 w3 w2 v10 v11 n4 n5 w5 w1 w4 n1 n2 n3 20 120 ?_ ?_ k cs).mono ?_
  · intro esx clock
    rw [hfr]
    refine Xc.region (n:=19) ?_
    refine Xo.op (n:=18) (v:=s5) (H':=H.set m (.map esx clock)) (eval_load1 e5 (by rw [cellAt_set (cellAt_off c5 hms)];exact c5)) ?_
    refine Xo.op (n:=17) (v:=.int kt t) (H':=H.set m (.map esx clock)) (by simp [evalOp,gv,setDst,Tree.get_set,slot_inj];exact v3) ?_
    refine Xo.op (n:=16) (v:=.ptr is (os+js)) (H':=H.set m (.map esx clock)) (eval_idxSl (by simp [gv,setDst,Tree.get_set,slot_inj];exact e6) (by simp [gv,setDst,Tree.get_set,slot_inj];exact ⟨rfl,e7⟩) e8) ?_
    refine Xo.op (n:=15) (v:=.map m) (H':=H.set m (.map esx clock)) (eval_load1 (by simp [gv,setDst,Tree.get_set,slot_inj];exact ⟨rfl,rfl⟩) (by rw [cellAt_set (cellAt_off c6 hms)];exact c6)) ?_
    refine Xo.op (n:=14) (v:=.ptr H.next 0) (H':=(H.set m (.map esx clock)).new (.mapIter (some m) clock [] clock)) (by simp [evalOp,gv,setDst,Tree.get_set,slot_inj,Heap.get_set];rfl) (Xo.nil (n:=13) ?_)
    refine ⟨rfl,rfl,rfl,?_,?_,rfl⟩
    · intro t ht
      simp only [live1Slots_eq,List.mem_cons,List.not_mem_nil,or_false,not_or] at ht
      simp [setDst,Tree.get_set,ht]
    · simp [setDst,Tree.get_set,slot_inj]
  · intro env H1 kk K hfrm he hkv hadd
    have cc:∀ {i o v},cellAt H i o=some v→i≠ni→cellAt H1 i o=some v:=fun h hq=>by
      rw [cellAt_congr (hfrm _ (cellAt_off h hNs) (cellAt_off h hms) (cellAt_next hI h) hq)];exact h
    have h11:env.get .undef (sl 11)=.ptr i11 o11:=by rw [he _ (by decide)];exact e11
    refine Xc.region (n:=119) ?_
    have h7:env.get .undef (sl 7)=.ptr i7 o7:=by rw [he _ (by decide)];exact e7'
    refine Xo.op (n:=118) (v:=.func f [] [a1,a2,a3,.ptr ni no]) (H':=H1) (eval_load1 (by simp [gv];exact h11) (cc c11 ne11)) ?_
    refine Xo.op (n:=117) (v:=.int 3 kk) (H':=H1) (by simp [evalOp,gv,setDst,Tree.get_set,slot_inj];exact hkv) ?_
    refine Xo.op (n:=116) (v:=.ptr i7 (o7+1)) (H':=H1) (by simp [evalOp,gv,setDst,Tree.get_set,slot_inj];rw [h7]) ?_
    refine Xo.op (n:=115) (v:=sv) (H':=H1) (eval_load1 (by simp [gv,setDst,Tree.get_set,slot_inj]) (cc c7 ne7)) ?_
    refine Xo.op (n:=114) (v:=.int 3 at_) (H':=H1) (hlen _ _ _ (by simp [gv,setDst,Tree.get_set,slot_inj])) ?_
    refine Xo.call (n:=113) ?_
    simp only [gv,setDst,Tree.get_set,slot_inj,List.map_cons,List.map_nil]
    refine Xf.mono (n:=80) (by omega) ?_ hadd
    intro v H2 hadd
    refine Xo.mono (n:=101) (by omega) (fun _ _ h=>h) ?_
    refine Xo.nil (n:=100) (hadd _ ?_ ?_)
    · intro t ht
      simp only [live1Slots_eq,List.mem_cons,List.not_mem_nil,or_false,not_or] at ht
      simp [setDst,Tree.get_set,ht]
    · simp [setDst,Tree.get_set,slot_inj]
  · rintro j fr1 H1 ⟨rfl,rfl,rfl⟩
    exact ⟨rfl,rfl,rfl⟩
theorem live2_ok {P:Program} {addF withF:Nat} (hne:addF≠withF) (ht:TblOk P (liveTbl addF withF)):OverOk P 1005 (gLive2 addF):=by
  intro Wr ρ H H' w nt fr c1 c2 x y env' b a hc1 hc2 hov hg hF hI k cs
  have hov:ACode.seq live2Head live2Loop=ACode.seq x y:=hov
  injection hov with hx hy
  subst hx;subst hy
  unfold gLive2 at hg
  obtain ⟨f,a1,a2,a3,ni,no,s5,kt,t,dmy,pm,sets,kb,bb,at_,m,N,c,n,e,fz,ks,pks,pl,t0,nw,hf,v1,v2,v3,v4,v5,v6,v7,v8,v9,v10,v11,n1,n2,n3,n4,n5,w1,w2,w3,w4,w5,rfl,rfl⟩:=gLive_inv hg
  subst hf
  obtain ⟨i11,o11,e11,c11⟩:=cellP_inv v1
  obtain ⟨i5,o5,e5,ne5,c5⟩:=cellX_inv v2
  obtain ⟨j11,p11,e11',ne11,_⟩:=cellX_inv v4
  rw [e11] at e11';injection e11' with q1 q2;subst q1;subst q2
  obtain ⟨is,os,ns,cs',es',js,e6,e7,e8,nes,c6⟩:=elemX_inv v9
  obtain ⟨ms,hms⟩:=keysAt_ents w1
  obtain ⟨Ns,hNs⟩:=setAt_ents w4
  have hfr:fr=⟨fr.env,fr.marks,fr.rnd⟩:=rfl
  simp only [Option.some.injEq] at v8
  subst v8
  refine (live_gen hne ht hc1 hc2 (slots:=live2Slots) (by decide) (by decide) (by decide) (by decide) (by decide) (by decide) (by decide) (by decide) (by decide) (by decide) (by decide) (by decide) (by decide) hF hI (at_:=.ofNat 0) v5 v6 v7 w3 w2 v10 v11 n4 n5 w5 w1 w4 n1 n2 n3 20 120 ?_ ?_ k cs).mono ?_
  · intro esx clock
    rw [hfr]
    refine Xc.region (n:=19) ?_
    refine Xo.op (n:=18) (v:=s5) (H':=H.set m (.map esx clock)) (eval_load1 e5 (by rw [cellAt_set (cellAt_off c5 hms)];exact c5)) ?_
    refine Xo.op (n:=17) (v:=.int kt t) (H':=H.set m (.map esx clock)) (by simp [evalOp,gv,setDst,Tree.get_set,slot_inj];exact v3) ?_
    refine Xo.op (n:=16) (v:=.ptr is (os+js)) (H':=H.set m (.map esx clock)) (eval_idxSl (by simp [gv,setDst,Tree.get_set,slot_inj];exact e6) (by simp [gv,setDst,Tree.get_set,slot_inj];exact ⟨rfl,e7⟩) e8) ?_
    refine Xo.op (n:=15) (v:=.map m) (H':=H.set m (.map esx clock)) (eval_load1 (by simp [gv,setDst,Tree.get_set,slot_inj];exact ⟨rfl,rfl⟩) (by rw [cellAt_set (cellAt_off c6 hms)];exact c6)) ?_
    refine Xo.op (n:=14) (v:=.ptr H.next 0) (H':=(H.set m (.map esx clock)).new (.mapIter (some m) clock [] clock)) (by simp [evalOp,gv,setDst,Tree.get_set,slot_inj,Heap.get_set];rfl) (Xo.nil (n:=13) ?_)
    refine ⟨rfl,rfl,rfl,?_,?_,rfl⟩
    · intro t ht
      simp only [live2Slots_eq,List.mem_cons,List.not_mem_nil,or_false,not_or] at ht
      simp [setDst,Tree.get_set,ht]
    · simp [setDst,Tree.get_set,slot_inj]
  · intro env H1 kk K hfrm he hkv hadd
    have cc:∀ {i o v},cellAt H i o=some v→i≠ni→cellAt H1 i o=some v:=fun h hq=>by
      rw [cellAt_congr (hfrm _ (cellAt_off h hNs) (cellAt_off h hms) (cellAt_next hI h) hq)];exact h
    have h11:env.get .undef (sl 11)=.ptr i11 o11:=by rw [he _ (by decide)];exact e11
    refine Xc.region (n:=119) ?_
    refine Xo.op (n:=118) (v:=.func f [] [a1,a2,a3,.ptr ni no]) (H':=H1) (eval_load1 (by simp [gv];exact h11) (cc c11 ne11)) ?_
    refine Xo.op (n:=117) (v:=.int 3 kk) (H':=H1) (by simp [evalOp,gv,setDst,Tree.get_set,slot_inj];exact hkv) ?_
    refine Xo.call (n:=116) ?_
    simp only [gv,setDst,Tree.get_set,slot_inj,List.map_cons,List.map_nil]
    refine Xf.mono (n:=80) (by omega) ?_ hadd
    intro v H2 hadd
    refine Xo.mono (n:=101) (by omega) (fun _ _ h=>h) ?_
    refine Xo.nil (n:=100) (hadd _ ?_ ?_)
    · intro t ht
      simp only [live2Slots_eq,List.mem_cons,List.not_mem_nil,or_false,not_or] at ht
      simp [setDst,Tree.get_set,ht]
    · simp [setDst,Tree.get_set,slot_inj]
  · rintro j fr1 H1 ⟨rfl,rfl,rfl⟩
    exact ⟨rfl,rfl,rfl⟩
end Go.Abs
