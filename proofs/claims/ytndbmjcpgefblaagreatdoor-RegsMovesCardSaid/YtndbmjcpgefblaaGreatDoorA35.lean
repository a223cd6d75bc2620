/- A part of the proof (an abstract machine, walks): no statement of its own, no conditions. -/
import Derived.Test.YtndbmjcpgefblaaGreatDoorA33
import Derived.Test.YtndbmjcpgefblaaGreatDoorA34
import Derived.Test.YtndbmjcpgefblaaGreatDoorA23
set_option linter.all false
namespace Go.Abs.R
open Go.Abs Go.Abs.R1
variable {tbl:Nat→AFunc}
theorem grow_ok (c44:tbl 44=f44) {H:Heap} {n:Nat} {K:AV→Heap→Prop} (hn:n≤1000000) (hK:∀ sv' H' fp',Own H' fp' 3 1 [] 0 false sv'→(sv'=.nilslice∧n=0∨∃ b,sv'=.slice b 0 0 n false)→Grew H H'→Above H fp'→K sv' H'):YF tbl (.func 44 [] []) [.nilslice,aN n] H K:=by
  refine YF.code c44 (by simp) ?_
  repeat first|refine RO.mov ?_|refine RO.lssN ?_|refine RO.nil ?_|refine Ru.region ?_|refine Ru.seq ?_|refine Ru.skip ?_|refine Ru.condF ?_
  refine RO.cap0 ?_
  repeat first|refine RO.mov ?_|refine RO.lenSl ?_
  refine RO.arith (v:=aN 0) ?_ (hv:=by rfl)
  refine RO.arith (v:=aN n) ?_ (hv:=by
    simp only [arithV]
    rw [show (Int.ofNat n-Int.ofNat 0:Int)=Int.ofNat n from Int.sub_zero _,wrapF_int (by simp) (by simp;omega)])
  repeat first|refine RO.mov ?_|refine RO.nil ?_|refine Ru.region ?_|refine Ru.seq ?_|refine RO.gtrN ?_
  refine Ru.cond (fun h=>?_) (fun h=>?_)
  · obtain ⟨m,rfl⟩:∃ m,n=m+1:=⟨n-1,by omega⟩
    repeat first|refine RO.mov ?_|refine Ru.region ?_
    refine RO.cap0 ?_
    refine RO.sliceNil (m:=0) (b:=0) (a:=0) rfl rfl rfl rfl ?_
    repeat first|refine RO.mov ?_
    refine RO.appendMk (m:=m) ?_ rfl (by omega) (by omega)
    repeat first|refine RO.mov ?_|refine RO.lenSl ?_
    refine RO.sliceV (m:=m+1) (b:=0) (a:=0) rfl rfl rfl rfl rfl (v:=.slice H.next 0 0 (m+1) false) rfl ?_
    repeat first|refine RO.mov ?_|refine RO.nil ?_|refine Ru.region ?_|refine Ru.seq ?_
    refine Ru.ret1 (hK _ _ [H.next] (.inr ⟨H.next,_,[],m+1,false,rfl,rfl,by rw [Heap.get_new,if_pos rfl],Nat.zero_le _,rfl,fun j hj=>by simp at hj,fun p hp=>?_,fun h=>by cases h⟩) (.inr ⟨_,rfl⟩) (Grew.new H _) fun j hj=>?_)
    · rw [List.mem_singleton] at hp;subst hp;rw [Heap.next_new];omega
    · rw [List.mem_singleton] at hj;subst hj;exact Nat.le_refl _
  · have:n=0:=by omega
    subst this
    repeat first|refine RO.mov ?_|refine RO.nil ?_|refine Ru.region ?_|refine Ru.seq ?_|refine Ru.skip ?_
    exact Ru.ret1 (hK _ _ [] (.inl ⟨rfl,rfl,rfl,rfl⟩) (.inl ⟨rfl,rfl⟩) (Grew.refl _) fun j hj=>by cases hj)
theorem app_any (tbl:Nat→AFunc) {c:Cx} {s:List SI} {L:Kn} {d:Option Pos} {l:List AOper} {H:Heap} {x y:Opd} {yv sv:AV} {n k N:Nat} {zs vs ws:List AV} {fp:List Pos} (ho:Own H fp 3 1 vs n false sv) (hcap:sv=.nilslice∧N=0∨∃ b,sv=.slice b 0 n N false) (hs:Sl H 1 ws k yv) (h1:allOne ws=true) (hfit:n+k≤N)
    (h:∀ sv' H' fp',Own H' fp' 3 1 (vs++ws) (n+k) false sv'→(sv'=.nilslice∧N=0∨∃ b,sv'=.slice b 0 (n+k) N false)→Upd fp fp' H H'→RO tbl c l s (setL L d sv') H') (hx:gvL L x=sv:=by (conv=>lhs;whnf)<;>rfl) (hy:gvL L y=yv:=by (conv=>lhs;whnf)<;>rfl) :
    RO tbl c (⟨d,.append 3 8 1 zs false x y,none,[],[]⟩::l) s L H:=by
  rcases hcap with ⟨rfl,h0⟩ | ⟨b,rfl⟩
  · have hn:n=0:=by omega
    have hk:k=0:=by omega
    subst hn;subst hk
    have hws:ws=[]:=List.eq_nil_of_length_eq_zero (by have:=hs.length;omega)
    subst hws
    have hvs:vs=[]:=List.eq_nil_of_length_eq_zero (by have:=ho.sl.length;omega)
    subst hvs
    exact RO.append hs.source (r:=(.nilslice,H)) (by simp [appendV,allOne]) (h .nilslice H fp ho (.inl ⟨rfl,h0⟩) (Upd.refl _ _)) hx rfl hy hs.defd
  · exact RO.appendFit ho hs h1 hfit (fun H' fp' h2 h3=>h _ H' fp' h2 (.inr ⟨b,rfl⟩) h3) hx hy
theorem concat_ok (c19:tbl 19=f19) (c44:tbl 44=f44) {H:Heap} {la lb:List Int} {sa sb cv:AV} {K:AV→Heap→Prop} (ha:SlI H la sa) (hb:SlI H lb sb) (hc:Sl H 1 [sa,sb] 2 cv) (hla:la.length≤1000) (hlb:lb.length≤1000) (hK:∀ sv' H',SlI H' (la++lb) sv'→Grew H H'→K sv' H'):YF tbl (.func 19 [] []) [cv] H K:=by
  obtain ⟨b,o,cap,ex,rfl,_,_,hat,_⟩:=hc.at (by omega)
  have h0:=hat 0 (by simp)
  have h1:=hat 1 (by simp)
  simp only [List.getElem_cons_zero,List.getElem_cons_succ] at h0 h1
  have hda:=ha.defd;have hdb:=hb.defd;have hna:=ha.len;have hnb:=hb.len
  refine YF.code c19 (by simp) ?_
  repeat first|refine RO.mov ?_|refine RO.lenSl ?_|refine RO.nil ?_|refine Ru.region ?_|refine Ru.seq ?_|refine Ru.block ?_
  refine Ru.loop ?_
  repeat first|refine RO.lssN ?_|refine RO.nil ?_|refine Ru.region ?_|refine Ru.seq ?_|refine Ru.block ?_|refine Ru.skip ?_|refine Ru.condT ?_
  refine RO.idxSl (j:=0) ?_
  refine RO.load1 ?_ (hc:=h0)
  repeat first|refine RO.mov ?_|refine RO.lenSl ?_|refine RO.lssN ?_|refine RO.nil ?_|refine Ru.region ?_|refine Ru.seq ?_|refine Ru.skip ?_|refine RO.inc ?_|refine Ru.condF ?_
  refine Ru.loop ?_
  repeat first|refine RO.lssN ?_|refine RO.nil ?_|refine Ru.region ?_|refine Ru.seq ?_|refine Ru.block ?_|refine Ru.skip ?_|refine Ru.condT ?_
  refine RO.idxSl (j:=1) ?_
  refine RO.load1 ?_ (hc:=h1)
  repeat first|refine RO.mov ?_|refine RO.lenSl ?_|refine RO.lssN ?_|refine RO.nil ?_|refine Ru.region ?_|refine Ru.seq ?_|refine Ru.skip ?_|refine RO.inc ?_|refine Ru.condF ?_
  refine Ru.loop ?_
  repeat first|refine RO.lssN ?_|refine RO.nil ?_|refine Ru.region ?_|refine Ru.seq ?_|refine Ru.condF ?_
  refine Ru.exitTo ?_
  repeat first|refine RO.mov ?_|refine Ru.region ?_|refine Ru.seq ?_
  refine RO.call (grow_ok c44 (n:=0+la.length+lb.length) (by omega) fun sv1 H1 fp1 o1 s1 g1 a1=>?_)
  have hd1:=o1.sl.defd
  have h0':cellAt H1 b (o+0)=some sa:=by rw [g1.cellAt ‹_›];exact h0
  have h1':cellAt H1 b (o+1)=some sb:=by rw [g1.cellAt ‹_›];exact h1
  repeat first|refine RO.mov ?_|refine RO.lenSl ?_|refine RO.nil ?_|refine Ru.region ?_|refine Ru.seq ?_|refine Ru.block ?_
  refine Ru.loop ?_
  repeat first|refine RO.lssN ?_|refine RO.nil ?_|refine Ru.region ?_|refine Ru.seq ?_|refine Ru.block ?_|refine Ru.skip ?_|refine Ru.condT ?_
  refine RO.idxSl (j:=0) ?_
  refine RO.load1 ?_ (hc:=h0')
  repeat first|refine RO.mov ?_|refine RO.nil ?_|refine Ru.region ?_
  refine app_any tbl o1 s1 (g1.sl ha) (allOne_ints la) (by omega) (fun sv2 H2 fp2 o2 s2 u2=>?_)
  have hd2:=o2.sl.defd
  have hbn:b∉fp1:=fun e=>by have:=a1 b e;omega
  have h1'':cellAt H2 b (o+1)=some sb:=by rw [cellAt_congr (u2.old b hbn (by have:=g1.nx;omega))];exact h1'
  have g2:=u2.grew g1 a1
  repeat first|refine RO.mov ?_|refine RO.nil ?_|refine Ru.region ?_|refine RO.inc ?_
  refine Ru.loop ?_
  repeat first|refine RO.lssN ?_|refine RO.nil ?_|refine Ru.region ?_|refine Ru.seq ?_|refine Ru.block ?_|refine Ru.skip ?_|refine Ru.condT ?_
  refine RO.idxSl (j:=1) ?_
  refine RO.load1 ?_ (hc:=h1'')
  repeat first|refine RO.mov ?_|refine RO.nil ?_|refine Ru.region ?_
  refine app_any tbl o2 s2 (g2.sl hb) (allOne_ints lb) (by omega) (fun sv3 H3 fp3 o3 s3 u3=>?_)
  have hd3:=o3.sl.defd
  repeat first|refine RO.mov ?_|refine RO.nil ?_|refine Ru.region ?_|refine RO.inc ?_
  refine Ru.loop ?_
  repeat first|refine RO.lssN ?_|refine RO.nil ?_|refine Ru.region ?_|refine Ru.seq ?_|refine Ru.condF ?_
  refine Ru.exitTo ?_
  repeat first|refine RO.mov ?_|refine RO.nil ?_|refine Ru.region ?_|refine Ru.seq ?_
  refine Ru.ret1 (hK sv3 H3 ?_ (u3.grew g2 (u2.above g1 a1)))
  have:=o3.sl
  unfold SlI
  rw [List.map_append,List.length_append]
  simpa using this
end Go.Abs.R
namespace Go.Abs
section
variable [Ov]
variable {tbl:Nat→AFunc}
def valsBody:ACode:=.seq (.region [op1 8 (.arith .lss 3 (tt 7) (tt 6))]) (.seq (.cond (tt 8) .skip (.exit 0)) (.seq (.block 1 (.seq (.region [op1 9 (.idxSl 1 (tt 5) (tt 7)),op1 10 (.load1 (tt 9)),op1 4 (.mov (tt 10))]) (.seq (.region [op1 11 (.mov (tt 0)),op1 12 (.mov (tt 4)),op1 13 (.call (tt 11) [tt 12]),op1 14 (.unary .not (tt 13))]) (.cond (tt 14) .ret .skip)))) (.region [op1 15 (.arith .add 3 (tt 7) (.c (.int 3 (.ofNat 1)))),op1 7 (.mov (tt 15))])))
def valsCode:ACode:=.seq (.region [op1 5 (.load1 (tt 1)),op1 6 (.lenSl (tt 5)),op1 7 (.mov (.c (.int 3 (.ofNat 0))))]) (.block 0 (.loop valsBody))
theorem vals_env (a b:AV):putArgs ([]++[a]++[b]) .xH .leaf=(Tree.leaf.set AV.undef (sl 0) a).set .undef (sl 1) b:=rfl
theorem iter_vals {F:Nat} (c48:tbl F=.code 16 [] valsCode) {A:Heap} {l:List Int} {sv:AV} (hs:SlI A l sv) (hl:l.length≤999):IterOk tbl (l.length+200) F sv A l:=by
  intro B1 B2 D L e1 e2 envA H1 K J hnx hA hK
  have hd:=hs.defd;have hlen:=hs.len
  have o1:=J.o1;have o2:=J.o2;have o3:=J.o3;have o4:=J.o4
  refine Xf.code (n:=l.length+199) c48 (by simp) ?_
  rw [vals_env]
  generalize hE:(Tree.leaf.set AV.undef (sl 0) (.yield L)).set .undef (sl 1) (.ptr B1 0)=env
  have h0:env.get .undef (sl 0)=.yield L:=by rw [← hE];simp [Tree.get_set,slot_inj]
  have h1:env.get .undef (sl 1)=.ptr B1 0:=by rw [← hE];simp [Tree.get_set,slot_inj]
  clear hE
  have gB1:cellAt H1 B1 0=some sv:=by
    unfold cellAt;rw [J.b1];simp only [show Nat.blt 0 1=true from rfl,if_true];rw [mkCells_get _ _ (by simp)];rfl
  have hlenV:∀ (env':Tree AV) H,env'.get .undef (sl 5)=sv→evalOp (.lenSl (tt 5)) env' H=some (aN l.length,H):=fun env' H he=>by
    simp only [evalOp,gv,tt,he]
    cases sv<;>simp only [lenOf,Option.some.injEq,reduceCtorEq] at hlen<;>rw [← hlen]
  have hadd:∀ (E:Tree AV) (H:Heap) (i:Nat),i<l.length→E.get .undef (sl 7)=aN i→evalOp (.arith .add 3 (tt 7) (.c (.int 3 (.ofNat 1)))) E H=some (aN (i+1),H):=fun E H i hi he=>by
    simp only [tt,evalOp,gv,he,arith2,Nat.beq_refl,Bool.and_self,if_true,arithV]
    rw [show (Int.ofNat i+Int.ofNat 1:Int)=Int.ofNat (i+1) from rfl,wrapF_int (by simp;omega) (by simp;omega)]
    rfl
  have claim:∀ k i env H2,l.length-i=k→i≤l.length→env.get .undef (sl 0)=.yield L→env.get .undef (sl 5)=sv→env.get .undef (sl 6)=aN l.length→env.get .undef (sl 7)=aN i→ListJ A sv B1 B2 D L e1 e2 envA L.idx (l.take i) H2→∀ K0:AJump→Fr→Heap→Prop,(∀ env H2,ListJ A sv B1 B2 D L e1 e2 envA L.idx l H2→K0 (.exit 0) ⟨env,[],none⟩ H2)→Xc tbl (k+100) (.loop valsBody) ⟨env,[],none⟩ H2 K0:=by
    intro k
    induction k using Nat.strongRecOn with
    | ind k ih =>
      intro i env H2 hk hi q0 q5 q6 q7 J2 K0 hK0
      have hnx2:=J2.nx
      refine Xc.loop (n:=k+99) ?_
      unfold valsBody
      refine Xc.seq' (n:=20) (m:=60) (k:=k+98) (by omega) (by omega) (Xc.region (n:=19) ?_)
      by_cases hil:i<l.length
      · refine Xo.op (n:=18) (v:=.bool true) (H':=H2) (by
          simp only [op1,tt,evalOp,gv,q6,q7,arith2,Nat.beq_refl,Bool.and_self,if_true,arithV,Option.map_some]
          rw [show ilt (Int.ofNat i) (Int.ofNat l.length)=true from Eq.mpr Nat.blt_eq hil]) (Xo.nil (n:=17) ?_)
        refine Xc.seq' (n:=20) (m:=50) (k:=59) (by omega) (by omega) (Xc.condT (n:=19) (by simp [gv,setDst,Tree.get_set,tt]) (Xc.skip (n:=18) ?_))
        have hs2:SlI H2 l sv:=hs.frame (by have:=J2.o5;omega) J2.frm
        obtain ⟨b,o,cap,ex,hsv,_,_,hat,_⟩:=hs2.at (by omega)
        have hc:=hat (i*1) (by simpa using hil)
        simp only [Nat.mul_one,List.getElem_map] at hc
        refine Xc.seq' (n:=48) (m:=20) (k:=49) (by omega) (by omega) (Xc.block (n:=47) (Xc.seq' (n:=20) (m:=46) (k:=46) (by omega) (by omega) (Xc.region (n:=19) ?_)))
        refine Xo.op (n:=18) (v:=.ptr b (o+i)) (H':=H2) (by
          have:Nat.blt i l.length=true:=Eq.mpr Nat.blt_eq hil
          simp [op1,tt,evalOp,gv,setDst,Tree.get_set,slot_inj,q5,q7,hsv,this]) ?_
        refine Xo.op (n:=17) (v:=aI l[i]) (H':=H2) (eval_load1 (by simp [tt,gv,setDst,Tree.get_set]) hc) ?_
        refine Xo.op (n:=16) (v:=aI l[i]) (H':=H2) (by simp [op1,tt,evalOp,gv,setDst,Tree.get_set]) (Xo.nil (n:=15) ?_)
        refine Xc.seq' (n:=45) (m:=20) (k:=45) (by omega) (by omega) (Xc.region (n:=44) ?_)
        refine Xo.op (n:=43) (v:=.yield L) (H':=H2) (by simp [op1,tt,evalOp,gv,setDst,Tree.get_set,slot_inj];exact q0) ?_
        refine Xo.op (n:=42) (v:=aI l[i]) (H':=H2) (by simp [op1,tt,evalOp,gv,setDst,Tree.get_set,slot_inj]) ?_
        refine Xo.call (n:=41) ?_
        simp only [gv,tt,setDst,Tree.get_set,slot_inj,List.map_cons,List.map_nil]
        refine Xf.mono (n:=40) (by omega) (fun _ _ h=>h) (yield_round J2 hA (by rw [List.length_take];omega) fun H3 J3 hsame=>?_)
        refine Xo.op (n:=40) (v:=.bool false) (H':=H3) (by simp [op1,tt,evalOp,gv,setDst,Tree.get_set,slot_inj,unV]) (Xo.nil (n:=39) ?_)
        refine Xc.condF (n:=19) (by simp [tt,gv,setDst,Tree.get_set,slot_inj]) (Xc.skip (n:=18) ?_)
        refine Xc.region (n:=19) ?_
        refine Xo.op (n:=18) (v:=aN (i+1)) (H':=H3) (hadd _ _ i hil (by simp [setDst,Tree.get_set,slot_inj];exact q7)) ?_
        refine Xo.op (n:=17) (v:=aN (i+1)) (H':=H3) (by simp [op1,tt,evalOp,gv,setDst,Tree.get_set]) (Xo.nil (n:=16) ?_)
        refine Xc.mono (n:=(l.length-(i+1))+100) (by omega) (fun _ _ _ h=>h) (ih (l.length-(i+1)) (by omega) (i+1) _ H3 rfl (by omega) ?_ ?_ ?_ ?_ (by rw [List.take_succ_eq_append_getElem hil];exact J3) K0 hK0)
        · simp [setDst,Tree.get_set,slot_inj];exact q0
        · simp [setDst,Tree.get_set,slot_inj];exact q5
        · simp [setDst,Tree.get_set,slot_inj];exact q6
        · simp [setDst,Tree.get_set,slot_inj]
      · have hie:i=l.length:=by omega
        refine Xo.op (n:=18) (v:=.bool false) (H':=H2) (by
          simp only [op1,tt,evalOp,gv,q6,q7,arith2,Nat.beq_refl,Bool.and_self,if_true,arithV,Option.map_some]
          rw [show ilt (Int.ofNat i) (Int.ofNat l.length)=false from by
            cases h:Nat.blt i l.length with
            | false=>exact h
            | true=>exact absurd (Eq.mp Nat.blt_eq h) hil]) (Xo.nil (n:=17) ?_)
        refine Xc.seq' (n:=20) (m:=50) (k:=59) (by omega) (by omega) (Xc.condF (n:=19) (by simp [gv,setDst,Tree.get_set,tt]) (Xc.exit (n:=18) ?_))
        refine hK0 _ H2 ?_
        rw [hie,List.take_length] at J2;exact J2
  unfold valsCode
  refine Xc.seq' (n:=20) (m:=l.length+190) (k:=l.length+198) (by omega) (by omega) (Xc.region (n:=19) ?_)
  refine Xo.op (n:=18) (v:=sv) (H':=H1) (eval_load1 h1 gB1) ?_
  refine Xo.op (n:=17) (v:=aN l.length) (H':=H1) (hlenV _ _ (by simp [setDst,Tree.get_set])) ?_
  refine Xo.op (n:=16) (v:=aN 0) (H':=H1) (by simp [op1,evalOp,gv]) (Xo.nil (n:=15) ?_)
  refine Xc.block (n:=l.length+189) (Xc.mono (n:=l.length+100) (by omega) (fun _ _ _ h=>h) (claim l.length 0 _ H1 (by omega) (by omega) ?_ ?_ ?_ ?_ (by simpa using J) _ fun env H2 J2=>?_))
  · simp [setDst,Tree.get_set,slot_inj];exact h0
  · simp [setDst,Tree.get_set,slot_inj]
  · simp [setDst,Tree.get_set,slot_inj]
  · simp [setDst,Tree.get_set,slot_inj]
  · exact ⟨trivial,rfl,[],rfl,hK _ l H2 J2 (List.Perm.refl _)⟩
end
end Go.Abs
namespace Go.Abs.R
open Go.Abs Go.Abs.R1
section
variable [Ov]
variable {tbl:Nat→AFunc}
theorem values_ok (c22:tbl 22=f22) {H:Heap} {sv:AV} {K:AV→Heap→Prop} (h1:sv.cells=[sv]) (h2:sv.oneCell=true) (hK:K (.func 48 [] [.ptr H.next 0]) (H.new (.cells (mkCells [sv]) 1 22 true [] 0))):YF tbl (.func 22 [] []) [sv] H K :=
  ⟨40,keys_call (c22.trans rfl) h1 h2 hK⟩
theorem sorted_ok (c21:tbl 21=f21) (c46:tbl 46=f46) (c76:tbl 76=f76) (c48:tbl 48=f48) (s47:tbl 47=.prim gSort) {H:Heap} {l:List Int} {sv:AV} {K:AV→Heap→Prop} (hs:SlI H l sv) (hl:l.length≤999)
    (hK:∀ v H' fp,OwnI H' fp 3 (sortI l) true v→Grew H H'→Above H fp→K v H'):YF tbl (.func 21 [] []) [.func 48 [] [.ptr H.next 0]] (H.new (.cells (mkCells [sv]) 1 22 true [] 0)) K:=by
  refine ⟨_,sorted_call (A:=H) (ks:=l) (c21.trans rfl) s47 (c46.trans rfl) (c76.trans rfl) (by omega) (iter_vals (c48.trans rfl) hs hl) (by rw [Heap.get_new,if_pos rfl]) (Nat.le_refl _) (by rw [Heap.next_new];omega) (fun j hj=>by rw [Heap.get_new,if_neg (ne_idx (by omega))]) fun v H4 h1 h2 h3=>?_⟩
  rcases h1 with ⟨rfl,rfl⟩ | ⟨id,rfl,hne,hlo,hg⟩
  · exact hK _ _ [] (.inl ⟨rfl,rfl,rfl,rfl⟩) ⟨h3.2,h2⟩ (fun j hj=>by cases hj)
  · have hsl:(sortI l).length=l.length:=(sortI_perm l).length_eq
    refine hK _ _ [id] (.inr ⟨id,_,[],l.length,false,rfl,by rw [hsl],by rw [Nat.mul_one];exact hg,by omega,by simp,fun j hj=>mkCells_at hj,fun p hp=>?_,fun _=>.inr hsl⟩) ⟨h3.2,h2⟩ (fun j hj=>by rw [List.mem_singleton] at hj;subst hj;exact hlo)
    rw [List.mem_singleton] at hp;subst hp;exact h3.1 _ _ _ _ _ rfl
end
end Go.Abs.R
namespace Go.Abs.R
open Go.Abs Go.Abs.R1
variable {tbl:Nat→AFunc}
theorem sub_one {k:Nat} (h:1≤k) (hk:k<1000000):arithV .sub 3 (.ofNat k) (.ofNat 1)=some (aN (k-1)):=by
  simp only [arithV]
  rw [show (Int.ofNat k-Int.ofNat 1:Int)=Int.ofNat (k-1) from by first | omega | (simp;omega) | (simp;done),wrapF_int (by first | omega | (simp;done) | (simp;omega)) (by first | omega | (simp;done) | (simp;omega))]
theorem int_at {H:Heap} {us:List Int} {b:Pos} {n cap:Nat} {ex:Bool} (h:SlI H us (.slice b 0 n cap ex)) (hn:us.length=n) {j:Nat} (hj:j<us.length):cellAt H b j=some (aI us[j]):=by
  obtain ⟨i,o,cp,e,e1,_,_,hat,_⟩:=h.at (by omega)
  injection e1 with e1 e2
  subst e1;subst e2
  have:=hat j (by simpa using hj)
  rw [Nat.zero_add] at this
  rw [this];simp
theorem compact_ok (c23:tbl 23=f23) {H:Heap} {fp:List Pos} {s:List Int} {sv:AV} {K:AV→Heap→Prop} (ho:OwnI H fp 3 s true sv) (hl:s.length≤1000)
    (hK:∀ v' H' fp' m,lenOf v'=some m→v'.defd=true→(m<s.length↔∃ j,j+1<s.length∧s[j]?=s[j+1]?)→Upd fp fp' H H'→K v' H'):YF tbl (.func 23 [] []) [sv] H K:=by
  have hd:=ho.sl.defd;have hlen:=ho.sl.len
  refine YF.code c23 (by simp) ?_
  repeat first|refine RO.mov ?_|refine RO.lenSl ?_|refine RO.lssN ?_|refine RO.nil ?_|refine Ru.region ?_|refine Ru.seq ?_
  refine Ru.cond (fun h=>?_) (fun h=>?_)
  · repeat first|refine RO.mov ?_|refine RO.nil ?_|refine Ru.region ?_|refine Ru.seq ?_
    refine Ru.ret1 (hK sv H fp _ hlen hd ⟨fun h=>by omega,fun ⟨j,hj,_⟩=>by omega⟩ (Upd.refl _ _))
  obtain ⟨b,cap,ex,rfl⟩:=Own.shape ho (by omega)
  obtain ⟨hbm,hcap,hblt⟩:=Own.mem ho
  repeat first|refine RO.mov ?_|refine RO.nil ?_|refine Ru.region ?_|refine Ru.seq ?_|refine Ru.block ?_|refine Ru.skip ?_
  refine Ru.name fun S hS=>?_
  have loop:∀ kk k,s.length-k=kk→1≤k→k≤s.length→(∀ j,j+1<k→s[j]?≠s[j+1]?)→Ru tbl (fcx [.tmp p2] K) S [(p0,.slice b 0 s.length cap ex),(p3,aN k)] H:=by
    subst hS
    intro kk
    induction kk using Nat.strongRecOn with
    | ind kk ih =>
      intro k hkk h1k hk hI
      refine Ru.loop ?_
      repeat first|refine RO.mov ?_|refine RO.lenSl ?_|refine RO.lssN ?_|refine RO.nil ?_|refine Ru.region ?_|refine Ru.seq ?_
      refine Ru.cond (fun h=>?_) (fun h=>?_)
      · repeat first|refine RO.mov ?_|refine Ru.region ?_|refine Ru.seq ?_|refine Ru.block ?_|refine Ru.skip ?_
        refine RO.idxSl ?_
        refine RO.load1 ?_ (hc:=(by rw [Nat.zero_add,Nat.mul_one];exact int_at ho.sl rfl h))
        repeat first|refine RO.mov ?_
        refine RO.arith (v:=aN (k-1)) ?_ (hv:=sub_one h1k (by omega))
        refine RO.idxSl ?_
        refine RO.load1 ?_ (hc:=(by rw [Nat.zero_add,Nat.mul_one];exact int_at ho.sl rfl (j:=k-1) (by omega)))
        repeat first|refine RO.nil ?_|refine RO.eql ?_
        refine Ru.cond (fun he=>?_) (fun he=>?_)
        ·
          have hex:∃ j,j+1<s.length∧s[j]?=s[j+1]?:=⟨k-1,by omega,by
            rw [show k-1+1=k by omega,getElem?_pos s (k-1) (by omega),getElem?_pos s k h,he]⟩
          have hel:=Own.elem ho
          repeat first|refine RO.mov ?_|refine Ru.region ?_|refine Ru.seq ?_
          refine RO.sliceV (m:=cap) (b:=s.length) (a:=k) rfl rfl rfl (by show bound (aN k) s.length=_;exact bound_of (by omega)) (by rw [hel];simp) (v:=.slice b k (s.length-k) (cap-k) ex) (by
            have e1:(if ex&&decide (cap=k) then 0 else 0+k*1)=k:=by rw [decide_eq_false (by omega)];simp
            rw [e1];simp) ?_
          repeat first|refine RO.mov ?_|refine RO.nil ?_|refine Ru.region ?_|refine Ru.seq ?_|refine Ru.block ?_
          refine Ru.name fun S2 hS2=>?_
          have loop2:∀ qq k2 kx us H2 fp2,(s.length-k)-k2=qq→1≤k2→k2≤s.length-k→k≤kx→kx+1≤k+k2→us.length=s.length→OwnI H2 fp2 3 us true (.slice b 0 us.length cap ex)→Upd fp fp2 H H2→Ru tbl (fcx [.tmp p2] K) S2 [(p0,.slice b 0 s.length cap ex),(p3,aN kx),(p4,.slice b k (s.length-k) (cap-k) ex),(p5,aN k2)] H2:=by
            subst hS2
            intro qq
            induction qq using Nat.strongRecOn with
            | ind qq ih2 =>
              intro k2 kx us H2 fp2 hqq h1 h2 h3 h4 hus o2 u2
              refine Ru.loop ?_
              repeat first|refine RO.mov ?_|refine RO.lenSl ?_|refine RO.lssN ?_|refine RO.nil ?_|refine Ru.region ?_|refine Ru.seq ?_
              refine Ru.cond (fun hc2=>?_) (fun hc2=>?_)
              · have hx1:cellAt H2 b (k+k2*1)=some (aI (us[k+k2]'(by omega))):=by rw [Nat.mul_one];exact int_at o2.sl rfl (by omega)
                have hx2:cellAt H2 b (k+(k2-1)*1)=some (aI (us[k+(k2-1)]'(by omega))):=by rw [Nat.mul_one];exact int_at o2.sl rfl (by omega)
                repeat first|refine RO.mov ?_|refine Ru.region ?_|refine Ru.seq ?_|refine Ru.block ?_|refine Ru.skip ?_
                refine RO.idxSl ?_
                refine RO.load1 ?_ (hc:=hx1)
                repeat first|refine RO.mov ?_
                refine RO.arith (v:=aN (k2-1)) ?_ (hv:=sub_one h1 (by omega))
                refine RO.idxSl ?_
                refine RO.load1 ?_ (hc:=hx2)
                repeat first|refine RO.nil ?_|refine RO.neq ?_
                refine Ru.cond (fun hne=>?_) (fun hne=>?_)
                · repeat first|refine RO.mov ?_|refine Ru.region ?_|refine Ru.seq ?_
                  refine RO.idxSl ?_
                  refine RO.load1 ?_ (hc:=hx1)
                  refine RO.idxSl ?_
                  obtain ⟨H3,g1,g2,g3⟩:=OwnI.set o2 (k:=kx) (by omega) (us[k+k2]'(by omega))
                  refine RO.store (i:=b) (o:=0+kx*1) (v:=aI (us[k+k2]'(by omega))) (by rw [Nat.zero_add];exact g1) ?_
                  repeat first|refine RO.mov ?_|refine RO.nil ?_|refine Ru.region ?_|refine RO.inc ?_
                  exact Ru.weak (ih2 (s.length-k-(k2+1)) (by omega) (k2+1) (kx+1) (us.set kx (us[k+k2]'(by omega))) H3 [b] rfl (by omega) (by omega) (by omega) (by omega) (by rw [List.length_set];exact hus) (by rw [List.length_set];exact g3) (u2.trans g2)) ⟨rfl,rfl,rfl,rfl,trivial⟩
                · repeat first|refine RO.mov ?_|refine RO.nil ?_|refine Ru.region ?_|refine Ru.skip ?_|refine RO.inc ?_
                  exact Ru.weak (ih2 (s.length-k-(k2+1)) (by omega) (k2+1) kx us H2 fp2 rfl (by omega) (by omega) (by omega) (by omega) hus o2 u2) ⟨rfl,rfl,rfl,rfl,trivial⟩
              · have hel2:=Own.elem o2
                refine Ru.exitTo ?_
                repeat first|refine RO.mov ?_|refine Ru.region ?_|refine Ru.seq ?_
                refine RO.sliceV (m:=cap) (b:=s.length) (a:=kx) rfl rfl rfl (by show bound (aN kx) s.length=_;exact bound_of (by omega)) (by rw [hel2];simp) (v:=.slice b kx (s.length-kx) (cap-kx) ex) (by
                  have e1:(if ex&&decide (cap=kx) then 0 else 0+kx*1)=kx:=by rw [decide_eq_false (by omega)];simp
                  rw [e1];simp) ?_
                have hrl:∀ n,(reps [aI 0] n).length=n:=fun n=>by induction n with
                  | zero=>rfl
                  | succ n ih=>simp only [reps,List.length_append,ih,List.length_cons,List.length_nil];omega
                have hra:∀ n,allOne (reps [aI 0] n)=true:=fun n=>by induction n with
                  | zero=>rfl
                  | succ n ih=>simp only [reps,List.cons_append,List.nil_append,allOne,ih];rfl
                obtain ⟨H4,us4,_,w1,w2,_⟩:=Own.wr o2 (o:=kx) (ws:=reps [aI 0] (s.length-kx)) (by rw [hrl];omega) (hra _)
                refine RO.clearSl (n:=s.length-kx) rfl (by omega) w1 ?_
                repeat first|refine RO.mov ?_|refine RO.nil ?_|refine Ru.region ?_|refine Ru.seq ?_
                refine RO.sliceV (m:=cap) (b:=kx) (a:=0) rfl rfl (by show bound (aN kx) cap=_;exact bound_of (by omega)) rfl (by simp) (v:=.slice b 0 kx cap ex) (by simp) ?_
                repeat first|refine RO.mov ?_|refine RO.nil ?_
                exact Ru.ret1 (hK _ H4 [b] kx rfl rfl ⟨fun _=>hex,fun _=>by omega⟩ (u2.trans w2))
          exact Ru.weak (loop2 _ 1 k s H fp rfl (by omega) (by omega) (by omega) (by omega) rfl ho (Upd.refl _ _)) ⟨rfl,rfl,rfl,rfl,trivial⟩
        · repeat first|refine RO.mov ?_|refine RO.nil ?_|refine Ru.region ?_|refine Ru.skip ?_|refine RO.inc ?_
          refine Ru.weak (ih (s.length-(k+1)) (by omega) (k+1) rfl (by omega) (by omega) fun j hj=>?_) ⟨rfl,rfl,trivial⟩
          by_cases hjk:j+1=k
          · intro e
            rw [hjk,getElem?_pos s k h,getElem?_pos s j (by omega)] at e
            injection e with e
            have:k-1=j:=by omega
            subst this
            exact he e.symm
          · exact hI j (by omega)
      · refine Ru.exitTo ?_
        repeat first|refine RO.mov ?_|refine RO.nil ?_|refine Ru.region ?_|refine Ru.seq ?_
        refine Ru.ret1 (hK _ H fp s.length rfl rfl ⟨fun h=>by omega,fun ⟨j,hj,e⟩=>?_⟩ (Upd.refl _ _))
        exact absurd e (hI j (by omega))
  exact Ru.weak (loop _ 1 rfl (by omega) (by omega) fun j hj=>by omega) ⟨rfl,rfl,trivial⟩
end Go.Abs.R
