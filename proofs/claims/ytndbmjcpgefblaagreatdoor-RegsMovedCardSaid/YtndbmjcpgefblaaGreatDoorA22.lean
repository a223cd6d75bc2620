/- A part of the proof (an abstract machine, walks): no statement of its own, no conditions. -/
import Derived.Test.YtndbmjcpgefblaaGreatDoorA21
set_option linter.all false
namespace Go.Abs
def listCode (keysF sortedF:Nat):ACode:=.seq (.region [op1 2 (.mov (.c .nilslice))]) (.seq (.region [op1 3 (.mov (tt 0)),op1 4 (.call (.c (.func keysF [] [])) [tt 3]),op1 5 (.call (.c (.func sortedF [] [])) [tt 4]),op1 2 (.mov (tt 5))]) .ret)
def sortedCode (collF sortF:Nat):ACode:=.seq (.region [op1 2 (.mov (.c .nilslice))]) (.seq (.region [op1 4 (.mov (tt 0)),op1 5 (.call (.c (.func collF [] [])) [tt 4]),op1 3 (.mov (tt 5))]) (.seq (.region [op1 6 (.mov (tt 3)),op1 7 (.call (.c (.func sortF [] [])) [tt 6])]) (.seq (.region [op1 8 (.mov (tt 3)),op1 2 (.mov (tt 8))]) .ret)))
def keysCode (iterF e1:Nat):ACode:=.seq (.region [op1 1 (.box e1 (tt 0)),op1 2 (.mov (.c .nilFunc))]) (.seq (.region [op1 3 (.mkFunc iterF [] [tt 1]),op1 2 (.mov (tt 3))]) .ret)
def collCode (appF:Nat):ACode:=.seq (.region [op1 2 (.mov (.c .nilslice))]) (.seq (.region [op1 3 (.mov (tt 0)),op1 4 (.call (.c (.func appF [] [])) [.c .nilslice,tt 3]),op1 2 (.mov (tt 4))]) .ret)
def iterBody:ACode:=.seq (.region [op1 10 (.mov (tt 0)),op1 11 (.mov (tt 3)),op1 12 (.call (tt 10) [tt 11]),op1 13 (.unary .not (tt 12))]) (.cond (tt 13) .ret .skip)
def iterCode:ACode:=.seq (.region [op1 4 (.load1 (tt 1)),op1 5 (.rangeMap (tt 4))]) (mapLoop 0 1 (sl 5) (sl 6) (sl 7) (sl 8) (sl 9) (sl 3) iterBody)
def appAsg:ACode:=.region [op1 5 (.mov (tt 7))]
def appBody:ACode:=.block 1 (.region [op1 8 (.load1 (tt 2)),op1 9 (.mov (tt 5)),op1 10 (.buildSlice 3 1 [.int 3 (.ofNat 0)] [(0,1,tt 9)]),op1 11 (.append 3 8 1 [.int 3 (.ofNat 0)] false (tt 8) (tt 10)),op0 (.store 1 (tt 2) (tt 11))])
def appCode (e2:Nat):ACode:=.seq (.region [op1 2 (.box e2 (tt 0)),op1 4 (.mov (.c .nilslice))]) (.seq (.seq (.region [op1 6 (.mov (tt 1))]) (.block 0 (.rangeFunc (tt 6) [sl 7] appAsg appBody))) (.seq (.region [op1 12 (.load1 (tt 2)),op1 4 (.mov (tt 12))]) .ret))
section
variable [Ov]
variable {tbl:Nat→AFunc}
theorem readCells_all {c:Tree AV} {n:Nat}:∀ {l:List Int} {o:Nat},o+l.length≤n→(∀ i (h:i<l.length),c.getN .undef (o+i)=.int 3 (l[i]))→readCells c n o l.length=some (l.map fun z=>.int 3 z)
  | [],o,_,_=>by simp [readCells]
  | z::l,o,h,hg=>by
    simp only [List.length_cons,readCells,List.map_cons]
    have h0:c.getN .undef o=.int 3 z:=hg 0 (by simp)
    have hlt:Nat.blt o n=true:=Eq.mpr Nat.blt_eq (by simp at h;omega)
    have ih:=readCells_all (c:=c) (n:=n) (l:=l) (o:=o+1) (by simp at h;omega) (fun i hi=>by
      have:=hg (i+1) (by simpa using hi)
      rw [show o+(i+1)=o+1+i by omega] at this
      simpa using this)
    have hlt':o<n:=by simp at h;omega
    simp [hlt',h0,ih]
def SvIs (H:Heap) (lo:Nat) (l:List Int) (sv:AV):Prop :=
  (l=[]∧sv=.nilslice)∨∃ id c par,sv=.slice id 0 l.length l.length false∧l≠[]∧lo<id.idx∧id.idx<H.next.idx∧H.get id=.cells c l.length 3 true par 0∧(∀ i (h:i<l.length),c.getN .undef i=.int 3 (l[i]))∧∀ p∈par,lo<p.idx
theorem SvIs.frame {H H':Heap} {lo:Nat} {l:List Int} {sv:AV} (h:SvIs H lo l sv) (hn:H.next.idx≤H'.next.idx) (hg:∀ j:Pos,lo<j.idx→j.idx<H.next.idx→H'.get j=H.get j):SvIs H' lo l sv:=by
  rcases h with h | ⟨id,c,par,h1,h2,h3,h4,h5,h6,h7⟩
  · exact .inl h
  · exact .inr ⟨id,c,par,h1,h2,h3,by omega,by rw [hg id h3 h4];exact h5,h6,h7⟩
theorem append_one {env:Tree AV} {H:Heap} {x y:Opd} {sv:AV} {T:Pos} {lo:Nat} {l:List Int} {k:Int} (hx:gv env x=sv) (hy:gv env y=.slice T 0 1 1 true) (hT:H.get T=.cells (mkCells [.int 3 k]) 1 3 true [] 0) (hs:SvIs H lo l sv) (hlo:lo<H.next.idx) (hl:l.length<1000) :
    ∃ sv' H',evalOp (.append 3 8 1 [.int 3 (.ofNat 0)] false x y) env H=some (sv',H')∧H.next.idx≤H'.next.idx∧(∀ j:Pos,j.idx≤lo→H'.get j=H.get j)∧SvIs H' lo (l++[k]) sv':=by
  have hsrc:source H 1 (.slice T 0 1 1 true)=some (1,[.int 3 k]):=by
    have:readCells (mkCells [AV.int 3 k]) 1 0 1=some [.int 3 k]:=by
      have:=readCells_all (c:=mkCells [AV.int 3 k]) (n:=1) (l:=[k]) (o:=0) (by simp) (fun i hi=>by
        simp only [List.length_singleton] at hi
        have:i=0:=by omega
        subst this
        rw [mkCells_get _ _ (by simp)];rfl)
      simpa using this
    simp [source,readAt,hT,this]
  have hbig:∀ n:Nat,n≤1000→(small (n*8)&&small n)=true:=fun n hn=>by
    simp only [small,Bool.and_eq_true]
    exact ⟨Nat.ble_eq_true_of_le (by omega),Nat.ble_eq_true_of_le (by omega)⟩
  rcases hs with ⟨rfl,rfl⟩ | ⟨id,c,par,rfl,hne,h3,h4,h5,h6,h7⟩
  · refine ⟨.slice H.next 0 1 1 false,H.new (.cells (mkCells [.int 3 k]) 1 3 true [] 0),?_,?_,?_,?_⟩
    · simp only [evalOp,Bool.false_eq_true,if_false,hx,hy,hsrc,appendV]
      have:=hbig 1 (by omega)
      simp [allOne,AV.oneCell,small]
    · show _≤H.next.succ.idx;rw [Pos.idx_succ];omega
    · intro j hj;rw [Heap.get_new,if_neg (ne_idx (by omega))]
    · refine .inr ⟨H.next,mkCells [.int 3 k],[],rfl,by simp,hlo,by show _<H.next.succ.idx;rw [Pos.idx_succ];omega,by rw [Heap.get_new,if_pos rfl];rfl,fun i hi=>?_,by simp⟩
      simp only [List.nil_append,List.length_singleton] at hi
      have:i=0:=by omega
      subst this
      rw [mkCells_get _ _ (by simp)];rfl
  · have hrd:readCells c l.length 0 (l.length*1)=some (l.map fun z=>.int 3 z):=by
      rw [Nat.mul_one]
      exact readCells_all (by omega) fun i hi=>by rw [Nat.zero_add];exact h6 i hi
    have hnid:id≠H.next:=ne_idx (by omega)
    refine ⟨.slice H.next 0 (l.length+1) (l.length+1) false,(H.set id (.cells c l.length 3 false par 0)).new (.cells (mkCells ((l.map fun z=>.int 3 z)++[.int 3 k])) ((l.length+1)*1) 3 true (id::par) (0-0)),?_,?_,?_,?_⟩
    · simp only [evalOp,Bool.false_eq_true,if_false,hx,hy,hsrc,appendV]
      have hb:=hbig (l.length+1) (by omega)
      have h1:allOne [.int 3 k]=true:=rfl
      have h2:Nat.ble (l.length+1) l.length=false:=by
        cases h:Nat.ble (l.length+1) l.length with
        | false=>rfl
        | true=>have:=Nat.le_of_ble_eq_true h;omega
      have h8:(true&&Nat.beq l.length l.length&&Nat.beq (0+l.length*1) l.length&&Nat.beq 3 3&&Nat.ble 0 l.length)=true:=by simp [Nat.beq_refl]
      simp only [h1,h2,hb,h5,hrd,h8,Bool.not_true,Bool.false_eq_true,if_false,if_true]
    · show _≤H.next.succ.idx;rw [Pos.idx_succ];omega
    · intro j hj
      rw [Heap.get_new,Heap.next_set,if_neg (ne_idx (by omega)),Heap.get_set,if_neg (ne_idx (by omega))]
    · refine .inr ⟨H.next,mkCells ((l.map fun z=>.int 3 z)++[.int 3 k]),id::par,by simp,by simp,hlo,by show _<H.next.succ.idx;rw [Pos.idx_succ];omega,by rw [Heap.get_new,Heap.next_set,if_pos rfl];simp,fun i hi=>?_,?_⟩
      · rw [mkCells_get _ _ (by simpa using hi)]
        simp only [List.length_append,List.length_singleton] at hi
        by_cases he:i<l.length
        · simp [List.getD,List.getElem?_append_left,he,List.getElem_append_left]
        · have:i=l.length:=by omega
          subst this
          simp [List.getD]
      · intro p hp
        rcases List.mem_cons.1 hp with e | e
        · rw [e];exact h3
        · exact h7 p e
theorem Xf.yield {n:Nat} {L p d:Pos} {v:AV} {H:Heap} {pend:AJump} {fn:Nat} {env:Tree AV} {as bd:ACode} {K:AV→Heap→Prop} (hL:H.get L=.loop .ready pend fn env [p] as bd d)
    (h:Xc tbl n as ⟨env.set .undef p v,[],some L⟩ H fun j fr H1=>j=.none∧H1.get L=.loop .ready pend fn env [p] as bd d ∧
      Xc tbl n bd fr (H1.set L (.loop .busy pend fn env [p] as bd d)) fun j _ H2=>j=.none∧H2.get L=.loop .busy pend fn env [p] as bd d∧K (.bool true) (H2.set L (.loop .ready .none fn env [p] as bd d))):Xf tbl (n+1) (.yield L) [v] H K:=by
  simp only [Xf,callV,hL,List.length_singleton,if_true]
  refine Xc.mono (Nat.le_refl _) ?_ h
  rintro j fr H1 ⟨rfl,h1,h2⟩
  simp only [h1]
  refine Xc.mono (Nat.le_refl _) ?_ h2
  rintro j fr H2 ⟨rfl,h3,h4⟩
  simp only [h3]
  exact h4
theorem Xc.rangeFunc {n:Nat} {f:Opd} {ps:List Pos} {as bd:ACode} {env:Tree AV} {marks:List Pos} {H:Heap} {K:AJump→Fr→Heap→Prop}
    (h:Xf tbl n (gv env f) [.yield (H.new (.deferred false)).next] ((H.new (.deferred false)).new (.loop .ready .none 0 env ps as bd H.next)) fun _ H' =>
      ∃ st pend fn env2 ps2 as2 bd2 d2,st≠AState.busy∧H'.get (H.new (.deferred false)).next=.loop st pend fn env2 ps2 as2 bd2 d2∧K pend ⟨env,H.next::marks,none⟩ (H'.set (H.new (.deferred false)).next (.loop .exhausted pend fn env2 ps2 as2 bd2 d2))) :
    Xc tbl (n+1) (.rangeFunc f ps as bd) ⟨env,marks,none⟩ H K:=by
  simp only [Xc,exec]
  refine Xf.mono (Nat.le_refl _) ?_ h
  rintro _ H' ⟨st,pend,fn,env2,ps2,as2,bd2,d2,h1,h2,h3⟩
  simp only [h2]
  cases st<;>first | exact h3 | exact absurd rfl h1
end
end Go.Abs
namespace Go.Abs
section
variable [Ov]
variable {tbl:Nat→AFunc}
theorem nodup_length:∀ {l m:List Int},l.Nodup→(∀ x∈l,x∈m)→l.length≤m.length
  | [],_,_,_=>by simp
  | a::l,m,hn,hs=>by
    rw [List.nodup_cons] at hn
    have ha:a∈m:=hs a (List.mem_cons_self ..)
    have hle:=nodup_length (l:=l) (m:=m.erase a) hn.2 fun x hx=>by
      have hxa:x≠a:=fun e=>hn.1 (e ▸ hx)
      exact (List.mem_erase_of_ne hxa).2 (hs x (List.mem_cons_of_mem _ hx))
    have hpos:0<m.length:=List.length_pos_of_mem ha
    rw [List.length_erase_of_mem ha] at hle
    simp only [List.length_cons]
    omega
theorem eval_build1 {env:Tree AV} {H:Heap} {x:Opd} {k:Int} (h:gv env x=.int 3 k) :
    evalOp (.buildSlice 3 1 [.int 3 (.ofNat 0)] [(0,1,x)]) env H=some (.slice H.next 0 1 1 true,H.new (.cells (mkCells [.int 3 k]) 1 3 true [] 0)):=by
  have h1:layAll env (reps [AV.int 3 (.ofNat 0)] 1) [(0,1,x)]=some [.int 3 k]:=by
    simp only [layAll,h];rfl
  simp only [evalOp,h1];rfl
theorem eval_box1 {env:Tree AV} {H:Heap} {x:Opd} {v:AV} {e:Nat} (h:gv env x=v) (h1:v.cells=[v]) (h2:v.oneCell=true):evalOp (.box e x) env H=some (.ptr H.next 0,H.new (.cells (mkCells [v]) 1 e true [] 0)):=by
  simp only [evalOp,h,h1,allOne,h2,Bool.and_true,if_true,List.length_singleton]
structure ListJ (A:Heap) (bv:AV) (B1 B2 D L:Pos) (e1 e2:Nat) (envA:Tree AV) (lo:Nat) (l:List Int) (H1:Heap):Prop where
  nx:lo<H1.next.idx
  frm:∀ j:Pos,j.idx<A.next.idx→H1.get j=A.get j
  b1:H1.get B1=.cells (mkCells [bv]) 1 e1 true [] 0
  b2:∃ c2 sv,H1.get B2=.cells c2 1 e2 true [] 0∧c2.getN .undef 0=sv∧SvIs H1 lo l sv
  dd:H1.get D=.deferred false
  ll:H1.get L=.loop .ready .none 0 envA [sl 7] appAsg appBody D
  o1:A.next.idx≤B1.idx
  o2:B1.idx<B2.idx
  o3:B2.idx<D.idx
  o4:D.idx<L.idx
  o5:L.idx≤lo
theorem ListJ.other {A:Heap} {bv:AV} {B1 B2 D L:Pos} {e1 e2:Nat} {envA:Tree AV} {lo:Nat} {l:List Int} {H1:Heap} (J:ListJ A bv B1 B2 D L e1 e2 envA lo l H1) {I:Pos} (h1:L.idx<I.idx) (h2:I.idx≤lo) (it:AObj):ListJ A bv B1 B2 D L e1 e2 envA lo l (H1.set I it):=by
  have o1:=J.o1;have o2:=J.o2;have o3:=J.o3;have o4:=J.o4
  obtain ⟨c2,sv,q1,q2,q3⟩:=J.b2
  refine ⟨J.nx,fun j hj=>?_,?_,⟨c2,sv,?_,q2,?_⟩,?_,?_,J.o1,J.o2,J.o3,J.o4,J.o5⟩
  · rw [Heap.get_set,if_neg (ne_idx (by omega))];exact J.frm j hj
  · rw [Heap.get_set,if_neg (ne_idx (by omega))];exact J.b1
  · rw [Heap.get_set,if_neg (ne_idx (by omega))];exact q1
  · refine q3.frame (Nat.le_refl _) fun j h3 h4=>?_
    rw [Heap.get_set,if_neg (ne_idx (by omega))]
  · rw [Heap.get_set,if_neg (ne_idx (by omega))];exact J.dd
  · rw [Heap.get_set,if_neg (ne_idx (by omega))];exact J.ll
theorem yield_round {A:Heap} {bv:AV} {B1 B2 D L:Pos} {e1 e2:Nat} {envA:Tree AV} {lo:Nat} {l:List Int} {H1:Heap} (J:ListJ A bv B1 B2 D L e1 e2 envA lo l H1) (hA:envA.get .undef (sl 2)=.ptr B2 0) (hl:l.length<1000) {k:Int} {K:AV→Heap→Prop}
    (hK:∀ H2:Heap,ListJ A bv B1 B2 D L e1 e2 envA lo (l++[k]) H2→(∀ j:Pos,L.idx<j.idx→j.idx≤lo→H2.get j=H1.get j)→K (.bool true) H2):Xf tbl 40 (.yield L) [.int 3 k] H1 K:=by
  have o1:=J.o1;have o2:=J.o2;have o3:=J.o3;have o4:=J.o4;have o5:=J.o5;have hnx:=J.nx
  obtain ⟨c2,sv,b1,b2,b3⟩:=J.b2
  refine Xf.yield (n:=39) J.ll (Xc.region (n:=38) ?_)
  refine Xo.op (n:=37) (v:=.int 3 k) (H':=H1) (by simp [evalOp,gv,Tree.get_set]) (Xo.nil (n:=36) ⟨rfl,J.ll,?_⟩)
  generalize hHb:H1.set L (.loop .busy .none 0 envA [sl 7] appAsg appBody D)=Hb
  have gb:∀ j:Pos,j≠L→Hb.get j=H1.get j:=fun j hj=>by rw [← hHb,Heap.get_set,if_neg hj]
  have gL:Hb.get L=.loop .busy .none 0 envA [sl 7] appAsg appBody D:=by rw [← hHb,Heap.get_set,if_pos rfl]
  have nb:Hb.next=H1.next:=by rw [← hHb];rfl
  have hc2:cellAt Hb B2 0=some sv:=by
    unfold cellAt;rw [gb B2 (ne_idx (by omega)),b1];simp only [show Nat.blt 0 1=true from rfl,if_true,b2]
  generalize hHt:Hb.new (.cells (mkCells [.int 3 k]) 1 3 true [] 0)=Ht
  have gt:∀ j:Pos,j≠Hb.next→Ht.get j=Hb.get j:=fun j hj=>by rw [← hHt,Heap.get_new,if_neg hj]
  have nt:Ht.next.idx=H1.next.idx+1:=by rw [← hHt];show Hb.next.succ.idx=_;rw [Pos.idx_succ,nb]
  have hsv:SvIs Ht lo l sv:=b3.frame (by omega) fun j h1 h2=>by rw [gt j (ne_idx (by rw [nb];omega)),gb j (ne_idx (by omega))]
  refine Xc.block (n:=38) (Xc.region (n:=37) ?_)
  refine Xo.op (n:=36) (v:=sv) (H':=Hb) (eval_load1 (by simp [gv,setDst,Tree.get_set,slot_inj];exact hA) hc2) ?_
  refine Xo.op (n:=35) (v:=.int 3 k) (H':=Hb) (by simp [evalOp,gv,setDst,Tree.get_set,slot_inj]) ?_
  refine Xo.op (n:=34) (v:=.slice Hb.next 0 1 1 true) (H':=Ht) (by rw [← hHt];exact eval_build1 (by simp [gv,setDst,Tree.get_set,slot_inj])) ?_
  generalize hE:setDst (setDst (setDst (setDst (Tree.set .undef (sl 7) (.int 3 k) envA) (some (sl 5)) (.int 3 k)) (some (sl 8)) sv) (some (sl 9)) (.int 3 k)) (some (sl 10)) (.slice Hb.next 0 1 1 true)=E
  have x8:gv E (tt 8)=sv:=by rw [← hE];simp [gv,setDst,Tree.get_set,slot_inj]
  have x10:gv E (tt 10)=.slice Hb.next 0 1 1 true:=by rw [← hE];simp [gv,setDst,Tree.get_set,slot_inj]
  have x2:E.get .undef (sl 2)=.ptr B2 0:=by rw [← hE];simp [setDst,Tree.get_set,slot_inj];exact hA
  obtain ⟨sv',H',a1,a2,a3,a4⟩:=append_one (lo:=lo) (l:=l) (k:=k) x8 x10 (by rw [← hHt,Heap.get_new,if_pos rfl]) hsv (by omega) hl
  refine Xo.op (n:=33) (v:=sv') (H':=H') a1 ?_
  have gB2:H'.get B2=.cells c2 1 e2 true [] 0:=by rw [a3 B2 (by omega),gt B2 (ne_idx (by rw [nb];omega)),gb B2 (ne_idx (by omega))];exact b1
  have hsvc:([sv']:List AV)=sv'.cells∧allOne [sv']=true:=by
    rcases a4 with ⟨h,_⟩ | ⟨id,c,par,h,_⟩
    · simp at h
    · subst h;exact ⟨rfl,rfl⟩
  have hwr:writeAt H' B2 0 [sv']=some (H'.set B2 (.cells (writeCells c2 0 [sv']) 1 e2 true [] 0)):=by
    unfold writeAt
    rw [gB2]
    simp only [Nat.le_refl,decide_true,List.length_singleton,Nat.zero_add,Bool.true_and,hsvc.2,if_true]
    rfl
  refine Xo.op (n:=32) (v:=.undef) (H':=H'.set B2 (.cells (writeCells c2 0 [sv']) 1 e2 true [] 0)) ?_ (Xo.nil (n:=31) ?_)
  · have y2:gv (setDst E (some (sl 11)) sv') (tt 2)=.ptr B2 0:=by simp [gv,setDst,Tree.get_set,slot_inj];exact x2
    have y11:gv (setDst E (some (sl 11)) sv') (tt 11)=sv':=by simp [gv,setDst,Tree.get_set,slot_inj]
    simp only [evalOp,y2,y11,← hsvc.1,List.length_singleton,if_true,hwr]
  have gH:∀ j:Pos,j.idx≤lo→j≠L→j≠B2→((H'.set B2 (.cells (writeCells c2 0 [sv']) 1 e2 true [] 0)).set L (.loop .ready .none 0 envA [sl 7] appAsg appBody D)).get j=H1.get j:=fun j h1 h2 h3=>by
    rw [Heap.get_set,if_neg h2,Heap.get_set,if_neg h3,a3 j h1,gt j (ne_idx (by rw [nb];omega)),gb j h2]
  refine ⟨rfl,?_,hK _ ⟨?_,fun j hj=>?_,?_,⟨writeCells c2 0 [sv'],sv',?_,?_,?_⟩,?_,?_,o1,o2,o3,o4,o5⟩ fun j h1 h2=>?_⟩
  · rw [Heap.get_set,if_neg (ne_idx (by omega)),a3 L (by omega),gt L (ne_idx (by rw [nb];omega))];exact gL
  · show lo<H'.next.idx;omega
  · rw [gH j (by omega) (ne_idx (by omega)) (ne_idx (by omega))];exact J.frm j hj
  · rw [gH B1 (by omega) (ne_idx (by omega)) (ne_idx (by omega))];exact J.b1
  · rw [Heap.get_set,if_neg (ne_idx (by omega)),Heap.get_set,if_pos rfl]
  · rw [writeCells_get];simp
  · refine a4.frame (Nat.le_refl _) fun j h1 h2=>?_
    rw [Heap.get_set,if_neg (ne_idx (by omega)),Heap.get_set,if_neg (ne_idx (by omega))]
  · rw [gH D (by omega) (ne_idx (by omega)) (ne_idx (by omega))];exact J.dd
  · rw [Heap.get_set,if_pos rfl]
  · exact gH j (by omega) (ne_idx (by omega)) (ne_idx (by omega))
end
end Go.Abs
namespace Go.Abs
section
variable [Ov]
variable {tbl:Nat→AFunc}
theorem key_inj:∀ {es:List AEnt} {ks:List Int},keyInts es=some ks→ks.Nodup→∀ {x y:AEnt} {k:Int},x∈es→y∈es→x.key=.int 3 k→y.key=.int 3 k→x=y
  | [],_,_,_,_,_,_,h,_,_,_=>by cases h
  | a::es,ks,h,hn,x,y,k,hx,hy,e1,e2=>by
    simp only [keyInts] at h
    split at h
    · rename_i k0 l h1 h2
      injection h with h;subst h
      rw [List.nodup_cons] at hn
      have hm:∀ z∈es,z.key=.int 3 k0→False:=fun z hz he=>by
        obtain ⟨k',q1,q2⟩:=(keyInts_mem h2).1 z hz
        rw [he] at q2;injection q2 with _ q2;exact hn.1 (q2 ▸ q1)
      rcases List.mem_cons.1 hx with q1 | q1<;>rcases List.mem_cons.1 hy with q2 | q2
      · rw [q1,q2]
      · subst q1;rw [h1] at e1;injection e1 with _ e1;subst e1;exact (hm y q2 e2).elim
      · subst q2;rw [h1] at e2;injection e2 with _ e2;subst e2;exact (hm x q1 e1).elim
      · exact key_inj h2 hn.2 q1 q2 e1 e2
    · cases h
theorem Xf.codeM {n nt:Nat} {f:Nat} {first args captured:List AV} {rs:List ARes} {body:ACode} {H:Heap} {K:AV→Heap→Prop} (hf:tbl f=.code nt rs body) (hl:(first++args++captured).length≤nt)
    (h:Xc tbl n body ⟨putArgs (first++args++captured) .xH .leaf,[],none⟩ H fun j fr H'=>(match j with | .exit _=>False | _=>True)∧∃ H2 l,takeMarks H' fr.marks=some H2∧readRes fr.env H2 rs=some l∧K (resV l) H2):Xf tbl (n+1) (.func f first captured) args H K:=by
  simp only [Xf,callV,hf]
  rw [if_pos (Nat.ble_eq_true_of_le hl)]
  refine Xc.mono (Nat.le_refl _) ?_ h
  rintro j fr H' ⟨h1,H2,l,h2,h3,h4⟩
  cases j with
  | exit=>exact h1.elim
  | none=>simp only [h2,h3];exact h4
  | ret=>simp only [h2,h3];exact h4
theorem iter_env (a b:AV):putArgs ([]++[a]++[b]) .xH .leaf=(Tree.leaf.set AV.undef (sl 0) a).set .undef (sl 1) b:=rfl
def IterOk (tbl:Nat→AFunc) (n iterF:Nat) (bv:AV) (A:Heap) (ks:List Int):Prop :=
  ∀ {B1 B2 D L:Pos} {e1 e2:Nat} {envA:Tree AV} {H1:Heap} {K:AV→Heap→Prop},ListJ A bv B1 B2 D L e1 e2 envA L.idx [] H1→H1.next=L.succ→envA.get .undef (sl 2)=.ptr B2 0 →
    (∀ lo l H2,ListJ A bv B1 B2 D L e1 e2 envA lo l H2→l.Perm ks→K (.tuple []) H2)→Xf tbl n (.func iterF [] [.ptr B1 0]) [.yield L] H1 K
theorem iter_map {iterF:Nat} (hf:tbl iterF=.code 14 [] iterCode) {m:Pos} {A:Heap} {esx:List AEnt} {clock:Nat} {ks:List Int} (hm:A.get m=.map esx clock) (hmn:m.idx<A.next.idx) (hb:(esx.map (·.born)).Nodup) (hlt:∀ e∈esx,e.born<clock)
    (hk:keyInts esx=some ks) (hn:ks.Nodup) (hkl:ks.length≤1000):IterOk tbl (esx.length+100) iterF (.map m) A ks:=by
  intro B1 B2 D L e1 e2 envA H1 K J hnx hA hK
  have o1:=J.o1;have o2:=J.o2;have o3:=J.o3;have o4:=J.o4
  have hI:H1.next.idx=L.idx+1:=by rw [hnx,Pos.idx_succ]
  refine Xf.code (n:=esx.length+99) hf (by simp) ?_
  rw [iter_env]
  generalize hE:(Tree.leaf.set AV.undef (sl 0) (.yield L)).set .undef (sl 1) (.ptr B1 0)=env
  have h0:env.get .undef (sl 0)=.yield L:=by rw [← hE];simp [Tree.get_set,slot_inj]
  have h1:env.get .undef (sl 1)=.ptr B1 0:=by rw [← hE];simp [Tree.get_set,slot_inj]
  clear hE
  have gm:H1.get m=.map esx clock:=by rw [J.frm m hmn];exact hm
  have gB1:cellAt H1 B1 0=some (.map m):=by
    unfold cellAt;rw [J.b1];simp only [show Nat.blt 0 1=true from rfl,if_true];rw [mkCells_get _ _ (by simp)];rfl
  refine Xc.seq' (n:=20) (m:=60+15+esx.length) (k:=esx.length+98) (by omega) (by omega) (Xc.region (n:=19) ?_)
  refine Xo.op (n:=18) (v:=.map m) (H':=H1) (eval_load1 h1 gB1) ?_
  refine Xo.op (n:=17) (v:=.ptr H1.next 0) (H':=H1.new (.mapIter (some m) clock [] clock)) (by simp [evalOp,gv,setDst,Tree.get_set,gm]) (Xo.nil (n:=16) ?_)
  have J1:ListJ A (.map m) B1 B2 D L e1 e2 envA H1.next.idx [] (H1.new (.mapIter (some m) clock [] clock)):=by
    have gn:∀ j:Pos,j.idx≤L.idx→(H1.new (.mapIter (some m) clock [] clock)).get j=H1.get j:=fun j hj=>by rw [Heap.get_new,if_neg (ne_idx (by omega))]
    obtain ⟨c2,sv,b1,b2,b3⟩:=J.b2
    refine ⟨by show _<H1.next.succ.idx;rw [Pos.idx_succ];omega,fun j hj=>by rw [gn j (by omega)];exact J.frm j hj,by rw [gn B1 (by omega)];exact J.b1,⟨c2,sv,by rw [gn B2 (by omega)];exact b1,b2,?_⟩,by rw [gn D (by omega)];exact J.dd,by rw [gn L (by omega)];exact J.ll,o1,o2,o3,o4,by omega⟩
    rcases b3 with h | ⟨_,_,_,_,h,_⟩
    · exact .inl h
    · exact absurd rfl h
  refine mapLoop_ok (by decide) (by decide) (by decide) (by decide) (by decide) hb hlt (id:=H1.next) (m:=m)
    (I:=fun seen env H2=>env.get .undef (sl 0)=.yield L∧env.get .undef (sl 5)=.ptr H1.next 0∧H2.get H1.next=.mapIter (some m) clock seen clock ∧
      ∃ l,ListJ A (.map m) B1 B2 D L e1 e2 envA H1.next.idx l H2∧l.Nodup∧(∀ k∈l,k∈ks∧∃ e∈esx,e.born∈seen∧e.key=.int 3 k)∧∀ e∈esx,e.born∈seen→∃ k∈l,e.key=.int 3 k) ?_ 60 ?_ ?_ esx.length [] _ _ ?_ (List.length_filter_le ..)
  · rintro seen env H2 ⟨q1,q2,q3,l,q4,_⟩
    exact ⟨q2,q3,by rw [q4.frm m hmn];exact hm⟩
  · rintro seen env H2 e ⟨q1,q2,q3,l,q4,q5,q6,q7⟩ he hns
    obtain ⟨kk,hkk,hek⟩:=(keyInts_mem hk).1 e he
    have hkl':kk∉l:=fun h=>by
      obtain ⟨e',a1,a2,a3⟩:=(q6 kk h).2
      rw [key_inj hk hn he a1 hek a3] at hns
      exact hns a2
    have hlen:l.length<1000:=by
      have hnd:(l++[kk]).Nodup:=by
        rw [List.nodup_append];exact ⟨q5,by simp,fun a ha b hb=>by simp only [List.mem_singleton] at hb;subst hb;exact fun e=>hkl' (e ▸ ha)⟩
      have:=nodup_length hnd (m:=ks) fun x hx=>by
        rcases List.mem_append.1 hx with h | h
        · exact (q6 x h).1
        · rw [List.mem_singleton] at h;rw [h];exact hkk
      simp at this;omega
    refine Xc.seq' (n:=50) (m:=50) (k:=59) (by omega) (by omega) (Xc.region (n:=49) ?_)
    refine Xo.op (n:=48) (v:=.yield L) (H':=H2.set H1.next (.mapIter (some m) clock (seen++[e.born]) clock)) (by simp [evalOp,gv,Tree.get_set,slot_inj];exact q1) ?_
    refine Xo.op (n:=47) (v:=.int 3 kk) (H':=H2.set H1.next (.mapIter (some m) clock (seen++[e.born]) clock)) (by simp [evalOp,gv,setDst,Tree.get_set,slot_inj];exact hek) ?_
    refine Xo.call (n:=46) ?_
    simp only [gv,setDst,Tree.get_set,slot_inj,List.map_cons,List.map_nil]
    refine Xf.mono (n:=40) (by omega) (fun _ _ h=>h) (yield_round (q4.other (I:=H1.next) (by omega) (Nat.le_refl _) _) hA hlen fun H3 J3 hsame=>?_)
    refine Xo.op (n:=45) (v:=.bool false) (H':=H3) (by simp [evalOp,gv,setDst,Tree.get_set,slot_inj,unV]) (Xo.nil (n:=44) ?_)
    refine Xc.condF (n:=49) (by simp [gv,setDst,Tree.get_set,slot_inj]) (Xc.skip (n:=48) ⟨rfl,rfl,rfl,?_,?_,?_,l++[kk],J3,?_,?_,?_⟩)
    · simp [setDst,Tree.get_set,slot_inj];exact q1
    · simp [setDst,Tree.get_set,slot_inj];exact q2
    · rw [hsame H1.next (by omega) (Nat.le_refl _),Heap.get_set,if_pos rfl]
    · rw [List.nodup_append];exact ⟨q5,by simp,fun a ha b hb=>by simp only [List.mem_singleton] at hb;subst hb;exact fun e=>hkl' (e ▸ ha)⟩
    · intro k hk'
      rcases List.mem_append.1 hk' with h | h
      · obtain ⟨a0,e',a1,a2,a3⟩:=q6 k h;exact ⟨a0,e',a1,List.mem_append_left _ a2,a3⟩
      · rw [List.mem_singleton] at h;subst h
        exact ⟨hkk,e,he,List.mem_append_right _ (List.mem_singleton.2 rfl),hek⟩
    · intro e' he' hs'
      rcases List.mem_append.1 hs' with h | h
      · obtain ⟨k',a1,a2⟩:=q7 e' he' h;exact ⟨k',List.mem_append_left _ a1,a2⟩
      · rw [List.mem_singleton] at h
        rw [born_inj hb he' he h]
        exact ⟨kk,List.mem_append_right _ (List.mem_singleton.2 rfl),hek⟩
  · rintro seen env H2 ⟨q1,q2,q3,l,q4,q5,q6,q7⟩ hall
    refine ⟨trivial,rfl,[],rfl,hK _ l H2 q4 ((List.perm_ext_iff_of_nodup q5 hn).2 fun x=>⟨fun h=>(q6 x h).1,fun h=>?_⟩)⟩
    obtain ⟨e,he,hek⟩:=(keyInts_mem hk).2 x h
    obtain ⟨k',a1,a2⟩:=q7 e he (hall e he)
    rw [hek] at a2;injection a2 with _ a2;rw [a2];exact a1
  · exact ⟨by simp [setDst,Tree.get_set,slot_inj];exact h0,by simp [setDst,Tree.get_set,slot_inj],by rw [Heap.get_new,if_pos rfl],[],J1,List.nodup_nil,by simp,by simp⟩
theorem iter_nil {iterF:Nat} (hf:tbl iterF=.code 14 [] iterCode) {A:Heap}:IterOk tbl 100 iterF .nilmap A []:=by
  intro B1 B2 D L e1 e2 envA H1 K J hnx hA hK
  have o1:=J.o1;have o2:=J.o2;have o3:=J.o3;have o4:=J.o4
  have hI:H1.next.idx=L.idx+1:=by rw [hnx,Pos.idx_succ]
  refine Xf.code (n:=99) hf (by simp) ?_
  rw [iter_env]
  generalize hE:(Tree.leaf.set AV.undef (sl 0) (.yield L)).set .undef (sl 1) (.ptr B1 0)=env
  have h1:env.get .undef (sl 1)=.ptr B1 0:=by rw [← hE];simp [Tree.get_set,slot_inj]
  clear hE
  have gB1:cellAt H1 B1 0=some .nilmap:=by
    unfold cellAt;rw [J.b1];simp only [show Nat.blt 0 1=true from rfl,if_true];rw [mkCells_get _ _ (by simp)];rfl
  refine Xc.seq' (n:=90) (m:=90) (k:=98) (by omega) (by omega) (Xc.region (n:=89) ?_)
  refine Xo.op (n:=88) (v:=.nilmap) (H':=H1) (eval_load1 h1 gB1) ?_
  refine Xo.op (n:=87) (v:=.ptr H1.next 0) (H':=H1.new (.mapIter none 0 [] 0)) (by simp [evalOp,gv,setDst,Tree.get_set]) (Xo.nil (n:=86) ?_)
  have J1:ListJ A .nilmap B1 B2 D L e1 e2 envA L.idx [] (H1.new (.mapIter none 0 [] 0)):=by
    have gn:∀ j:Pos,j.idx≤L.idx→(H1.new (.mapIter none 0 [] 0)).get j=H1.get j:=fun j hj=>by rw [Heap.get_new,if_neg (ne_idx (by omega))]
    obtain ⟨c2,sv,b1,b2,b3⟩:=J.b2
    refine ⟨by show _<H1.next.succ.idx;rw [Pos.idx_succ];omega,fun j hj=>by rw [gn j (by omega)];exact J.frm j hj,by rw [gn B1 (by omega)];exact J.b1,⟨c2,sv,by rw [gn B2 (by omega)];exact b1,b2,?_⟩,by rw [gn D (by omega)];exact J.dd,by rw [gn L (by omega)];exact J.ll,o1,o2,o3,o4,Nat.le_refl _⟩
    rcases b3 with h | ⟨_,_,_,_,h,_⟩
    · exact .inl h
    · exact absurd rfl h
  unfold mapLoop
  refine Xc.block (n:=89) (Xc.loop (n:=88) (Xc.seq (n:=87) (Xc.region (n:=86) (Xo.next (n:=85) (cs:=[none]) (aft:=fun _=>(.tuple [.bool false],H1.new (.mapIter none 0 [] 0))) ?_ ?_))))
  · simp [gv,setDst,Tree.get_set,nextMapV,Heap.get_new]
  intro c _
  refine Xo.op (n:=84) (v:=.bool false) (H':=H1.new (.mapIter none 0 [] 0)) (by simp [evalOp,gv,setDst,Tree.get_set,nthV]) (Xo.nil (n:=83) ?_)
  refine Xc.seq (n:=86) (Xc.condF (n:=85) (by simp [gv,setDst,Tree.get_set]) (Xc.exit (n:=84) ?_))
  exact ⟨trivial,rfl,[],rfl,hK _ [] _ J1 (List.Perm.refl _)⟩
theorem app_call {appF iterF n e2:Nat} (hf:tbl appF=.code 13 [.tmp (sl 4)] (appCode e2)) {bv:AV} {A A1:Heap} {ks:List Int} (hit:IterOk tbl n iterF bv A ks) {B1:Pos} {e1:Nat} (hB:A1.get B1=.cells (mkCells [bv]) 1 e1 true [] 0) (ho:A.next.idx≤B1.idx) (ho':B1.idx<A1.next.idx)
    (hfr:∀ j:Pos,j.idx<A.next.idx→A1.get j=A.get j) {K:AV→Heap→Prop}
    (hK:∀ sv H3 lo l,A.next.idx≤lo∧lo<H3.next.idx→SvIs H3 lo l sv→l.Perm ks→(∀ j:Pos,j.idx<A.next.idx→H3.get j=A.get j)→K sv H3):Xf tbl (n+40) (.func appF [] []) [.nilslice,.func iterF [] [.ptr B1 0]] A1 K:=by
  refine Xf.codeM (n:=n+39) hf (by simp) ?_
  show Xc tbl (n+39) (appCode e2) ⟨(Tree.leaf.set .undef (sl 0) .nilslice).set .undef (sl 1) (.func iterF [] [.ptr B1 0]),[],none⟩ A1 _
  generalize hE:(Tree.leaf.set AV.undef (sl 0) .nilslice).set .undef (sl 1) (.func iterF [] [.ptr B1 0])=env
  have h0:env.get .undef (sl 0)=.nilslice:=by rw [← hE];simp [Tree.get_set,slot_inj]
  have h1:env.get .undef (sl 1)=.func iterF [] [.ptr B1 0]:=by rw [← hE];simp [Tree.get_set,slot_inj]
  clear hE
  refine Xc.seq' (n:=20) (m:=n+37) (k:=n+38) (by omega) (by omega) (Xc.region (n:=19) ?_)
  refine Xo.op (n:=18) (v:=.ptr A1.next 0) (H':=A1.new (.cells (mkCells [.nilslice]) 1 e2 true [] 0)) (eval_box1 h0 rfl rfl) ?_
  refine Xo.op (n:=17) (v:=.nilslice) (H':=A1.new (.cells (mkCells [.nilslice]) 1 e2 true [] 0)) (by simp [evalOp,gv]) (Xo.nil (n:=16) ?_)
  generalize hA2:A1.new (.cells (mkCells [.nilslice]) 1 e2 true [] 0)=A2
  have n2:A2.next=A1.next.succ:=by rw [← hA2];rfl
  have g2:∀ j,A2.get j=if j=A1.next then .cells (mkCells [.nilslice]) 1 e2 true [] 0 else A1.get j:=fun j=>by rw [← hA2,Heap.get_new]
  clear hA2
  generalize hE:setDst (setDst env (some (sl 2)) (.ptr A1.next 0)) (some (sl 4)) .nilslice=env1
  have k1:env1.get .undef (sl 1)=.func iterF [] [.ptr B1 0]:=by rw [← hE];simp [setDst,Tree.get_set,slot_inj];exact h1
  have k2:env1.get .undef (sl 2)=.ptr A1.next 0:=by rw [← hE];simp [setDst,Tree.get_set,slot_inj]
  clear hE
  refine Xc.seq' (n:=n+30) (m:=20) (k:=n+36) (by omega) (by omega) (Xc.seq' (n:=20) (m:=n+20) (k:=n+29) (by omega) (by omega) (Xc.region (n:=19) ?_))
  refine Xo.op (n:=18) (v:=.func iterF [] [.ptr B1 0]) (H':=A2) (by simp [evalOp,gv];exact k1) (Xo.nil (n:=17) ?_)
  generalize hE:setDst env1 (some (sl 6)) (.func iterF [] [.ptr B1 0])=env2
  have m2:env2.get .undef (sl 2)=.ptr A1.next 0:=by rw [← hE];simp [setDst,Tree.get_set,slot_inj];exact k2
  have m6:gv env2 (tt 6)=.func iterF [] [.ptr B1 0]:=by rw [← hE];simp [gv,setDst,Tree.get_set]
  clear hE
  refine Xc.block (n:=n+19) (Xc.mono (n:=n+1) (by omega) (fun _ _ _ h=>h) (Xc.rangeFunc (n:=n) ?_))
  rw [m6]
  have nd:(A2.new (.deferred false)).next=A2.next.succ:=rfl
  have i2:A2.next.idx=A1.next.idx+1:=by rw [n2,Pos.idx_succ]
  have i3:(A2.new (.deferred false)).next.idx=A1.next.idx+2:=by rw [nd,Pos.idx_succ,i2]
  have gA:∀ j,((A2.new (.deferred false)).new (.loop .ready .none 0 env2 [sl 7] appAsg appBody A2.next)).get j=if j=(A2.new (.deferred false)).next then .loop .ready .none 0 env2 [sl 7] appAsg appBody A2.next else if j=A2.next then .deferred false else A2.get j:=fun j=>by
    rw [Heap.get_new,Heap.get_new]
  refine hit (B1:=B1) (B2:=A1.next) (D:=A2.next) (L:=(A2.new (.deferred false)).next) (e1:=e1) (e2:=e2) (envA:=env2) ?_ rfl m2 ?_
  · refine ⟨by show _<(A2.new (.deferred false)).next.succ.idx;rw [Pos.idx_succ];omega,fun j hj=>?_,?_,⟨mkCells [.nilslice],.nilslice,?_,?_,.inl ⟨rfl,rfl⟩⟩,?_,?_,ho,ho',by omega,by omega,Nat.le_refl _⟩
    · rw [gA,if_neg (ne_idx (by omega)),if_neg (ne_idx (by omega)),g2,if_neg (ne_idx (by omega))];exact hfr j hj
    · rw [gA,if_neg (ne_idx (by omega)),if_neg (ne_idx (by omega)),g2,if_neg (ne_idx (by omega))];exact hB
    · rw [gA,if_neg (ne_idx (by omega)),if_neg (ne_idx (by omega)),g2,if_pos rfl]
    · rw [mkCells_get _ _ (by simp)];rfl
    · rw [gA,if_neg (ne_idx (by omega)),if_pos rfl]
    · rw [gA,if_pos rfl]
  · intro lo l H2 J hp
    have o5:=J.o5
    refine ⟨_,_,_,_,_,_,_,_,by simp,J.ll,?_⟩
    obtain ⟨c2,sv,b1,b2,b3⟩:=J.b2
    generalize hH3:H2.set (A2.new (.deferred false)).next (.loop .exhausted .none 0 env2 [sl 7] appAsg appBody A2.next)=H3
    have g3:∀ j,j≠(A2.new (.deferred false)).next→H3.get j=H2.get j:=fun j hj=>by rw [← hH3,Heap.get_set,if_neg hj]
    have n3:H3.next=H2.next:=by rw [← hH3];rfl
    clear hH3
    have hc:cellAt H3 A1.next 0=some sv:=by
      unfold cellAt;rw [g3 _ (ne_idx (by omega)),b1];simp only [show Nat.blt 0 1=true from rfl,if_true,b2]
    refine Xc.seq' (n:=18) (m:=18) (k:=19) (by omega) (by omega) (Xc.region (n:=17) ?_)
    refine Xo.op (n:=16) (v:=sv) (H':=H3) (eval_load1 (by simp [gv];exact m2) hc) ?_
    refine Xo.op (n:=15) (v:=sv) (H':=H3) (by simp [evalOp,gv,setDst,Tree.get_set]) (Xo.nil (n:=14) ?_)
    refine Xc.ret (n:=17) ⟨trivial,H3.set A2.next (.deferred true),[sv],?_,?_,?_⟩
    · simp only [takeMarks,g3 A2.next (ne_idx (by omega)),J.dd]
    · simp [readRes,setDst,Tree.get_set]
    · refine hK sv _ lo l ⟨by omega,by show lo<H3.next.idx;rw [n3];exact J.nx⟩ ?_ hp fun j hj=>?_
      · refine b3.frame (by show _≤H3.next.idx;rw [n3];exact Nat.le_refl _) fun j h1 h2=>?_
        rw [Heap.get_set,if_neg (ne_idx (by omega)),g3 j (ne_idx (by omega))]
      · rw [Heap.get_set,if_neg (ne_idx (by omega)),g3 j (ne_idx (by omega))];exact J.frm j hj
end
end Go.Abs
