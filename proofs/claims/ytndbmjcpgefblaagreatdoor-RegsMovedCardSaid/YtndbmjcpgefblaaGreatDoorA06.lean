/- A part of the proof (an abstract machine, walks): no statement of its own, no conditions. -/
import Derived.Test.YtndbmjcpgefblaaGreatDoorA05
import Derived.Lib.ConvBytes
import Derived.Laws.BytesString
import Derived.Laws.AppendOwn
set_option linter.all false
namespace Go.Abs
variable [Ov]
variable {P:Program} {Wr:Acc} {ρ:Names} {H H':Heap} {w:World} {nt:Nat} {env:Tree AV} {a:Act} {o:Oper} {ao:AOp} {v:AV}
theorem exec_builtin {c:Call} {b:Builtin} (ho:o.op=.call c) (hb:c.callee=.builtin b) (w:World) :
    ∃ consts,(execOp a.eval o).run P w=(builtin b c.argTypes o.type consts (c.args.map a.eval)).run P w:=by
  exact ⟨_,by simp only [execOp,ho,resolve,hb,Sem.run_bind,Sem.run_pure,Result.andThen_ok,invoke];rfl⟩
theorem arg_some {c:Call} {i:Nat} {x:Opd} (h:(c.args[i]?).bind (cOpd P nt)=some x):∃ y,c.args[i]?=some y∧cOpd P nt y=some x∧(c.args.map a.eval)[i]?=some (a.eval y):=by
  rw [Option.bind_eq_some_iff] at h
  obtain ⟨y,h1,h2⟩:=h
  exact ⟨y,h1,h2,by simp [h1]⟩
theorem VR.goInt (ρ:Names) (n:Nat):VR ρ (.int 3 (.ofNat n)) (goInt n):=by simp [VR,Go.goInt,kc]
theorem EntsR.length:∀ {l:List AEnt} {m:List MapEntry},EntsR ρ l m→l.length=m.length
  | [],[],_=>rfl
  | _::_,_::_,h=>by simp only [EntsR] at h;simp [EntsR.length h.2.2.2]
  | [],_::_,h=>by simp [EntsR] at h
  | _::_,[],h=>by simp [EntsR] at h
theorem map_block (hI:Inv P Wr ρ H w) {id:Pos} {es:List AEnt} {clock:Nat} (hm:H.get id=.map es clock) {b:Nat} (hb:ρ id=some (b,0)) :
    ∃ ces:Array MapEntry,w.heap[b]?=some (.map ces clock)∧EntsR ρ es ces.toList:=by
  obtain ⟨b',x,ob,e,hl,hob,hor⟩:=hI.blk (i:=id) (by rw [hm];simp)
  rw [hb] at e;injection e with e;injection e with e1 e2;subst e1;subst e2
  rw [hm] at hor
  cases ob<;>simp only [OR] at hor
  obtain ⟨_,rfl,_,h⟩:=hor
  exact ⟨_,hob,h⟩
theorem map_ok (hI:Inv P Wr ρ H w) {id:Pos} {es:List AEnt} {clock:Nat} (hm:H.get id=.map es clock) {b:Nat} (hb:ρ id=some (b,0)) {ces:Array MapEntry} {k:Nat} (hc:w.heap[b]?=some (.map ces k)):MapOk ces k:=by
  obtain ⟨b',x,ob,e,hl,hob,hor⟩:=hI.blk (i:=id) (by rw [hm];simp)
  rw [hb] at e;injection e with e;injection e with e1 e2;subst e1;subst e2
  rw [hm,] at hor
  rw [hc] at hob;injection hob with hob;subst hob
  simp only [OR] at hor
  exact hor.2.2.1
theorem EntsU.length:∀ {l:List AEnt} {m:List MapEntry},EntsU ρ l m→l.length=m.length
  | [],[],_=>rfl
  | _::_,_::_,h=>by simp only [EntsU] at h;simp [EntsU.length h.2.2]
  | [],_::_,h=>by simp [EntsU] at h
  | _::_,[],h=>by simp [EntsU] at h
theorem umap_block (hI:Inv P Wr ρ H w) {id:Pos} {es:List AEnt} (hm:H.get id=.umap es) {b:Nat} (hb:ρ id=some (b,0)) :
    ∃ (ces:Array MapEntry) (clock:Nat) (l:List MapEntry),w.heap[b]?=some (.map ces clock)∧l.Perm ces.toList∧EntsU ρ es l:=by
  obtain ⟨b',x,ob,e,hl,hob,hor⟩:=hI.blk (i:=id) (by rw [hm];simp)
  rw [hb] at e;injection e with e;injection e with e1 e2;subst e1;subst e2
  rw [hm] at hor
  cases ob<;>simp only [OR] at hor
  obtain ⟨_,_,l,h1,h2⟩:=hor
  exact ⟨_,_,l,hob,h1,h2⟩
theorem run_getMap {b:Nat} {ces:Array MapEntry} {clock:Nat} (h:w.heap[b]?=some (.map ces clock)):(getObj b).run P w=.ok (.map ces clock) w:=by
  simp [getObj,Sem.run,h]
theorem ok_len (h:Ctx P Wr ρ H w nt env a) {c:Call} (ho:o.op=.call c) (hb:c.callee=.builtin .len) (hc:cOp P nt o=some ao) (he:evalOp ao env H=some (v,H')):Opk P Wr ρ w (execOp a.eval o) v H':=by
  simp only [cOp,ho,hb,Option.bind_eq_bind,Option.bind_eq_some_iff] at hc
  obtain ⟨t,ht,d,hd,hc⟩:=hc
  obtain ⟨consts,hex⟩:=exec_builtin (P:=P) (a:=a) ho hb w
  split at hc
  · rename_i n e
    rw [Option.bind_eq_some_iff] at hc
    obtain ⟨x,hx,hc⟩:=hc
    injection hc with hc;subst hc
    obtain ⟨y,_,_,hy⟩:=arg_some (a:=a) hx
    simp only [evalOp,Option.some.injEq,Prod.mk.injEq] at he
    obtain ⟨rfl,rfl⟩:=he
    refine Opk.val (c:=goInt n) (w':=w) ?_ (Post.same h.I (VR.goInt ρ n))
    rw [hex];simp [builtin,Builtin.len_,ht,hy,run_und hd]
  · rename_i e
    rw [Option.bind_eq_some_iff] at hc
    obtain ⟨d2,hd2,hc⟩:=hc
    split at hc
    · rename_i n e2
      rw [Option.bind_eq_some_iff] at hc
      obtain ⟨x,hx,hc⟩:=hc
      injection hc with hc;subst hc
      obtain ⟨y,_,_,hy⟩:=arg_some (a:=a) hx
      simp only [evalOp,Option.some.injEq,Prod.mk.injEq] at he
      obtain ⟨rfl,rfl⟩:=he
      refine Opk.val (c:=goInt n) (w':=w) ?_ (Post.same h.I (VR.goInt ρ n))
      rw [hex];simp [builtin,Builtin.len_,ht,hy,run_und hd,run_und hd2]
    · cases hc
  all_goals (try (cases hc;done))
  all_goals
    simp only [Option.bind_eq_some_iff,Option.pure_def,Option.some.injEq] at hc
    obtain ⟨x,⟨y0,hx0,hx1⟩,rfl⟩:=hc
    have hy:(c.args.map a.eval)[0]?=some (a.eval y0):=by simp [hx0]
    have g1:=h.gv hx1
    simp only [evalOp] at he
    split at he<;>(try (cases he;done))<;>rename_i hv<;>rw [hv] at g1
  · simp only [Option.some.injEq,Prod.mk.injEq] at he
    obtain ⟨rfl,rfl⟩:=he
    obtain ⟨t',ht',hx⟩:=g1.str_inv
    refine Opk.val (c:=goInt t'.size) (w':=w) ?_ (Post.same h.I ?_)
    · rw [hex];simp [builtin,Builtin.len_,ht,hy,run_und hd,hx]
    · rw [← ht',List.length_map,Array.length_toList];exact VR.goInt ρ t'.size
  · simp only [Option.some.injEq,Prod.mk.injEq] at he
    obtain ⟨rfl,rfl⟩:=he
    obtain ⟨ad,cp,hx,_⟩:=g1.slice_inv
    refine Opk.val (c:=goInt _) (w':=w) ?_ (Post.same h.I (VR.goInt ρ _))
    rw [hex];simp [builtin,Builtin.len_,ht,hy,run_und hd,hx]
  · simp only [Option.some.injEq,Prod.mk.injEq] at he
    obtain ⟨rfl,rfl⟩:=he
    have hx:=g1.nilslice_inv
    refine Opk.val (c:=goInt 0) (w':=w) ?_ (Post.same h.I (VR.goInt ρ 0))
    rw [hex];simp [builtin,Builtin.len_,ht,hy,run_und hd,hx]
  · simp only [Option.some.injEq,Prod.mk.injEq] at he
    obtain ⟨rfl,rfl⟩:=he
    have hx:=g1.nilmap_inv
    refine Opk.val (c:=goInt 0) (w':=w) ?_ (Post.same h.I (VR.goInt ρ 0))
    rw [hex];simp [builtin,Builtin.len_,ht,hy,run_und hd,hx]
  · split at he
    · rename_i es clock hm
      simp only [Option.some.injEq,Prod.mk.injEq] at he
      obtain ⟨rfl,rfl⟩:=he
      obtain ⟨b,hb',hx⟩:=g1.map_inv
      obtain ⟨ces,k1,k2⟩:=map_block h.I hm hb'
      refine Opk.val (c:=goInt ces.size) (w':=w) ?_ (Post.same h.I ?_)
      · rw [hex];simp [builtin,Builtin.len_,ht,hy,run_und hd,hx,run_getMap k1]
      · rw [EntsR.length k2,Array.length_toList];exact VR.goInt ρ ces.size
    · rename_i es hm
      simp only [Option.some.injEq,Prod.mk.injEq] at he
      obtain ⟨rfl,rfl⟩:=he
      obtain ⟨b,hb',hx⟩:=g1.map_inv
      obtain ⟨ces,clock,l,k1,k2,k3⟩:=umap_block h.I hm hb'
      refine Opk.val (c:=goInt ces.size) (w':=w) ?_ (Post.same h.I ?_)
      · rw [hex];simp [builtin,Builtin.len_,ht,hy,run_und hd,hx,run_getMap k1]
      · rw [EntsU.length k3,k2.length_eq,Array.length_toList];exact VR.goInt ρ ces.size
    · cases he
theorem ok_cap (h:Ctx P Wr ρ H w nt env a) {c:Call} (ho:o.op=.call c) (hb:c.callee=.builtin .cap) (hc:cOp P nt o=some ao) (he:evalOp ao env H=some (v,H')):Opk P Wr ρ w (execOp a.eval o) v H':=by
  simp only [cOp,ho,hb,Option.bind_eq_bind,Option.bind_eq_some_iff] at hc
  obtain ⟨t,ht,d,hd,hc⟩:=hc
  obtain ⟨consts,hex⟩:=exec_builtin (P:=P) (a:=a) ho hb w
  split at hc
  · simp only [Option.bind_eq_some_iff,Option.pure_def,Option.some.injEq] at hc
    obtain ⟨x,⟨y0,hx0,hx1⟩,rfl⟩:=hc
    have hy:(c.args.map a.eval)[0]?=some (a.eval y0):=by simp [hx0]
    have g1:=h.gv hx1
    simp only [evalOp] at he
    split at he<;>(try (cases he;done))<;>rename_i hv<;>rw [hv] at g1
    · simp only [Option.some.injEq,Prod.mk.injEq] at he
      obtain ⟨rfl,rfl⟩:=he
      obtain ⟨ad,cp,hx,_,_,q3,_⟩:=g1.slice_inv
      have:=q3 rfl
      subst this
      refine Opk.val (c:=goInt _) (w':=w) ?_ (Post.same h.I (VR.goInt ρ _))
      rw [hex];simp [builtin,Builtin.cap_,ht,hy,run_und hd,hx]
    · simp only [Option.some.injEq,Prod.mk.injEq] at he
      obtain ⟨rfl,rfl⟩:=he
      have hx:=g1.nilslice_inv
      refine Opk.val (c:=goInt 0) (w':=w) ?_ (Post.same h.I (VR.goInt ρ 0))
      rw [hex];simp [builtin,Builtin.cap_,ht,hy,run_und hd,hx]
  · cases hc
theorem minmax_sound (isMax:Bool):∀ (l:List AV) (m:List Value) (x:AV) (c:Value) (r:AV),VR ρ x c→VRs ρ l m→minmaxV isMax x l=some r →
    ∃ q,(m.foldlM (if isMax then Builtin.max2 else Builtin.min2) c).run P w=.ok q w∧VR ρ r q
  | [],[],x,c,r,hx,_,h=>by simp only [minmaxV,Option.some.injEq] at h;subst h;exact ⟨c,by simp,hx⟩
  | y::l,d::m,x,c,r,hx,hl,h=>by
    simp only [VRs] at hl
    unfold minmaxV at h
    split at h
    · rename_i heq;cases heq
    · rename_i k n j n2 rest heq
      split at h
      · rename_i hk
        injection heq with e1 e2
        subst e1;subst e2
        obtain ⟨k1,hk1,rfl⟩:=hx.int_inv
        obtain ⟨k2,hk2,rfl⟩:=hl.1.int_inv
        have hkk:k1=k2:=kc_inj (by have:=Nat.eq_of_beq_eq_true hk;omega)
        subst hkk
        have hnew:∃ q,((if isMax then Builtin.max2 else Builtin.min2) (.int k1 n) (.int k1 n2)).run P w=.ok q w∧VR ρ (.int k (if isMax then (if ilt n n2 then n2 else n) else (if ilt n2 n then n2 else n))) q:=by
          cases isMax
          · refine ⟨.int k1 (if n2<n then n2 else n),by simp [Builtin.min2],?_⟩
            simp [VR,hk1,ilt_iff]
          · refine ⟨.int k1 (if n2 > n then n2 else n),by simp [Builtin.max2],?_⟩
            simp [VR,hk1,ilt_iff]
        obtain ⟨q,hq1,hq2⟩:=hnew
        obtain ⟨q',h1,h2⟩:=minmax_sound isMax _ _ _ _ _ hq2 hl.2 h
        exact ⟨q',by simp only [List.foldlM_cons,Sem.run_bind,hq1,Result.andThen_ok];exact h1,h2⟩
      · cases h
    · cases h
  | [],_::_,_,_,_,_,hl,_=>by simp [VRs] at hl
  | _::_,[],_,_,_,_,hl,_=>by simp [VRs] at hl
theorem ok_minmax (h:Ctx P Wr ρ H w nt env a) {c:Call} {isMax:Bool} (ho:o.op=.call c) (hb:c.callee=.builtin (if isMax then .max else .min)) (hc:cOp P nt o=some ao) (he:evalOp ao env H=some (v,H')):Opk P Wr ρ w (execOp a.eval o) v H':=by
  have hc':∃ l,c.args.toList.mapM (cOpd P nt)=some l∧ao=.minmax isMax l:=by
    cases isMax<;>simp only [if_true,if_false,Bool.false_eq_true] at hb<;>simp only [cOp,ho,hb,cOpds,Option.bind_eq_bind,Option.bind_eq_some_iff,Option.pure_def,Option.some.injEq] at hc <;>
      (obtain ⟨l,h1,h2⟩:=hc;exact ⟨l,h1,h2.symm⟩)
  obtain ⟨l,h1,rfl⟩:=hc'
  obtain ⟨consts,hex⟩:=exec_builtin (P:=P) (a:=a) ho hb w
  have g:=gvs_sound h.E h.I h1
  simp only [evalOp] at he
  split at he
  · rename_i x rest hl
    simp only [Option.map_eq_some_iff,Prod.mk.injEq] at he
    obtain ⟨q,hq,rfl,rfl⟩:=he
    rw [hl] at g
    have hargs:(c.args.map a.eval).toList=c.args.toList.map a.eval:=by simp
    cases hm:c.args.toList.map a.eval with
    | nil=>rw [hm] at g;simp [VRs] at g
    | cons d m =>
      rw [hm] at g
      simp only [VRs] at g
      obtain ⟨q',k1,k2⟩:=minmax_sound (P:=P) (w:=w) isMax rest m x d q g.1 g.2 hq
      refine Opk.val (c:=q') (w':=w) ?_ (Post.same h.I k2)
      rw [hex]
      cases isMax
      · simp only [Bool.false_eq_true,if_false,builtin,Builtin.min_,hargs,hm] at k1 ⊢
        simp [k1]
      · simp only [if_true,builtin,Builtin.max_,hargs,hm] at k1 ⊢
        simp [k1]
  · cases he
end Go.Abs
namespace Go.Abs
variable [Ov]
variable {P:Program} {Wr:Acc} {ρ:Names} {H H':Heap} {w:World} {nt:Nat} {env:Tree AV} {a:Act} {o:Oper} {ao:AOp} {v:AV}
theorem reps_length (zs:List AV):∀ n,(reps zs n).length=n*zs.length
  | 0=>by simp [reps]
  | n+1=>by simp [reps,reps_length zs n,Nat.succ_mul];omega
theorem reps_get (zs:List AV):∀ (n i:Nat),i<n*zs.length→(reps zs n)[i]?=zs[i % zs.length]?
  | 0,i,h=>by omega
  | n+1,i,h=>by
    simp only [reps]
    by_cases hi:i<zs.length
    · rw [List.getElem?_append_left hi,Nat.mod_eq_of_lt hi]
    · rw [List.getElem?_append_right (by omega),reps_get zs n _ (by rw [Nat.succ_mul] at h;omega)]
      congr 1
      rw [← Nat.mod_eq_sub_mod (by omega)]
theorem reps_sound {zs:List AV} {cs:Array Value} (h:VRs ρ zs cs.toList) (n:Nat) (hs:zs.length≠0):VRs ρ (reps zs n) ((Array.range (n*cs.size)).map (cs[· % cs.size]!)).toList:=by
  have hl:=VRs.length h
  simp only [Array.length_toList] at hl
  refine VRs.of_get (by simp [reps_length,hl]) ?_
  intro i v c hv hc
  have hi:i<n*zs.length:=by
    rcases Nat.lt_or_ge i (n*zs.length) with h | h
    · exact h
    · rw [List.getElem?_eq_none (by rw [reps_length];exact h)] at hv;cases hv
  rw [reps_get zs n i hi] at hv
  obtain ⟨d,hd,hr⟩:=VRs.get h _ v hv
  have hlt:i % cs.size<cs.size:=Nat.mod_lt _ (by omega)
  simp only [Array.toList_map,Array.toList_range,List.getElem?_map,List.getElem?_range (show i<n*cs.size by rw [← hl];exact hi),Option.map_some,Option.some.injEq] at hc
  rw [hl] at hd
  simp only [Array.getElem?_toList] at hd
  rw [getElem!_pos cs (i % cs.size) hlt] at hc
  rw [getElem?_pos cs (i % cs.size) hlt] at hd
  injection hd with hd
  rw [hd] at hc;subst hc;exact hr
theorem wr_toList_zip:∀ (l:List Value) (cs:Array Value) (off j:Nat),(l.zipIdx j).foldl (fun cs (p:Value × Nat)=>cs.setIfInBounds (off+p.2) p.1) cs=wr cs (off+j) l
  | [],cs,off,j=>rfl
  | v::l,cs,off,j=>by
    simp only [List.zipIdx_cons,List.foldl_cons,wr]
    rw [wr_toList_zip l _ off (j+1)];rfl
theorem layAt_sound:∀ (off:Nat) (l vs l':List AV) (cs ms:List Value),layAt l off vs=some l'→VRs ρ l cs→VRs ρ vs ms→off+ms.length≤cs.length∧VRs ρ l' (cs.take off++ms++cs.drop (off+ms.length))
  | 0,l,[],l',cs,[],h,hl,_=>by
    simp only [layAt,Option.some.injEq] at h;subst h
    simpa using hl
  | 0,x::l,v::vs,l',c::cs,m::ms,h,hl,hv=>by
    simp only [layAt] at h
    split at h
    · rename_i l2 hl2
      injection h with h;subst h
      simp only [VRs] at hl hv
      obtain ⟨g1,g2⟩:=layAt_sound 0 l vs l2 cs ms hl2 hl.2 hv.2
      refine ⟨by simp at g1 ⊢;omega,?_⟩
      simp only [List.take_zero,List.nil_append,List.cons_append,VRs,Nat.zero_add,List.length_cons,List.drop_succ_cons] at g2 ⊢
      exact ⟨hv.1,g2⟩
    · cases h
  | off+1,x::l,vs,l',c::cs,ms,h,hl,hv=>by
    simp only [layAt] at h
    split at h
    · rename_i l2 hl2
      injection h with h;subst h
      simp only [VRs] at hl
      obtain ⟨g1,g2⟩:=layAt_sound off l vs l2 cs ms hl2 hl.2 hv
      refine ⟨by simp;omega,?_⟩
      rw [show off+1+ms.length=(off+ms.length)+1 by omega]
      simp only [List.take_succ_cons,List.cons_append,VRs,List.drop_succ_cons]
      exact ⟨hl.1,by simpa using g2⟩
    · cases h
  | off+1,[],vs,l',_,_,h,_,_=>by simp [layAt] at h
  | 0,[],v::vs,l',_,_,h,_,_=>by simp [layAt] at h
  | 0,_,[],_,_,_::_,_,_,hv=>by simp [VRs] at hv
  | 0,_,_::_,_,_,[],_,_,hv=>by simp [VRs] at hv
  | 0,_::_,_,_,[],_,_,hl,_=>by simp [VRs] at hl
  | _+1,_::_,_,_,[],_,_,hl,_=>by simp [VRs] at hl
theorem wr_list (l:List Value) (cs:Array Value) (off:Nat) (h:off+l.length≤cs.size):(wr cs off l).toList=cs.toList.take off++l++cs.toList.drop (off+l.length):=by
  apply List.ext_getElem?
  intro j
  rw [Array.getElem?_toList,wr_get l cs off j h]
  by_cases h1:j<off
  · rw [if_neg (by omega),List.getElem?_append_left (by simp;omega),List.getElem?_append_left (by simp;omega),List.getElem?_take,if_pos h1];simp
  · by_cases h2:j<off+l.length
    · rw [if_pos (by omega),List.getElem?_append_left (by simp;omega),List.getElem?_append_right (by simp;omega)]
      congr 1;simp;omega
    · rw [if_neg (by omega),List.getElem?_append_right (by simp;omega),List.getElem?_drop]
      simp only [Array.getElem?_toList]
      congr 1;simp;omega
theorem layAll_sound (h:Ctx P Wr ρ H w nt env a) (place:Nat→Option (Nat × Nat)):∀ (parts:List (Nat × Operand)) (l:List (Nat × Nat × Opd)) (zs r:List AV) (cs:Array Value),
    parts.mapM (fun p=>(place p.1).bind fun q=>(cOpd P nt p.2).map fun x=>(q.1,q.2,x))=some l→VRs ρ zs cs.toList→layAll env zs l=some r →
    ∃ cs',Instr.fill place cs (parts.map fun p=>(p.1,a.eval p.2))=some cs'∧VRs ρ r cs'.toList∧cs'.size=cs.size
  | [],l,zs,r,cs,hp,hz,hl=>by
    simp at hp;subst hp
    simp only [layAll,Option.some.injEq] at hl;subst hl
    exact ⟨cs,rfl,hz,rfl⟩
  | p::parts,l,zs,r,cs,hp,hz,hl=>by
    simp only [List.mapM_cons,Option.bind_eq_bind,Option.bind_eq_some_iff,Option.pure_def,Option.some.injEq,Option.map_eq_some_iff] at hp
    obtain ⟨t,⟨q,hq,x,hx,rfl⟩,l',hp',rfl⟩:=hp
    simp only [layAll] at hl
    split at hl
    · rename_i hlen
      simp only [Bool.and_eq_true,decide_eq_true_eq] at hlen
      obtain ⟨hdf,hlen⟩:=hlen
      split at hl
      · rename_i z2 hz2
        have hcv:=VR.cells (h.gv hx) hdf
        have hlen2:=VRs.length hcv
        simp only [Array.length_toList] at hlen2
        obtain ⟨g1,g2⟩:=layAt_sound q.1 zs (gv env x).cells z2 cs.toList (a.eval p.2).cells.toList hz2 hz hcv
        simp only [Array.length_toList] at g1
        have hw:=wr_list (a.eval p.2).cells.toList cs q.1 (by simpa using g1)
        rw [← hw] at g2
        obtain ⟨cs',k1,k2,k3⟩:=layAll_sound h place parts l' z2 r _ hp' g2 hl
        refine ⟨cs',?_,k2,by rw [k3,wr_size]⟩
        simp only [List.map_cons,Instr.fill,hq]
        rw [if_neg]
        · rw [← Array.foldl_toList,Array.toList_zipIdx]
          have:=wr_toList_zip (a.eval p.2).cells.toList cs q.1 0
          simp only [Nat.add_zero] at this
          rw [this];exact k1
        · simp;omega
      · cases hl
    · cases hl
theorem ok_build (h:Ctx P Wr ρ H w nt env a) {t:TypeId} {parts:Array (Nat × Operand)} (ho:o.op=.build t parts) (hc:cOp P nt o=some ao) (he:evalOp ao env H=some (v,H')):Opk P Wr ρ w (execOp a.eval o) v H':=by
  simp only [cOp,ho,Option.bind_eq_bind,Option.bind_eq_some_iff] at hc
  obtain ⟨z,hz,d,hd,hc⟩:=hc
  obtain ⟨zv,hzr,hzv,hzd⟩:=run_zeroValue hz
  split at hc
  · rename_i fs
    simp only [Option.bind_eq_some_iff,Option.pure_def,Option.some.injEq] at hc
    obtain ⟨places,hpl,l,hl,rfl⟩:=hc
    simp only [evalOp,Option.map_eq_some_iff,Prod.mk.injEq] at he
    obtain ⟨q,⟨r,hr,rfl⟩,rfl,rfl⟩:=he
    obtain ⟨cs',k1,k2,_⟩:=layAll_sound h (fun i=>places[i]?) parts.toList l z.cells r zv.cells hl (VR.cells (hzv ρ) hzd) hr
    have hplaces:(fs.mapM fun (f:Field)=>(do pure (f.offset,← sizeOf f.type):Sem (Nat × Nat))).run P w=.ok places.toArray w:=by
      rw [Array.mapM_eq_mapM_toList]
      have:∀ (fl:List Field) (pl:List (Nat × Nat)),fl.mapM (fun (f:Field)=>(szOf P f.type).map fun s=>(f.offset,s))=some pl →
          (fl.mapM fun (f:Field)=>(Prod.mk f.offset <$> sizeOf f.type:Sem (Nat × Nat))).run P w=.ok pl w:=by
        intro fl
        induction fl with
        | nil=>intro pl h;simp at h;subst h;simp
        | cons f fl ih =>
          intro pl h
          simp only [List.mapM_cons,Option.bind_eq_bind,Option.bind_eq_some_iff,Option.pure_def,Option.some.injEq,Option.map_eq_some_iff] at h
          obtain ⟨_,⟨s,hs,rfl⟩,pl',h2,rfl⟩:=h
          simp [List.mapM_cons,run_sizeOf hs,ih pl' h2]
      simp [this fs.toList places hpl]
    refine Opk.val (c:=.agg cs') (w':=w) ?_ (Post.same h.I (by simp only [VR];exact k2))
    have hparts:(parts.map fun p=>(p.1,a.eval p.2)).toList=parts.toList.map fun p=>(p.1,a.eval p.2):=by simp
    simp only [execOp,ho,Instr.build,Sem.run_bind,hzr,Result.andThen_ok,run_und hd,hplaces]
    have hpf:(fun (i:Nat)=>places.toArray[i]?)=(fun (i:Nat)=>places[i]?):=by funext i;simp
    simp only [hpf]
    have:(parts.map fun x=>match x with | (i,x)=>(i,a.eval x)).toList=parts.toList.map fun p=>(p.1,a.eval p.2):=by simp
    rw [this,k1]
    simp
  · rename_i n e
    simp only [Option.bind_eq_some_iff,Option.pure_def,Option.some.injEq] at hc
    obtain ⟨s,hs,l,hl,rfl⟩:=hc
    simp only [evalOp,Option.map_eq_some_iff,Prod.mk.injEq] at he
    obtain ⟨q,⟨r,hr,rfl⟩,rfl,rfl⟩:=he
    obtain ⟨cs',k1,k2,_⟩:=layAll_sound h (fun i=>some (i*s,s)) parts.toList l z.cells r zv.cells (by simpa using hl) (VR.cells (hzv ρ) hzd) hr
    refine Opk.val (c:=.agg cs') (w':=w) ?_ (Post.same h.I (by simp only [VR];exact k2))
    have:(parts.map fun x=>match x with | (i,x)=>(i,a.eval x)).toList=parts.toList.map fun p=>(p.1,a.eval p.2):=by simp
    simp only [execOp,ho,Instr.build,Sem.run_bind,hzr,Result.andThen_ok,run_und hd,run_sizeOf hs]
    rw [this,k1]
    simp
  · cases hc
end Go.Abs
namespace Go.Abs
variable [Ov]
variable {P:Program} {Wr:Acc} {ρ:Names} {H H':Heap} {w:World} {nt:Nat} {env:Tree AV} {a:Act} {o:Oper} {ao:AOp} {v:AV}
theorem ok_buildSlice (h:Ctx P Wr ρ H w nt env a) {t:TypeId} {len:Nat} {parts:Array (Nat × Operand)} (ho:o.op=.buildSlice t len parts) (hc:cOp P nt o=some ao) (he:evalOp ao env H=some (v,H')):Opk P Wr ρ w (execOp a.eval o) v H':=by
  simp only [cOp,ho,Option.bind_eq_bind,Option.bind_eq_some_iff] at hc
  obtain ⟨d,hd,hc⟩:=hc
  split at hc
  · rename_i e
    simp only [Option.bind_eq_some_iff] at hc
    obtain ⟨s,hs,z,hz,hc⟩:=hc
    split at hc
    · cases hc
    rename_i hcond
    simp only [Option.bind_eq_some_iff,Option.pure_def,Option.some.injEq] at hc
    obtain ⟨l,hl,rfl⟩:=hc
    simp only [evalOp] at he
    split at he
    · rename_i r hr
      split at he
      · rename_i h1
        simp only [Option.some.injEq,Prod.mk.injEq] at he
        obtain ⟨rfl,rfl⟩:=he
        obtain ⟨zv,hzr,hzv,hzd⟩:=run_zeroValue hz
        have hzc:=VR.cells (hzv ρ) hzd
        have hzl:=VRs.length hzc
        simp only [Array.length_toList] at hzl
        have hzs:zv.cells.size=s:=by omega
        have hrow:=reps_sound (ρ:=ρ) hzc len (by omega)
        obtain ⟨cs',k1,k2,k3⟩:=layAll_sound h (fun i=>some (i*s,s)) parts.toList l (reps z.cells len) r ((Array.range (len*zv.cells.size)).map (zv.cells[· % zv.cells.size]!)) (by simpa using hl) hrow hr
        obtain ⟨g1,g2,g3⟩:=newCells_sound h.I k2 e r.length rfl []
        refine Opk.val (c:=.slice (some ⟨w.heap.size,0,none⟩) len len) (w':={ w with heap:=w.heap.push (.cells (cs'.toList++[]).toArray e (0,0)) }) ?_ ⟨_,g1,?_,g2,g3⟩
        · have:(parts.map fun x=>match x with | (i,x)=>(i,a.eval x)).toList=parts.toList.map fun p=>(p.1,a.eval p.2):=by simp
          simp only [execOp,ho,Instr.buildSlice,Sem.run_bind,run_und hd,Result.andThen_ok,run_sizeOf hs,Sem.run_ite]
          rw [if_neg (by omega)]
          have hzero:(if len*s=0 then (Sem.run P (pure #[]) w:Result (Array Value)) else Sem.run P (do pure (← zeroValue e).cells) w)=.ok (if len*s=0 then #[] else zv.cells) w:=by
            split<;>simp [hzr]
          by_cases hlz:len*s=0
          ·
            rw [if_pos hlz]
            simp only [Sem.run_pure,Result.andThen_ok]
            have hr0:((Array.range (len*s)).map fun x=>(#[]:Array Value)[x % (#[]:Array Value).size]!)=((Array.range (len*zv.cells.size)).map (zv.cells[· % zv.cells.size]!)):=by
              rw [hzs,hlz];simp
            rw [hr0,this,k1]
            simp [newRow]
          · rw [if_neg hlz]
            simp only [Sem.run_bind,hzr,Sem.run_pure,Result.andThen_ok]
            rw [this]
            rw [hzs] at k1
            rw [hzs,k1]
            simp [newRow]
        · simp only [VR]
          exact ⟨trivial,Nat.le_refl _,Nat.le_refl _,fun _=>trivial,_,_,Names.add_same ..,fun _=>by simp,fun h=>by cases h⟩
      · cases he
    · cases he
  · cases hc
theorem arr_back (X:Array Value):(X.toList++[]).toArray=X:=by simp
theorem small_le {n:Nat} (h:small n=true):n≤70368744177664:=Nat.le_of_ble_eq_true h
theorem ok_makeSlice (h:Ctx P Wr ρ H w nt env a) {t:TypeId} {x y:Operand} (ho:o.op=.makeSlice t x y) (hc:cOp P nt o=some ao) (he:evalOp ao env H=some (v,H')):Opk P Wr ρ w (execOp a.eval o) v H':=by
  simp only [cOp,ho,Option.bind_eq_bind,Option.bind_eq_some_iff] at hc
  obtain ⟨d,hd,hc⟩:=hc
  split at hc
  · rename_i e
    simp only [Option.bind_eq_some_iff] at hc
    obtain ⟨s,hs,z,hz,hc⟩:=hc
    split at hc
    · cases hc
    rename_i hcond
    simp only [Option.bind_eq_some_iff,Option.pure_def,Option.some.injEq] at hc
    obtain ⟨by_,hby,ox,h1,oy,h2,rfl⟩:=hc
    simp only [evalOp] at he
    have g1:=h.gv h1
    have g2:=h.gv h2
    split at he
    · rename_i l c hl hcv
      split at he
      · rename_i hok
        simp only [Bool.and_eq_true] at hok
        obtain ⟨⟨hlc,hsm⟩,hsc⟩:=hok
        have hlc':l≤c:=Nat.le_of_ble_eq_true hlc
        have hsm':=small_le hsm
        have hsc':=small_le hsc
        simp only [Option.some.injEq,Prod.mk.injEq] at he
        obtain ⟨rfl,rfl⟩:=he
        rw [hl] at g1;rw [hcv] at g2
        obtain ⟨k1,hk1,hx⟩:=g1.int_inv
        obtain ⟨k2,hk2,hy⟩:=g2.int_inv
        obtain ⟨zv,hzr,hzv,hzd⟩:=run_zeroValue hz
        have hzc:=VR.cells (hzv ρ) hzd
        have hzl:=VRs.length hzc
        simp only [Array.length_toList] at hzl
        have hzs:zv.cells.size=s:=by omega
        have hrow:=reps_sound (ρ:=ρ) hzc c (by omega)
        obtain ⟨q1,q2,q3⟩:=newCells_sound h.I hrow e (c*s) (by rw [reps_length,hzl,hzs]) []
        obtain ⟨ti,hti,htb⟩:=byOf_info hby
        refine Opk.val (c:=.slice (some ⟨w.heap.size,0,none⟩) l c) (w':={ w with heap:=w.heap.push (.cells (((Array.range (c*zv.cells.size)).map (zv.cells[· % zv.cells.size]!)).toList++[]).toArray e (0,0)) }) ?_ ⟨_,q1,?_,q2,q3⟩
        · have hlw:IntKind.i64.wrap (Int.ofNat l)=l:=wrap_i64_fits _ (by simp only [Int.ofNat_eq_natCast];omega) (by simp only [Int.ofNat_eq_natCast];omega)
          have hcw:IntKind.i64.wrap (Int.ofNat c)=c:=wrap_i64_fits _ (by simp only [Int.ofNat_eq_natCast];omega) (by simp only [Int.ofNat_eq_natCast];omega)
          have hbig:¬((ti.bytes:Int)*(c:Int) > 2 ^ 48):=by
            have e1:(2:Int) ^ 48=281474976710656:=by decide
            rw [e1,htb]
            have:((by_*c:Nat):Int)≤281474976710656:=by rw [Nat.mul_comm];omega
            push_cast at this;omega
          have hneg:¬((c:Int)<0):=by omega
          have hneg2:¬((l:Int)<0):=by omega
          have hlec:¬((l:Int) > (c:Int)):=by omega
          simp only [execOp,ho,Instr.makeSlice,Sem.run_bind,run_und hd,Result.andThen_ok,hx,hy,asInt,asIntOf,Sem.run_pure,run_typeInfo hti,hlw,hcw]
          simp only [hbig,hneg,hneg2,hlec,decide_false,Bool.or_false,Bool.false_eq_true,if_false]
          rw [arr_back]
          by_cases hn:c*s=0
          · simp only [run_askRoom,Result.andThen_ok,run_sizeOf hs,Int.toNat_natCast,hn,hzs,newRow,if_true,Sem.run_bind,Sem.run_pure,run_newObj]
            have h0:∀ f:Nat→Value,(Array.range 0).map f=#[]:=fun f=>by simp
            simp only [h0]
          · simp only [run_askRoom,Result.andThen_ok,run_sizeOf hs,Int.toNat_natCast,hn,hzs,newRow,if_false,Sem.run_bind,Sem.run_pure,run_newObj,hzr]
        · simp only [VR]
          exact ⟨trivial,hlc',Nat.le_refl _,fun _=>trivial,_,_,Names.add_same ..,fun _=>by simp,fun h=>by cases h⟩
      · cases he
    · cases he
  · cases hc
theorem ok_convert (h:Ctx P Wr ρ H w nt env a) {t d:TypeId} {x:Operand} (ho:o.op=.convert t d x) (hc:cOp P nt o=some ao) (he:evalOp ao env H=some (v,H')):Opk P Wr ρ w (execOp a.eval o) v H':=by
  simp only [cOp,ho,Option.bind_eq_bind,Option.bind_eq_some_iff] at hc
  obtain ⟨ts,hts,td,htd,hc⟩:=hc
  split at hc
  · rename_i k0 k
    simp only [Option.bind_eq_some_iff,Option.pure_def,Option.some.injEq] at hc
    obtain ⟨ox,h1,rfl⟩:=hc
    have g1:=h.gv h1
    simp only [evalOp] at he
    split at he
    · rename_i j n hv
      simp only [Option.some.injEq,Prod.mk.injEq] at he
      obtain ⟨rfl,rfl⟩:=he
      rw [hv] at g1
      obtain ⟨k',_,hx⟩:=g1.int_inv
      exact Opk.val (c:=.int k (k.wrap n)) (w':=w) (by simp [execOp,ho,convert,run_und hts,run_und htd,hx,Conv.intToInt]) (Post.same h.I (by simp [VR,wrapF_eq]))
    · cases he
  · simp only [Option.bind_eq_some_iff,Option.pure_def,Option.some.injEq] at hc
    obtain ⟨ox,h1,rfl⟩:=hc
    have g1:=h.gv h1
    simp only [evalOp] at he
    split at he
    · rename_i s hv
      simp only [Option.some.injEq,Prod.mk.injEq] at he
      obtain ⟨rfl,rfl⟩:=he
      rw [hv] at g1
      obtain ⟨t',ht',hx⟩:=g1.str_inv
      exact Opk.val (c:=.string t') (w':=w) (by simp [execOp,ho,convert,run_und hts,run_und htd,hx]) (Post.same h.I (by rw [hx] at g1;exact g1))
    · cases he
  · rename_i e
    simp only [Option.bind_eq_some_iff] at hc
    obtain ⟨te,hte,hc⟩:=hc
    split at hc
    · simp only [if_true] at hc
      split at hc
      case isFalse=>cases hc
      rename_i hsz1
      simp only [Option.bind_eq_some_iff,Option.pure_def,Option.some.injEq] at hc
      obtain ⟨ox,h1,rfl⟩:=hc
      have g1:=h.gv h1
      simp only [evalOp] at he
      split at he
      · rename_i s hv
        simp only [Option.some.injEq,Prod.mk.injEq] at he
        obtain ⟨rfl,rfl⟩:=he
        rw [hv] at g1
        obtain ⟨t',ht',hx⟩:=g1.str_inv
        have hsz:t'.size=s.length:=by rw [← ht',List.length_map,Array.length_toList];rfl
        have hge:=grownCap_ge w t'.size 0 e
        have hrun:=Lib.run_convert_string_bytes (P:=P) w t d e t' hts htd hte
        have hcells:(Lib.bytesCells w e t').size=grownCap w t'.size 0 e:=by
          simp only [Lib.bytesCells,Array.size_append,Array.size_map,Array.size_replicate]
          have:t'.data.size=t'.size:=rfl
          omega
        have hheap:(Lib.bytesWorld w e t').heap=w.heap.push (.cells (Lib.bytesCells w e t') e ((Lib.bytesCells w e t').size,(Lib.bytesCells w e t').size+1)):=by
          apply Array.ext_getElem?
          intro j
          rw [Array.getElem?_push]
          by_cases hj:j=w.heap.size
          · rw [if_pos hj,hj,Lib.bytesWorld_at_new]
          · rw [if_neg hj]
            rcases Nat.lt_or_ge j w.heap.size with hlt | hge'
            · exact Lib.bytesWorld_at_old w e t' j hlt
            · rw [Array.getElem?_eq_none (by rw [Lib.bytesWorld_size];omega),Array.getElem?_eq_none (by omega)]
        obtain ⟨q1,q2,q3⟩:=h.I.alloc (q:=((Lib.bytesCells w e t').size,(szOf P e).getD 0)) (hq:=rfl) (o:=.cells (mkCells (s.map fun n=>.int 4 (.ofNat n))) s.length e true [] 0)
          (ob:=.cells (Lib.bytesCells w e t') e ((Lib.bytesCells w e t').size,(Lib.bytesCells w e t').size+1)) (by simp) rfl (by
            simp only [OR]
            refine ⟨trivial,by omega,fun i hi=>?_,fun _ i _ hi=>by omega⟩
            have hi':i<t'.data.size:=by have:t'.data.size=t'.size:=rfl;omega
            refine ⟨.int .u8 (t'.data[i]).toNat,?_,?_⟩
            · simp only [Lib.bytesCells,Nat.zero_add]
              rw [Array.getElem?_append_left (by simpa using hi')]
              simp only [Array.getElem?_map,getElem?_pos t'.data i hi',Option.map_some]
            · rw [mkCells_get _ _ (by simpa using hi)]
              have hsi:s[i]?=some (t'.data[i]).toNat:=by rw [← ht',List.getElem?_map,Array.getElem?_toList,getElem?_pos t'.data i hi'];rfl
              have:i<s.length:=hi
              simp only [List.getD,List.getElem?_map,hsi,Option.map_some,Option.getD_some,VR]
              exact ⟨rfl,rfl⟩)
        refine Opk.val (c:=.slice (some ⟨w.heap.size,0,none⟩) t'.size (grownCap w t'.size 0 e)) (w':=Lib.bytesWorld w e t') (by simp only [execOp,ho,hx,Sem.run_bind,hrun,Result.andThen_ok,Sem.run_pure])
          ⟨_,q1,?_,q2.heap_eq hheap,q3.heap_eq hheap rfl rfl rfl⟩
        simp only [VR]
        refine ⟨hsz,Nat.le_refl _,by omega,(fun hc=>by cases hc),_,_,Names.add_same ..,(fun _=>by simp),fun _=>?_⟩
        rw [Names.add_k];simp only [hsz1,Option.getD_some];omega
      · cases he
    · simp at hc
  · rename_i e
    simp only [Option.bind_eq_some_iff] at hc
    obtain ⟨te,hte,hc⟩:=hc
    split at hc
    · simp only [if_true,Option.bind_eq_some_iff,Option.pure_def,Option.some.injEq] at hc
      obtain ⟨ox,h1,rfl⟩:=hc
      have g1:=h.gv h1
      simp only [evalOp] at he
      split at he
      · rename_i hv
        simp only [Option.some.injEq,Prod.mk.injEq] at he
        obtain ⟨rfl,rfl⟩:=he
        rw [hv] at g1
        have hx:=g1.nilslice_inv
        exact Opk.val (c:=.string .empty) (w':=w) (by simp [execOp,ho,convert,run_und hts,run_und htd,run_und hte,hx,Conv.bytesToString]) (Post.same h.I (by simp [VR]))
      · rename_i id off len cap ex hv
        split at he
        · rename_i l hl
          simp only [Option.map_eq_some_iff,Prod.mk.injEq] at he
          obtain ⟨bs,hbs,rfl,rfl⟩:=he
          rw [hv] at g1
          obtain ⟨ad,cp,hx,p1,p2,p3,b,z,hb,p4,p5⟩:=g1.slice_inv
          have hbytes:∀ (l:List AV) (m:List Value) (r:List Nat),bytesOf l=some r→VRs ρ l m→m=(r.map Int.ofNat).map (Value.int .u8)∧∀ n∈r,n<256:=by
            intro l
            induction l with
            | nil =>
              intro m r h1 h2
              cases m with
              | nil=>simp only [bytesOf,Option.some.injEq] at h1;subst h1;simp
              | cons _ _=>simp [VRs] at h2
            | cons v l ih =>
              intro m r h1 h2
              cases m with
              | nil=>simp [VRs] at h2
              | cons c m =>
                simp only [VRs] at h2
                simp only [bytesOf] at h1
                split at h1
                · rename_i n r' e1 e2
                  injection h1 with h1;subst h1
                  obtain ⟨g,g'⟩:=ih m r' e2 h2.2
                  unfold byteVal at e1
                  split at e1
                  · rename_i n'
                    split at e1
                    · rename_i hlt
                      injection e1 with e1;subst e1
                      obtain ⟨k',hk,hc'⟩:=h2.1.int_inv
                      have:k'=.u8:=kc_inj (by rw [← hk];rfl)
                      subst this
                      have hlt':n'<256:=Nat.lt_of_lt_of_le (Nat.lt_succ_self n') (Nat.le_of_ble_eq_true hlt)
                      refine ⟨by simp [g,hc'],fun q hq=>?_⟩
                      rcases List.mem_cons.1 hq with e | e
                      · omega
                      · exact g' q e
                    · cases e1
                  · cases e1
                · cases h1
          have hload:∃ m:List Value,(loadCells ad len).run P w=.ok m.toArray w∧VRs ρ l m:=by
            rcases Nat.eq_zero_or_pos len with hz | hz
            · subst hz
              refine ⟨[],by simp [loadCells,loadCellsFrom],?_⟩
              unfold readAt at hl
              split at hl
              · simp only [readCells,Option.some.injEq] at hl;subst hl;simp [VRs]
              · cases hl
            · have:=p4 (by omega)
              subst this
              unfold readAt at hl
              split at hl
              · rename_i c m' e' rw' par fz hi
                obtain ⟨b',x',ob,e'',hlt,hob,hor⟩:=h.I.blk (i:=id) (by rw [hi];simp)
                rw [hb] at e'';injection e'' with e'';injection e'' with e1 e2;subst e1;subst e2
                rw [hi] at hor
                cases ob with
                | cells cs el fr =>
                  obtain ⟨q1,q2⟩:=readCells_VRs hor hl
                  exact ⟨_,run_loadCells_at w hob (z+off) len (q2 hz),q1⟩
                | _=>simp [OR] at hor
              · cases hl
          obtain ⟨m,hm,hmr⟩:=hload
          obtain ⟨hmb,hlt⟩:=hbytes l m bs hbs hmr
          subst hmb
          have hrun:=run_bytesToString (P:=P) w ad len cp (bs.map Int.ofNat) hm
          have hfold:∀ (r:List Nat) (s:ByteArray),((r.map Int.ofNat).foldl (fun r n=>r.push (UInt8.ofNat n.toNat)) s).data.toList=s.data.toList++r.map UInt8.ofNat:=by
            intro r
            induction r with
            | nil=>intro s;simp
            | cons n r ih=>intro s;simp only [List.map_cons,List.foldl_cons];rw [ih];simp [ByteArray.push]
          refine Opk.val (c:=.string _) (w':=w) (by simp [execOp,ho,convert,run_und hts,run_und htd,run_und hte,hx,hrun];rfl) (Post.same h.I ?_)
          simp only [VR]
          rw [hfold]
          simp only [List.map_append,List.map_map]
          have:bs.map (UInt8.toNat ∘ UInt8.ofNat)=bs:=by
            have hid:∀ (r:List Nat),(∀ n∈r,n<256)→r.map (UInt8.toNat ∘ UInt8.ofNat)=r:=by
              intro r
              induction r with
              | nil=>intro _;rfl
              | cons n r ih =>
                intro hr
                rw [List.map_cons,ih (fun q hq=>hr q (List.mem_cons_of_mem _ hq))]
                have:=hr n (List.mem_cons_self ..)
                simp only [Function.comp,UInt8.toNat_ofNat',List.cons.injEq,and_true]
                omega
            exact hid bs hlt
          rw [this];rfl
        · cases he
      · cases he
    · simp at hc
  · cases hc
theorem ok_typeAssert (h:Ctx P Wr ρ H w nt env a) {x:Operand} {xt t:TypeId} {ok:Bool} (ho:o.op=.typeAssert x xt t ok) (hc:cOp P nt o=some ao) (he:evalOp ao env H=some (v,H')):Opk P Wr ρ w (execOp a.eval o) v H':=by
  simp only [cOp,ho,Option.bind_eq_bind,Option.bind_eq_some_iff] at hc
  obtain ⟨d,hd,hc⟩:=hc
  have key:(∀ m,d≠.interface m)∧∃ z ox,zeroOf P t=some z∧cOpd P nt x=some ox∧ao=.typeAssert t z ok ox:=by
    cases d<;>simp only [if_true,Bool.false_eq_true,if_false,Option.bind_eq_some_iff,Option.pure_def,Option.some.injEq] at hc <;>
      first
        | (cases hc;done)
        | (obtain ⟨z,h0,ox,h1,h2⟩:=hc;exact ⟨(fun m e=>by cases e),z,ox,h0,h1,h2.symm⟩)
  obtain ⟨hni,z,ox,hz,h1,rfl⟩:=key
  obtain ⟨zv,hzr,hzv,hzd⟩:=run_zeroValue hz
  have g1:=h.gv h1
  simp only [evalOp] at he
  have hund:∀ {c:Value} {w':World} {s:Sem Value},s.run P w=.ok c w'→(do pure (.value (← s)):Sem Next).run P w=.ok (.value c) w':=fun h=>by simp [h]
  have hnil:(Instr.typeAssert .nilIface xt t true).run P w=.ok (.tuple #[zv,.bool false]) w:=by
    simp only [Instr.typeAssert,Sem.run_bind,run_und hd,Result.andThen_ok]
    cases d<;>first | (exact absurd rfl (hni _)) | simp [hzr]
  have hheld:∀ (c:Value) (b:Bool),(Instr.typeAssert (.iface t c) xt t b).run P w=.ok (if b then .tuple #[c,.bool true] else c) w:=by
    intro c b
    simp only [Instr.typeAssert,Sem.run_bind,run_und hd,Result.andThen_ok]
    cases d<;>first | (exact absurd rfl (hni _)) | simp
  have hother:∀ (u:TypeId) (c:Value),u≠t→(Instr.typeAssert (.iface u c) xt t true).run P w=.ok (.tuple #[zv,.bool false]) w:=by
    intro u c hu
    simp only [Instr.typeAssert,Sem.run_bind,run_und hd,Result.andThen_ok]
    cases d<;>first | (exact absurd rfl (hni _)) | simp [hu,hzr]
  split at he
  · rename_i hv
    rw [hv] at g1
    have hx:=g1.nilIface_inv
    split at he
    · rename_i hok
      subst hok
      simp only [Option.some.injEq,Prod.mk.injEq] at he
      obtain ⟨rfl,rfl⟩:=he
      exact Opk.val (c:=.tuple #[zv,.bool false]) (w':=w) (by simp [execOp,ho,hx,hnil]) (Post.same h.I (by simp [VR,VRs,hzv ρ]))
    · cases he
  · rename_i u x0 hv
    rw [hv] at g1
    obtain ⟨y,hy,hx⟩:=g1.iface_inv
    split at he
    · rename_i hu
      have hu':u=t:=Nat.eq_of_beq_eq_true hu
      subst hu'
      simp only [Option.some.injEq,Prod.mk.injEq] at he
      obtain ⟨rfl,rfl⟩:=he
      refine Opk.val (c:=if ok then .tuple #[y,.bool true] else y) (w':=w) (by simp [execOp,ho,hx,hheld]) (Post.same h.I ?_)
      cases ok
      · exact hy
      · simp [VR,VRs,hy]
    · rename_i hu
      split at he
      · rename_i hok
        subst hok
        simp only [Option.some.injEq,Prod.mk.injEq] at he
        obtain ⟨rfl,rfl⟩:=he
        have hne:u≠t:=fun e=>hu (by subst e;simp)
        exact Opk.val (c:=.tuple #[zv,.bool false]) (w':=w) (by simp [execOp,ho,hx,hother u y hne]) (Post.same h.I (by simp [VR,VRs,hzv ρ]))
      · cases he
  · cases he
end Go.Abs
