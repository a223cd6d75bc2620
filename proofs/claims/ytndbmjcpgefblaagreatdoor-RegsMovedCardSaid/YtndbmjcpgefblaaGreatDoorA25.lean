/- A part of the proof (an abstract machine, walks): no statement of its own, no conditions. -/
import Derived.Test.YtndbmjcpgefblaaGreatDoorA24
set_option linter.all false
namespace Go.Abs
variable {tbl:Nat→AFunc} {c:Cx} {s:List SI} {L:Kn} {H:Heap} {d:Option Pos} {l:List AOper}
theorem wrapF_in {k:Nat} {n:Int} (h:(ck k).wrap n=n):wrapF k n=n:=by
  unfold wrapF
  split
  · split
    · rfl
    · exact h
  · split
    · rfl
    · exact h
  · split
    · rfl
    · exact h
  · exact h
theorem wrapF_int {n:Int} (h1:-9223372036854775808≤n) (h2:n<9223372036854775808):wrapF 3 n=n:=by
  cases n with
  | ofNat m =>
    rw [Int.ofNat_eq_natCast] at h2
    have:Nat.blt m 9223372036854775808=true:=Eq.mpr Nat.blt_eq (by omega)
    simp only [wrapF,this,if_true]
  | negSucc m =>
    have:Nat.blt m 9223372036854775808=true:=Eq.mpr Nat.blt_eq (by omega)
    simp only [wrapF,this,if_true]
theorem RO.mov {x:Opd} {v:AV} (h:RO tbl c l s (setL L d v) H) (hx:gvL L x=v:=by (conv=>lhs;whnf)<;>rfl) (hv:v.defd=true:=by first | rfl | assumption):RO tbl c (⟨d,.mov x,none,[],[]⟩::l) s L H :=
  RO.op (fun env hle=>by simp only [evalOp,hle.gv hx hv]) h
theorem RO.arith {op:BinOp} {k:Nat} {x y:Opd} {a b:Int} {v:AV} (h:RO tbl c l s (setL L d v) H) (hx:gvL L x=.int k a:=by (conv=>lhs;whnf)<;>rfl) (hy:gvL L y=.int k b:=by (conv=>lhs;whnf)<;>rfl) (hv:arithV op k a b=some v:=by (conv=>lhs;whnf)<;>rfl):RO tbl c (⟨d,.arith op k x y,none,[],[]⟩::l) s L H :=
  RO.op (fun env hle=>by simp only [evalOp,hle.gv hx rfl,hle.gv hy rfl,arith2,Nat.beq_refl,Bool.and_self,if_true,hv,Option.map_some]) h
theorem RO.add {x y:Opd} {a b:Int} (h:RO tbl c l s (setL L d (.int 3 (a+b))) H) (hx:gvL L x=.int 3 a:=by (conv=>lhs;whnf)<;>rfl) (hy:gvL L y=.int 3 b:=by (conv=>lhs;whnf)<;>rfl) (h1:-9223372036854775808≤a+b:=by omega) (h2:a+b<9223372036854775808:=by omega):RO tbl c (⟨d,.arith .add 3 x y,none,[],[]⟩::l) s L H :=
  RO.arith h hx hy (by simp only [arithV,wrapF_int h1 h2])
theorem RO.inc {x:Opd} {a b:Nat} {y:Opd} (h:RO tbl c l s (setL L d (.int 3 (.ofNat (a+b)))) H) (hx:gvL L x=.int 3 (.ofNat a):=by (conv=>lhs;whnf)<;>rfl) (hy:gvL L y=.int 3 (.ofNat b):=by (conv=>lhs;whnf)<;>rfl) (h2:a+b<9223372036854775808:=by omega):RO tbl c (⟨d,.arith .add 3 x y,none,[],[]⟩::l) s L H :=
  RO.add (a:=.ofNat a) (b:=.ofNat b) h hx hy (by simp;omega) (by simp;omega)
theorem RO.sub {x y:Opd} {a b:Int} (h:RO tbl c l s (setL L d (.int 3 (a-b))) H) (hx:gvL L x=.int 3 a:=by (conv=>lhs;whnf)<;>rfl) (hy:gvL L y=.int 3 b:=by (conv=>lhs;whnf)<;>rfl) (h1:-9223372036854775808≤a-b:=by omega) (h2:a-b<9223372036854775808:=by omega):RO tbl c (⟨d,.arith .sub 3 x y,none,[],[]⟩::l) s L H :=
  RO.arith h hx hy (by simp only [arithV,wrapF_int h1 h2])
theorem RO.eql {k:Nat} {x y:Opd} {a b:Int} (h:RO tbl c l s (setL L d (.bool (decide (a=b)))) H) (hx:gvL L x=.int k a:=by (conv=>lhs;whnf)<;>rfl) (hy:gvL L y=.int k b:=by (conv=>lhs;whnf)<;>rfl):RO tbl c (⟨d,.arith .eql k x y,none,[],[]⟩::l) s L H :=
  RO.arith h hx hy (by simp only [arithV,ieq_iff];congr 2)
theorem RO.neq {k:Nat} {x y:Opd} {a b:Int} (h:RO tbl c l s (setL L d (.bool (decide (a≠b)))) H) (hx:gvL L x=.int k a:=by (conv=>lhs;whnf)<;>rfl) (hy:gvL L y=.int k b:=by (conv=>lhs;whnf)<;>rfl):RO tbl c (⟨d,.arith .neq k x y,none,[],[]⟩::l) s L H :=
  RO.arith h hx hy (by simp only [arithV,ieq_iff];congr 2;rw [Bool.eq_iff_iff];simp)
theorem RO.lss {k:Nat} {x y:Opd} {a b:Int} (h:RO tbl c l s (setL L d (.bool (decide (a<b)))) H) (hx:gvL L x=.int k a:=by (conv=>lhs;whnf)<;>rfl) (hy:gvL L y=.int k b:=by (conv=>lhs;whnf)<;>rfl):RO tbl c (⟨d,.arith .lss k x y,none,[],[]⟩::l) s L H :=
  RO.arith h hx hy (by simp only [arithV,ilt_iff])
theorem RO.leq {k:Nat} {x y:Opd} {a b:Int} (h:RO tbl c l s (setL L d (.bool (decide (a≤b)))) H) (hx:gvL L x=.int k a:=by (conv=>lhs;whnf)<;>rfl) (hy:gvL L y=.int k b:=by (conv=>lhs;whnf)<;>rfl):RO tbl c (⟨d,.arith .leq k x y,none,[],[]⟩::l) s L H :=
  RO.arith h hx hy (by simp only [arithV,ilt_iff];congr 2;rw [Bool.eq_iff_iff];simp)
theorem RO.gtr {k:Nat} {x y:Opd} {a b:Int} (h:RO tbl c l s (setL L d (.bool (decide (b<a)))) H) (hx:gvL L x=.int k a:=by (conv=>lhs;whnf)<;>rfl) (hy:gvL L y=.int k b:=by (conv=>lhs;whnf)<;>rfl):RO tbl c (⟨d,.arith .gtr k x y,none,[],[]⟩::l) s L H :=
  RO.arith h hx hy (by simp only [arithV,ilt_iff])
theorem RO.geq {k:Nat} {x y:Opd} {a b:Int} (h:RO tbl c l s (setL L d (.bool (decide (b≤a)))) H) (hx:gvL L x=.int k a:=by (conv=>lhs;whnf)<;>rfl) (hy:gvL L y=.int k b:=by (conv=>lhs;whnf)<;>rfl):RO tbl c (⟨d,.arith .geq k x y,none,[],[]⟩::l) s L H :=
  RO.arith h hx hy (by simp only [arithV,ilt_iff];congr 2;rw [Bool.eq_iff_iff];simp)
theorem RO.lssN {k:Nat} {x y:Opd} {a b:Nat} (h:RO tbl c l s (setL L d (.bool (decide (a<b)))) H) (hx:gvL L x=.int k (.ofNat a):=by (conv=>lhs;whnf)<;>rfl) (hy:gvL L y=.int k (.ofNat b):=by (conv=>lhs;whnf)<;>rfl):RO tbl c (⟨d,.arith .lss k x y,none,[],[]⟩::l) s L H :=
  RO.lss (a:=.ofNat a) (b:=.ofNat b) (by simpa using h) hx hy
theorem RO.leqN {k:Nat} {x y:Opd} {a b:Nat} (h:RO tbl c l s (setL L d (.bool (decide (a≤b)))) H) (hx:gvL L x=.int k (.ofNat a):=by (conv=>lhs;whnf)<;>rfl) (hy:gvL L y=.int k (.ofNat b):=by (conv=>lhs;whnf)<;>rfl):RO tbl c (⟨d,.arith .leq k x y,none,[],[]⟩::l) s L H :=
  RO.leq (a:=.ofNat a) (b:=.ofNat b) (by simpa using h) hx hy
theorem RO.gtrN {k:Nat} {x y:Opd} {a b:Nat} (h:RO tbl c l s (setL L d (.bool (decide (b<a)))) H) (hx:gvL L x=.int k (.ofNat a):=by (conv=>lhs;whnf)<;>rfl) (hy:gvL L y=.int k (.ofNat b):=by (conv=>lhs;whnf)<;>rfl):RO tbl c (⟨d,.arith .gtr k x y,none,[],[]⟩::l) s L H :=
  RO.gtr (a:=.ofNat a) (b:=.ofNat b) (by simpa using h) hx hy
theorem RO.geqN {k:Nat} {x y:Opd} {a b:Nat} (h:RO tbl c l s (setL L d (.bool (decide (b≤a)))) H) (hx:gvL L x=.int k (.ofNat a):=by (conv=>lhs;whnf)<;>rfl) (hy:gvL L y=.int k (.ofNat b):=by (conv=>lhs;whnf)<;>rfl):RO tbl c (⟨d,.arith .geq k x y,none,[],[]⟩::l) s L H :=
  RO.geq (a:=.ofNat a) (b:=.ofNat b) (by simpa using h) hx hy
theorem RO.eqlN {k:Nat} {x y:Opd} {a b:Nat} (h:RO tbl c l s (setL L d (.bool (decide (a=b)))) H) (hx:gvL L x=.int k (.ofNat a):=by (conv=>lhs;whnf)<;>rfl) (hy:gvL L y=.int k (.ofNat b):=by (conv=>lhs;whnf)<;>rfl):RO tbl c (⟨d,.arith .eql k x y,none,[],[]⟩::l) s L H :=
  RO.eql (a:=.ofNat a) (b:=.ofNat b) (by rw [show decide (Int.ofNat a=Int.ofNat b)=decide (a=b) from decide_eq_decide.2 ⟨fun h=>Int.ofNat.inj h,fun h=>congrArg _ h⟩];exact h) hx hy
theorem RO.neqN {k:Nat} {x y:Opd} {a b:Nat} (h:RO tbl c l s (setL L d (.bool (decide (a≠b)))) H) (hx:gvL L x=.int k (.ofNat a):=by (conv=>lhs;whnf)<;>rfl) (hy:gvL L y=.int k (.ofNat b):=by (conv=>lhs;whnf)<;>rfl):RO tbl c (⟨d,.arith .neq k x y,none,[],[]⟩::l) s L H :=
  RO.neq (a:=.ofNat a) (b:=.ofNat b) (by rw [show decide (Int.ofNat a≠Int.ofNat b)=decide (a≠b) from decide_eq_decide.2 ⟨fun h e=>h (congrArg _ e),fun h e=>h (Int.ofNat.inj e)⟩];exact h) hx hy
theorem RO.un {op:UnOp} {x:Opd} {w v:AV} (h:RO tbl c l s (setL L d v) H) (hx:gvL L x=w:=by (conv=>lhs;whnf)<;>rfl) (hw:w.defd=true:=by first | rfl | assumption) (hv:unV op w=some v:=by (conv=>lhs;whnf)<;>rfl):RO tbl c (⟨d,.unary op x,none,[],[]⟩::l) s L H :=
  RO.op (fun env hle=>by simp only [evalOp,hle.gv hx hw,hv,Option.map_some]) h
theorem RO.eq {neg:Bool} {e:EqD} {x y:Opd} {a b:AV} {t:Bool} (h:RO tbl c l s (setL L d (.bool (t != neg))) H) (hx:gvL L x=a:=by (conv=>lhs;whnf)<;>rfl) (ha:a.defd=true:=by first | rfl | assumption) (hy:gvL L y=b:=by (conv=>lhs;whnf)<;>rfl) (hb:b.defd=true:=by first | rfl | assumption) (ht:eqv 64 e a b=some t:=by first | assumption | rfl):RO tbl c (⟨d,.eq neg e x y,none,[],[]⟩::l) s L H :=
  RO.op (fun env hle=>by simp only [evalOp,hle.gv hx ha,hle.gv hy hb,ht,Option.map_some]) h
theorem RO.load1 {x:Opd} {i:Pos} {o:Nat} {v:AV} (h:RO tbl c l s (setL L d v) H) (hx:gvL L x=.ptr i o:=by (conv=>lhs;whnf)<;>rfl) (hc:cellAt H i o=some v:=by assumption):RO tbl c (⟨d,.load1 x,none,[],[]⟩::l) s L H :=
  RO.op (fun env hle=>eval_load1 (hle.gv hx rfl) hc) h
theorem RO.loadN {n:Nat} {x:Opd} {i:Pos} {o:Nat} {vs:List AV} (h:RO tbl c l s (setL L d (.agg vs)) H) (hx:gvL L x=.ptr i o:=by (conv=>lhs;whnf)<;>rfl) (hc:readAt H i o n=some vs:=by assumption):RO tbl c (⟨d,.loadN n x,none,[],[]⟩::l) s L H :=
  RO.op (fun env hle=>by simp only [evalOp,hle.gv hx rfl,loadV,hc,if_true,Option.map_some]) h
theorem RO.store {n:Nat} {a x:Opd} {i:Pos} {o:Nat} {v:AV} {H':Heap} (hw:writeAt H i o v.cells=some H') (h:RO tbl c l s (setL L d .undef) H') (ha:gvL L a=.ptr i o:=by (conv=>lhs;whnf)<;>rfl) (hx:gvL L x=v:=by (conv=>lhs;whnf)<;>rfl) (hv:v.defd=true:=by first | rfl | assumption) (hn:v.cells.length=n:=by rfl):RO tbl c (⟨d,.store n a x,none,[],[]⟩::l) s L H :=
  RO.op (fun env hle=>by simp only [evalOp,hle.gv ha rfl,hle.gv hx hv,hn,if_true,hw]) h
theorem RO.idxSl {size:Nat} {x y:Opd} {i:Pos} {o n cp j k:Nat} {e:Bool} (h:RO tbl c l s (setL L d (.ptr i (o+j*size))) H) (hx:gvL L x=.slice i o n cp e:=by (conv=>lhs;whnf)<;>rfl) (hy:gvL L y=.int k (.ofNat j):=by (conv=>lhs;whnf)<;>rfl) (hj:j<n:=by omega):RO tbl c (⟨d,.idxSl size x y,none,[],[]⟩::l) s L H :=
  RO.op (fun env hle=>by
    have:Nat.blt j n=true:=Eq.mpr Nat.blt_eq hj
    simp only [evalOp,hle.gv hx rfl,hle.gv hy rfl,this,if_true]) h
theorem RO.idxArr {m size:Nat} {x y:Opd} {i:Pos} {o j k:Nat} (h:RO tbl c l s (setL L d (.ptr i (o+j*size))) H) (hx:gvL L x=.ptr i o:=by (conv=>lhs;whnf)<;>rfl) (hy:gvL L y=.int k (.ofNat j):=by (conv=>lhs;whnf)<;>rfl) (hj:j<m:=by first | decide | omega):RO tbl c (⟨d,.idxArr m size x y,none,[],[]⟩::l) s L H :=
  RO.op (fun env hle=>by
    have:Nat.blt j m=true:=Eq.mpr Nat.blt_eq hj
    simp only [evalOp,hle.gv hx rfl,hle.gv hy rfl,this,if_true]) h
theorem RO.idxAgg {agg:Bool} {m size:Nat} {x y:Opd} {vs:List AV} {j k:Nat} {v:AV} (h:RO tbl c l s (setL L d v) H) (hx:gvL L x=.agg vs:=by (conv=>lhs;whnf)<;>rfl) (hy:gvL L y=.int k (.ofNat j):=by (conv=>lhs;whnf)<;>rfl) (hj:j<m:=by first | decide | omega) (hp:partOf agg vs (j*size) size=some v:=by (conv=>lhs;whnf)<;>rfl):RO tbl c (⟨d,.idxAgg agg m size x y,none,[],[]⟩::l) s L H :=
  RO.op (fun env hle=>by
    have:Nat.blt j m=true:=Eq.mpr Nat.blt_eq hj
    simp only [evalOp,hle.gv hx rfl,hle.gv hy rfl,this,if_true,hp,Option.map_some]) h
theorem RO.addOff {off:Nat} {x:Opd} {i:Pos} {o:Nat} (h:RO tbl c l s (setL L d (.ptr i (o+off))) H) (hx:gvL L x=.ptr i o:=by (conv=>lhs;whnf)<;>rfl):RO tbl c (⟨d,.addOff off x,none,[],[]⟩::l) s L H :=
  RO.op (fun env hle=>by simp only [evalOp,hle.gv hx rfl]) h
theorem RO.part {agg:Bool} {off size:Nat} {x:Opd} {vs:List AV} {v:AV} (h:RO tbl c l s (setL L d v) H) (hx:gvL L x=.agg vs:=by (conv=>lhs;whnf)<;>rfl) (hp:partOf agg vs off size=some v:=by (conv=>lhs;whnf)<;>rfl):RO tbl c (⟨d,.part agg off size x,none,[],[]⟩::l) s L H :=
  RO.op (fun env hle=>by simp only [evalOp,hle.gv hx rfl,hp,Option.map_some]) h
theorem RO.extract {x:Opd} {i:Nat} {vs:List AV} {v:AV} (h:RO tbl c l s (setL L d v) H) (hx:gvL L x=.tuple vs:=by (conv=>lhs;whnf)<;>rfl) (hp:nthV vs i=some v:=by (conv=>lhs;whnf)<;>rfl):RO tbl c (⟨d,.extract x i,none,[],[]⟩::l) s L H :=
  RO.op (fun env hle=>by simp only [evalOp,hle.gv hx rfl,hp,Option.map_some]) h
def lenOf:AV→Option Nat
  | .slice _ _ n _ _=>some n
  | .nilslice=>some 0
  | _=>none
theorem RO.lenSl {x:Opd} {v:AV} {n:Nat} (h:RO tbl c l s (setL L d (.int 3 (.ofNat n))) H) (hx:gvL L x=v:=by (conv=>lhs;whnf)<;>rfl) (hn:lenOf v=some n:=by first | rfl | assumption):RO tbl c (⟨d,.lenSl x,none,[],[]⟩::l) s L H :=
  RO.op (fun env hle=>by
    have hd:v.defd=true:=by cases v<;>first | rfl | cases hn
    simp only [evalOp,hle.gv hx hd]
    cases v<;>simp only [lenOf,Option.some.injEq,reduceCtorEq] at hn<;>subst hn<;>rfl) h
theorem RO.lenC {n:Nat} (h:RO tbl c l s (setL L d (.int 3 (.ofNat n))) H):RO tbl c (⟨d,.lenC n,none,[],[]⟩::l) s L H :=
  RO.op (fun env hle=>by simp only [evalOp]) h
theorem RO.box {e:Nat} {x:Opd} {v:AV} (h:RO tbl c l s (setL L d (.ptr H.next 0)) (H.new (.cells (mkCells v.cells) v.cells.length e true [] 0))) (hx:gvL L x=v:=by (conv=>lhs;whnf)<;>rfl) (hv:v.defd=true:=by first | rfl | assumption) (ho:allOne v.cells=true:=by rfl):RO tbl c (⟨d,.box e x,none,[],[]⟩::l) s L H :=
  RO.op (fun env hle=>by simp only [evalOp,hle.gv hx hv,ho,if_true]) h
theorem RO.alloc {e:Nat} {zs:List AV} (h:RO tbl c l s (setL L d (.ptr H.next 0)) (H.new (.cells (mkCells zs) zs.length e true [] 0))):RO tbl c (⟨d,.alloc e zs,none,[],[]⟩::l) s L H :=
  RO.op (fun env hle=>by simp only [evalOp]) h
def layL (L:Kn) (l:List AV):List (Nat × Nat × Opd)→Option (List AV)
  | []=>some l
  | (off,size,x)::rest =>
    let vs:=(gvL L x).cells
    if (gvL L x).defd&&decide (vs.length=size) then (match layAt l off vs with | some l'=>layL L l' rest | none=>none) else none
theorem layL_sound {env:Tree AV} (hle:Le L env):∀ {ps:List (Nat × Nat × Opd)} {zs vs:List AV},layL L zs ps=some vs→layAll env zs ps=some vs
  | [],zs,vs,h=>by simpa [layL,layAll] using h
  | (off,size,x)::rest,zs,vs,h=>by
    simp only [layL] at h
    split at h
    · rename_i hc
      have hc':=hc
      simp only [Bool.and_eq_true] at hc'
      have e:=hle.gv (x:=x) rfl hc'.1
      simp only [layAll]
      rw [e,if_pos hc]
      split at h
      · rename_i h2;rw [h2];exact layL_sound hle h
      · cases h
    · cases h
theorem RO.build {zs vs:List AV} {ps:List (Nat × Nat × Opd)} (h:RO tbl c l s (setL L d (.agg vs)) H) (hl:layL L zs ps=some vs:=by (conv=>lhs;whnf)<;>rfl):RO tbl c (⟨d,.build zs ps,none,[],[]⟩::l) s L H :=
  RO.op (fun env hle=>by simp only [evalOp,layL_sound hle hl,Option.map_some]) h
theorem RO.buildSlice {e n:Nat} {zs vs:List AV} {ps:List (Nat × Nat × Opd)} (h:RO tbl c l s (setL L d (.slice H.next 0 n n true)) (H.new (.cells (mkCells vs) vs.length e true [] 0))) (hl:layL L (reps zs n) ps=some vs:=by (conv=>lhs;whnf)<;>rfl) (ho:allOne vs=true:=by rfl):RO tbl c (⟨d,.buildSlice e n zs ps,none,[],[]⟩::l) s L H :=
  RO.op (fun env hle=>by simp only [evalOp,layL_sound hle hl,ho,if_true]) h
theorem RO.mkFunc {f:Nat} {a b:List Opd} {av bv:List AV} (h:RO tbl c l s (setL L d (.func f av bv)) H) (ha:a.map (gvL L)=av:=by rfl) (had:av.all AV.defd=true:=by rfl) (hb:b.map (gvL L)=bv:=by rfl) (hbd:bv.all AV.defd=true:=by rfl):RO tbl c (⟨d,.mkFunc f a b,none,[],[]⟩::l) s L H :=
  RO.op (fun env hle=>by
    have e:∀ {a:List Opd} {av:List AV},a.map (gvL L)=av→av.all AV.defd=true→a.map (gv env)=av:=fun {a av} ha had=>by
      subst ha
      exact List.map_congr_left fun x hx=>hle.gv rfl (List.all_eq_true.1 had _ (List.mem_map_of_mem hx))
    simp only [evalOp,e ha had,e hb hbd]) h
theorem RO.mkMap (h:RO tbl c l s (setL L d (.map H.next)) (H.new (.map [] 0))):RO tbl c (⟨d,.mkMap,none,[],[]⟩::l) s L H :=
  RO.op (fun env hle=>by simp only [evalOp]) h
theorem RO.mkIface {t:Nat} {x:Opd} {v:AV} (h:RO tbl c l s (setL L d (.iface t v)) H) (hx:gvL L x=v:=by (conv=>lhs;whnf)<;>rfl) (hv:v.defd=true:=by first | rfl | assumption):RO tbl c (⟨d,.mkIface t x,none,[],[]⟩::l) s L H :=
  RO.op (fun env hle=>by simp only [evalOp,hle.gv hx hv]) h
theorem RO.mkSlice {e bytes size:Nat} {zs:List AV} {x y:Opd} {n k:Nat} (h:RO tbl c l s (setL L d (.slice H.next 0 n k true)) (H.new (.cells (mkCells (reps zs k)) (k*size) e true [] 0))) (hx:gvL L x=.int 3 (.ofNat n):=by (conv=>lhs;whnf)<;>rfl) (hy:gvL L y=.int 3 (.ofNat k):=by (conv=>lhs;whnf)<;>rfl) (hk:n≤k:=by omega) (hb:k*bytes≤70368744177664:=by omega) (hc:k≤70368744177664:=by omega):RO tbl c (⟨d,.mkSlice e bytes size zs x y,none,[],[]⟩::l) s L H :=
  RO.op (fun env hle=>by
    have h1:(Nat.ble n k&&small (k*bytes)&&small k)=true:=by simp only [small,Bool.and_eq_true];exact ⟨⟨Nat.ble_eq_true_of_le hk,Nat.ble_eq_true_of_le hb⟩,Nat.ble_eq_true_of_le hc⟩
    simp only [evalOp,hle.gv hx rfl,hle.gv hy rfl,h1,if_true]) h
theorem RO.append {e bytes size:Nat} {zs:List AV} {x y:Opd} {sv yv:AV} {n:Nat} {vs:List AV} {r:AV × Heap} (hv:source H size yv=some (n,vs)) (ha:appendV e bytes size H sv n vs=some r) (h:RO tbl c l s (setL L d r.1) r.2) (hx:gvL L x=sv:=by (conv=>lhs;whnf)<;>rfl) (hs:sv.defd=true:=by first | rfl | assumption) (hy:gvL L y=yv:=by (conv=>lhs;whnf)<;>rfl) (hyd:yv.defd=true:=by first | rfl | assumption):RO tbl c (⟨d,.append e bytes size zs false x y,none,[],[]⟩::l) s L H :=
  RO.op (fun env hle=>by simp only [evalOp,Bool.false_eq_true,if_false,hle.gv hx hs,hle.gv hy hyd,hv,ha]) h
theorem RO.nilCheck {x:Opd} {v:AV} (h:RO tbl c l s (setL L d v) H) (hx:gvL L x=v:=by (conv=>lhs;whnf)<;>rfl) (hv:(match v with | .ptr .. | .func .. | .yield _ | .iface .. | .map _ | .slice ..=>true | _=>false)=true:=by first | rfl | assumption):RO tbl c (⟨d,.nilCheck x,none,[],[]⟩::l) s L H :=
  RO.op (fun env hle=>by
    have hd:v.defd=true:=by cases v<;>first | rfl | cases hv
    simp only [evalOp,hle.gv hx hd]
    cases v<;>first | rfl | cases hv) h
theorem RO.minmax {isMax:Bool} {xs:List Opd} {v r:AV} {vs:List AV} (h:RO tbl c l s (setL L d r) H) (hx:xs.map (gvL L)=v::vs:=by rfl) (hd:(v::vs).all AV.defd=true:=by first | rfl | assumption) (hr:minmaxV isMax v vs=some r:=by (conv=>lhs;whnf)<;>rfl):RO tbl c (⟨d,.minmax isMax xs,none,[],[]⟩::l) s L H :=
  RO.op (fun env hle=>by
    have e:xs.map (gv env)=v::vs:=by
      rw [← hx]
      refine List.map_congr_left fun x hx'=>hle.gv rfl ?_
      rw [← hx] at hd
      exact List.all_eq_true.1 hd _ (List.mem_map_of_mem hx')
    simp only [evalOp,e,hr,Option.map_some]) h
def bndL (L:Kn) (x:Option Opd) (d y:Nat):Option Nat :=
  match x with
  | some x=>bound (gvL L x) y
  | none=>some d
theorem bndL_sound {env:Tree AV} (hle:Le L env) {x:Option Opd} {d y n:Nat} (h:bndL L x d y=some n):boundO env x d y=some n:=by
  cases x with
  | none=>exact h
  | some x =>
    simp only [bndL] at h
    simp only [boundO]
    rw [hle.gv (x:=x) rfl (by cases hg:gvL L x<;>rw [hg] at h<;>first | rfl | cases h)]
    exact h
theorem RO.sliceSl {e size:Nat} {x:Opd} {lo hi mx:Option Opd} {i:Pos} {o n cp:Nat} {ex:Bool} {a b m:Nat} (hx:gvL L x=.slice i o n cp ex) (hm:bndL L mx cp cp=some m) (hb:bndL L hi n m=some b) (ha:bndL L lo 0 b=some a) (he:(ex||mx.isSome||lo.isNone||elemIs H i e)=true)
    (h:RO tbl c l s (setL L d (.slice i (if ex&&decide (m=a) then o else o+a*size) (b-a) (m-a) (ex||mx.isSome))) H):RO tbl c (⟨d,.sliceSl e size x lo hi mx,none,[],[]⟩::l) s L H :=
  RO.op (fun env hle=>by simp only [evalOp,hle.gv hx rfl,bndL_sound hle hm,bndL_sound hle hb,bndL_sound hle ha,Option.bind_eq_bind,Option.bind_some,he,if_true]) h
theorem RO.sliceNil {e size:Nat} {x:Opd} {lo hi mx:Option Opd} {a b m:Nat} (hx:gvL L x=.nilslice) (hm:bndL L mx 0 0=some m) (hb:bndL L hi 0 m=some b) (ha:bndL L lo 0 b=some a) (h:RO tbl c l s (setL L d .nilslice) H):RO tbl c (⟨d,.sliceSl e size x lo hi mx,none,[],[]⟩::l) s L H :=
  RO.op (fun env hle=>by simp only [evalOp,hle.gv hx rfl,bndL_sound hle hm,bndL_sound hle hb,bndL_sound hle ha,Option.bind_eq_bind,Option.bind_some]) h
theorem RO.sliceArr {n size:Nat} {x:Opd} {lo hi mx:Option Opd} {i:Pos} {o a b m:Nat} (hx:gvL L x=.ptr i o) (hm:bndL L mx n n=some m) (hb:bndL L hi n m=some b) (ha:bndL L lo 0 b=some a)
    (h:RO tbl c l s (setL L d (.slice i (if m=a then o else o+a*size) (b-a) (m-a) true)) H):RO tbl c (⟨d,.sliceArr n size x lo hi mx,none,[],[]⟩::l) s L H :=
  RO.op (fun env hle=>by simp only [evalOp,hle.gv hx rfl,bndL_sound hle hm,bndL_sound hle hb,bndL_sound hle ha,Option.bind_eq_bind,Option.bind_some]) h
theorem RO.convInt {k m:Nat} {x:Opd} {a:Int} (h:RO tbl c l s (setL L d (.int k (wrapF k a))) H) (hx:gvL L x=.int m a:=by (conv=>lhs;whnf)<;>rfl):RO tbl c (⟨d,.convInt k x,none,[],[]⟩::l) s L H :=
  RO.op (fun env hle=>by simp only [evalOp,hle.gv hx rfl]) h
theorem RO.copy {size:Nat} {x y:Opd} {i:Pos} {o n cp:Nat} {ex:Bool} {yv:AV} {m:Nat} {vs:List AV} {H':Heap} (hx:gvL L x=.slice i o n cp ex) (hy:gvL L y=yv) (hyd:yv.defd=true) (hv:source H size yv=some (m,vs)) (hm:min m n≠0) (hw:writeAt H i o (vs.take (min m n*size))=some H')
    (h:RO tbl c l s (setL L d (.int 3 (.ofNat (min m n)))) H'):RO tbl c (⟨d,.copy size x y,none,[],[]⟩::l) s L H :=
  RO.op (fun env hle=>by simp only [evalOp,hle.gv hx rfl,hle.gv hy hyd,hv,if_neg hm,hw]) h
theorem RO.copy0 {size:Nat} {x y:Opd} {xv yv:AV} {m:Nat} {vs:List AV} (hx:gvL L x=xv) (hy:gvL L y=yv) (hyd:yv.defd=true) (hv:source H size yv=some (m,vs)) (hm:∃ n,lenOf xv=some n∧min m n=0)
    (h:RO tbl c l s (setL L d (.int 3 (.ofNat 0))) H):RO tbl c (⟨d,.copy size x y,none,[],[]⟩::l) s L H :=
  RO.op (fun env hle=>by
    obtain ⟨n,h1,h2⟩:=hm
    have hd:xv.defd=true:=by cases xv<;>first | rfl | cases h1
    simp only [evalOp,hle.gv hx hd,hle.gv hy hyd,hv]
    cases xv<;>simp only [lenOf,Option.some.injEq,reduceCtorEq] at h1
    · subst h1;simp only [h2,if_true]
    · rfl) h
theorem RO.clearSl {zs:List AV} {x:Opd} {i:Pos} {o n cp:Nat} {ex:Bool} {H':Heap} (hx:gvL L x=.slice i o n cp ex) (hn:n≠0) (hw:writeAt H i o (reps zs n)=some H') (h:RO tbl c l s (setL L d .undef) H'):RO tbl c (⟨d,.clearSl zs x,none,[],[]⟩::l) s L H :=
  RO.op (fun env hle=>by simp only [evalOp,hle.gv hx rfl,if_neg hn,hw]) h
theorem RO.clearSl0 {zs:List AV} {x:Opd} {v:AV} (h:RO tbl c l s (setL L d .undef) H) (hx:gvL L x=v:=by (conv=>lhs;whnf)<;>rfl) (hn:lenOf v=some 0:=by first | rfl | assumption):RO tbl c (⟨d,.clearSl zs x,none,[],[]⟩::l) s L H :=
  RO.op (fun env hle=>by
    have hd:v.defd=true:=by cases v<;>first | rfl | cases hn
    simp only [evalOp,hle.gv hx hd]
    cases v<;>simp only [lenOf,Option.some.injEq,reduceCtorEq] at hn
    · subst hn;simp only [if_true]
    · rfl) h
theorem RO.typeAssert {t u:Nat} {zero:AV} {x:Opd} {v:AV} (hx:gvL L x=.iface u v) (hu:Nat.beq u t=true) (h:RO tbl c l s (setL L d v) H):RO tbl c (⟨d,.typeAssert t zero false x,none,[],[]⟩::l) s L H :=
  RO.op (fun env hle=>by simp only [evalOp,hle.gv hx rfl,hu,if_true,Bool.false_eq_true,if_false]) h
theorem RO.strOp {op:BinOp} {x y:Opd} {a b:AV} {v:AV} (h:RO tbl c l s (setL L d v) H) (hx:gvL L x=a:=by (conv=>lhs;whnf)<;>rfl) (ha:a.defd=true:=by first | rfl | assumption) (hy:gvL L y=b:=by (conv=>lhs;whnf)<;>rfl) (hb:b.defd=true:=by first | rfl | assumption) (hv:strV op a b=some v:=by (conv=>lhs;whnf)<;>rfl):RO tbl c (⟨d,.strOp op x y,none,[],[]⟩::l) s L H :=
  RO.op (fun env hle=>by simp only [evalOp,hle.gv hx ha,hle.gv hy hb,hv,Option.map_some]) h
theorem RO.lenStr {x:Opd} {t:List Nat} (h:RO tbl c l s (setL L d (.int 3 (.ofNat t.length))) H) (hx:gvL L x=.str t:=by (conv=>lhs;whnf)<;>rfl):RO tbl c (⟨d,.lenStr x,none,[],[]⟩::l) s L H :=
  RO.op (fun env hle=>by simp only [evalOp,hle.gv hx rfl]) h
theorem RO.guardF {op:AOp} {g:Pos} {w b:Bool} {hd:List Pos} {re:List ARe} (h:RO tbl c l s (setL L d .undef) H) (hg:gvL L (.t g)=.bool b:=by (conv=>lhs;whnf)<;>rfl) (hb:b≠w:=by decide):RO tbl c (⟨d,op,some (g,w),hd,re⟩::l) s L H:=fun env hle=>by
  obtain ⟨n,hn⟩:=h _ (hle.set d .undef)
  refine ⟨n+1,?_⟩
  have e:env.get .undef g=.bool b:=hle.get hg rfl
  have hbw:(b==w)=false:=by simpa using hb
  simp only [Xo,Go.Abs.ops,guardOk,guardDefd,e,hbw,Bool.false_eq_true,if_false,AV.defd,if_true]
  exact hn
theorem RO.guardT {op:AOp} {g:Pos} {w:Bool} {hd:List Pos} {re:List ARe} (h:RO tbl c (⟨d,op,none,hd,re⟩::l) s L H) (hg:gvL L (.t g)=.bool w:=by (conv=>lhs;whnf)<;>rfl):RO tbl c (⟨d,op,some (g,w),hd,re⟩::l) s L H:=fun env hle=>by
  obtain ⟨n,hn⟩:=h env hle
  refine ⟨n,?_⟩
  have e:env.get .undef g=.bool w:=hle.get hg rfl
  cases n with
  | zero=>simp only [Xo,Go.Abs.ops] at hn
  | succ n =>
    simp only [Xo,Go.Abs.ops,guardOk,e,beq_self_eq_true,if_true] at hn ⊢
    exact hn
theorem RO.opR {op:AOp} {hd:List Pos} {re:List ARe} {v:AV} {H':Heap} (hop:∀ f a,op≠.call f a) (hop2:∀ a,op≠.nextMap a) (he:∀ env,Le L env→evalOp op env (hideAll env H hd).1=some (v,H')∧showAll H' (hideAll env H hd).2=H∧recheck (setDst env d v) H re=true) (h:RO tbl c l s (setL L d v) H):RO tbl c (⟨d,op,none,hd,re⟩::l) s L H:=fun env hle=>by
  obtain ⟨n,hn⟩:=h _ (hle.set d v)
  obtain ⟨h1,h2,h3⟩:=he env hle
  refine ⟨n+1,?_⟩
  cases op<;>first | exact absurd rfl (hop _ _) | exact absurd rfl (hop2 _) | (simp only [Xo,Go.Abs.ops,guardOk,if_true,h1,h2,h3];exact hn)
end Go.Abs
namespace Go.Abs
theorem readCells_of {c:Tree AV} {n:Nat}:∀ {l:List AV} {o:Nat},o+l.length≤n→(∀ i (h:i<l.length),c.getN .undef (o+i)=l[i])→readCells c n o l.length=some l
  | [],o,_,_=>by simp [readCells]
  | z::l,o,h,hg=>by
    simp only [List.length_cons,readCells]
    have h0:c.getN .undef o=z:=hg 0 (by simp)
    have hlt:o<n:=by simp at h;omega
    have ih:=readCells_of (c:=c) (n:=n) (l:=l) (o:=o+1) (by simp at h;omega) (fun i hi=>by
      have:=hg (i+1) (by simpa using hi)
      rw [show o+(i+1)=o+1+i by omega] at this
      simpa using this)
    rw [if_pos hlt,ih,h0]
def Sl (H:Heap) (size:Nat) (vs:List AV) (n:Nat) (sv:AV):Prop :=
  (sv=.nilslice∧n=0∧vs=[])∨∃ i o cap ex c m e rw par fz,sv=.slice i o n cap ex∧H.get i=.cells c m e rw par fz∧o+n*size≤m∧vs.length=n*size∧(∀ j (h:j<vs.length),c.getN .undef (o+j)=vs[j])∧i.idx<H.next.idx∧n≤cap
variable {H H':Heap} {size n e bytes:Nat} {vs ws:List AV} {sv:AV}
theorem Sl.length (h:Sl H size vs n sv):vs.length=n*size:=by
  rcases h with ⟨_,rfl,rfl⟩ | ⟨_,_,_,_,_,_,_,_,_,_,_,_,_,h,_⟩
  · simp
  · exact h
theorem Sl.defd (h:Sl H size vs n sv):sv.defd=true:=by
  rcases h with ⟨rfl,_⟩ | ⟨_,_,_,_,_,_,_,_,_,_,rfl,_⟩<;>rfl
theorem Sl.oneCell (h:Sl H size vs n sv):sv.oneCell=true:=by
  rcases h with ⟨rfl,_⟩ | ⟨_,_,_,_,_,_,_,_,_,_,rfl,_⟩<;>rfl
theorem Sl.cells (h:Sl H size vs n sv):sv.cells=[sv]:=by
  rcases h with ⟨rfl,_⟩ | ⟨_,_,_,_,_,_,_,_,_,_,rfl,_⟩<;>rfl
theorem Sl.len (h:Sl H size vs n sv):lenOf sv=some n:=by
  rcases h with ⟨rfl,rfl,_⟩ | ⟨_,_,_,_,_,_,_,_,_,_,rfl,_⟩<;>rfl
theorem Sl.source (h:Sl H size vs n sv):source H size sv=some (n,vs):=by
  rcases h with ⟨rfl,rfl,rfl⟩ | ⟨i,o,cap,ex,c,m,e,rw',par,fz,rfl,hg,hm,hl,hc,_⟩
  · rfl
  · have:=readCells_of (c:=c) (n:=m) (l:=vs) (o:=o) (by omega) hc
    rw [hl] at this
    simp only [Go.Abs.source,readAt,hg,this]
theorem Sl.frame (h:Sl H size vs n sv) (hn:H.next.idx≤H'.next.idx) (hf:∀ j:Pos,j.idx<H.next.idx→H'.get j=H.get j):Sl H' size vs n sv:=by
  rcases h with h | ⟨i,o,cap,ex,c,m,e,rw',par,fz,h1,hg,hm,hl,hc,hi,hcap⟩
  · exact .inl h
  · exact .inr ⟨i,o,cap,ex,c,m,e,rw',par,fz,h1,by rw [hf i hi];exact hg,hm,hl,hc,by omega,hcap⟩
theorem Sl.at (h:Sl H size vs n sv) (hn:0<n):∃ i o cap ex,sv=.slice i o n cap ex∧n≤cap∧i.idx<H.next.idx∧(∀ j (hj:j<vs.length),cellAt H i (o+j)=some vs[j])∧∀ j k,(j+k)≤vs.length→readAt H i (o+j) k=some ((vs.drop j).take k):=by
  rcases h with ⟨_,rfl,_⟩ | ⟨i,o,cap,ex,c,m,e,rw',par,fz,h1,hg,hm,hl,hc,hi,hcap⟩
  · omega
  · refine ⟨i,o,cap,ex,h1,hcap,hi,fun j hj=>?_,fun j k hjk=>?_⟩
    · have hb:Nat.blt (o+j) m=true:=Eq.mpr Nat.blt_eq (by omega)
      simp only [cellAt,hg,hb,if_true,hc j hj]
    · have:=readCells_of (c:=c) (n:=m) (l:=(vs.drop j).take k) (o:=o+j) (by simp;omega) (fun x hx=>by
        simp only [List.length_take,List.length_drop] at hx
        rw [Nat.add_assoc,hc (j+x) (by omega)];simp)
      simp only [List.length_take,List.length_drop] at this
      rw [Nat.min_eq_left (by omega)] at this
      simp only [readAt,hg,this]
def Own (H:Heap) (fp:List Pos) (e size:Nat) (vs:List AV) (n:Nat) (full:Bool) (sv:AV):Prop :=
  (fp=[]∧vs=[]∧n=0∧sv=.nilslice) ∨
  ∃ i c par cap ex,fp=i::par∧sv=.slice i 0 n cap ex∧H.get i=.cells c (cap*size) e true par 0∧n≤cap∧vs.length=n*size∧(∀ j (h:j<vs.length),c.getN .undef j=vs[j])∧(∀ p∈fp,p.idx<H.next.idx)∧(full=true→ex=true∨n=cap)
variable {fp:List Pos} {full:Bool}
theorem Own.sl (h:Own H fp e size vs n full sv):Sl H size vs n sv:=by
  rcases h with ⟨_,rfl,rfl,rfl⟩ | ⟨i,c,par,cap,ex,rfl,rfl,hg,hn,hl,hc,hp,_⟩
  · exact .inl ⟨rfl,rfl,rfl⟩
  · refine .inr ⟨i,0,cap,ex,c,_,e,true,par,0,rfl,hg,?_,hl,fun j hj=>by rw [Nat.zero_add];exact hc j hj,hp i (List.mem_cons_self ..),hn⟩
    rw [Nat.zero_add];exact Nat.mul_le_mul_right _ hn
theorem Own.frame (h:Own H fp e size vs n full sv) (hn:H.next.idx≤H'.next.idx) (hf:∀ j∈fp,H'.get j=H.get j):Own H' fp e size vs n full sv:=by
  rcases h with h | ⟨i,c,par,cap,ex,rfl,rfl,hg,hcap,hl,hc,hp,hfull⟩
  · exact .inl h
  · exact .inr ⟨i,c,par,cap,ex,rfl,rfl,by rw [hf i (List.mem_cons_self ..)];exact hg,hcap,hl,hc,fun p hp'=>Nat.lt_of_lt_of_le (hp p hp') hn,hfull⟩
theorem Own.part (h:Own H fp e size vs n full sv):Own H fp e size vs n false sv:=by
  rcases h with h | ⟨i,c,par,cap,ex,h1,h2,h3,h4,h5,h6,h7,_⟩
  · exact .inl h
  · exact .inr ⟨i,c,par,cap,ex,h1,h2,h3,h4,h5,h6,h7,fun h=>by cases h⟩
structure Grew (H H':Heap):Prop where
  nx:H.next.idx≤H'.next.idx
  old:∀ j:Pos,j.idx<H.next.idx→H'.get j=H.get j
theorem Grew.refl (H:Heap):Grew H H:=⟨Nat.le_refl _,fun _ _=>rfl⟩
theorem Grew.trans {A B C:Heap} (h:Grew A B) (k:Grew B C):Grew A C:=⟨Nat.le_trans h.nx k.nx,fun j hj=>(k.old j (Nat.lt_of_lt_of_le hj h.nx)).trans (h.old j hj)⟩
theorem Heap.next_new (H:Heap) (o:AObj):(H.new o).next.idx=H.next.idx+1:=Pos.idx_succ _
theorem Grew.new (H:Heap) (o:AObj):Grew H (H.new o):=⟨by rw [Heap.next_new];omega,fun j hj=>by rw [Heap.get_new,if_neg (ne_idx (by omega))]⟩
theorem Grew.sl (h:Grew H H') (k:Sl H size vs n sv):Sl H' size vs n sv:=k.frame h.nx h.old
theorem Grew.own (h:Grew H H') (k:Own H fp e size vs n full sv):Own H' fp e size vs n full sv:=by
  refine k.frame h.nx fun j hj=>h.old j ?_
  rcases k with ⟨rfl,_⟩ | ⟨_,_,_,_,_,rfl,_,_,_,_,_,hp,_⟩
  · cases hj
  · exact hp j hj
theorem Grew.cellAt (h:Grew H H') {i:Pos} (hi:i.idx<H.next.idx) (o:Nat):cellAt H' i o=Go.Abs.cellAt H i o:=cellAt_congr (h.old i hi) o
theorem Own.below (h:Own H fp e size vs n full sv):∀ j∈fp,j.idx<H.next.idx:=by
  rcases h with ⟨rfl,_⟩ | ⟨_,_,_,_,_,_,_,_,_,_,_,hp,_⟩
  · intro j hj;cases hj
  · exact hp
theorem allOne_all:∀ {l:List AV},allOne l=true↔∀ v∈l,v.oneCell=true
  | []=>by simp [allOne]
  | a::l=>by simp [allOne,allOne_all (l:=l)]
theorem small_of {n:Nat} (h:n≤70368744177664):small n=true:=Nat.ble_eq_true_of_le h
theorem mkCells_at {l:List AV} {j:Nat} (h:j<l.length):(mkCells l).getN .undef j=l[j]:=by
  rw [mkCells_get l j h];simp [List.getD_eq_getElem?_getD,h]
theorem Own.new {vs:List AV} (hv:vs.length=n*size) (ex full:Bool):Own (H.new (.cells (mkCells vs) (n*size) e true [] 0)) [H.next] e size vs n full (.slice H.next 0 n n ex) :=
  .inr ⟨H.next,mkCells vs,[],n,ex,rfl,rfl,by rw [Heap.get_new,if_pos rfl],Nat.le_refl _,hv,fun j hj=>mkCells_at hj,fun p hp=>by rw [List.mem_singleton] at hp;subst hp;rw [Heap.next_new];omega,fun _=>.inr rfl⟩
theorem Own.append (h:Own H fp e size vs n true sv) {k:Nat} (hw:ws.length=k*size) (h1:allOne ws=true) (hb:(n+k)*bytes≤70368744177664) (hs:n+k≤70368744177664) :
    ∃ sv' H' fp',appendV e bytes size H sv k ws=some (sv',H')∧Own H' fp' e size (vs++ws) (n+k) true sv'∧H.next.idx≤H'.next.idx∧(∀ j∈fp',j∈fp∨(H.next.idx≤j.idx∧j.idx<H'.next.idx))∧∀ j:Pos,j∉fp→j.idx<H.next.idx→H'.get j=H.get j:=by
  rcases h with ⟨rfl,rfl,rfl,rfl⟩ | ⟨i,c,par,cap,ex,rfl,rfl,hg,hcap,hl,hc,hp,hfull⟩
  · by_cases hk:k=0
    · subst hk
      have hws:ws=[]:=List.eq_nil_of_length_eq_zero (by omega)
      subst hws
      refine ⟨.nilslice,H,[],by simp [appendV,allOne],.inl ⟨rfl,rfl,rfl,rfl⟩,Nat.le_refl _,fun j hj=>(by cases hj),fun _ _ _=>rfl⟩
    · have hk0:Nat.beq k 0=false:=by cases h:Nat.beq k 0 with | false=>rfl | true=>exact absurd (Nat.eq_of_beq_eq_true h) hk
      refine ⟨.slice H.next 0 k k false,H.new (.cells (mkCells ws) (k*size) e true [] 0),[H.next],?_,?_,?_,?_,?_⟩
      · rw [Nat.zero_add] at hb hs
        simp only [appendV,h1,Bool.not_true,Bool.false_eq_true,if_false,hk0,small_of hb,small_of hs,Bool.and_self,if_true]
      · rw [Nat.zero_add];exact Own.new hw false true
      · exact (Grew.new H _).nx
      · intro j hj;rw [List.mem_singleton] at hj;subst hj;right;rw [Heap.next_new];omega
      · intro j _ hj;exact (Grew.new H _).old j hj
  · by_cases hfit:n+k≤cap
    · have hb1:Nat.ble (n+k) cap=true:=Nat.ble_eq_true_of_le hfit
      by_cases hk:k=0
      · subst hk
        have hws:ws=[]:=List.eq_nil_of_length_eq_zero (by omega)
        subst hws
        refine ⟨.slice i 0 (n+0) cap ex,H,i::par,?_,?_,Nat.le_refl _,fun j hj=>.inl hj,fun _ _ _=>rfl⟩
        · simp only [appendV,h1,Bool.not_true,Bool.false_eq_true,if_false,hb1,if_true,Nat.beq_refl]
        · exact .inr ⟨i,c,par,cap,ex,rfl,rfl,hg,hcap,by simpa using hl,by simpa using hc,hp,hfull⟩
      · have hk0:Nat.beq k 0=false:=by cases h:Nat.beq k 0 with | false=>rfl | true=>exact absurd (Nat.eq_of_beq_eq_true h) hk
        have hroom:n*size+ws.length≤cap*size:=by rw [hw,← Nat.add_mul];exact Nat.mul_le_mul_right _ hfit
        have hwr:writeAt H i (0+n*size) ws=some ((H.drops par).set i (.cells (writeCells c (0+n*size) ws) (cap*size) e true [] 0)):=by
          have hd:(decide (0≤0+n*size)&&decide (0+n*size+ws.length≤cap*size)&&allOne ws)=true:=by
            simp only [Bool.and_eq_true,decide_eq_true_eq,h1,and_true];omega
          simp only [writeAt,hg,hd,if_true]
        refine ⟨.slice i 0 (n+k) cap ex,(H.drops par).set i (.cells (writeCells c (0+n*size) ws) (cap*size) e true [] 0),[i],by simp only [appendV,h1,Bool.not_true,Bool.false_eq_true,if_false,hb1,if_true,hk0,hwr],?_,?_,?_,?_⟩
        · refine .inr ⟨i,writeCells c (0+n*size) ws,[],cap,ex,rfl,rfl,by rw [Heap.get_set,if_pos rfl],hfit,by rw [List.length_append,hl,hw,Nat.add_mul],fun j hj=>?_,fun p hp'=>?_,fun hf=>?_⟩
          · rw [writeCells_get]
            rw [List.length_append] at hj
            by_cases hjn:j<vs.length
            · rw [if_neg (by omega),hc j hjn,List.getElem_append_left hjn]
            · rw [if_pos (by omega),List.getElem_append_right (by omega)]
              have:j-(0+n*size)<ws.length:=by omega
              simp only [List.getD_eq_getElem?_getD,this,getElem?_pos,Option.getD_some]
              congr 1;omega
          · rw [List.mem_singleton] at hp';subst hp'
            rw [Heap.next_set,Heap.next_drops];exact hp _ (List.mem_cons_self ..)
          · rcases hfull hf with h | h
            · exact .inl h
            · right;omega
        · rw [Heap.next_set,Heap.next_drops];exact Nat.le_refl _
        · intro j hj;rw [List.mem_singleton] at hj;subst hj;exact .inl (List.mem_cons_self ..)
        · intro j hj _
          rw [Heap.get_set,if_neg fun e:j=i=>hj (by rw [e];exact List.mem_cons_self ..),Heap.get_drops,if_neg fun e=>hj (List.mem_cons_of_mem _ e)]
    · have hb1:Nat.ble (n+k) cap=false:=by cases h:Nat.ble (n+k) cap with | false=>rfl | true=>exact absurd (Nat.le_of_ble_eq_true h) hfit
      have hrd:readCells c (cap*size) 0 (n*size)=some vs:=by
        have:=readCells_of (c:=c) (n:=cap*size) (l:=vs) (o:=0) (by rw [Nat.zero_add,hl];exact Nat.mul_le_mul_right _ hcap) (fun j hj=>by rw [Nat.zero_add];exact hc j hj)
        rw [hl] at this;exact this
      have hsm:(!(small ((n+k)*bytes)&&small (n+k)))=false:=by rw [small_of hb,small_of hs];rfl
      cases ex with
      | true =>
        refine ⟨.slice H.next 0 (n+k) (n+k) false,H.new (.cells (mkCells (vs++ws)) ((n+k)*size) e true [] 0),[H.next],by simp only [appendV,h1,Bool.not_true,Bool.false_eq_true,if_false,hb1,hsm,hg,hrd,if_true],?_,(Grew.new H _).nx,?_,fun j _ hj=>(Grew.new H _).old j hj⟩
        · exact Own.new (by rw [List.length_append,hl,hw,Nat.add_mul]) false true
        · intro j hj;rw [List.mem_singleton] at hj;subst hj;right;rw [Heap.next_new];omega
      | false =>
        have hcn:n=cap:=by rcases hfull rfl with h | h;cases h;exact h
        subst hcn
        have hcond:(true&&Nat.beq n n&&Nat.beq (0+n*size) (n*size)&&Nat.beq e e&&Nat.ble 0 (n*size))=true:=by
          simp [Nat.beq_refl]
        have hin:i.idx<H.next.idx:=hp i (List.mem_cons_self ..)
        refine ⟨.slice H.next 0 (n+k) (n+k) false,(H.set i (.cells c (n*size) e false par 0)).new (.cells (mkCells (vs++ws)) ((n+k)*size) e true (i::par) 0),H.next::i::par,by simp only [appendV,h1,Bool.not_true,Bool.false_eq_true,if_false,hb1,hsm,hg,hrd,hcond,if_true],?_,?_,?_,?_⟩
        · refine .inr ⟨H.next,mkCells (vs++ws),i::par,n+k,false,rfl,rfl,by rw [Heap.get_new,Heap.next_set,if_pos rfl],Nat.le_refl _,by rw [List.length_append,hl,hw,Nat.add_mul],fun j hj=>mkCells_at hj,fun p hp'=>?_,fun _=>.inr rfl⟩
          rw [Heap.next_new,Heap.next_set]
          rcases List.mem_cons.1 hp' with e | e
          · subst e;omega
          · have:=hp p e;omega
        · rw [Heap.next_new,Heap.next_set];omega
        · intro j hj
          rcases List.mem_cons.1 hj with e | e
          · subst e;right;rw [Heap.next_new,Heap.next_set];omega
          · exact .inl e
        · intro j hj hjn
          rw [Heap.get_new,Heap.next_set,if_neg (ne_idx (by omega)),Heap.get_set,if_neg fun e:j=i=>hj (by rw [e];exact List.mem_cons_self ..)]
theorem RO.appendO {tbl:Nat→AFunc} {c:Cx} {s:List SI} {L:Kn} {d:Option Pos} {l:List AOper} {zs:List AV} {x y:Opd} {yv:AV} {k:Nat} (ho:Own H fp e size vs n true sv) (hs:Sl H size ws k yv) (h1:allOne ws=true) (h:∀ sv' H' fp',Own H' fp' e size (vs++ws) (n+k) true sv'→H.next.idx≤H'.next.idx→(∀ j∈fp',j∈fp∨(H.next.idx≤j.idx∧j.idx<H'.next.idx))→(∀ j:Pos,j∉fp→j.idx<H.next.idx→H'.get j=H.get j)→RO tbl c l s (setL L d sv') H') (hx:gvL L x=sv:=by (conv=>lhs;whnf)<;>rfl) (hy:gvL L y=yv:=by (conv=>lhs;whnf)<;>rfl) (hb:(n+k)*bytes≤70368744177664:=by omega) (hn:n+k≤70368744177664:=by omega) :
    RO tbl c (⟨d,.append e bytes size zs false x y,none,[],[]⟩::l) s L H:=by
  obtain ⟨sv',H',fp',h2,h3,h4,h5,h6⟩:=ho.append (bytes:=bytes) hs.length h1 hb hn
  exact RO.append hs.source h2 (h sv' H' fp' h3 h4 h5 h6) hx ho.sl.defd hy hs.defd
end Go.Abs
