/- A part of the proof (an abstract machine, walks): no statement of its own, no conditions. -/
import Derived.Test.YtndbmjcpgefblaaGreatDoorA11
set_option linter.all false
namespace Go.Abs
variable [Ov]
variable {P:Program} {env env':Tree AV} {H H1 H':Heap} {v:AV}
theorem gv_congr:∀ {x:Opd},(∀ p∈x.slots,env.get .undef p=env'.get .undef p)→gv env x=gv env' x
  | .t p,h=>h p (by simp [Opd.slots])
  | .c _,_=>rfl
theorem gvs_congr:∀ {l:List Opd},(∀ p∈l.flatMap Opd.slots,env.get .undef p=env'.get .undef p)→l.map (gv env)=l.map (gv env')
  | [],_=>rfl
  | x::l,h=>by
    simp only [List.flatMap_cons,List.mem_append] at h
    simp only [List.map_cons,gv_congr (x:=x) fun p hp=>h p (.inl hp),gvs_congr (l:=l) fun p hp=>h p (.inr hp)]
theorem boundO_congr {x:Option Opd} (h:∀ p∈optSlots x,env.get .undef p=env'.get .undef p) (d y:Nat):boundO env x d y=boundO env' x d y:=by
  cases x with
  | none=>rfl
  | some x=>simp only [boundO,gv_congr (x:=x) h]
theorem layAll_congr:∀ {ps:List (Nat × Nat × Opd)},(∀ p∈ps.flatMap (fun p=>p.2.2.slots),env.get .undef p=env'.get .undef p)→∀ l,layAll env l ps=layAll env' l ps
  | [],_,_=>rfl
  | (off,size,x)::ps,h,l=>by
    simp only [List.flatMap_cons,List.mem_append] at h
    simp only [layAll,gv_congr (x:=x) fun p hp=>h p (.inl hp)]
    split
    · split
      · exact layAll_congr (fun p hp=>h p (.inr hp)) _
      · rfl
    · rfl
theorem evalOp_congr {op:AOp} (h:∀ p∈op.slots,env.get .undef p=env'.get .undef p) (H:Heap):evalOp op env H=evalOp op env' H:=by
  cases op<;>simp only [AOp.slots,List.mem_append] at h
  case build zs ps=>simp only [evalOp,layAll_congr h]
  case buildSlice e n zs ps=>simp only [evalOp,layAll_congr h]
  case mkFunc f a b=>simp only [evalOp,gvs_congr (l:=a) fun p hp=>h p (.inl hp),gvs_congr (l:=b) fun p hp=>h p (.inr hp)]
  case minmax b l=>simp only [evalOp,gvs_congr h]
  case call f l=>rfl
  case sliceArr n s x a b c =>
    simp only [evalOp,gv_congr (x:=x) fun p hp=>h p (.inl hp),boundO_congr (x:=a) fun p hp=>h p (.inr (.inl hp)),boundO_congr (x:=b) fun p hp=>h p (.inr (.inr (.inl hp))),boundO_congr (x:=c) fun p hp=>h p (.inr (.inr (.inr hp)))]
  case sliceSl e s x a b c =>
    simp only [evalOp,gv_congr (x:=x) fun p hp=>h p (.inl hp),boundO_congr (x:=a) fun p hp=>h p (.inr (.inl hp)),boundO_congr (x:=b) fun p hp=>h p (.inr (.inr (.inl hp))),boundO_congr (x:=c) fun p hp=>h p (.inr (.inr (.inr hp)))]
  case sliceStr x a b=>simp only [evalOp,gv_congr (x:=x) fun p hp=>h p (.inl hp),boundO_congr (x:=a) fun p hp=>h p (.inr (.inl hp)),boundO_congr (x:=b) fun p hp=>h p (.inr (.inr hp))]
  case pick c a b=>simp only [evalOp,gv_congr (x:=c) fun p hp=>h p (.inl hp),gv_congr (x:=a) fun p hp=>h p (.inr (.inl hp)),gv_congr (x:=b) fun p hp=>h p (.inr (.inr hp))]
  case mapUpd d m k v=>simp only [evalOp,gv_congr (x:=m) fun p hp=>h p (.inl hp),gv_congr (x:=k) fun p hp=>h p (.inr (.inl hp)),gv_congr (x:=v) fun p hp=>h p (.inr (.inr hp))]
  case entryStore m k v=>simp only [evalOp,gv_congr (x:=m) fun p hp=>h p (.inl hp),gv_congr (x:=k) fun p hp=>h p (.inr (.inl hp)),gv_congr (x:=v) fun p hp=>h p (.inr (.inr hp))]
  all_goals first
    | rfl
    | (simp only [evalOp,gv_congr h];done)
    | (rename_i x y;simp only [evalOp,gv_congr (x:=x) fun p hp=>h p (.inl hp),gv_congr (x:=y) fun p hp=>h p (.inr hp)];done)
theorem plain_spec {op:AOp} (hp:op.plain=true) (he:evalOp op env H=some (v,H1)):H1=H∧∀ H',evalOp op env H'=some (v,H'):=by
  cases op<;>(try (simp [AOp.plain] at hp;done))
  case sliceSl e s x lo hi mx =>
    cases lo with
    | some q=>simp [AOp.plain] at hp
    | none =>
      simp only [evalOp,Option.isNone_none,Bool.or_true,Bool.true_or,if_true] at he ⊢
      split at he
      · simp only [Option.bind_eq_bind,Option.bind_eq_some_iff,Option.some.injEq,Prod.mk.injEq] at he
        obtain ⟨m,e1,hh,e2,l,e3,rfl,rfl⟩:=he
        exact ⟨rfl,fun H'=>by simp [e1,e2,e3]⟩
      · simp only [Option.bind_eq_bind,Option.bind_eq_some_iff,Option.some.injEq,Prod.mk.injEq] at he
        obtain ⟨m,e1,hh,e2,l,e3,rfl,rfl⟩:=he
        exact ⟨rfl,fun H'=>by simp [e1,e2,e3]⟩
      · cases he
  case sliceStr x a b =>
    simp only [evalOp] at he ⊢
    split at he
    · simp only [Option.bind_eq_bind,Option.bind_eq_some_iff,Option.some.injEq,Prod.mk.injEq] at he
      obtain ⟨hh,e2,l,e3,rfl,rfl⟩:=he
      exact ⟨rfl,fun H'=>by simp [e2,e3]⟩
    · cases he
  case idxStr x a =>
    simp only [evalOp] at he ⊢
    split at he
    · rw [Option.map_eq_some_iff] at he
      obtain ⟨q,h1,h2⟩:=he
      rw [Prod.mk.injEq] at h2
      obtain ⟨rfl,rfl⟩:=h2
      exact ⟨rfl,fun H'=>by rw [h1];rfl⟩
    · cases he
  all_goals
    simp only [evalOp] at he ⊢
    first
      | (simp only [Option.some.injEq,Prod.mk.injEq] at he;obtain ⟨rfl,rfl⟩:=he;exact ⟨rfl,fun _=>rfl⟩)
      | (simp only [Option.map_eq_some_iff,Prod.mk.injEq] at he;obtain ⟨a,h1,rfl,rfl⟩:=he;exact ⟨rfl,fun _=>by simp [h1]⟩)
      | (split at he<;>first
          | (cases he;done)
          | (simp only [Option.some.injEq,Prod.mk.injEq] at he;obtain ⟨rfl,rfl⟩:=he;exact ⟨rfl,fun _=>rfl⟩)
          | (simp only [Option.map_eq_some_iff,Prod.mk.injEq] at he;obtain ⟨a,h1,rfl,rfl⟩:=he;exact ⟨rfl,fun _=>by simp [h1]⟩)
          | (simp only [Option.bind_eq_bind,Option.bind_eq_some_iff,Option.some.injEq,Prod.mk.injEq] at he
             obtain ⟨m,e1,hh,e2,l,e3,rfl,rfl⟩:=he
             exact ⟨rfl,fun H'=>by simp [e1,e2,e3]⟩)
          | (simp only [Option.bind_eq_bind,Option.bind_eq_some_iff,Option.some.injEq,Prod.mk.injEq] at he
             obtain ⟨hh,e2,l,e3,rfl,rfl⟩:=he
             exact ⟨rfl,fun H'=>by simp [e2,e3]⟩)
          | (split at he<;>first
              | (cases he;done)
              | (simp only [Option.some.injEq,Prod.mk.injEq] at he;obtain ⟨rfl,rfl⟩:=he;exact ⟨rfl,fun _=>by simp [*]⟩)
              | (simp only [Option.map_eq_some_iff,Prod.mk.injEq] at he;obtain ⟨a,h1,rfl,rfl⟩:=he;exact ⟨rfl,fun _=>by simp [*]⟩)
              | (split at he<;>first
                  | (cases he;done)
                  | (simp only [Option.some.injEq,Prod.mk.injEq] at he;obtain ⟨rfl,rfl⟩:=he;exact ⟨rfl,fun _=>by simp [*]⟩))))
def AOp.target (env:Tree AV):AOp→Option Pos
  | .load1 a | .loadN _ a | .lenMap a | .convStr a=>nameOf (gv env a)
  | .lookup _ _ _ m _=>nameOf (gv env m)
  | .sliceSl _ _ x _ _ mx=>match gv env x with
    | .slice id _ _ _ false=>if mx.isSome then none else some id
    | _=>none
  | _=>none
theorem readAt_get {id:Pos} {off n:Nat} {l:List AV} (h:readAt H id off n=some l):H.get id≠.none∧∀ H',H'.get id=H.get id→readAt H' id off n=some l:=by
  unfold readAt at h ⊢
  split at h
  · rename_i hi;exact ⟨by rw [hi];simp,fun H' e=>by rw [e,hi];exact h⟩
  · cases h
theorem loadV_get {a:AV} {n:Nat} {g:Bool} (h:loadV H a n g=some v):∃ id off,a=.ptr id off∧H.get id≠.none∧∀ H',H'.get id=H.get id→loadV H' a n g=some v:=by
  unfold loadV at h ⊢
  split at h
  · rename_i id off
    split at h
    · rename_i l hl
      obtain ⟨h1,h2⟩:=readAt_get hl
      exact ⟨id,off,rfl,h1,fun H' e=>by rw [h2 H' e];exact h⟩
    · cases h
  · cases h
theorem reads_spec {op:AOp} (hp:op.reads=true) (he:evalOp op env H=some (v,H1)) :
    H1=H∧(∀ j,op.target env=some j→H.get j≠.none)∧∀ H',(∀ j,op.target env=some j→H'.get j=H.get j)→evalOp op env H'=some (v,H'):=by
  cases op<;>(try (simp [AOp.reads] at hp;done))
  case load1 a =>
    simp only [evalOp,Option.map_eq_some_iff,Prod.mk.injEq] at he ⊢
    obtain ⟨q,h1,rfl,rfl⟩:=he
    obtain ⟨id,off,ha,h2,h3⟩:=loadV_get h1
    refine ⟨rfl,fun j hj=>?_,fun H' hj=>⟨q,h3 H' (hj id ?_),by trivial,by trivial⟩⟩
    · simp only [AOp.target,ha,nameOf,Option.some.injEq] at hj;subst hj;exact h2
    · simp only [AOp.target,ha,nameOf]
  case loadN n a =>
    simp only [evalOp,Option.map_eq_some_iff,Prod.mk.injEq] at he ⊢
    obtain ⟨q,h1,rfl,rfl⟩:=he
    obtain ⟨id,off,ha,h2,h3⟩:=loadV_get h1
    refine ⟨rfl,fun j hj=>?_,fun H' hj=>⟨q,h3 H' (hj id ?_),by trivial,by trivial⟩⟩
    · simp only [AOp.target,ha,nameOf,Option.some.injEq] at hj;subst hj;exact h2
    · simp only [AOp.target,ha,nameOf]
  case lenMap x =>
    simp only [evalOp] at he ⊢
    split at he
    · rename_i hx
      simp only [Option.some.injEq,Prod.mk.injEq] at he
      obtain ⟨rfl,rfl⟩:=he
      refine ⟨rfl,fun j hj=>?_,fun H' hj=>by simp [hx]⟩
      simp [AOp.target,hx,nameOf] at hj
    · rename_i id hx
      split at he
      · rename_i hi
        simp only [Option.some.injEq,Prod.mk.injEq] at he
        obtain ⟨rfl,rfl⟩:=he
        refine ⟨rfl,fun j hj=>?_,fun H' hj=>?_⟩
        · simp only [AOp.target,hx,nameOf,Option.some.injEq] at hj;subst hj;rw [hi];simp
        · have:=hj id (by simp only [AOp.target,hx,nameOf]);simp [hx,this,hi]
      · rename_i hi
        simp only [Option.some.injEq,Prod.mk.injEq] at he
        obtain ⟨rfl,rfl⟩:=he
        refine ⟨rfl,fun j hj=>?_,fun H' hj=>?_⟩
        · simp only [AOp.target,hx,nameOf,Option.some.injEq] at hj;subst hj;rw [hi];simp
        · have:=hj id (by simp only [AOp.target,hx,nameOf]);simp [hx,this,hi]
      · cases he
    · cases he
  case convStr x =>
    simp only [evalOp] at he ⊢
    split at he
    · rename_i hx
      simp only [Option.some.injEq,Prod.mk.injEq] at he
      obtain ⟨rfl,rfl⟩:=he
      refine ⟨rfl,fun j hj=>?_,fun H' hj=>by simp [hx]⟩
      simp [AOp.target,hx,nameOf] at hj
    · rename_i id off len c e hx
      split at he
      · rename_i l hl
        simp only [Option.map_eq_some_iff,Prod.mk.injEq] at he
        obtain ⟨q,h1,rfl,rfl⟩:=he
        obtain ⟨h2,h3⟩:=readAt_get hl
        refine ⟨rfl,fun j hj=>?_,fun H' hj=>?_⟩
        · simp only [AOp.target,hx,nameOf,Option.some.injEq] at hj;subst hj;exact h2
        · have:=h3 H' (hj id (by simp only [AOp.target,hx,nameOf]));simp [hx,this,h1]
      · cases he
    · cases he
  case lookup d z ok m k =>
    simp only [evalOp] at he ⊢
    split at he
    · cases he
    rename_i hko
    split at he
    · rename_i hx
      simp only [Option.some.injEq,Prod.mk.injEq] at he
      obtain ⟨rfl,rfl⟩:=he
      refine ⟨rfl,fun j hj=>?_,fun H' hj=>by simp [hx,hko]⟩
      simp [AOp.target,hx,nameOf] at hj
    · rename_i id hx
      have ht:AOp.target env (.lookup d z ok m k)=some id:=by simp only [AOp.target,hx,nameOf]
      split at he
      all_goals (try (cases he;done))
      all_goals
        rename_i hi
        refine ⟨?_,fun j hj=>?_,fun H' hj=>?_⟩
        · split at he<;>first | (cases he;done) | (simp only [Option.some.injEq,Prod.mk.injEq] at he;exact he.2.symm)
        · rw [ht] at hj;injection hj with hj;subst hj;rw [hi];simp
        · have:=hj id ht
          simp only [hx,hko,this,hi,Bool.false_eq_true,if_false]
          split at he<;>first | (cases he;done) | (simp only [Option.some.injEq,Prod.mk.injEq] at he;rename_i hf;simp only [hf,he.1])
    · cases he
  case sliceSl e s x lo hi mx =>
    simp only [evalOp] at he ⊢
    split at he
    · rename_i hx
      simp only [Option.bind_eq_bind,Option.bind_eq_some_iff,Option.some.injEq,Prod.mk.injEq] at he
      obtain ⟨m,e1,hh,e2,l,e3,rfl,rfl⟩:=he
      refine ⟨rfl,fun j hj=>?_,fun H' hj=>by simp [hx,e1,e2,e3]⟩
      simp [AOp.target,hx] at hj
    · rename_i id off len cap ex hx
      simp only [Option.bind_eq_bind,Option.bind_eq_some_iff] at he
      obtain ⟨m,e1,hh,e2,l,e3,he⟩:=he
      split at he
      · rename_i hc
        simp only [Option.some.injEq,Prod.mk.injEq] at he
        obtain ⟨rfl,rfl⟩:=he
        refine ⟨rfl,fun j hj=>?_,fun H' hj=>?_⟩
        · cases lo with
          | none=>simp [AOp.reads] at hp
          | some lo =>
            simp only [AOp.target,hx] at hj
            cases ex with
            | true=>simp at hj
            | false =>
              simp only at hj
              split at hj
              · cases hj
              · rename_i hm
                injection hj with hj;subst hj
                simp only [Bool.false_or,Option.isNone_some,Bool.or_false,Bool.or_eq_true,hm,false_or] at hc
                intro h0
                simp [elemIs,h0] at hc
        · have hc':(ex||mx.isSome||lo.isNone||elemIs H' id e)=true:=by
            cases ex with
            | true=>simp
            | false =>
              cases hm:mx.isSome with
              | true=>simp
              | false =>
                rw [hm] at hc
                have:=hj id (by simp [AOp.target,hx,hm])
                simpa [elemIs,this] using hc
          simp only [hx,e1,e2,e3,Option.bind_eq_bind,Option.bind_some,hc',if_true]
      · cases he
    · cases he
inductive NewV where
  | ptr
  | slice (len cap:Nat) (exact:Bool)
  | map
def NewV.of (n:NewV) (i:Pos):AV :=
  match n with
  | .ptr=>.ptr i 0
  | .slice l c e=>.slice i 0 l c e
  | .map=>.map i
theorem NewV.name (n:NewV) (i:Pos):nameOf (n.of i)=some i:=by cases n<;>rfl
def AObj.young:AObj→Prop
  | .cells _ _ _ rw par _=>rw=true∧par=[]
  | .map es _=>es=[]
  | .strIter _ _ _=>True
  | _=>False
theorem makes_spec {op:AOp} (hp:op.makes=true) (he:evalOp op env H=some (v,H1)) :
    ∃ (n:NewV) (obj:AObj),v=n.of H.next∧H1=H.new obj∧obj.young∧∀ H',evalOp op env H'=some (n.of H'.next,H'.new obj):=by
  cases op<;>(try (simp [AOp.makes] at hp;done))
  case alloc e zs =>
    simp only [evalOp,Option.some.injEq,Prod.mk.injEq] at he ⊢
    obtain ⟨rfl,rfl⟩:=he
    exact ⟨.ptr,_,rfl,rfl,⟨rfl,rfl⟩,fun _=>⟨rfl,rfl⟩⟩
  case mkMap =>
    simp only [evalOp,Option.some.injEq,Prod.mk.injEq] at he ⊢
    obtain ⟨rfl,rfl⟩:=he
    exact ⟨.map,_,rfl,rfl,rfl,fun _=>⟨rfl,rfl⟩⟩
  case box e x =>
    simp only [evalOp] at he ⊢
    split at he
    · rename_i h1
      simp only [Option.some.injEq,Prod.mk.injEq] at he
      obtain ⟨rfl,rfl⟩:=he
      exact ⟨.ptr,_,rfl,rfl,⟨rfl,rfl⟩,fun _=>by simp only [h1,if_true];rfl⟩
    · cases he
  case buildSlice e n zs ps =>
    simp only [evalOp] at he ⊢
    split at he
    · rename_i l hl
      split at he
      · rename_i h1
        simp only [Option.some.injEq,Prod.mk.injEq] at he
        obtain ⟨rfl,rfl⟩:=he
        exact ⟨.slice n n true,_,rfl,rfl,⟨rfl,rfl⟩,fun _=>by simp only [h1,if_true];rfl⟩
      · cases he
    · cases he
  case convBytes e x =>
    simp only [evalOp] at he ⊢
    split at he
    · rename_i s hs
      simp only [Option.some.injEq,Prod.mk.injEq] at he
      obtain ⟨rfl,rfl⟩:=he
      exact ⟨.slice s.length s.length false,_,rfl,rfl,⟨rfl,rfl⟩,fun _=>rfl⟩
    · cases he
  case mkSlice e b s zs x y =>
    simp only [evalOp] at he ⊢
    split at he
    · rename_i l c hl hc
      split at he
      · rename_i h1
        simp only [Option.some.injEq,Prod.mk.injEq] at he
        obtain ⟨rfl,rfl⟩:=he
        exact ⟨.slice l c true,_,rfl,rfl,⟨rfl,rfl⟩,fun _=>by simp only [h1,if_true];rfl⟩
      · cases he
    · cases he
  case rangeStr x =>
    simp only [evalOp] at he ⊢
    split at he
    · rename_i s hs
      simp only [Option.some.injEq,Prod.mk.injEq] at he
      obtain ⟨rfl,rfl⟩:=he
      exact ⟨.ptr,_,rfl,rfl,trivial,fun _=>rfl⟩
    · cases he
theorem sameV_eq {a b:AV} (h:sameV a b=true):a=b:=by
  have h1:∀ {a b:AV},same1 a b=true→a=b:=by
    intro a b h
    cases a<;>cases b<;>simp only [same1,Bool.false_eq_true] at h<;>first
      | rfl
      | (simp only [beq_iff_eq] at h;rw [h])
      | (simp only [Bool.and_eq_true,Nat.beq_eq,ieq_iff,beq_iff_eq] at h;obtain ⟨rfl,rfl⟩:=h;rfl)
      | (simp only [beqs_iff,beq_iff_eq] at h;rw [h])
      | (simp only [Bool.and_eq_true,Nat.beq_eq,Pos.beq_iff] at h;obtain ⟨rfl,rfl⟩:=h;rfl)
      | (simp only [Pos.beq_iff] at h;rw [h])
      | (simp only [Bool.and_eq_true,Nat.beq_eq,Pos.beq_iff,beq_iff_eq] at h;obtain ⟨⟨⟨⟨rfl,rfl⟩,rfl⟩,rfl⟩,rfl⟩:=h;rfl)
  have h2:∀ {l m:List AV},sameL l m=true→l=m:=by
    intro l
    induction l with
    | nil=>intro m h;cases m<;>simp [sameL] at h;rfl
    | cons a l ih=>intro m h;cases m with
      | nil=>simp [sameL] at h
      | cons b m=>simp only [sameL,Bool.and_eq_true] at h;rw [h1 h.1,ih h.2]
  unfold sameV at h
  split at h
  · rw [h2 h]
  · rw [h2 h]
  · simp only [Bool.and_eq_true,Nat.beq_eq] at h;obtain ⟨⟨rfl,h3⟩,h4⟩:=h;rw [h2 h3,h2 h4]
  · exact h1 h
end Go.Abs
namespace Go.Abs
variable [Ov]
variable {P:Program} {Wr:Acc} {ρ:Names} {H:Heap} {w:World}
theorem sub_par {H H2:Heap} (hg:∀ j,H2.get j=H.get j∨H2.get j=.none) (i j:Pos) (hi:i∈(H2.get j).par):i∈(H.get j).par:=by
  rcases hg j with e | e
  · rw [e] at hi;exact hi
  · rw [e] at hi;cases hi
theorem Inv.sub (h:Inv P Wr ρ H w) {H2:Heap} (hn:H2.next=H.next) (hg:∀ j,H2.get j=H.get j∨H2.get j=.none):Inv P Wr ρ H2 w:=by
  have hg':∀ j,H2.get j≠.none→H2.get j=H.get j:=fun j hj=>(hg j).resolve_right hj
  have hp:=sub_par hg
  constructor
  · intro i hi;have e:=hg' i hi;rw [e] at hi ⊢;exact h.obj i hi
  · intro i j b x y hij hi hj
    have e:=hg' i hi
    have e':=hg' j hj
    rw [e] at hi ⊢;rw [e'] at hj ⊢
    exact h.sep i j b x y hij hi hj
  · intro i j hi
    obtain ⟨h1,h2⟩:=h.par i j (hp i j hi)
    rw [hn]
    exact ⟨h1,fun hj=>by have e:=hg' i hj;rw [e] at hj ⊢;exact h2 hj⟩
  · intro i b x hi;have e:=hg' i hi;rw [e] at hi ⊢;exact h.wr i b x hi
  · intro i hi;rw [hn] at hi
    obtain ⟨h1,h2⟩:=h.fresh i hi
    exact ⟨by rcases hg i with e | e<;>rw [e];exact h1,h2⟩
  · exact h.new
  · exact h.glob
  · intro i b x ob hi;have e:=hg' i hi;rw [e] at hi ⊢;exact h.info i b x ob hi
  · exact h.dom
  · intro i b x hi;have e:=hg' i hi;rw [e] at hi;exact h.rd i b x hi
  · intro i hi
    obtain ⟨h1,h2,h3⟩:=h.un i hi
    exact ⟨by rcases hg i with e | e<;>rw [e];exact h1,by rw [hn];exact h2,fun j hj=>h3 j (hp i j hj)⟩
  · exact h.dead
def Acc.shield (Wr:Acc) (ρ:Names) (hl:Pos→Prop) (dd:Pos→Prop):Acc where
  w b:=Wr.w b∧∀ i x,hl i→ρ i≠some (b,x)
  r b:=Wr.r b∧∀ i x,hl i→ρ i≠some (b,x)
  un i:=Wr.un i∨hl i∨dd i
  dead i:=Wr.dead i∨dd i
theorem young_fixed {o:AObj} (h:o.young):o.fixed=false∧o.par=[]∧o≠.none:=by
  cases o<;>simp [AObj.young] at h<;>simp [AObj.fixed,AObj.par]
  exact h
theorem Inv.shield (h:Inv P Wr ρ H w) {hl dd:Pos→Prop} (hy:∀ i,hl i→(H.get i).young) (hd:∀ i,dd i→H.get i=.none∧ρ i=none∧i.idx<H.next.idx∧∀ j,i∉(H.get j).par)
    {H2:Heap} (hn:H2.next=H.next) (hg:∀ j,H2.get j=H.get j∨H2.get j=.none) (hh:∀ i,hl i→H2.get i=.none):Inv P (Wr.shield ρ hl dd) ρ H2 w:=by
  have hs:=h.sub hn hg
  have hg':∀ j,H2.get j≠.none→H2.get j=H.get j:=fun j hj=>(hg j).resolve_right hj
  have hp:=sub_par hg
  have apart:∀ j b x,H2.get j≠.none→ρ j=some (b,x)→∀ i y,hl i→ρ i≠some (b,y):=by
    intro j b x hj ej i y hi ei
    obtain ⟨f1,f2,f3⟩:=young_fixed (hy i hi)
    have hij:i≠j:=fun e=>hj (e ▸ hh i hi)
    have hj':H.get j≠.none:=by rw [← hg' j hj];exact hj
    rcases h.sep i j b y x hij f3 hj' ei ej with ⟨hm,_⟩ | ⟨hm,_⟩
    · have:=(h.par i j hm).2 f3;rw [f1] at this;cases this
    · rw [f2] at hm;cases hm
  constructor
  · exact hs.obj
  · exact hs.sep
  · exact hs.par
  · intro i b x hi hf e;exact ⟨hs.wr i b x hi hf e,fun k y hk=>apart i b x hi e k y hk⟩
  · exact hs.fresh
  · intro k hk
    have hdom:∀ i x,hl i→ρ i≠some (k,x):=fun i x _ e=>by have:=h.dom i k x e;omega
    exact ⟨⟨(h.new k hk).1,hdom⟩,⟨(h.new k hk).2,hdom⟩⟩
  · exact hs.glob
  · exact hs.info
  · exact hs.dom
  · intro i b x hi e;exact ⟨hs.rd i b x hi e,fun k y hk=>apart i b x hi e k y hk⟩
  · intro i hi
    rcases hi with hi | hi | hi
    · exact hs.un i hi
    · obtain ⟨f1,f2,f3⟩:=young_fixed (hy i hi)
      refine ⟨hh i hi,by rw [hn];exact h.idx_lt f3,fun j hj=>?_⟩
      have:=(h.par i j (hp i j hj)).2 f3;rw [f1] at this;cases this
    · obtain ⟨h0,h1,h2,h3⟩:=hd i hi
      exact ⟨by rcases hg i with e | e<;>rw [e];exact h0,by rw [hn];exact h2,fun j hj=>h3 j (hp i j hj)⟩
  · intro i hi
    rcases hi with hi | hi
    · exact ⟨.inl (hs.dead i hi).1,(hs.dead i hi).2⟩
    · exact ⟨.inr (.inr hi),(hd i hi).2.1⟩
theorem Inv.unshield (h:Inv P Wr ρ H w) {hl dd:Pos→Prop} (hy:∀ i,hl i→(H.get i).young) {ρ':Names} {H':Heap} {w':World} (hext:Ext ρ ρ') (h':Inv P (Wr.shield ρ hl dd) ρ' H' w') (hk:Kept (Wr.shield ρ hl dd) w w')
    {H2:Heap} (hn:H2.next=H'.next) (h1:∀ i,hl i→H2.get i=H.get i) (h2:∀ i,¬ hl i→H2.get i=H'.get i):Inv P Wr ρ' H2 w'∧Kept Wr w w':=by
  have hlive:∀ i,hl i→∃ b x ob,ρ i=some (b,x)∧ρ' i=some (b,x)∧ρ'.k b=ρ.k b∧w.heap[b]?=some ob∧w'.heap[b]?=some ob∧OR P ρ (H.get i) x ob:=by
    intro i hi
    obtain ⟨b,x,ob,e,hl',hb,hr⟩:=h.blk (young_fixed (hy i hi)).2.2
    exact ⟨b,x,ob,e,(hext _ _ e).1,(hext _ _ e).2,hb,by rw [hk.block b hl' fun hw=>hw.2 i x hi e];exact hb,hr⟩
  have hpar:∀ i j,i∈(H2.get j).par→¬ hl i∧¬ hl j∧i∈(H'.get j).par:=by
    intro i j hj
    by_cases hjl:hl j
    · rw [h1 j hjl,(young_fixed (hy j hjl)).2.1] at hj;cases hj
    · rw [h2 j hjl] at hj
      exact ⟨fun hi=>(h'.un i (.inr (.inl hi))).2.2 j hj,hjl,hj⟩
  refine ⟨⟨?_,?_,?_,?_,?_,?_,?_,?_,?_,?_,?_,?_⟩,⟨hk.os,hk.tape,hk.output,hk.size,fun k h1 hw=>hk.block k h1 fun hw'=>hw hw'.1⟩⟩
  · intro i hi
    by_cases hil:hl i
    · obtain ⟨b,x,ob,_,e2,_,_,e5,e6⟩:=hlive i hil
      rw [h1 i hil];exact ⟨b,x,ob,e2,e5,OR.mono hext e6⟩
    · rw [h2 i hil] at hi ⊢;exact h'.obj i hi
  · intro i j b x y hij hi hj ei ej
    by_cases hil:hl i
    · obtain ⟨b1,x1,_,a1,a2,_⟩:=hlive i hil
      rw [a2] at ei;injection ei with ei;injection ei with ei1 ei2;subst ei1;subst ei2
      by_cases hjl:hl j
      · obtain ⟨b2,x2,_,c1,c2,_⟩:=hlive j hjl
        rw [c2] at ej;injection ej with ej;injection ej with ej1 ej2;subst ej1;subst ej2
        rw [h1 i hil] at hi ⊢;rw [h1 j hjl] at hj ⊢
        exact h.sep i j _ _ _ hij hi hj a1 c1
      · rw [h2 j hjl] at hj
        exact absurd a1 ((h'.rd j _ y hj ej).2 i _ hil)
    · by_cases hjl:hl j
      · obtain ⟨b2,x2,_,c1,c2,_⟩:=hlive j hjl
        rw [c2] at ej;injection ej with ej;injection ej with ej1 ej2;subst ej1;subst ej2
        rw [h2 i hil] at hi
        exact absurd c1 ((h'.rd i _ x hi ei).2 j _ hjl)
      · rw [h2 i hil] at hi ⊢;rw [h2 j hjl] at hj ⊢
        exact h'.sep i j b x y hij hi hj ei ej
  · intro i j hj
    obtain ⟨a1,a2,a3⟩:=hpar i j hj
    obtain ⟨b1,b2⟩:=h'.par i j a3
    rw [hn]
    exact ⟨b1,fun hi=>by rw [h2 i a1] at hi ⊢;exact b2 hi⟩
  · intro i b x hi hf e
    by_cases hil:hl i
    · obtain ⟨b1,x1,_,a1,a2,_⟩:=hlive i hil
      rw [a2] at e;injection e with e;injection e with e1 e2;subst e1;subst e2
      rw [h1 i hil] at hi hf
      exact h.wr i _ _ hi hf a1
    · rw [h2 i hil] at hi hf;exact (h'.wr i b x hi hf e).1
  · intro i hi
    rw [hn] at hi
    obtain ⟨a1,a2⟩:=h'.fresh i hi
    have hil:¬ hl i:=fun hil=>by obtain ⟨_,_,_,_,e,_⟩:=hlive i hil;rw [a2] at e;cases e
    exact ⟨by rw [h2 i hil];exact a1,a2⟩
  · intro k hk';exact h.new k (Nat.le_trans hk.size hk')
  · exact h'.glob
  · intro i b x ob hi e hb
    by_cases hil:hl i
    · obtain ⟨b1,x1,ob1,a1,a2,a3,a4,a5,_⟩:=hlive i hil
      rw [a2] at e;injection e with e;injection e with e1 e2;subst e1;subst e2
      rw [a5] at hb;injection hb with hb;subst hb
      rw [h1 i hil] at hi ⊢
      rw [a3];exact h.info i _ _ _ hi a1 a4
    · rw [h2 i hil] at hi ⊢;exact h'.info i b x ob hi e hb
  · exact h'.dom
  · intro i b x hi e
    by_cases hil:hl i
    · obtain ⟨b1,x1,_,a1,a2,_⟩:=hlive i hil
      rw [a2] at e;injection e with e;injection e with e1 e2;subst e1;subst e2
      rw [h1 i hil] at hi
      exact h.rd i _ _ hi a1
    · rw [h2 i hil] at hi;exact (h'.rd i b x hi e).1
  · intro i hi
    obtain ⟨a1,a2,a3⟩:=h'.un i (.inl hi)
    have hil:¬ hl i:=fun hil=>(young_fixed (hy i hil)).2.2 (h.un i hi).1
    exact ⟨by rw [h2 i hil];exact a1,by rw [hn];exact a2,fun j hj=>a3 j (hpar i j hj).2.2⟩
  · intro i hi
    exact ⟨(h.dead i hi).1,(h'.dead i (.inl hi)).2⟩
mutual
theorem VR.inter {ρ1 ρ2 ρ3:Names} (h:∀ i x y,ρ1 i=some x→ρ2 i=some y→ρ3 i=some x∧ρ3.k x.1=ρ1.k x.1):∀ (v:AV) (c d:Value),VR ρ1 v c→VR ρ2 v d→VR ρ3 v c
  | .tuple l,.tuple cs,.tuple ds,k,q=>by simp only [VR] at k q ⊢;exact VRs.inter h l cs.toList ds.toList k q
  | .agg l,.agg cs,.agg ds,k,q=>by simp only [VR] at k q ⊢;exact VRs.inter h l cs.toList ds.toList k q
  | .bool _,.bool _,_,k,_=>by simpa only [VR] using k
  | .int _ _,.int _ _,_,k,_=>by simpa only [VR] using k
  | .str _,.string _,_,k,_=>by simpa only [VR] using k
  | .ptr i o,.pointer (some a),.pointer (some a'),k,q=>by
    simp only [VR] at k q ⊢;obtain ⟨b,x,e,rfl⟩:=k;obtain ⟨b',x',e',_⟩:=q;exact ⟨b,x,(h _ _ _ e e').1,rfl⟩
  | .nilptr,.pointer none,_,_,_=>by simp only [VR]
  | .slice i o len cap ex,.slice (some a) n c,.slice (some a') n' c',k,q=>by
    simp only [VR] at k q ⊢;obtain ⟨h1,h2,h3,h4,b,x,e,h5,h6⟩:=k;obtain ⟨_,_,_,_,b',x',e',_⟩:=q
    exact ⟨h1,h2,h3,h4,b,x,(h _ _ _ e e').1,h5,by rw [show ρ3.k b=ρ1.k b from (h _ _ _ e e').2];exact h6⟩
  | .nilslice,.slice none 0 0,_,_,_=>by simp only [VR]
  | .map i,.map (some b),.map (some b'),k,q=>by simp only [VR] at k q ⊢;exact (h _ _ _ k q).1
  | .nilmap,.map none,_,_,_=>by simp only [VR]
  | .func f a b,.func (.func g) c d,.func (.func g') c' d',k,q=>by
    simp only [VR] at k q ⊢;exact ⟨k.1,VRs.inter h a c.toList c'.toList k.2.1 q.2.1,VRs.inter h b d.toList d'.toList k.2.2 q.2.2⟩
  | .yield i,.func (.yield b) c d,.func (.yield b') c' d',k,q=>by simp only [VR] at k q ⊢;exact ⟨(h _ _ _ k.1 q.1).1,k.2⟩
  | .nilFunc,.nilFunc,_,_,_=>by simp only [VR]
  | .iface t v,.iface u c,.iface u' c',k,q=>by simp only [VR] at k q ⊢;exact ⟨k.1,VR.inter h v c c' k.2 q.2⟩
  | .nilIface,.nilIface,_,_,_=>by simp only [VR]
  | .junk,_,_,_,_=>by simp only [VR]
theorem VRs.inter {ρ1 ρ2 ρ3:Names} (h:∀ i x y,ρ1 i=some x→ρ2 i=some y→ρ3 i=some x∧ρ3.k x.1=ρ1.k x.1):∀ (l:List AV) (m n:List Value),VRs ρ1 l m→VRs ρ2 l n→VRs ρ3 l m
  | [],[],_,_,_=>by simp only [VRs]
  | v::l,c::m,d::n,k,q=>by simp only [VRs] at k q ⊢;exact ⟨VR.inter h v c d k.1 q.1,VRs.inter h l m n k.2 q.2⟩
end
theorem OR.inter {ρ1 ρ2 ρ3:Names} (h:∀ i x y,ρ1 i=some x→ρ2 i=some y→ρ3 i=some x∧ρ3.k x.1=ρ1.k x.1) {o:AObj} (hy:o.young) {x1 x2:Nat} {ob1 ob2:Obj} (k:OR P ρ1 o x1 ob1) (q:OR P ρ2 o x2 ob2):OR P ρ3 o x1 ob1:=by
  cases o with
  | cells c n e rw par fz =>
    cases ob1<;>simp only [OR] at k ⊢
    cases ob2<;>simp only [OR] at q
    obtain ⟨k1,k2,k3,k4⟩:=k
    obtain ⟨_,_,q3,_⟩:=q
    refine ⟨k1,k2,fun i hi=>?_,k4⟩
    obtain ⟨y,e1,v1⟩:=k3 i hi
    obtain ⟨z,_,v2⟩:=q3 i hi
    exact ⟨y,e1,VR.inter h _ _ _ v1 v2⟩
  | map es c =>
    simp only [AObj.young] at hy
    subst hy
    cases ob1<;>simp only [OR] at k ⊢
    refine ⟨k.1,k.2.1,k.2.2.1,?_⟩
    have:=k.2.2.2
    generalize (Array.toList _)=l at this ⊢
    cases l with
    | nil=>simp [EntsR]
    | cons a l=>simp [EntsR] at this
  | strIter s r p=>cases ob1<;>simp only [OR] at k ⊢;exact k
  | _=>simp [AObj.young] at hy
end Go.Abs
namespace Go.Abs
variable [Ov]
variable {P:Program} {Wr:Acc} {ρ:Names} {H:Heap} {w:World} {nt:Nat} {env:Tree AV} {a:Act} {o:Oper} {op:AOp}
theorem get_leaf_none (n:Pos):∀ p:Pos,Heap.get ⟨.leaf,n⟩ p=.none:=by
  have:∀ p:Pos,(Tree.leaf:Tree AObj).get .none p=.none:=by
    intro p
    induction p with
    | xH=>rfl
    | xO p ih=>exact ih
    | xI p ih=>exact ih
  exact this
theorem Inv.empty (h:Inv P Wr ρ H w) {n:Pos} (hn:H.next.idx≤n.idx) :
    Inv P ⟨fun b=>w.heap.size≤b,fun b=>w.heap.size≤b,fun j=>ρ j=none∧j.idx<n.idx,fun j=>ρ j=none∧j.idx<n.idx⟩ ρ ⟨.leaf,n⟩ w:=by
  constructor
  · intro i hi;exact absurd (get_leaf_none n i) hi
  · intro i j b x y _ hi;exact absurd (get_leaf_none n i) hi
  · intro i j hj;rw [get_leaf_none] at hj;cases hj
  · intro i b x hi;exact absurd (get_leaf_none n i) hi
  · intro i hi;exact ⟨get_leaf_none n i,(h.fresh i (Nat.le_trans hn hi)).2⟩
  · intro k hk;exact ⟨hk,hk⟩
  · exact h.glob
  · intro i b x ob hi;exact absurd (get_leaf_none n i) hi
  · exact h.dom
  · intro i b x hi;exact absurd (get_leaf_none n i) hi
  · intro i hi;exact ⟨get_leaf_none n i,hi.2,fun j hj=>by rw [get_leaf_none] at hj;cases hj⟩
  · intro i hi;exact ⟨hi,hi.1⟩
theorem make_at (h:Inv P Wr ρ H w) (hE:ERel ρ nt env a.tmps) (hc:cOp P nt o=some op) {n:NewV} {obj:AObj} (hy:obj.young) (he:∀ H':Heap,evalOp op env H'=some (n.of H'.next,H'.new obj))
    {i:Pos} (h1:ρ i=none) (h2:i.idx<H.next.idx) (h3:¬ Wr.un i) (h4:∀ j,i∉(H.get j).par):Opk P Wr ρ w (execOp a.eval o) (n.of i) (H.set i obj):=by
  obtain ⟨f1,f2,f3⟩:=young_fixed hy
  obtain ⟨c,w',hrun,ρa,xa,va,Ia,Ka⟩:=ok_op (Ctx.mk hE (h.empty (n:=H.next) (Nat.le_refl _))) hc (he _)
  obtain ⟨c2,w2,_,ρb,xb,_,Ib,_⟩:=ok_op (Ctx.mk hE (h.empty (n:=H.next.succ) (by rw [Pos.idx_succ];omega))) hc (he _)
  have ga:(Heap.new ⟨.leaf,H.next⟩ obj).get H.next=obj:=by rw [Heap.get_new,if_pos rfl]
  have gb:(Heap.new ⟨.leaf,H.next.succ⟩ obj).get H.next.succ=obj:=by rw [Heap.get_new,if_pos rfl]
  obtain ⟨ba,ya,oba,e1,e2,e3⟩:=Ia.obj H.next (by rw [ga];exact f3)
  obtain ⟨bb,yb,obb,_,_,d3⟩:=Ib.obj H.next.succ (by rw [gb];exact f3)
  rw [ga] at e3;rw [gb] at d3
  have hnew:w.heap.size≤ba:=Ia.rd H.next ba ya (by rw [ga];exact f3) e1
  have hrho:∀ j z,ρa j=some z→j≠H.next→ρ j=some z:=by
    intro j z hz hj
    cases hr:ρ j with
    | some z'=>have:=(xa _ _ hr).1;rw [this] at hz;exact hz
    | none =>
      exfalso
      rcases Nat.lt_trichotomy j.idx H.next.idx with hl | hl | hl
      · have:=(Ia.dead j ⟨hr,hl⟩).2;rw [this] at hz;cases hz
      · exact hj (Pos.idx_inj hl)
      · have:=(Ia.fresh j (by show H.next.succ.idx≤_;rw [Pos.idx_succ];omega)).2;rw [this] at hz;cases hz
  have hbN:ρb H.next=none:=(Ib.dead H.next ⟨(h.fresh _ (Nat.le_refl _)).2,by rw [Pos.idx_succ];omega⟩).2
  have hext:Ext ρ (ρ.add i ba ya (ρa.k ba)):=Names.add_ext ba ya _ h1 (fun j c y e hc=>by have:=(xa _ _ e).2;simp only at this;rw [hc] at this;exact this.symm)
  have hi':∀ j z,ρ j=some z→j≠i:=fun j z hz e=>by rw [e,h1] at hz;cases hz
  have hor:OR P (ρ.add i ba ya (ρa.k ba)) obj ya oba:=by
    refine OR.inter ?_ hy e3 d3
    intro j x y hx hyb
    have hj:j≠H.next:=fun e=>by rw [e,hbN] at hyb;cases hyb
    have:=hrho j x hx hj
    exact ⟨(hext _ _ this).1,by rw [(hext _ _ this).2,(xa _ _ this).2]⟩
  have hold:∀ k,k<w.heap.size→w'.heap[k]?=w.heap[k]?:=fun k hk=>Ka.block k hk (by show ¬ w.heap.size≤k;omega)
  refine ⟨c,w',hrun,ρ.add i ba ya (ρa.k ba),hext,?_,?_,⟨Ka.os,Ka.tape,Ka.output,Ka.size,fun k hk _=>hold k hk⟩⟩
  · cases n with
    | ptr =>
      obtain ⟨b,x,q1,q2⟩:=VR.ptr_inv va
      rw [e1] at q1;injection q1 with q1;injection q1 with q3 q4;subst q3;subst q4
      rw [q2];simp only [NewV.of,VR];exact ⟨_,_,Names.add_same ..,rfl⟩
    | slice l cp ex =>
      simp only [NewV.of] at va ⊢
      cases c with
      | slice ad l' c' =>
        cases ad with
        | none=>simp [VR] at va
        | some ad =>
          simp only [VR] at va ⊢
          obtain ⟨p1,p2,p3,p4,b,x,q1,q2,q3⟩:=va
          rw [e1] at q1;injection q1 with q1;injection q1 with q4 q5;subst q4;subst q5
          exact ⟨p1,p2,p3,p4,_,_,Names.add_same ..,q2,by rw [Names.add_k];exact q3⟩
      | _=>simp [VR] at va
    | map =>
      obtain ⟨b,q1,q2⟩:=VR.map_inv va
      rw [e1] at q1;injection q1 with q1;injection q1 with q3 q4;subst q3;subst q4
      rw [q2];simp only [NewV.of,VR];exact Names.add_same ..
  · have hg:∀ j,(H.set i obj).get j=if j=i then obj else H.get j:=fun j=>Heap.get_set _ _ _ _
    have hpar:∀ j k,j∈((H.set i obj).get k).par→k≠i∧j≠i∧j∈(H.get k).par:=by
      intro j k hj
      rw [hg] at hj
      by_cases e:k=i
      · rw [if_pos e,f2] at hj;cases hj
      · rw [if_neg e] at hj;exact ⟨e,fun e2=>h4 k (e2 ▸ hj),hj⟩
    have hadd:∀ j,j≠i→(ρ.add i ba ya (ρa.k ba)) j=ρ j:=fun j hj=>by simp [Names.add,hj]
    constructor
    · intro j hj
      rw [hg] at hj ⊢
      by_cases e:j=i
      · subst e;rw [if_pos rfl];exact ⟨ba,ya,oba,Names.add_same ..,e2,hor⟩
      · rw [if_neg e] at hj ⊢
        obtain ⟨b,x,ob,g1,g2,g3,g4⟩:=h.blk hj
        exact ⟨b,x,ob,by rw [hadd j e];exact g1,by rw [hold b g2];exact g3,OR.mono hext g4⟩
    · intro j k b x y hjk hj hk ej ek
      rw [hg] at hj hk
      rw [hg,hg]
      by_cases e:j=i
      · subst e
        have e':k≠j:=fun e=>hjk e.symm
        rw [if_neg e'] at hk
        rw [Names.add_same] at ej;injection ej with ej;injection ej with ej _
        rw [hadd k e'] at ek
        have:=h.dom k b y ek;omega
      · by_cases e':k=i
        · subst e'
          rw [if_neg e] at hj
          rw [Names.add_same] at ek;injection ek with ek;injection ek with ek _
          rw [hadd j e] at ej
          have:=h.dom j b x ej;omega
        · rw [if_neg e] at hj ⊢;rw [if_neg e'] at hk ⊢
          rw [hadd j e] at ej;rw [hadd k e'] at ek
          exact h.sep j k b x y hjk hj hk ej ek
    · intro j k hj
      obtain ⟨g1,g2,g3⟩:=hpar j k hj
      obtain ⟨q1,q2⟩:=h.par j k g3
      exact ⟨q1,fun hj'=>by rw [hg,if_neg g2] at hj' ⊢;exact q2 hj'⟩
    · intro j b x hj hf e
      rw [hg] at hj hf
      by_cases e':j=i
      · subst e'
        rw [Names.add_same] at e;injection e with e;injection e with e _
        exact (h.new b (by omega)).1
      · rw [if_neg e'] at hj hf;rw [hadd j e'] at e;exact h.wr j b x hj hf e
    · intro j hj
      have hne:j≠i:=fun e=>by subst e;have:H.next.idx≤j.idx:=hj;omega
      obtain ⟨q1,q2⟩:=h.fresh j hj
      exact ⟨by rw [hg,if_neg hne];exact q1,by rw [hadd j hne];exact q2⟩
    · intro k hk;exact h.new k (Nat.le_trans Ka.size hk)
    · intro g hgl;exact (hext _ _ (h.glob g hgl)).1
    · intro j b x ob hj e hb
      rw [hg] at hj ⊢
      by_cases e':j=i
      · subst e'
        rw [if_pos rfl]
        rw [Names.add_same] at e;injection e with e;injection e with e4 e5;subst e4;subst e5
        rw [Names.add_k]
        have:=Ia.info H.next _ _ ob (by rw [ga];exact f3) e1 hb
        rw [ga] at this;exact this
      · rw [if_neg e'] at hj ⊢
        rw [hadd j e'] at e
        rw [(hext _ _ e).2]
        exact h.info j b x ob hj e (by rw [← hold b (h.dom j b x e)];exact hb)
    · intro j b x e
      by_cases e':j=i
      · subst e'
        rw [Names.add_same] at e;injection e with e;injection e with e4 _;subst e4
        exact Ia.dom _ _ _ e1
      · rw [hadd j e'] at e;exact Nat.lt_of_lt_of_le (h.dom j b x e) Ka.size
    · intro j b x hj e
      rw [hg] at hj
      by_cases e':j=i
      · subst e'
        rw [Names.add_same] at e;injection e with e;injection e with e4 _
        exact (h.new b (by omega)).2
      · rw [if_neg e'] at hj;rw [hadd j e'] at e;exact h.rd j b x hj e
    · intro j hj
      obtain ⟨q1,q2,q3⟩:=h.un j hj
      have hne:j≠i:=fun e=>h3 (e ▸ hj)
      exact ⟨by rw [hg,if_neg hne];exact q1,q2,fun k hk=>q3 k (hpar j k hk).2.2⟩
    · intro j hj
      have hne:j≠i:=fun e=>h3 (e ▸ (h.dead j hj).1)
      exact ⟨(h.dead j hj).1,by rw [hadd j hne];exact (h.dead j hj).2⟩
end Go.Abs
