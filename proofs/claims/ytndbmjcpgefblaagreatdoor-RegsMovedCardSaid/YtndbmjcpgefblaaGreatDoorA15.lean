/- A part of the proof (an abstract machine, walks): no statement of its own, no conditions. -/
import Derived.Test.YtndbmjcpgefblaaGreatDoorA14
import Derived.Test.YtndbmjcpgefblaaGreatDoorA01
set_option linter.all false
namespace Go.Abs
variable [Ov]
variable {P:Program}
theorem draw_main {nt:Nat} {ops:Array Oper} {l:List AOper} {ord:List Nat} (hR:Reg P nt ops l ord) {Wr:Acc} {tbl:Nat→AFunc} {K:Fr→Heap→Prop} {marks:List Pos} {rnd:Option Pos} {env0:Tree AV} {b:Frame} (k:List Item) (cs:List Frame) :
    ∀ (f t:Nat) {L:Array Bool} {seen rest:List Nat} {n:Nat} {env:Tree AV} {H:Heap} {epi:Tree AV} {pn:List Pos} {ρ:Names} {w:World} {a:Act},(∀ m,m<n→CallOk P tbl m)→unlisted L ops.size≤f →
      Dr P Wr nt ops l ord tbl K marks rnd env0 L seen rest n env H epi pn ρ w a.tmps→MarksR ρ marks a.defers→OptR ρ rnd b.roundOf→(∀ i r,rest=i::r→Ch l i) →
      Ends P Wr ρ nt w b k cs (lone (b.atR a (.inRegion ops (Region.linearise.go .any ops f t L [])::k)) cs w) fun j fr H=>(match j with | .none=>True | _=>False)∧K fr H:=by
  have fin:∀ {L:Array Bool} {seen rest:List Nat} {n:Nat} {env:Tree AV} {H:Heap} {epi:Tree AV} {pn:List Pos} {ρ:Names} {w:World} {a:Act},(∀ i,i<ops.size→In L i) →
      Dr P Wr nt ops l ord tbl K marks rnd env0 L seen rest n env H epi pn ρ w a.tmps→MarksR ρ marks a.defers→OptR ρ rnd b.roundOf →
      Ends P Wr ρ nt w b k cs (lone (b.atR a (.inRegion ops []::k)) cs w) fun j fr H=>(match j with | .none=>True | _=>False)∧K fr H:=by
    intro L seen rest n env H epi pn ρ w a hall d hM hO
    have hlt:∀ i∈ord,i<ops.size:=fun i hi=>by
      obtain ⟨x,hx,_⟩:=get_ord hR hi
      obtain ⟨o,ho,_⟩:=hR.op hx
      rcases Nat.lt_or_ge i ops.size with q | q
      · exact q
      · rw [Array.getElem?_eq_none q] at ho;cases ho
    have hrest:rest=[]:=by
      cases rest with
      | nil=>rfl
      | cons i r =>
        have hi:i∈i::r:=List.mem_cons_self ..
        exact absurd (d.sub i (hall i (hlt i (rest_ord d.ord_eq hi)))) (rest_new hR d.ord_eq hi)
    subst hrest
    have hin:∀ i∈seen,In L i:=fun i hi=>hall i (hlt i (seen_ord d.ord_eq hi))
    have hpn:pn=[]:=List.eq_nil_iff_forall_not_mem.2 fun j hj=>by
      obtain ⟨i,hi,h1,_⟩:=(d.pn_iff j).1 hj
      exact h1 (hin i hi)
    subst hpn
    have hrun:=d.run
    simp only [addRe] at hrun
    cases n with
    | zero=>simp only [Go.Abs.ops] at hrun
    | succ n =>
    simp only [Go.Abs.ops] at hrun
    have hE:ERel ρ nt env a.tmps:=⟨d.E.1,fun t ht=>by rw [← d.pi_env _ fun i hi hn=>absurd (hin i hi) hn];exact d.E.2 t ht⟩
    exact .of_steps (.one stepR_region_end) (.ops_end (fr:=⟨env,marks,rnd⟩) ⟨hE,hM,hO⟩ d.inv ⟨trivial,hrun⟩ k cs)
  intro f
  induction f with
  | zero =>
    intro t L seen rest n env H epi pn ρ w a hcall hf d hM hO hh
    simp only [Region.linearise.go,List.reverse_nil]
    refine fin (fun i hi=>?_) d hM hO
    apply Classical.byContradiction
    intro hn
    have:=unlisted_pos hi hn
    omega
  | succ f ih =>
    intro t L seen rest n env H epi pn ρ w a hcall hf d hM hO hh
    simp only [Region.linearise.go]
    change Ends P Wr ρ nt w b k cs (lone (b.atR a (.inRegion ops (match (Region.ready .any ops L)[t % (Region.ready .any ops L).length]? with
      | some i=>Region.linearise.go .any ops f (t / (Region.ready .any ops L).length) (L.setIfInBounds i true) [i]
      | none=>[].reverse)::k)) cs w) _
    cases hi:(Region.ready .any ops L)[t % (Region.ready .any ops L).length]? with
    | none =>
      have hnil:Region.ready .any ops L=[]:=by
        cases hr:Region.ready .any ops L with
        | nil=>rfl
        | cons x xs =>
          rw [hr] at hi
          have hlt:t % (x::xs).length<(x::xs).length:=Nat.mod_lt _ (by simp)
          simp at hi
          simp at hlt
          omega
      simp only [List.reverse_nil]
      exact fin (ready_nil d.size hR.he hnil) d hM hO
    | some i =>
      simp only []
      rw [linearise_go_acc,List.reverse_singleton,List.singleton_append]
      obtain ⟨h1,h2,h3⟩:=ready_spec d.size (List.mem_of_getElem? hi)
      have hun:unlisted (L.setIfInBounds i true) ops.size≤f:=by have:=unlisted_set d.size h1 h2;omega
      by_cases his:i∈seen
      · obtain ⟨ρ',w',a',epi',pn',g1,g2,g3,g4,g5⟩:=d.pend_step hR his h2 h3 rfl (b:=b) (a:=a) (Region.linearise.go .any ops f (t / (Region.ready .any ops L).length) (L.setIfInBounds i true) []) k cs
        refine .later g1 g2 (.of_steps g4 (ih _ hcall hun g5 (by rw [g3];exact hM.mono g1) ?_ hh))
        exact (FrR.mono (nt:=nt) (fr:=⟨epi,marks,rnd⟩) (ro:=b.roundOf) (a:=a) g1 ⟨d.E,hM,hO⟩).R
      · have hir:i∈rest:=by
          have:=hR.hall i h1
          rw [← d.ord_eq,List.mem_append,List.mem_reverse] at this
          exact this.resolve_left his
        cases rest with
        | nil=>cases hir
        | cons c rest =>
          have hch:=hh c rest rfl
          have hci:i=c:=by
            rcases List.mem_cons.1 hir with e | e
            · exact e
            · exfalso
              obtain ⟨x,hx,hxc⟩:=hch
              obtain ⟨y,hy,_⟩:=get_ord hR (rest_ord d.ord_eq hir)
              have hpw:=(okPairs_spec hR.hok).1
              rw [← d.ord_eq,List.pairwise_append,List.pairwise_cons] at hpw
              have hA:=((okPair_spec (hpw.2.1.1 i e) hx hy).2.2.2.2 hxc).1
              have:=anc_in d.closed i h3 c hA
              exact rest_new hR d.ord_eq (List.mem_cons_self ..) (d.sub c this)
          subst hci
          obtain ⟨ρ',w',a',n',env',H',epi',pn',g0,g1,g2,g3,g4,g5⟩:=d.chain_step hR hcall hch h3 rfl (b:=b) (a:=a) (Region.linearise.go .any ops f (t / (Region.ready .any ops L).length) (L.setIfInBounds i true) []) k cs
          obtain ⟨seen',rest',n2,env2,H2,pn2,e1,e2,e3⟩:=g5.advance hR
          refine .later g1 g2 (.of_steps g4 (ih _ (fun m hm=>hcall m (by omega)) hun e2 (by rw [g3];exact hM.mono g1) ?_ e3))
          exact (FrR.mono (nt:=nt) (fr:=⟨epi,marks,rnd⟩) (ro:=b.roundOf) (a:=a) g1 ⟨d.E,hM,hO⟩).R
theorem draw_ok {tbl:Nat→AFunc} {n:Nat} (hcall:∀ m,m<n→CallOk P tbl m):DrawOk P tbl n:=by
  intro Wr ρ H w nt fr l0 id ops K b a hc he hF hI k cs
  simp only [cRegion,Option.bind_eq_bind,Option.bind_eq_some_iff,Bool.not_true,Bool.false_eq_true,if_false] at hc
  obtain ⟨l,hl,hc⟩:=hc
  split at hc
  case isFalse=>cases hc
  rename_i hck
  simp only [Option.pure_def,Option.some.injEq] at hc
  subst hc
  simp only [Bool.and_eq_true,List.all_eq_true,List.mem_range] at hck
  obtain ⟨⟨⟨k1,k2⟩,k3⟩,k4⟩:=hck
  generalize order l (Region.before ops) ops.size 0 []=ord at he k3 k4
  have hR:Reg P nt ops l ord:=⟨hl,k2,fun i hi=>by simpa using k3 i hi,k4⟩
  have hempty:∀ i,¬ In (Array.replicate ops.size false) i:=fun i h=>by
    unfold In at h
    simp only [Array.getD_eq_getD_getElem?,Array.getElem?_replicate] at h
    split at h<;>cases h
  let w1:World:={ w with drawn:=w.drawn+1 }
  have d:Dr P Wr nt ops l ord tbl K fr.marks fr.rnd fr.env (Array.replicate ops.size false) [] ord n fr.env H fr.env [] ρ w1 a.tmps :=
    ⟨rfl,by simp,fun i h=>absurd h (hempty i),fun i h=>absurd h (hempty i),fun _ h=>absurd h List.not_mem_nil,he,fun t _=>rfl,fun t _=>rfl,fun _ _ h=>absurd h List.not_mem_nil,
      fun j=>⟨fun h=>absurd h List.not_mem_nil,fun ⟨i,h,_⟩=>absurd h List.not_mem_nil⟩,fun _ _ _ h=>absurd h List.not_mem_nil,fun _ _ h=>absurd h List.not_mem_nil,fun _ _ h=>absurd h List.not_mem_nil,fun _ h=>absurd h List.not_mem_nil,fun _ h=>absurd h List.not_mem_nil,hF.E,hI.drew⟩
  obtain ⟨seen',rest',n2,env2,H2,pn2,e1,e2,e3⟩:=d.advance hR
  have hsch:Region.schedule (P.follows .mixedOrders) ops (w.tape w.drawn (.order b.fn id))=Region.linearise.go .any ops ops.size (w.tape w.drawn (.order b.fn id)) (Array.replicate ops.size false) []:=by
    have:(P.follows .mixedOrders||!Region.departs ops)=true:=by simpa using k1
    simp only [Region.schedule,this,if_true]
    rfl
  have hst:=stepR_region_draw (P:=P) (b:=b) (a:=a) (k:=k) (cs:=cs) (w:=w) (ops:=ops) (id:=id)
  rw [hsch] at hst
  have hK:Kept Wr w w1:=(Kept.refl Wr w).drew
  refine .later (Ext.refl ρ) hK (.of_steps (.one hst) ?_)
  refine draw_main hR k cs ops.size _ (fun m hm=>hcall m (by omega)) ?_ e2 hF.D hF.R e3
  unfold unlisted
  exact Nat.le_trans (List.length_filter_le _ _) (by simp)
theorem all_ok {tbl:Nat→AFunc} (ht:TblOk P tbl):∀ n,(∀ m,m≤n→CallOk P tbl m)∧ExecOk P tbl n∧OpsOk P tbl n
  | 0=>by
    refine ⟨fun m hm=>?_,?_,?_⟩
    · have:m=0:=by omega
      subst this
      intro Wr ρ H w fa args K fv argv he
      simp only [callV] at he
    · intro Wr ρ H w nt fr c cc K b a hc he
      simp only [exec] at he
    · intro Wr ρ H w nt fr l is ops K b a hR he
      simp only [Go.Abs.ops] at he
  | n+1=>by
    obtain ⟨h1,h2,h3⟩:=all_ok ht n
    have hc:CallOk P tbl (n+1):=call_step ht h2
    refine ⟨fun m hm=>?_,exec_step ht h2 h3 (draw_ok fun m hm=>h1 m (by omega)) (h1 n (Nat.le_refl n)),ops_step (h1 n (Nat.le_refl n)) h3⟩
    by_cases e:m=n+1
    · subst e;exact hc
    · exact h1 m (by omega)
theorem call_ok {tbl:Nat→AFunc} (ht:TblOk P tbl) (n:Nat):CallOk P tbl n:=(all_ok ht n).1 n (Nat.le_refl n)
end Go.Abs
namespace Go.Abs.K
section
variable {β:Type}
theorem forceN_eq (n:Nat) (k:Nat→Prop):forceN n k=k n:=by cases n<;>rfl
theorem forceI_eq (n:Int) (k:Int→Prop):forceI n k=k n:=by cases n<;>simp only [forceI,forceN_eq]
theorem forceP_eq:∀ (p:Pos) (k:Pos→Prop),forceP p k=k p
  | .xH,_=>rfl
  | .xO p,k=>forceP_eq p fun p=>k (.xO p)
  | .xI p,k=>forceP_eq p fun p=>k (.xI p)
theorem succK_eq:∀ (p:Pos) (k:Pos→Prop),succK p k=k p.succ
  | .xH,_=>rfl
  | .xO _,_=>rfl
  | .xI p,k=>succK_eq p fun p=>k (.xO p)
theorem ite'_eq (b:Bool) (x y:Prop):ite' b x y=if b=true then x else y:=by cases b<;>simp [ite']
theorem forceB_eq (b:Bool) (k:Bool→Prop):forceB b k=k b:=by cases b<;>rfl
theorem get_leaf_d (d:β):∀ p:Pos,(Tree.leaf:Tree β).get d p=d
  | .xH=>rfl
  | .xO p=>get_leaf_d d p
  | .xI p=>get_leaf_d d p
theorem getK_eq (d:β):∀ (p:Pos) (t:Tree β) (k:β→Prop),getK d p t k=k (t.get d p)
  | .xH,.leaf,_=>rfl
  | .xH,.node _ _ _,_=>rfl
  | .xO p,.leaf,k=>by show k d=k ((Tree.leaf:Tree β).get d p);rw [get_leaf_d]
  | .xO p,.node l _ _,k=>getK_eq d p l k
  | .xI p,.leaf,k=>by show k d=k ((Tree.leaf:Tree β).get d p);rw [get_leaf_d]
  | .xI p,.node _ _ r,k=>getK_eq d p r k
theorem setK_eq (d:β):∀ (p:Pos) (v:β) (t:Tree β) (k:Tree β→Prop),setK d p v t k=k (t.set d p v)
  | .xH,_,.leaf,_=>rfl
  | .xH,_,.node _ _ _,_=>rfl
  | .xO p,v,.leaf,k=>setK_eq d p v .leaf fun l=>k (.node l d .leaf)
  | .xO p,v,.node l w r,k=>setK_eq d p v l fun l=>k (.node l w r)
  | .xI p,v,.leaf,k=>setK_eq d p v .leaf fun r=>k (.node .leaf d r)
  | .xI p,v,.node l w r,k=>setK_eq d p v r fun r=>k (.node l w r)
theorem getNK_eq (d:β):∀ (t:Tree β) (n:Nat) (k:β→Prop),getNK d t n k=k (t.getN d n)
  | .leaf,n,k=>by cases n<;>rfl
  | .node l v r,0,k=>rfl
  | .node l v r,m+1,k=>by
    show ite' (Nat.beq (Nat.mod m 2) 0) (getNK d l (Nat.div m 2) k) (getNK d r (Nat.div m 2) k)=_
    rw [ite'_eq,getNK_eq d l,getNK_eq d r]
    simp only [Tree.getN]
    show (if Nat.beq (m % 2) 0=true then k (l.getN d (m / 2)) else k (r.getN d (m / 2)))=_
    by_cases h:m % 2=0
    · rw [if_pos (by rw [h];rfl),if_pos h]
    · rw [if_neg (by intro e;exact h (Nat.eq_of_beq_eq_true e)),if_neg h]
theorem rootK_eq (d x:β) (t:Tree β) (k:Tree β→Prop):rootK d x t k=k (.node t.left x t.right):=by cases t<;>rfl
theorem setNK_eq (d:β):∀ (f n:Nat) (x:β) (t:Tree β) (k:Tree β→Prop),setNK d f n x t k=k (t.setN d f n x)
  | 0,0,x,t,k=>rootK_eq d x t k
  | 0,n+1,x,t,k=>rfl
  | f+1,0,x,t,k=>rootK_eq d x t k
  | f+1,m+1,x,t,k=>by
    show ite' (Nat.beq (Nat.mod m 2) 0) (lK d (setNK d f) (Nat.div m 2) x t k) (rK d (setNK d f) (Nat.div m 2) x t k)=_
    have hl:lK d (setNK d f) (Nat.div m 2) x t k=k (.node (t.left.setN d f (m / 2) x) (t.val d) t.right):=by
      cases t with
      | leaf=>exact setNK_eq d f (m / 2) x .leaf fun l=>k (.node l d .leaf)
      | node l w r=>exact setNK_eq d f (m / 2) x l fun l=>k (.node l w r)
    have hr:rK d (setNK d f) (Nat.div m 2) x t k=k (.node t.left (t.val d) (t.right.setN d f (m / 2) x)):=by
      cases t with
      | leaf=>exact setNK_eq d f (m / 2) x .leaf fun r=>k (.node .leaf d r)
      | node l w r=>exact setNK_eq d f (m / 2) x r fun r=>k (.node l w r)
    rw [ite'_eq,hl,hr]
    simp only [Tree.setN]
    show (if Nat.beq (m % 2) 0=true then _ else _)=_
    by_cases h:m % 2=0
    · rw [if_pos (by rw [h];rfl),if_pos h]
    · rw [if_neg (by intro e;exact h (Nat.eq_of_beq_eq_true e)),if_neg h]
theorem forceNs_eq:∀ (l:List Nat) (k:List Nat→Prop),forceNs l k=k l
  | [],_=>rfl
  | n::l,k=>by
    show forceN n (fun n=>forceNs l fun l=>k (n::l))=_
    rw [forceN_eq,forceNs_eq l]
noncomputable def forceVs (l:List AV):(List AV→Prop)→Prop :=
  AV.rec_1 (motive_1:=fun _=>(AV→Prop)→Prop) (motive_2:=fun _=>(List AV→Prop)→Prop)
    (fun _ ih k=>ih fun l=>k (.tuple l))
    (fun _ ih k=>ih fun l=>k (.agg l))
    (fun b k=>forceB b fun b=>k (.bool b))
    (fun j n k=>forceN j fun j=>forceI n fun n=>k (.int j n))
    (fun s k=>forceNs s fun s=>k (.str s))
    (fun id off k=>forceP id fun id=>forceN off fun off=>k (.ptr id off))
    (fun k=>k .nilptr)
    (fun id off len cap ex k=>forceP id fun id=>forceN off fun off=>forceN len fun len=>forceN cap fun cap=>forceB ex fun ex=>k (.slice id off len cap ex))
    (fun k=>k .nilslice)
    (fun id k=>forceP id fun id=>k (.map id))
    (fun k=>k .nilmap)
    (fun f _ _ iha ihb k=>forceN f fun f=>iha fun a=>ihb fun b=>k (.func f a b))
    (fun id k=>forceP id fun id=>k (.yield id))
    (fun k=>k .nilFunc)
    (fun t _ ih k=>forceN t fun t=>ih fun v=>k (.iface t v))
    (fun k=>k .nilIface)
    (fun k=>k .junk)
    (fun k=>k [])
    (fun _ _ ihv ihl k=>ihv fun v=>ihl fun l=>k (v::l)) l
mutual
theorem forceV_eq:∀ (v:AV) (k:AV→Prop),forceV v k=k v
  | .tuple l,k=>forceVs_eq l fun l=>k (.tuple l)
  | .agg l,k=>forceVs_eq l fun l=>k (.agg l)
  | .bool b,k=>forceB_eq b fun b=>k (.bool b)
  | .int j n,k=>by show forceN j (fun j=>forceI n fun n=>k (.int j n))=_;rw [forceN_eq,forceI_eq]
  | .str s,k=>forceNs_eq s fun s=>k (.str s)
  | .ptr i o,k=>by show forceP i (fun i=>forceN o fun o=>k (.ptr i o))=_;rw [forceP_eq,forceN_eq]
  | .nilptr,_=>rfl
  | .slice i o l c e,k=>by show forceP i (fun i=>forceN o fun o=>forceN l fun l=>forceN c fun c=>forceB e fun e=>k (.slice i o l c e))=_;rw [forceP_eq,forceN_eq,forceN_eq,forceN_eq,forceB_eq]
  | .nilslice,_=>rfl
  | .map i,k=>forceP_eq i fun i=>k (.map i)
  | .nilmap,_=>rfl
  | .func f a b,k=>by show forceN f (fun f=>forceVs a fun a=>forceVs b fun b=>k (.func f a b))=_;rw [forceN_eq,forceVs_eq a,forceVs_eq b]
  | .yield i,k=>forceP_eq i fun i=>k (.yield i)
  | .nilFunc,_=>rfl
  | .iface t v,k=>by show forceN t (fun t=>forceV v fun v=>k (.iface t v))=_;rw [forceN_eq,forceV_eq v]
  | .nilIface,_=>rfl
  | .junk,_=>rfl
theorem forceVs_eq:∀ (l:List AV) (k:List AV→Prop),forceVs l k=k l
  | [],_=>rfl
  | v::l,k=>by show forceV v (fun v=>forceVs l fun l=>k (v::l))=_;rw [forceV_eq v,forceVs_eq l]
end
theorem forceL_eq:∀ (l:List AV) (k:List AV→Prop),forceL l k=k l
  | [],_=>rfl
  | v::l,k=>by
    show forceV v (fun v=>forceL l fun l=>k (v::l))=_
    rw [forceV_eq,forceL_eq l]
theorem gvK_eq (env:Tree AV) (x:Opd) (k:AV→Prop):gvK env x k=k (gv env x):=by
  cases x with
  | t p=>exact getK_eq _ _ _ _
  | c v=>rfl
theorem gvsK_eq (env:Tree AV):∀ (l:List Opd) (k:List AV→Prop),gvsK env l k=k (l.map (gv env))
  | [],_=>rfl
  | x::l,k=>by
    show gvK env x (fun v=>gvsK env l fun l=>k (v::l))=_
    rw [gvK_eq,gvsK_eq env l];rfl
theorem optK_none (k:β→Prop):optK none k=False:=rfl
theorem optK_some (b:β) (k:β→Prop):optK (some b) k=k b:=rfl
theorem hgetK_eq (H:Heap) (i:Pos) (k:AObj→Prop):hgetK H i k=k (H.get i):=getK_eq _ _ _ _
theorem hsetK_eq (H:Heap) (i:Pos) (o:AObj) (k:Heap→Prop):hsetK H i o k=k (H.set i o):=setK_eq _ _ _ _ _
theorem hnewK_eq (H:Heap) (o:AObj) (k:Pos→Heap→Prop):hnewK H o k=k H.next (H.new o):=by
  show setK .none H.next o H.t (fun t=>succK H.next fun m=>k H.next ⟨t,m⟩)=_
  rw [setK_eq,succK_eq];rfl
theorem dropsK_eq:∀ (l:List Pos) (H:Heap) (k:Heap→Prop),dropsK l H k=k (H.drops l)
  | [],_,_=>rfl
  | i::l,H,k=>by
    show hsetK H i .none (fun H=>dropsK l H k)=_
    rw [hsetK_eq,dropsK_eq l];rfl
def ofCells (o:AObj) (k:Tree AV→Nat→Nat→Bool→List Pos→Nat→Prop):Prop :=
  match o with
  | .cells c n e rw par fz=>k c n e rw par fz
  | _=>False
theorem cellsK_eq (H:Heap) (i:Pos) (k:Tree AV→Nat→Nat→Bool→List Pos→Nat→Prop):cellsK H i k=ofCells (H.get i) k:=by
  unfold cellsK;rw [hgetK_eq];cases H.get i<;>rfl
theorem readCellsK_eq (c:Tree AV) (n:Nat):∀ (m off:Nat) (k:List AV→Prop),readCellsK c n m off k=optK (readCells c n off m) k
  | 0,_,_=>rfl
  | m+1,off,k=>by
    show ite' (Nat.blt off n) (forceN off fun off=>getNK .undef c off fun v=>readCellsK c n m (Nat.succ off) fun l=>k (v::l)) False=_
    rw [ite'_eq,forceN_eq,getNK_eq,readCellsK_eq c n m]
    simp only [readCells]
    by_cases h:off<n
    · rw [if_pos (Eq.mpr Nat.blt_eq h),if_pos h]
      cases readCells c n (off+1) m<;>rfl
    · rw [if_neg (fun e=>h (Eq.mp Nat.blt_eq e)),if_neg h];rfl
theorem writeCellsK_eq:∀ (l:List AV) (c:Tree AV) (off:Nat) (k:Tree AV→Prop),writeCellsK l c off k=k (writeCells c off l)
  | [],_,_,_=>rfl
  | v::l,c,off,k=>by
    show forceN off (fun off=>setNK .undef off off v c fun c=>writeCellsK l c (Nat.succ off) k)=_
    rw [forceN_eq,setNK_eq,writeCellsK_eq l];rfl
theorem readAtK_eq (H:Heap) (i:Pos) (off m:Nat) (k:List AV→Prop):readAtK H i off m k=optK (readAt H i off m) k:=by
  unfold readAtK
  rw [cellsK_eq]
  unfold readAt
  cases H.get i<;>first | rfl | exact readCellsK_eq _ _ _ _ _
theorem andB_eq (a b:Bool):andB a b=(a&&b):=by cases a<;>rfl
theorem allOneK_eq:∀ l:List AV,allOneK l=allOne l
  | []=>rfl
  | v::l=>by
    show andB v.oneCell (allOneK l)=_
    rw [andB_eq,allOneK_eq l];rfl
theorem lenK_eq:∀ l:List β,lenK l=l.length
  | []=>rfl
  | _::l=>by show Nat.succ (lenK l)=_;rw [lenK_eq l];rfl
theorem writeAtK_eq (H:Heap) (i:Pos) (off:Nat) (l:List AV) (k:Heap→Prop):writeAtK H i off l k=optK (writeAt H i off l) k:=by
  unfold writeAtK
  rw [cellsK_eq]
  unfold writeAt
  cases H.get i<;>(try rfl)
  rename_i c n e rw' par fz
  show writeAt2 H i off l k c n e rw' par fz=_
  unfold writeAt2
  rw [ite'_eq,dropsK_eq,writeCellsK_eq,hsetK_eq,andB_eq,andB_eq,andB_eq,lenK_eq,allOneK_eq]
  cases rw' with
  | false=>rfl
  | true =>
    simp only [Bool.true_and]
    have h1:Nat.ble fz off=decide (fz≤off):=by
      by_cases h:fz≤off
      · rw [decide_eq_true h,Nat.ble_eq_true_of_le h]
      · rw [decide_eq_false h]
        cases hb:Nat.ble fz off with
        | false=>rfl
        | true=>exact absurd (Nat.le_of_ble_eq_true hb) h
    have h2:Nat.ble (Nat.add off l.length) n=decide (off+l.length≤n):=by
      by_cases h:off+l.length≤n
      · rw [decide_eq_true h];exact Nat.ble_eq_true_of_le h
      · rw [decide_eq_false h]
        cases hb:Nat.ble (Nat.add off l.length) n with
        | false=>rfl
        | true=>exact absurd (Nat.le_of_ble_eq_true hb) h
    rw [h1,h2,Bool.and_assoc]
    cases (decide (fz≤off)&&(decide (off+l.length≤n)&&allOne l))<;>rfl
theorem newCellsK_eq (H:Heap) (l:List AV) (n elem:Nat) (k:Pos→Heap→Prop):newCellsK H l n elem k=k H.next (H.new (.cells (mkCells l) n elem true [] 0)):=by
  unfold newCellsK;rw [writeCellsK_eq,forceN_eq,hnewK_eq];rfl
end
end Go.Abs.K
namespace Go.Abs.K
def run2 (o:Option (AV × Heap)) (k:KV):Prop :=
  match o with
  | some p=>k p.1 p.2
  | none=>False
theorem slow_eq (o:AOp) (ih:Runs) (env:Tree AV) (H:Heap) (k:KV):slow o ih env H k=run2 (evalOp o env H) k:=by
  unfold slow
  cases evalOp o env H with
  | none=>rfl
  | some p=>exact forceV_eq p.1 fun v=>k v p.2
theorem appNil_eq (elem bytes size:Nat) (H:Heap) (n:Nat) (l:List AV) (k:KV):appNil elem bytes size H n l k=run2 (if Nat.beq n 0 then some (.nilslice,H) else if small (n*bytes)&&small n then some (.slice H.next 0 n n false,H.new (.cells (mkCells l) (n*size) elem true [] 0)) else none) k:=by
  unfold appNil
  rw [ite'_eq,ite'_eq,newCellsK_eq,andB_eq]
  cases Nat.beq n 0<;>(try rfl)
  cases (small (n*bytes)&&small n)<;>rfl
theorem ofCells_none (k:Tree AV→Nat→Nat→Bool→List Pos→Nat→Prop):ofCells .none k=False:=rfl
theorem appendK_eq (elem bytes size:Nat) (H:Heap) (s:AV) (n:Nat) (l:List AV) (k:KV):appendK elem bytes size H s n l k=run2 (appendV elem bytes size H s n l) k:=by
  unfold appendK appendV
  rw [ite'_eq,allOneK_eq]
  cases allOne l with
  | false=>rfl
  | true =>
    simp only [Bool.not_true,Bool.false_eq_true,if_false,if_true]
    cases s<;>(try rfl)
    · rename_i id off len cap exact
      show appSl elem bytes size H n l k id off len cap exact=_
      unfold appSl
      rw [forceN_eq,ite'_eq]
      show (if Nat.ble (len+n) cap=true then _ else _)=_
      cases hc:Nat.ble (len+n) cap with
      | true =>
        simp only [hc,if_true]
        unfold appIn
        rw [ite'_eq,forceN_eq,writeAtK_eq]
        cases Nat.beq n 0 with
        | true=>rfl
        | false =>
          simp only [Bool.false_eq_true,if_false]
          show optK (writeAt H id (off+len*size) l) _=_
          cases writeAt H id (off+len*size) l<;>rfl
      | false =>
        simp only [hc,Bool.false_eq_true,if_false]
        rw [ite'_eq,andB_eq]
        show (if (small ((len+n)*bytes)&&small (len+n))=true then _ else _)=_
        cases (small ((len+n)*bytes)&&small (len+n)) with
        | false=>rfl
        | true =>
          simp only [if_true,Bool.not_true,Bool.false_eq_true,if_false]
          rw [cellsK_eq]
          cases H.get id<;>(try rfl)
          rename_i c m e rw' par fz
          show appGr elem size H l k id off len cap exact (len+n) c m e rw' par fz=_
          unfold appGr
          rw [readCellsK_eq]
          show optK (readCells c m off (len*size)) _=_
          simp only
          cases readCells c m off (len*size) with
          | none=>rfl
          | some old =>
            rw [optK_some,forceL_eq,ite'_eq,ite'_eq,newCellsK_eq]
            cases exact with
            | true=>rfl
            | false =>
              simp only [Bool.false_eq_true,if_false]
              unfold appSh
              rw [ite'_eq,hsetK_eq,writeCellsK_eq,forceN_eq,forceN_eq,hnewK_eq,andB_eq,andB_eq,andB_eq]
              show (if Nat.beq len cap=true then (if (rw'&&(Nat.beq (off+cap*size) m&&(Nat.beq e elem&&Nat.ble fz m)))=true then _ else False) else False)=run2 (if (rw'&&Nat.beq len cap&&Nat.beq (off+cap*size) m&&Nat.beq e elem&&Nat.ble fz m)=true then _ else none) k
              cases rw'<;>cases Nat.beq len cap<;>cases Nat.beq (off+cap*size) m<;>cases Nat.beq e elem<;>cases Nat.ble fz m<;>rfl
    · exact appNil_eq elem bytes size H n l k
theorem addK_eq (a b:Int) (k:Int→Prop):addK a b k=k (a+b):=by
  cases a with
  | negSucc m=>exact forceI_eq (.negSucc m+b) k
  | ofNat m=>cases b with
    | negSucc n=>exact forceI_eq (.ofNat m+.negSucc n) k
    | ofNat n=>exact forceN_eq (m+n) fun s=>k (.ofNat s)
theorem subK_eq (a b:Int) (k:Int→Prop):subK a b k=k (a-b):=by
  cases a with
  | negSucc m=>exact forceI_eq (.negSucc m-b) k
  | ofNat m=>cases b with
    | negSucc n=>exact forceI_eq (.ofNat m-.negSucc n) k
    | ofNat n =>
      show ite' (Nat.ble n m) (forceN (Nat.sub m n) fun s=>k (.ofNat s)) (forceI (.ofNat m-.ofNat n) k)=_
      rw [ite'_eq,forceN_eq,forceI_eq]
      split
      · rename_i h
        have:=Nat.le_of_ble_eq_true h
        congr 1
        show ((m-n:Nat):Int)=(m:Int)-(n:Int)
        omega
      · rfl
theorem wrap3_eq (n:Int) (k:Int→Prop):wrap3 n k=k (wrapF 3 n):=by
  cases n with
  | negSucc m=>exact forceI_eq (wrapF 3 (.negSucc m)) k
  | ofNat m =>
    show ite' (Nat.blt m 9223372036854775808) (k (.ofNat m)) (forceI (wrapF 3 (.ofNat m)) k)=_
    rw [ite'_eq,forceI_eq]
    split
    · rename_i h;simp only [wrapF,h,if_true]
    · rfl
theorem wrapK_eq (j:Nat) (n:Int) (k:Int→Prop):wrapK j n k=k (wrapF j n):=by
  unfold wrapK
  rw [ite'_eq,forceI_eq,wrap3_eq]
  split
  · rename_i h;rw [Nat.eq_of_beq_eq_true h]
  · rfl
theorem ieqK_eq (a b:Int):ieqK a b=ieq a b:=by cases a<;>cases b<;>rfl
theorem iltK_eq (a b:Int):iltK a b=ilt a b:=by cases a<;>cases b<;>rfl
theorem notK_eq (b:Bool):notK b=!b:=by cases b<;>rfl
theorem boolK_eq (b:Bool) (k:AV→Prop):boolK b k=k (.bool b):=by cases b<;>rfl
theorem arOp_eq (op:BinOp) (j:Nat) (a b:Int) (k:AV→Prop):arOp op j a b k=optK (arithV op j a b) k:=by
  have slow:∀ op',arSlow op' j a b k=optK (arithV op' j a b) k:=fun op'=>by
    unfold arSlow
    cases arithV op' j a b with
    | none=>rfl
    | some v=>exact forceV_eq v k
  cases op
  · show arAdd j a b k=_;unfold arAdd;rw [addK_eq,wrapK_eq];rfl
  · show arSub j a b k=_;unfold arSub;rw [subK_eq,wrapK_eq];rfl
  all_goals first
    | exact slow _
    | rfl
    | (show boolK _ k=_;rw [boolK_eq,ieqK_eq];rfl)
    | (show boolK _ k=_;rw [boolK_eq,notK_eq,ieqK_eq];rfl)
    | (show boolK _ k=_;rw [boolK_eq,iltK_eq];rfl)
    | (show boolK _ k=_;rw [boolK_eq,notK_eq,iltK_eq];rfl)
theorem arithK_eq (op:BinOp) (j:Nat) (x y:AV) (k:AV→Prop):arithK op j x y k=optK (arith2 op j x y) k:=by
  unfold arithK intsK arith2
  cases x<;>(try rfl)
  cases y<;>(try rfl)
  rename_i i a l b
  show ite' (andB (Nat.beq i j) (Nat.beq l j)) (arOp op j a b k) False=_
  rw [ite'_eq,andB_eq,arOp_eq]
  simp only
  cases (Nat.beq i j&&Nat.beq l j)<;>rfl
theorem run2_opt (o:Option AV) (H:Heap) (k:KV):run2 (o.map fun v=>(v,H)) k=optK o fun v=>k v H:=by cases o<;>rfl
variable (ih:Runs) (env:Tree AV) (H:Heap) (k:KV)
theorem oPick_eq (c a b:Opd):oPick c a b ih env H k=run2 (evalOp (.pick c a b) env H) k:=by
  unfold oPick;rw [gvK_eq]
  simp only [evalOp]
  cases gv env c<;>(try rfl)
  rename_i t
  show ite' t (gvK env a fun v=>k v H) (gvK env b fun v=>k v H)=_
  rw [gvK_eq,gvK_eq]
  cases t<;>rfl
theorem oBox_eq (e:Nat) (x:Opd):oBox e x ih env H k=run2 (evalOp (.box e x) env H) k:=by
  unfold oBox;rw [gvK_eq,forceL_eq,ite'_eq,newCellsK_eq,allOneK_eq,lenK_eq]
  simp only [evalOp]
  cases allOne (gv env x).cells<;>rfl
theorem oAlloc_eq (e:Nat) (zs:List AV):oAlloc e zs ih env H k=run2 (evalOp (.alloc e zs) env H) k:=by
  unfold oAlloc;rw [newCellsK_eq,lenK_eq];rfl
theorem oBuildSlice_eq (e n:Nat) (zs:List AV) (ps:List (Nat × Nat × Opd)):oBuildSlice e n zs ps ih env H k=run2 (evalOp (.buildSlice e n zs ps) env H) k:=by
  unfold oBuildSlice
  simp only [evalOp]
  cases layAll env (reps zs n) ps with
  | none=>rfl
  | some l =>
    rw [optK_some,forceL_eq,ite'_eq,newCellsK_eq,allOneK_eq,lenK_eq]
    simp only
    cases allOne l<;>rfl
theorem readAt_one (H:Heap) (id:Pos) (off:Nat):readAt H id off 1=(match H.get id with | .cells c n _ _ _ _=>if off<n then some [c.getN .undef off] else none | _=>none):=by
  unfold readAt
  cases H.get id<;>rfl
theorem oLoad1_eq (a:Opd):oLoad1 a ih env H k=run2 (evalOp (.load1 a) env H) k:=by
  unfold oLoad1;rw [gvK_eq]
  simp only [evalOp,run2_opt]
  unfold load1V ptrK loadV
  cases gv env a<;>(try rfl)
  rename_i id off
  show cellsK H id (load1C off fun v=>k v H)=_
  rw [cellsK_eq]
  simp only [readAt_one]
  cases H.get id<;>(try rfl)
  rename_i c n e rw' par fz
  show ite' (Nat.blt off n) (getNK .undef c off fun v=>k v H) False=_
  rw [ite'_eq,getNK_eq]
  by_cases h:off<n
  · rw [if_pos (Eq.mpr Nat.blt_eq h)];simp only [h,if_true];rfl
  · rw [if_neg (fun e=>h (Eq.mp Nat.blt_eq e))];simp only [h,if_false];rfl
theorem oLoadN_eq (n:Nat) (a:Opd):oLoadN n a ih env H k=run2 (evalOp (.loadN n a) env H) k:=by
  unfold oLoadN;rw [gvK_eq]
  simp only [evalOp,run2_opt]
  unfold ptrK loadV
  cases gv env a<;>(try rfl)
  rename_i id off
  show readAtK H id off n _=_
  rw [readAtK_eq]
  simp only
  cases readAt H id off n<;>rfl
theorem oStore_eq (n:Nat) (a x:Opd):oStore n a x ih env H k=run2 (evalOp (.store n a x) env H) k:=by
  unfold oStore;rw [gvK_eq,gvK_eq,forceL_eq]
  unfold storeV ptrK
  simp only [evalOp]
  cases gv env a<;>(try rfl)
  rename_i id off
  show ite' (Nat.beq (lenK (gv env x).cells) n) (writeAtK H id off (gv env x).cells fun H=>k .undef H) False=_
  rw [ite'_eq,writeAtK_eq,lenK_eq]
  by_cases h:(gv env x).cells.length=n
  · rw [if_pos (by rw [h];exact Nat.beq_refl n)]
    simp only [h,if_true]
    cases writeAt H id off (gv env x).cells<;>rfl
  · rw [if_neg (fun e=>h (Nat.eq_of_beq_eq_true e))];simp only [h,if_false];rfl
theorem oArith_eq (op:BinOp) (j:Nat) (x y:Opd):oArith op j x y ih env H k=run2 (evalOp (.arith op j x y) env H) k:=by
  unfold oArith;rw [gvK_eq,gvK_eq,arithK_eq];simp only [evalOp,run2_opt]
theorem oAddOff_eq (off:Nat) (x:Opd):oAddOff off x ih env H k=run2 (evalOp (.addOff off x) env H) k:=by
  unfold oAddOff;rw [gvK_eq]
  unfold ptrK
  simp only [evalOp]
  cases gv env x<;>(try rfl)
  exact forceN_eq _ _
theorem oIdxSl_eq (s:Nat) (x i:Opd):oIdxSl s x i ih env H k=run2 (evalOp (.idxSl s x i) env H) k:=by
  unfold oIdxSl;rw [gvK_eq,gvK_eq]
  unfold idxV
  simp only [evalOp]
  cases gv env x<;>(try rfl)
  cases gv env i<;>(try rfl)
  rename_i z
  cases z<;>(try rfl)
  rename_i id o len c e kk j
  show ite' (Nat.blt j len) (forceN (Nat.add o (Nat.mul j s)) fun o=>k (.ptr id o) H) False=_
  rw [ite'_eq,forceN_eq]
  show _=run2 (if Nat.blt j len=true then _ else _) k
  cases Nat.blt j len<;>rfl
theorem oMkMap_eq:oMkMap ih env H k=run2 (evalOp .mkMap env H) k:=by unfold oMkMap;rw [hnewK_eq];rfl
theorem oMkSlice_eq (e b s:Nat) (zs:List AV) (x y:Opd):oMkSlice e b s zs x y ih env H k=run2 (evalOp (.mkSlice e b s zs x y) env H) k:=by
  unfold oMkSlice;rw [gvK_eq,gvK_eq]
  simp only [evalOp]
  generalize gv env x=gx
  generalize gv env y=gy
  unfold mkSliceV
  split
  · rename_i l c
    rw [ite'_eq,forceL_eq,newCellsK_eq,andB_eq,andB_eq,← Bool.and_assoc]
    simp only
    cases (Nat.ble l c&&small (c*b)&&small c)<;>rfl
  · rename_i hno
    split
    · rename_i l c;exact absurd rfl (hno l c rfl)
    · rfl
theorem oConvBytes_eq (e:Nat) (x:Opd):oConvBytes e x ih env H k=run2 (evalOp (.convBytes e x) env H) k:=by
  unfold oConvBytes;rw [gvK_eq]
  unfold convBytesV
  simp only [evalOp]
  cases gv env x<;>(try rfl)
  rename_i s
  show forceL _ _=_
  rw [forceL_eq,newCellsK_eq,forceN_eq];rfl
theorem oAppend_eq (e b s:Nat) (zs:List AV) (m:Bool) (x y:Opd):oAppend e b s zs m x y ih env H k=run2 (evalOp (.append e b s zs m x y) env H) k:=by
  unfold oAppend;rw [gvK_eq,gvK_eq,ite'_eq]
  simp only [evalOp]
  cases m with
  | true =>
    simp only [if_true]
    generalize gv env y=gy
    unfold appMake
    split
    · rename_i n
      rw [ite'_eq,forceL_eq,appendK_eq,andB_eq]
      simp only
      cases (small (n*b)&&small n)<;>rfl
    · rename_i hno
      split
      · rename_i n;exact absurd rfl (hno n)
      · rfl
  | false =>
    simp only [Bool.false_eq_true,if_false]
    cases source H s (gv env y) with
    | none=>rfl
    | some p =>
      show forceN p.1 (fun n=>forceL p.2 fun l=>appendK e b s H (gv env x) n l k)=_
      rw [forceN_eq,forceL_eq,appendK_eq]
theorem oCopy_eq (s:Nat) (x y:Opd):oCopy s x y ih env H k=run2 (evalOp (.copy s x y) env H) k:=by
  unfold oCopy;rw [gvK_eq,gvK_eq]
  simp only [evalOp]
  cases source H s (gv env y) with
  | none=>cases gv env x<;>rfl
  | some p =>
    show copyV s H k (gv env x) p.1 p.2=_
    unfold copyV
    cases gv env x<;>(try rfl)
    rename_i id off len c e
    show forceN (min p.1 len) _=_
    rw [forceN_eq,ite'_eq,forceL_eq,writeAtK_eq]
    simp only
    by_cases h:min p.1 len=0
    · rw [if_pos (by rw [h];rfl)];simp only [h,if_true];rfl
    · rw [if_neg (fun e=>h (Nat.eq_of_beq_eq_true e))]
      simp only [h,if_false]
      cases writeAt H id off (p.2.take (min p.1 len*s))<;>rfl
theorem oRangeStr_eq (x:Opd):oRangeStr x ih env H k=run2 (evalOp (.rangeStr x) env H) k:=by
  unfold oRangeStr;rw [gvK_eq]
  unfold rangeStrV
  simp only [evalOp]
  cases gv env x<;>(try rfl)
  show hnewK _ _ _=_;rw [hnewK_eq];rfl
theorem oRangeMap_eq (x:Opd):oRangeMap x ih env H k=run2 (evalOp (.rangeMap x) env H) k:=by
  unfold oRangeMap;rw [gvK_eq]
  unfold rangeMapV
  simp only [evalOp]
  cases gv env x<;>(try rfl)
  · rename_i m
    show hgetK H m _=_
    rw [hgetK_eq]
    simp only
    cases H.get m<;>(try rfl)
    show hnewK _ _ _=_;rw [hnewK_eq];rfl
  · show hnewK _ _ _=_;rw [hnewK_eq];rfl
theorem nthK_eq:∀ (l:List AV) (n:Nat) (k:AV→Prop),nthK l n k=optK (nthV l n) k
  | [],_,_=>rfl
  | _::_,0,_=>rfl
  | _::l,n+1,k=>nthK_eq l n k
theorem oExtract_eq (x:Opd) (i:Nat):oExtract x i ih env H k=run2 (evalOp (.extract x i) env H) k:=by
  unfold oExtract;rw [gvK_eq]
  unfold extractV
  simp only [evalOp]
  cases gv env x<;>(try rfl)
  rename_i l
  show nthK l i _=_
  rw [nthK_eq,run2_opt]
theorem oNilCheck_eq (x:Opd):oNilCheck x ih env H k=run2 (evalOp (.nilCheck x) env H) k:=by
  unfold oNilCheck;rw [gvK_eq]
  unfold nilV
  simp only [evalOp]
  cases gv env x<;>rfl
theorem oLenSl_eq (x:Opd):oLenSl x ih env H k=run2 (evalOp (.lenSl x) env H) k:=by
  unfold oLenSl;rw [gvK_eq]
  unfold lenSlV
  simp only [evalOp]
  cases gv env x<;>rfl
theorem opRun_eq (o:AOp) (h:o.isCall=false) (h2:∀ it,o≠.nextMap it):opRun o ih env H k=run2 (evalOp o env H) k:=by
  cases o
  case call=>simp [AOp.isCall] at h
  case nextMap it=>exact absurd rfl (h2 it)
  case mov x=>exact gvK_eq _ _ _
  case pick=>exact oPick_eq ih env H k _ _ _
  case box=>exact oBox_eq ih env H k _ _
  case alloc=>exact oAlloc_eq ih env H k _ _
  case buildSlice=>exact oBuildSlice_eq ih env H k _ _ _ _
  case load1=>exact oLoad1_eq ih env H k _
  case loadN=>exact oLoadN_eq ih env H k _ _
  case store=>exact oStore_eq ih env H k _ _ _
  case arith=>exact oArith_eq ih env H k _ _ _ _
  case addOff=>exact oAddOff_eq ih env H k _ _
  case idxSl=>exact oIdxSl_eq ih env H k _ _ _
  case mkMap=>exact oMkMap_eq ih env H k
  case mkSlice=>exact oMkSlice_eq ih env H k _ _ _ _ _ _
  case convBytes=>exact oConvBytes_eq ih env H k _ _
  case append=>exact oAppend_eq ih env H k _ _ _ _ _ _ _
  case copy=>exact oCopy_eq ih env H k _ _ _
  case rangeStr=>exact oRangeStr_eq ih env H k _
  case rangeMap=>exact oRangeMap_eq ih env H k _
  case extract=>exact oExtract_eq ih env H k _ _
  case nilCheck=>exact oNilCheck_eq ih env H k _
  case lenSl=>exact oLenSl_eq ih env H k _
  all_goals exact slow_eq _ ih env H k
theorem opRun_call (f:Opd) (args:List Opd):opRun (.call f args) ih env H k=ih.call (gv env f) (args.map (gv env)) H k:=by
  show gvK env f (fun f=>gvsK env args fun args=>ih.call f args H k)=_
  rw [gvK_eq,gvsK_eq]
theorem opRun_next (it : Opd) : opRun (.nextMap it) ih env H k = (match nextMapV H (gv env it) with
        | some (cs,aft)=>allAsk cs.length fun i=>match cs[i]? with
          | some c=>k (aft c).1 (aft c).2
          | none=>False
        | none=>False):=by
  show gvK env it (fun it=>nextMapK H it k)=_
  rw [gvK_eq];rfl
end Go.Abs.K
