/- A part of the proof (an abstract machine, walks): no statement of its own, no conditions. -/
import Derived.Test.YtndbmjcpgefblaaGreatDoorA12
import Derived.Orders
set_option linter.all false
namespace Go.Abs
variable [Ov]
variable {P:Program} {nt:Nat} {ops:Array Oper} {l:List AOper} {anc:Array Nat}
def Anc (anc:Array Nat) (i j:Nat):Prop:=(anc.getD i 0).testBit j=true
def In (L:Array Bool) (i:Nat):Prop:=L.getD i false=true
def Dep (ops:Array Oper) (i j:Nat):Prop:=∃ o e,ops[i]?=some o∧e∈o.after.toList∧Region.binds .any e=true∧e.on=j
theorem fold_bits (acc:Array Nat) (j:Nat):∀ (es:List Edge) (s:Nat),(es.foldl (fun s e=>if Region.binds .any e then s ||| 2 ^ e.on ||| acc.getD e.on 0 else s) s).testBit j=true →
    s.testBit j=true∨∃ e∈es,Region.binds .any e=true∧(j=e.on∨(acc.getD e.on 0).testBit j=true)
  | [],s,h=>.inl h
  | e::es,s,h=>by
    simp only [List.foldl_cons] at h
    rcases fold_bits acc j es _ h with h1 | ⟨e',he,h1⟩
    · split at h1
      · rename_i hb
        simp only [Nat.testBit_or,Bool.or_eq_true,Nat.testBit_two_pow,decide_eq_true_eq] at h1
        rcases h1 with (h1 | h1) | h1
        · exact .inl h1
        · exact .inr ⟨e,List.mem_cons_self ..,hb,.inl h1.symm⟩
        · exact .inr ⟨e,List.mem_cons_self ..,hb,.inr h1⟩
      · exact .inl h1
    · exact .inr ⟨e',List.mem_cons_of_mem _ he,h1⟩
def ancStep (acc:Array Nat) (o:Oper):Array Nat:=acc.push (o.after.foldl (fun s e=>if Region.binds .any e then s ||| 2 ^ e.on ||| acc.getD e.on 0 else s) 0)
theorem before_eq (ops:Array Oper):Region.before ops=ops.toList.foldl ancStep #[]:=by
  unfold Region.before
  rw [← Array.foldl_toList]
  rfl
theorem anc_fold (ops:Array Oper):∀ (rest pre:List Oper) (acc:Array Nat),ops.toList=pre++rest→acc.size=pre.length →
    (∀ i j,(acc.getD i 0).testBit j=true→∃ k,Dep ops i k∧k<i∧(j=k∨(acc.getD k 0).testBit j=true)∨(Dep ops i j)) →
    ∀ i j,((rest.foldl ancStep acc).getD i 0).testBit j=true→∃ k,Dep ops i k∧k<i∧(j=k∨((rest.foldl ancStep acc).getD k 0).testBit j=true)∨(Dep ops i j)
  | [],_,_,_,_,h=>h
  | o::rest,pre,acc,hp,hs,h=>by
    simp only [List.foldl_cons]
    refine anc_fold ops rest (pre++[o]) _ (by rw [hp];simp) (by simp [ancStep,hs]) ?_
    intro i j hij
    have hget:∀ k,k<acc.size→(ancStep acc o).getD k 0=acc.getD k 0:=by
      intro k hk
      simp only [ancStep,Array.getD_eq_getD_getElem?]
      rw [Array.getElem?_push,if_neg (by omega)]
    have hout:∀ k,acc.size≤k→acc.getD k 0=0:=by
      intro k hk;simp [Array.getD_eq_getD_getElem?,Array.getElem?_eq_none hk]
    rcases Nat.lt_trichotomy i acc.size with hl | hl | hl
    · rw [hget i hl] at hij
      obtain ⟨k,hk | hk⟩:=h i j hij
      · exact ⟨k,.inl ⟨hk.1,hk.2.1,by rw [hget k (by omega)];exact hk.2.2⟩⟩
      · exact ⟨k,.inr hk⟩
    · subst hl
      have hlast:(ancStep acc o).getD acc.size 0=o.after.foldl (fun s e=>if Region.binds .any e then s ||| 2 ^ e.on ||| acc.getD e.on 0 else s) 0:=by
        simp only [ancStep,Array.getD_eq_getD_getElem?]
        rw [Array.getElem?_push,if_pos rfl];rfl
      rw [hlast,← Array.foldl_toList] at hij
      have ho:ops[acc.size]?=some o:=by
        rw [← Array.getElem?_toList,hp,hs];simp
      rcases fold_bits acc j _ _ hij with h0 | ⟨e,he,hb,h1⟩
      · simp at h0
      · rcases h1 with h1 | h1
        · exact ⟨0,.inr ⟨o,e,ho,he,hb,h1.symm⟩⟩
        · have hlt:e.on<acc.size:=by
            rcases Nat.lt_or_ge e.on acc.size with q | q
            · exact q
            · rw [hout _ q] at h1;simp at h1
          exact ⟨e.on,.inl ⟨⟨o,e,ho,he,hb,rfl⟩,hlt,.inr (by rw [hget _ hlt];exact h1)⟩⟩
    · have:(ancStep acc o).getD i 0=0:=by
        simp only [ancStep,Array.getD_eq_getD_getElem?]
        rw [Array.getElem?_eq_none (by simp;omega)];rfl
      rw [this] at hij;simp at hij
theorem anc_spec (ops:Array Oper) {i j:Nat} (h:Anc (Region.before ops) i j):∃ k,Dep ops i k∧k<i∧(j=k∨Anc (Region.before ops) k j)∨Dep ops i j:=by
  unfold Anc at h ⊢
  rw [before_eq] at h ⊢
  exact anc_fold ops ops.toList [] #[] rfl rfl (fun i j h=>by simp at h) i j h
theorem anc_in {S:Nat→Prop} (hc:∀ i,S i→∀ j,Dep ops i j→S j):∀ (i:Nat),(∀ j,Dep ops i j→S j)→∀ j,Anc (Region.before ops) i j→S j:=by
  intro i
  induction i using Nat.strongRecOn with
  | ind i ih =>
    intro hi j hj
    obtain ⟨k,⟨h1,h2,h3⟩ | h1⟩:=anc_spec ops hj
    · rcases h3 with h3 | h3
      · rw [h3];exact hi k h1
      · exact ih k h2 (hc k (hi k h1)) j h3
    · exact hi j h1
theorem edges_spec (h:edgesOk ops=true) {i j:Nat} (hd:Dep ops i j):j<i:=by
  obtain ⟨o,e,h1,h2,h3,rfl⟩:=hd
  unfold edgesOk at h
  rw [List.all_eq_true] at h
  have hm:(o,i)∈ops.toList.zipIdx:=by rw [List.mem_zipIdx_iff_getElem?];rw [Array.getElem?_toList];exact h1
  have:=h _ hm
  rw [Array.all_eq_true_iff_forall_mem] at this
  have:=this e (by simpa using h2)
  simpa [h3] using this
theorem ready_spec {L:Array Bool} (hL:L.size=ops.size) {i:Nat} (h:i∈Region.ready .any ops L):i<ops.size∧¬ In L i∧∀ j,Dep ops i j→In L j:=by
  simp only [Region.ready,List.mem_filter,List.mem_range,Bool.and_eq_true,Bool.not_eq_true'] at h
  obtain ⟨h1,h2,h3⟩:=h
  refine ⟨h1,?_,?_⟩
  · have hlt:i<L.size:=by omega
    unfold In
    simp only [Array.getD_eq_getD_getElem?,getElem?_pos L i hlt,Option.getD_some] at h2 ⊢
    rw [h2];simp
  · rintro j ⟨o,e,g1,g2,g3,rfl⟩
    rw [g1] at h3
    simp only [Option.map_some,Option.getD_some,Array.all_eq_true_iff_forall_mem] at h3
    have:=h3 e (by simpa using g2)
    unfold In
    simpa [g3] using this
theorem ready_nil {L:Array Bool} (hL:L.size=ops.size) (he:edgesOk ops=true) (h:Region.ready .any ops L=[]):∀ i,i<ops.size→In L i:=by
  intro i
  induction i using Nat.strongRecOn with
  | ind i ih =>
    intro hi
    by_cases hin:In L i
    · exact hin
    · exfalso
      have:i∈Region.ready .any ops L:=by
        simp only [Region.ready,List.mem_filter,List.mem_range,Bool.and_eq_true,Bool.not_eq_true']
        refine ⟨hi,?_,?_⟩
        · have hlt:i<L.size:=by omega
          unfold In at hin
          simp only [Array.getD_eq_getD_getElem?,getElem?_pos L i hlt,Option.getD_some] at hin ⊢
          simpa using hin
        · rw [getElem?_pos ops i hi]
          simp only [Option.map_some,Option.getD_some,Array.all_eq_true_iff_forall_mem]
          intro e he'
          cases hb:Region.binds .any e with
          | false=>simp
          | true =>
            have hd:Dep ops i e.on:=⟨ops[i],e,getElem?_pos ops i hi,by simpa using he',hb,rfl⟩
            have hlt:=edges_spec he hd
            have:=ih e.on hlt (by omega)
            simp only [Bool.not_true,Bool.false_or];exact this
      rw [h] at this;cases this
def unlisted (L:Array Bool) (n:Nat):Nat:=((List.range n).filter fun i=>!L.getD i false).length
theorem filter_flip {p q:Nat→Bool} {i:Nat}:∀ (r:List Nat),r.Nodup→i∈r→p i=true→q i=false→(∀ j,j≠i→q j=p j)→(r.filter q).length+1=(r.filter p).length
  | [],_,h,_,_,_=>by cases h
  | a::r,hn,h,hp,hq,hj=>by
    rw [List.nodup_cons] at hn
    by_cases e:a=i
    · subst e
      have:r.filter q=r.filter p:=List.filter_congr fun x hx=>hj x fun e=>hn.1 (e ▸ hx)
      simp [hp,hq,this]
    · have hm:i∈r:=by
        rcases List.mem_cons.1 h with q | q
        · exact absurd q.symm e
        · exact q
      have:=filter_flip r hn.2 hm hp hq hj
      simp only [List.filter_cons,hj a e]
      split
      · simp only [List.length_cons];omega
      · exact this
theorem in_set {L:Array Bool} {i:Nat} (hi:i<L.size) (j:Nat):In (L.setIfInBounds i true) j↔j=i∨In L j:=by
  unfold In
  simp only [Array.getD_eq_getD_getElem?,Array.getElem?_setIfInBounds]
  by_cases e:i=j
  · subst e;simp [hi]
  · simp [e,Ne.symm e]
theorem unlisted_set {L:Array Bool} {n i:Nat} (hL:L.size=n) (hi:i<n) (h:¬ In L i):unlisted (L.setIfInBounds i true) n+1=unlisted L n:=by
  refine filter_flip (i:=i) _ List.nodup_range (by simpa using hi) ?_ ?_ ?_
  · unfold In at h;simpa using h
  · have:=(in_set (L:=L) (i:=i) (by omega) i).2 (.inl rfl)
    unfold In at this;simp [this]
  · intro j hj
    have:=in_set (L:=L) (i:=i) (by omega) j
    unfold In at this
    simp only [hj,false_or] at this
    cases h1:L.getD j false<;>cases h2:(L.setIfInBounds i true).getD j false<;>simp_all
theorem unlisted_pos {L:Array Bool} {n i:Nat} (hi:i<n) (h:¬ In L i):0<unlisted L n:=by
  unfold unlisted
  apply List.length_pos_of_mem (a:=i)
  unfold In at h
  have h:L.getD i false=false:=by simpa using h
  simp [hi,h,-Array.getD_eq_getD_getElem?]
def Dst (l:List AOper) (i:Nat) (t:Pos):Prop:=∃ x,l[i]?=some x∧x.dst=some t
def Mk (l:List AOper) (env:Tree AV) (i:Nat) (j:Pos):Prop:=∃ x d,l[i]?=some x∧x.op.makes=true∧x.dst=some d∧nameOf (env.get .undef d)=some j
def Ch (l:List AOper) (i:Nat):Prop:=∃ x,l[i]?=some x∧x.op.chain=true
theorem chain_kinds {op:AOp} (h:op.chain=true):op.makes=false∧op.reads=false∧op.plain=false:=by
  cases op<;>simp [AOp.chain] at h<;>simp [AOp.makes,AOp.reads,AOp.plain]
theorem makes_kinds {op:AOp} (h:op.makes=true):op.chain=false∧op.reads=false∧op.plain=false:=by
  cases op<;>simp [AOp.makes] at h<;>simp [AOp.chain,AOp.reads,AOp.plain]
theorem reads_kinds {op:AOp} (h:op.reads=true):op.chain=false∧op.makes=false∧op.plain=false:=by
  cases op<;>(try (simp [AOp.reads] at h;done))<;>simp [AOp.chain,AOp.makes,AOp.plain]
  rename_i lo _ _
  cases lo
  · simp [AOp.reads] at h
  · simp
theorem plain_kinds {op:AOp} (h:op.plain=true):op.chain=false∧op.makes=false∧op.reads=false:=by
  cases op<;>(try (simp [AOp.plain] at h;done))<;>simp [AOp.chain,AOp.makes,AOp.reads]
  rename_i lo _ _
  cases lo
  · simp
  · simp [AOp.plain] at h
theorem okPair_spec {i j:Nat} (h:okPair l anc i j=true) {x y:AOper} (hx:l[i]?=some x) (hy:l[j]?=some y) :
    i≠j∧¬ Anc anc i j∧(∀ d,x.dst=some d→y.dst≠some d∧(d∈y.names→Anc anc j i))∧(∀ d,y.dst=some d→d∈x.names→Anc anc j i∧x.op.reads=false)∧(x.op.chain=true→Anc anc j i∧∀ k,Anc anc i k→Anc anc j k):=by
  unfold okPair at h
  rw [hx,hy] at h
  simp only [Bool.and_eq_true,bne_iff_ne,ne_eq,Bool.not_eq_true'] at h
  obtain ⟨⟨⟨⟨h1,h2⟩,h3⟩,h4⟩,h5⟩:=h
  refine ⟨h1,by unfold Anc;rw [h2];simp,?_,?_,?_⟩
  · intro d hd
    rw [hd] at h3
    simp only [Bool.and_eq_true,Bool.or_eq_true,Bool.not_eq_true'] at h3
    refine ⟨fun e=>?_,fun hm=>?_⟩
    · rw [e] at h3;simp at h3
    · rcases h3.2 with h | h
      · exact h
      · have:y.names.contains d=true:=by simpa using hm
        rw [this] at h;cases h
  · intro d hd hm
    rw [hd] at h4
    simp only [Bool.or_eq_true,Bool.and_eq_true,Bool.not_eq_true'] at h4
    rcases h4 with h | h
    · have:x.names.contains d=true:=by simpa using hm
      rw [this] at h;cases h
    · exact h
  · intro hc
    simp only [hc,Bool.not_true,Bool.false_or,Bool.and_eq_true,beq_iff_eq] at h5
    refine ⟨h5.1,fun k hk=>?_⟩
    unfold Anc at hk ⊢
    rw [← h5.2,Nat.testBit_and,Bool.and_eq_true] at hk
    exact hk.2
theorem okPairs_spec:∀ {ord:List Nat},okPairs l anc ord=true→ord.Pairwise (fun i j=>okPair l anc i j=true)∧∀ i∈ord,∃ x,l[i]?=some x∧okOne x=true
  | [],_=>⟨List.Pairwise.nil,fun i h=>by cases h⟩
  | i::rest,h=>by
    simp only [okPairs,Bool.and_eq_true,List.all_eq_true] at h
    obtain ⟨⟨h1,h2⟩,h3⟩:=h
    obtain ⟨g1,g2⟩:=okPairs_spec h3
    refine ⟨List.pairwise_cons.2 ⟨h2,g1⟩,fun j hj=>?_⟩
    rcases List.mem_cons.1 hj with e | e
    · subst e
      split at h1
      · rename_i x hx;exact ⟨x,hx,h1⟩
      · cases h1
    · exact g2 j e
theorem pw_ne {α:Type} {R:α→α→Prop}:∀ {s:List α},s.Pairwise R→∀ {i j:α},i∈s→j∈s→i=j∨R i j∨R j i
  | [],_,i,_,h,_=>by cases h
  | a::s,h,i,j,hi,hj=>by
    rw [List.pairwise_cons] at h
    rcases List.mem_cons.1 hi with e | e
    · subst e
      rcases List.mem_cons.1 hj with e' | e'
      · exact .inl e'.symm
      · exact .inr (.inl (h.1 j e'))
    · rcases List.mem_cons.1 hj with e' | e'
      · subst e';exact .inr (.inr (h.1 i e))
      · exact pw_ne h.2 e e'
theorem Dst.inj {ord:List Nat} (ho:okPairs l anc ord=true) {i j:Nat} (hi:i∈ord) (hj:j∈ord) {t:Pos} (h1:Dst l i t) (h2:Dst l j t):i=j:=by
  obtain ⟨x,hx,dx⟩:=h1
  obtain ⟨y,hy,dy⟩:=h2
  rcases pw_ne (okPairs_spec ho).1 hi hj with e | e | e
  · exact e
  · exact absurd dy ((okPair_spec e hx hy).2.2.1 t dx).1
  · exact absurd dx ((okPair_spec e hy hx).2.2.1 t dy).1
def hidden (env:Tree AV) (ps:List Pos):List Pos:=ps.filterMap fun p=>nameOf (env.get .undef p)
theorem hideAll_get (env:Tree AV):∀ (ps:List Pos) (H:Heap) (j:Pos),(hideAll env H ps).1.get j=(if j∈hidden env ps then .none else H.get j)∧(hideAll env H ps).1.next=H.next ∧
    ∀ H',(showAll H' (hideAll env H ps).2).get j=(if j∈hidden env ps then H.get j else H'.get j)∧(showAll H' (hideAll env H ps).2).next=H'.next
  | [],H,j=>by simp [hideAll,hidden,showAll]
  | p::ps,H,j=>by
    unfold hideAll
    cases hn:nameOf (env.get .undef p) with
    | none =>
      have:=hideAll_get env ps H j
      simpa [hidden,hn] using this
    | some i =>
      have ih:=hideAll_get env ps (H.set i .none) j
      simp only
      have hm:∀ q,q∈hidden env (p::ps)↔q=i∨q∈hidden env ps:=by intro q;simp [hidden,hn]
      refine ⟨?_,by rw [ih.2.1];rfl,fun H'=>⟨?_,?_⟩⟩
      · rw [ih.1,Heap.get_set]
        by_cases e:j=i
        · subst e;simp [hm]
        · by_cases e':j∈hidden env ps<;>simp [hm,e,e']
      · rw [showAll,Heap.get_set,(ih.2.2 H').1,Heap.get_set]
        by_cases e:j=i
        · subst e;simp [hm]
        · by_cases e':j∈hidden env ps<;>simp [hm,e,e']
      · rw [showAll,Heap.next_set];exact (ih.2.2 H').2
theorem hides_mem {seen:List Nat} {i:Nat} {env:Tree AV} {j:Pos}:j∈hidden env (hides l anc seen i)↔∃ k∈seen,¬ Anc anc i k∧Mk l env k j:=by
  simp only [hidden,hides,List.mem_filterMap]
  constructor
  · rintro ⟨p,⟨k,hk,h1⟩,h2⟩
    split at h1
    · rename_i r hr
      split at h1
      · rename_i hc
        simp only [Bool.and_eq_true,Bool.not_eq_true'] at hc
        exact ⟨k,hk,by unfold Anc;rw [hc.2];simp,r,p,hr,hc.1,h1,h2⟩
      · cases h1
    · cases h1
  · rintro ⟨k,hk,h1,r,d,hr,h2,h3,h4⟩
    refine ⟨d,⟨k,hk,?_⟩,h4⟩
    unfold Anc at h1
    have h1:(anc.getD i 0).testBit k=false:=by simpa using h1
    simp only [hr,h2,h1,Bool.not_false,Bool.and_self,if_true,h3]
theorem reads_mem {seen:List Nat} {i k:Nat} (hk:k∈seen) {r:AOper} (hr:l[k]?=some r) (h1:r.op.reads=true) (h2:¬ Anc anc i k) {d:Pos} (hd:r.dst=some d):(⟨d,r.op,r.guard⟩:ARe)∈reads l anc seen i:=by
  simp only [reads,List.mem_filterMap]
  refine ⟨k,hk,?_⟩
  unfold Anc at h2
  have h2:(anc.getD i 0).testBit k=false:=by simpa using h2
  simp only [hr,h1,h2,Bool.not_false,Bool.and_self,if_true,hd,Option.map_some]
theorem recheck_mem {env:Tree AV} {H:Heap}:∀ {re:List ARe},recheck env H re=true→∀ r∈re,guardOk env r.guard=true→∃ H1,evalOp r.op env H=some (env.get .undef r.dst,H1)
  | [],_,r,h,_=>by cases h
  | a::re,h,r,hm,hg=>by
    simp only [recheck,Bool.and_eq_true] at h
    rcases List.mem_cons.1 hm with e | e
    · subst e
      rw [hg] at h
      simp only [if_true] at h
      have:=h.1
      split at this
      · rename_i w H1 hw
        rw [hw,sameV_eq this];exact ⟨H1,rfl⟩
      · cases this
    · exact recheck_mem h.2 r e hg
end Go.Abs
namespace Go.Abs
variable [Ov]
variable {P:Program} {nt:Nat} {ops:Array Oper} {l:List AOper} {ord:List Nat}
theorem setDst_get (env:Tree AV) (d:Option Pos) (v:AV) (t:Pos):(setDst env d v).get .undef t=if d=some t then v else env.get .undef t:=by
  cases d with
  | none=>simp [setDst]
  | some d =>
    simp only [setDst,Tree.get_set]
    by_cases e:t=d
    · subst e;simp
    · rw [if_neg e,if_neg (fun h=>e (by injection h with h;exact h.symm))]
theorem guardOk_congr {env env':Tree AV} {x:AOper} (h:∀ t∈x.names,env.get .undef t=env'.get .undef t):guardOk env x.guard=guardOk env' x.guard:=by
  cases hg:x.guard with
  | none=>rfl
  | some g =>
    obtain ⟨p,b⟩:=g
    have:=h p (by simp [AOper.names,hg])
    simp only [guardOk,this]
theorem guardDefd_congr {env env':Tree AV} {x:AOper} (h:∀ t∈x.names,env.get .undef t=env'.get .undef t):guardDefd env x.guard=guardDefd env' x.guard:=by
  cases hg:x.guard with
  | none=>rfl
  | some g =>
    obtain ⟨p,b⟩:=g
    have:=h p (by simp [AOper.names,hg])
    simp only [guardDefd,this]
theorem op_names {x:AOper} {t:Pos} (h:t∈x.op.slots):t∈x.names:=by simp [AOper.names,h]
structure Reg (P:Program) (nt:Nat) (ops:Array Oper) (l:List AOper) (ord:List Nat):Prop where
  hl:ops.toList.mapM (cOper P nt ops)=some l
  he:edgesOk ops=true
  hall:∀ i,i<ops.size→i∈ord
  hok:okPairs l (Region.before ops) ord=true
theorem mapM_get {α β:Type} {f:α→Option β}:∀ {as:List α} {bs:List β},as.mapM f=some bs→∀ (i:Nat) (b:β),bs[i]?=some b→∃ a,as[i]?=some a∧f a=some b
  | [],bs,h,i,b,hb=>by simp only [List.mapM_nil,Option.pure_def,Option.some.injEq] at h;subst h;simp at hb
  | a::as,bs,h,i,b,hb=>by
    simp only [List.mapM_cons,Option.bind_eq_bind,Option.bind_eq_some_iff,Option.pure_def,Option.some.injEq] at h
    obtain ⟨b0,h0,bs',h1,rfl⟩:=h
    cases i with
    | zero=>simp only [List.getElem?_cons_zero,Option.some.injEq] at hb;subst hb;exact ⟨a,by simp,h0⟩
    | succ i=>simp only [List.getElem?_cons_succ] at hb;simpa using mapM_get h1 i b hb
theorem Reg.op (h:Reg P nt ops l ord) {i:Nat} {x:AOper} (hx:l[i]?=some x):∃ o,ops[i]?=some o∧cOper P nt ops o=some x:=by
  obtain ⟨o,h1,h2⟩:=mapM_get h.hl i x hx
  exact ⟨o,by rw [← Array.getElem?_toList];exact h1,h2⟩
def Pend (l:List AOper) (anc:Array Nat) (seen:List Nat) (env0 env:Tree AV) (H:Heap) (i:Nat):Prop :=
  ∃ (x:AOper) (post pre:List Nat) (ex:Tree AV),l[i]?=some x∧seen=post++i::pre ∧
    (∀ t,(∃ k∈pre,Dst l k t)→ex.get .undef t=env.get .undef t)∧(∀ t,(∀ k∈pre,¬ Dst l k t)→ex.get .undef t=env0.get .undef t) ∧
    ((guardOk ex x.guard=false∧guardDefd ex x.guard=true∧∀ d,x.dst=some d→env.get .undef d=.undef) ∨
     (guardOk ex x.guard=true∧∃ v,(∀ d,x.dst=some d→env.get .undef d=v) ∧
       ((x.op.makes=false∧∀ H':Heap,evalOp x.op ex H'=some (v,H')) ∨
        (x.op.reads=true∧(∀ j,x.op.target ex=some j→H.get j≠.none∧∀ k∈seen,Mk l env k j→Anc anc i k)∧∀ H':Heap,(∀ j,x.op.target ex=some j→H'.get j=H.get j)→evalOp x.op ex H'=some (v,H')) ∨
        (x.op.makes=true∧∃ (nv:NewV) (obj:AObj) (j:Pos),obj.young∧v=nv.of j∧H.get j=obj∧∀ H':Heap,evalOp x.op ex H'=some (nv.of H'.next,H'.new obj)))))
structure Dr (P:Program) (Wr:Acc) (nt:Nat) (ops:Array Oper) (l:List AOper) (ord:List Nat) (tbl:Nat→AFunc) (K:Fr→Heap→Prop) (marks:List Pos) (rnd:Option Pos) (env0:Tree AV)
    (L:Array Bool) (seen rest:List Nat) (n:Nat) (env:Tree AV) (H:Heap) (epi:Tree AV) (pn:List Pos) (ρ:Names) (w:World) (tmps:Array Value):Prop where
  ord_eq:seen.reverse++rest=ord
  size:L.size=ops.size
  sub:∀ i,In L i→i∈seen
  closed:∀ i,In L i→∀ j,Dep ops i j→In L j
  chn:∀ i∈seen,Ch l i→In L i
  run:Go.Abs.ops False allAsk tbl n (addRe l (Region.before ops) seen rest) ⟨env,marks,rnd⟩ H K
  env_same:∀ t,(∀ i∈seen,¬ Dst l i t)→env.get .undef t=env0.get .undef t
  pi_env:∀ t,(∀ i∈seen,¬ In L i→¬ Dst l i t)→epi.get .undef t=env.get .undef t
  pi_env0:∀ t i,i∈seen→¬ In L i→Dst l i t→epi.get .undef t=env0.get .undef t
  pn_iff:∀ j,j∈pn↔∃ i∈seen,¬ In L i∧Mk l env i j
  names:∀ i i' j,i∈seen→i'∈seen→Mk l env i j→Mk l env i' j→i=i'
  top:∀ i j,i∈seen→Mk l env i j→j.idx<H.next.idx∧(j∈pn∨ρ j≠none)
  young:∀ i j,i∈seen→Mk l env i j→(∀ c∈seen,Ch l c→¬ Anc (Region.before ops) c i)→(H.get j).young
  pend:∀ i∈seen,¬ In L i→Pend l (Region.before ops) seen env0 env H i
  dead:∀ j∈pn,ρ j=none∧¬ Wr.un j∧∀ k,j∉(H.get k).par
  E:ERel ρ nt epi tmps
  inv:Inv P Wr ρ (H.drops pn) w
section
variable {Wr:Acc} {tbl:Nat→AFunc} {K:Fr→Heap→Prop} {marks:List Pos} {rnd:Option Pos} {env0:Tree AV} {L:Array Bool} {seen rest:List Nat} {n:Nat} {env:Tree AV} {H:Heap} {epi:Tree AV} {pn:List Pos} {ρ:Names} {w:World} {tmps:Array Value}
theorem pair_seen (hR:Reg P nt ops l ord) (ho:seen.reverse++rest=ord):seen.Pairwise (fun j i=>okPair l (Region.before ops) i j=true)∧(∀ i∈seen,∀ j∈rest,okPair l (Region.before ops) i j=true):=by
  have:=(okPairs_spec hR.hok).1
  rw [← ho,List.pairwise_append] at this
  exact ⟨List.pairwise_reverse.1 this.1,fun i hi j hj=>this.2.2 i (List.mem_reverse.2 hi) j hj⟩
theorem seen_ord (ho:seen.reverse++rest=ord) {i:Nat} (hi:i∈seen):i∈ord:=by rw [← ho];simp [hi]
theorem rest_ord (ho:seen.reverse++rest=ord) {i:Nat} (hi:i∈rest):i∈ord:=by rw [← ho];simp [hi]
theorem get_ord (hR:Reg P nt ops l ord) {i:Nat} (hi:i∈ord):∃ x,l[i]?=some x∧okOne x=true:=(okPairs_spec hR.hok).2 i hi
theorem rest_new (hR:Reg P nt ops l ord) (ho:seen.reverse++rest=ord) {i:Nat} (hi:i∈rest):i∉seen:=by
  intro hs
  obtain ⟨x,hx,_⟩:=get_ord hR (rest_ord ho hi)
  exact (okPair_spec ((pair_seen hR ho).2 i hs i hi) hx hx).1 rfl
theorem pair_split (hR:Reg P nt ops l ord) (ho:seen.reverse++rest=ord) {post pre:List Nat} {i:Nat} (hs:seen=post++i::pre) :
    (∀ k∈pre,okPair l (Region.before ops) k i=true)∧(∀ k∈post,okPair l (Region.before ops) i k=true):=by
  have:=(pair_seen hR ho).1
  rw [hs,List.pairwise_append,List.pairwise_cons] at this
  exact ⟨fun k hk=>this.2.1.1 k hk,fun k hk=>this.2.2 k hk i (List.mem_cons_self ..)⟩
theorem Dr.agree (hR:Reg P nt ops l ord) (d:Dr P Wr nt ops l ord tbl K marks rnd env0 L seen rest n env H epi pn ρ w tmps) {i:Nat} (hi:¬ In L i) (hd:∀ j,Dep ops i j→In L j) {x:AOper} {post pre:List Nat} {ex:Tree AV} (hx:l[i]?=some x)
    (hs:seen=post++i::pre) (h1:∀ t,(∃ k∈pre,Dst l k t)→ex.get .undef t=env.get .undef t) (h2:∀ t,(∀ k∈pre,¬ Dst l k t)→ex.get .undef t=env0.get .undef t):∀ t∈x.names,epi.get .undef t=ex.get .undef t:=by
  intro t ht
  have hanc:=anc_in d.closed i hd
  obtain ⟨hpre,hpost⟩:=pair_split hR d.ord_eq hs
  have inj:∀ {a b:Nat},a∈seen→b∈seen→Dst l a t→Dst l b t→a=b:=fun ha hb=>Dst.inj hR.hok (seen_ord d.ord_eq ha) (seen_ord d.ord_eq hb)
  have his:i∈seen:=by rw [hs];simp
  by_cases hex:∃ k∈seen,Dst l k t
  · obtain ⟨k,hk,hkt⟩:=hex
    have hk':=hk
    rw [hs,List.mem_append,List.mem_cons] at hk'
    obtain ⟨y,hy,dy⟩:=hkt
    rcases hk' with hp | rfl | hp
    ·
      have hA:=((okPair_spec (hpost k hp) hx hy).2.2.2.1 t dy ht).1
      have hkn:¬ In L k:=fun hin=>hi (anc_in d.closed k (d.closed k hin) i hA)
      rw [d.pi_env0 t k hk hkn ⟨y,hy,dy⟩]
      refine (h2 t fun k' hk2 hkt2=>?_).symm
      have:=inj hk (by rw [hs];simp [hk2]) ⟨y,hy,dy⟩ hkt2
      subst this
      exact (okPair_spec (hpre k hk2) hy hx).2.1 hA
    ·
      rw [d.pi_env0 t k hk hi ⟨y,hy,dy⟩]
      refine (h2 t fun k' hk2 hkt2=>?_).symm
      have:=inj hk (by rw [hs];simp [hk2]) ⟨y,hy,dy⟩ hkt2
      subst this
      exact (okPair_spec (hpre k hk2) hy hy).1 rfl
    ·
      have hA:=((okPair_spec (hpre k hp) hy hx).2.2.1 t dy).2 ht
      have hin:=hanc k hA
      rw [h1 t ⟨k,hp,y,hy,dy⟩]
      refine d.pi_env t fun k' hk2 hkn hkt2=>?_
      have:=inj hk hk2 ⟨y,hy,dy⟩ hkt2
      subst this
      exact hkn hin
  · have hno:∀ k∈seen,¬ Dst l k t:=fun k hk hkt=>hex ⟨k,hk,hkt⟩
    rw [d.pi_env t fun k hk _=>hno k hk,d.env_same t hno]
    exact (h2 t fun k hk=>hno k (by rw [hs];simp [hk])).symm
theorem Dr.agree_head (hR:Reg P nt ops l ord) (d:Dr P Wr nt ops l ord tbl K marks rnd env0 L seen rest n env H epi pn ρ w tmps) {i:Nat} (hr:i∈rest) (hd:∀ j,Dep ops i j→In L j) {x:AOper} (hx:l[i]?=some x):∀ t∈x.names,epi.get .undef t=env.get .undef t:=by
  intro t ht
  refine d.pi_env t fun k hk hkn hkt=>?_
  obtain ⟨y,hy,dy⟩:=hkt
  exact hkn (anc_in d.closed i hd k (((okPair_spec ((pair_seen hR d.ord_eq).2 k hk i hr) hy hx).2.2.1 t dy).2 ht))
end
theorem cop_of_eval {o:Oper} {x:AOper} (hx:cOper P nt ops o=some x) {env:Tree AV} {H:Heap} {r:AV × Heap} (hev:evalOp x.op env H=some r):cOp P nt o=some x.op:=by
  obtain ⟨_,_,_,xo,_⟩:=cOper_inv hx
  rw [xo] at hev
  rw [xo]
  split at hev
  · simp [evalOp] at hev
  · rename_i hn
    rw [if_neg hn]
    cases hc:cOp P nt o with
    | none=>rw [hc] at hev;simp [evalOp] at hev
    | some q=>rfl
theorem op_steps {o:Oper} {op:AOp} {i:Nat} {is:List Nat} {b:Frame} {a:Act} {k:List Item} {cs:List Frame} {w w':World} {c:Value} (hio:ops[i]?=some o) (hc:cOp P nt o=some op) (hg:Region.wanted o (yielded ops a.tmps)=true)
    (hrun:(execOp a.eval o).run P w=.ok (.value c) w'∨((execOp a.eval o).run P w=.ok .skip w'∧c=undef)) :
    Steps P (lone (b.atR a (.inRegion ops (i::is)::k)) cs w) (lone (b.atR (a.put o.dst c) (.inRegion ops is::k)) cs w'):=by
  have hfin:(b.atR a (.inRegion ops (i::is)::k)).finish c=b.atR (a.put o.dst c) (.inRegion ops is::k):=by rw [Frame.finish_atR,hio];rfl
  have hstep:=stepGR_op (P:=P) (b:=b) (a:=a) (k:=k) (cs:=cs) (w:=w) (rest:=is) hio hg
  rw [Oper.semAt_eq _ _ _ (no_defer hc)] at hstep
  refine .one (step_lone_go ?_)
  rw [hstep,← hfin]
  rcases hrun with hr | ⟨hr,rfl⟩
  · exact apply_value hr
  · exact apply_skip hr
theorem op_skips {o:Oper} {i:Nat} {is:List Nat} {b:Frame} {a:Act} {k:List Item} {cs:List Frame} {w:World} (hio:ops[i]?=some o) (hg:Region.wanted o (yielded ops a.tmps)=false) :
    Steps P (lone (b.atR a (.inRegion ops (i::is)::k)) cs w) (lone (b.atR (a.put o.dst undef) (.inRegion ops is::k)) cs w):=by
  have hst:=stepR_op_skip (P:=P) (b:=b) (a:=a) (k:=k) (cs:=cs) (w:=w) (ops:=ops) (i:=i) (rest:=is) (by simp [hio,hg])
  rw [hio] at hst
  exact .one hst
theorem guard_sound' {ρ:Names} {env:Tree AV} {tmps:Array Value} (h:ERel ρ nt env tmps) {o:Oper} {x:AOper} (hx:cOper P nt ops o=some x) (hdf:guardDefd env x.guard=true):Region.wanted o (yielded ops tmps)=guardOk env x.guard :=
  guard_sound (a:=⟨tmps,[]⟩) (fr:=⟨env,[],none⟩) (ro:=none) ⟨h,trivial,trivial⟩ hx hdf
theorem put_defers' (a:Act) (d:Option Tmp) (c:Value):(a.put d c).defers=a.defers:=by cases d<;>rfl
theorem ERel.put {ρ:Names} {env:Tree AV} {a:Act} (h:ERel ρ nt env a.tmps) {v:AV} {c:Value} (hv:VR ρ v c) (d:Option Tmp):ERel ρ nt (setDst env (d.map Pos.slot) v) (a.put d c).tmps:=by
  cases d with
  | none=>exact h
  | some d=>exact h.set hv
end Go.Abs
namespace Go.Abs
variable [Ov]
variable {P:Program} {nt:Nat} {ops:Array Oper} {l:List AOper} {ord:List Nat}
variable {Wr:Acc} {tbl:Nat→AFunc} {K:Fr→Heap→Prop} {marks:List Pos} {rnd:Option Pos} {env0:Tree AV} {L:Array Bool} {seen rest:List Nat} {n:Nat} {env:Tree AV} {H:Heap} {epi:Tree AV} {pn:List Pos} {ρ:Names} {w:World} {tmps:Array Value}
theorem Dr.mark (hR:Reg P nt ops l ord) (d:Dr P Wr nt ops l ord tbl K marks rnd env0 L seen rest n env H epi pn ρ w tmps) {i:Nat} (his:i∈seen) (hlt:i<ops.size) (hdep:∀ j,Dep ops i j→In L j)
    {epi':Tree AV} {pn':List Pos} {ρ':Names} {w':World} {tmps':Array Value} (hext:Ext ρ ρ') (hepi:∀ t,(Dst l i t→epi'.get .undef t=env.get .undef t)∧(¬ Dst l i t→epi'.get .undef t=epi.get .undef t))
    (hpn:∀ j,j∈pn'↔j∈pn∧¬ Mk l env i j) (hlive:∀ j,Mk l env i j→ρ' j≠none) (hdead:∀ j∈pn',ρ' j=none) (hE:ERel ρ' nt epi' tmps') (hI:Inv P Wr ρ' (H.drops pn') w') :
    Dr P Wr nt ops l ord tbl K marks rnd env0 (L.setIfInBounds i true) seen rest n env H epi' pn' ρ' w' tmps':=by
  have hin:∀ j,In (L.setIfInBounds i true) j↔j=i∨In L j:=in_set (by rw [d.size];exact hlt)
  have hnin:∀ j,¬ In (L.setIfInBounds i true) j→j≠i∧¬ In L j:=fun j hj=>⟨fun e=>hj ((hin j).2 (.inl e)),fun e=>hj ((hin j).2 (.inr e))⟩
  refine ⟨d.ord_eq,by rw [Array.size_setIfInBounds];exact d.size,?_,?_,fun k hk hc=>(hin k).2 (.inr (d.chn k hk hc)),d.run,d.env_same,?_,?_,?_,d.names,?_,d.young,fun k hk hn=>d.pend k hk (hnin k hn).2,?_,hE,hI⟩
  · intro j hj
    rcases (hin j).1 hj with e | e
    · rw [e];exact his
    · exact d.sub j e
  · intro j hj k hk
    rcases (hin j).1 hj with e | e
    · rw [e] at hk;exact (hin k).2 (.inr (hdep k hk))
    · exact (hin k).2 (.inr (d.closed j e k hk))
  · intro t ht
    by_cases hd:Dst l i t
    · exact (hepi t).1 hd
    · rw [(hepi t).2 hd]
      refine d.pi_env t fun k hk hn=>?_
      by_cases e:k=i
      · rw [e];exact hd
      · exact ht k hk fun h=>(hin k).1 h |>.elim e hn
  · intro t k hk hn hkt
    obtain ⟨h1,h2⟩:=hnin k hn
    rw [(hepi t).2 fun hd=>h1 (Dst.inj hR.hok (seen_ord d.ord_eq hk) (seen_ord d.ord_eq his) hkt hd)]
    exact d.pi_env0 t k hk h2 hkt
  · intro j
    rw [hpn,d.pn_iff]
    constructor
    · rintro ⟨⟨k,hk,h1,h2⟩,h3⟩
      exact ⟨k,hk,fun h=>(hin k).1 h |>.elim (fun e=>h3 (e ▸ h2)) h1,h2⟩
    · rintro ⟨k,hk,h1,h2⟩
      obtain ⟨g1,g2⟩:=hnin k h1
      exact ⟨⟨k,hk,g2,h2⟩,fun h3=>g1 (d.names k i j hk his h2 h3)⟩
  · intro k j hk hm
    obtain ⟨h1,h2⟩:=d.top k j hk hm
    refine ⟨h1,?_⟩
    rcases h2 with h2 | h2
    · by_cases hi:Mk l env i j
      · exact .inr (hlive j hi)
      · exact .inl ((hpn j).2 ⟨h2,hi⟩)
    · right
      intro e
      cases hr:ρ j with
      | none=>exact h2 hr
      | some x=>rw [(hext _ _ hr).1] at e;cases e
  · intro j hj
    exact ⟨hdead j hj,(d.dead j ((hpn j).1 hj).1).2⟩
theorem NewV.live {n:NewV} {i:Pos} {c:Value} (h:VR ρ (n.of i) c):ρ i≠none:=by
  cases n with
  | ptr=>obtain ⟨b,x,e,_⟩:=VR.ptr_inv h;rw [e];simp
  | slice a b e =>
    simp only [NewV.of] at h
    cases c with
    | slice ad l' c' =>
      cases ad with
      | none=>simp [VR] at h
      | some ad=>simp only [VR] at h;obtain ⟨_,_,_,_,b,x,e,_⟩:=h;rw [e];simp
    | _=>simp [VR] at h
  | map=>obtain ⟨b,e,_⟩:=VR.map_inv h;rw [e];simp
theorem drops_get (H:Heap) (pn:List Pos) (j:Pos):(H.drops pn).get j=if j∈pn then .none else H.get j:=Heap.get_drops pn H j
theorem Dr.pend_step (hR:Reg P nt ops l ord) (d:Dr P Wr nt ops l ord tbl K marks rnd env0 L seen rest n env H epi pn ρ w tmps) {i:Nat} (his:i∈seen) (hi:¬ In L i) (hdep:∀ j,Dep ops i j→In L j) {b:Frame} {a:Act} (ha:a.tmps=tmps) (is:List Nat) (k:List Item) (cs:List Frame) :
    ∃ (ρ':Names) (w':World) (a':Act) (epi':Tree AV) (pn':List Pos),Ext ρ ρ'∧Kept Wr w w'∧a'.defers=a.defers∧Steps P (lone (b.atR a (.inRegion ops (i::is)::k)) cs w) (lone (b.atR a' (.inRegion ops is::k)) cs w') ∧
      Dr P Wr nt ops l ord tbl K marks rnd env0 (L.setIfInBounds i true) seen rest n env H epi' pn' ρ' w' a'.tmps:=by
  subst ha
  obtain ⟨x,post,pre,ex,hx,hs,h1,h2,hcase⟩:=d.pend i his hi
  obtain ⟨o,hio,hox⟩:=hR.op hx
  obtain ⟨xd,_⟩:=cOper_inv hox
  have hlt:i<ops.size:=by
    rcases Nat.lt_or_ge i ops.size with q | q
    · exact q
    · rw [Array.getElem?_eq_none q] at hio;cases hio
  have hag:=d.agree hR hi hdep hx hs h1 h2
  have hdf:guardDefd ex x.guard=true:=by
    rcases hcase with ⟨_,h,_⟩ | ⟨h,_⟩
    · exact h
    · exact guardOk_defd h
  have hgd:Region.wanted o (yielded ops a.tmps)=guardOk ex x.guard:=by rw [guard_sound' d.E hox (by rw [guardDefd_congr hag];exact hdf)];exact guardOk_congr hag
  have hevc:∀ H',evalOp x.op epi H'=evalOp x.op ex H':=fun H'=>evalOp_congr (fun p hp=>hag p (op_names hp)) H'
  have hdst:∀ {v:AV},(∀ t,x.dst=some t→env.get .undef t=v)→∀ t,(Dst l i t→(setDst epi x.dst v).get .undef t=env.get .undef t)∧(¬ Dst l i t→(setDst epi x.dst v).get .undef t=epi.get .undef t):=by
    intro v hv t
    rw [setDst_get]
    refine ⟨fun ⟨y,hy,dy⟩=>?_,fun hn=>?_⟩
    · rw [hx] at hy;injection hy with hy;subst hy
      rw [if_pos dy,hv t dy]
    · rw [if_neg fun e=>hn ⟨x,hx,e⟩]
  have hmk:∀ j,Mk l env i j→x.op.makes=true∧∃ t,x.dst=some t∧nameOf (env.get .undef t)=some j:=by
    rintro j ⟨y,t,hy,g1,g2,g3⟩
    rw [hx] at hy;injection hy with hy;subst hy
    exact ⟨g1,t,g2,g3⟩
  have hpnlt:∀ j∈pn,j.idx<H.next.idx:=fun j hj=>by
    obtain ⟨k',hk',_,hm⟩:=(d.pn_iff j).1 hj
    exact (d.top k' j hk' hm).1
  have hpar:∀ j∈pn,∀ k,j∉((H.drops pn).get k).par:=fun j hj k hk=>by
    rw [drops_get] at hk
    split at hk
    · cases hk
    · exact (d.dead j hj).2.2 k hk
  have hnext:(H.drops pn).next=H.next:=Heap.next_drops _ _
  have quiet:∀ {v:AV},x.op.makes=false→evalOp x.op epi (H.drops pn)=some (v,H.drops pn)→(∀ t,x.dst=some t→env.get .undef t=v)→guardOk ex x.guard=true→∃ (ρ':Names) (w':World) (a':Act) (epi':Tree AV) (pn':List Pos),Ext ρ ρ'∧Kept Wr w w'∧a'.defers=a.defers ∧
      Steps P (lone (b.atR a (.inRegion ops (i::is)::k)) cs w) (lone (b.atR a' (.inRegion ops is::k)) cs w')∧Dr P Wr nt ops l ord tbl K marks rnd env0 (L.setIfInBounds i true) seen rest n env H epi' pn' ρ' w' a'.tmps:=by
    intro v hm hev hv hg
    have Ish:=d.inv.shield (hl:=fun _=>False) (dd:=fun j=>j∈pn) (fun _ h=>h.elim) (fun j hj=>⟨by rw [drops_get,if_pos hj],(d.dead j hj).1,by rw [hnext];exact hpnlt j hj,hpar j hj⟩) rfl (fun _=>.inl rfl) (fun _ h=>h.elim)
    have hcop:=cop_of_eval hox hev
    obtain ⟨c,w',hrun,ρ',hext,hvr,hI',hK⟩:=ok_op (Ctx.mk d.E Ish) hcop hev
    obtain ⟨u1,u2⟩:=d.inv.unshield (hl:=fun _=>False) (fun _ h=>h.elim) hext hI' hK (H2:=H.drops pn) rfl (fun _ h=>h.elim) (fun _ _=>rfl)
    refine ⟨ρ',w',a.put o.dst c,setDst epi x.dst v,pn,hext,u2,put_defers' ..,op_steps hio hcop (by rw [hgd];exact hg) hrun,?_⟩
    refine d.mark hR his hlt hdep hext (hdst hv) (fun j=>⟨fun hj=>⟨hj,fun h=>by rw [hm] at hmk;have:=(hmk j h).1;cases this⟩,fun hj=>hj.1⟩) (fun j h=>by rw [hm] at hmk;have:=(hmk j h).1;cases this) (fun j hj=>(hI'.dead j (.inr hj)).2) ?_ u1
    rw [xd];exact (d.E.mono hext).put hvr o.dst
  rcases hcase with ⟨hg,_,hv⟩ | ⟨hg,v,hv,hcase⟩
  ·
    refine ⟨ρ,w,a.put o.dst undef,setDst epi x.dst .undef,pn,Ext.refl ρ,Kept.refl Wr w,put_defers' ..,op_skips hio (by rw [hgd];exact hg),?_⟩
    have hno:∀ j,¬ Mk l env i j:=fun j h=>by
      obtain ⟨_,t,g1,g2⟩:=hmk j h
      rw [hv t g1] at g2;simp [AV.undef,nameOf] at g2
    refine d.mark hR his hlt hdep (Ext.refl ρ) (hdst hv) (fun j=>⟨fun hj=>⟨hj,hno j⟩,fun hj=>hj.1⟩) (fun j h=>absurd h (hno j)) (fun j hj=>(d.dead j hj).1) ?_ d.inv
    rw [xd];exact d.E.put (VR.undef ρ) o.dst
  · rcases hcase with ⟨hm,hev⟩ | ⟨hr,htg,hev⟩ | ⟨hm,nv,obj,j0,hy,rfl,hobj,hev⟩
    · exact quiet (v:=v) hm (by rw [hevc];exact hev (H.drops pn)) hv hg
    · refine quiet (v:=v) (reads_kinds hr).2.1 ?_ hv hg
      rw [hevc]
      refine hev (H.drops pn) fun j hj=>?_
      rw [drops_get,if_neg]
      intro hjp
      obtain ⟨k',hk',hn,hmk'⟩:=(d.pn_iff j).1 hjp
      exact hn (anc_in d.closed i hdep k' ((htg j hj).2 k' hk' hmk'))
    ·
      obtain ⟨x',hx',hone⟩:=get_ord hR (seen_ord d.ord_eq his)
      rw [hx] at hx';injection hx' with hx';subst hx'
      obtain ⟨t0,ht0⟩:∃ t,x.dst=some t:=by
        cases hd:x.dst with
        | some t=>exact ⟨t,rfl⟩
        | none=>simp [okOne,hd,(makes_kinds hm).1,(makes_kinds hm).2.2] at hone
      have hname:nameOf (env.get .undef t0)=some j0:=by rw [hv t0 ht0];exact NewV.name nv j0
      have hMk:Mk l env i j0:=⟨x,t0,hx,hm,ht0,hname⟩
      have huniq:∀ j,Mk l env i j→j=j0:=by
        intro j h
        obtain ⟨_,t,g1,g2⟩:=hmk j h
        rw [ht0] at g1;injection g1 with g1;subst g1
        rw [hname] at g2;injection g2 with g2;exact g2.symm
      have hj0:j0∈pn:=(d.pn_iff j0).2 ⟨i,his,hi,hMk⟩
      have hpn':∀ j,j∈pn.filter (fun j=>decide (j≠j0))↔j∈pn∧j≠j0:=fun j=>by simp
      generalize hpd:pn.filter (fun j=>decide (j≠j0))=pn' at hpn'
      have Ish:=d.inv.shield (hl:=fun _=>False) (dd:=fun j=>j∈pn') (fun _ h=>h.elim) (fun j hj=>⟨by rw [drops_get,if_pos ((hpn' j).1 hj).1],(d.dead j ((hpn' j).1 hj).1).1,by rw [hnext];exact hpnlt j ((hpn' j).1 hj).1,hpar j ((hpn' j).1 hj).1⟩) rfl (fun _=>.inl rfl) (fun _ h=>h.elim)
      have hev':∀ H':Heap,evalOp x.op epi H'=some (nv.of H'.next,H'.new obj):=fun H'=>by rw [hevc];exact hev H'
      have hcop:=cop_of_eval hox (hev' H)
      obtain ⟨c,w',hrun,ρ',hext,hvr,hI',hK⟩:=make_at Ish d.E hcop hy hev' (d.dead j0 hj0).1 (by rw [hnext];exact hpnlt j0 hj0)
        (by rintro (h | h | h)
            · exact (d.dead j0 hj0).2.1 h
            · exact h
            · exact ((hpn' j0).1 h).2 rfl) (hpar j0 hj0)
      obtain ⟨u1,u2⟩:=d.inv.unshield (hl:=fun _=>False) (fun _ h=>h.elim) hext hI' hK (H2:=H.drops pn') (by rw [Heap.next_drops,Heap.next_set,Heap.next_drops]) (fun _ h=>h.elim) (fun j _=>by
        rw [drops_get,Heap.get_set,drops_get]
        by_cases e:j=j0
        · subst e;rw [if_neg fun h=>((hpn' j).1 h).2 rfl,if_pos rfl];exact hobj
        · by_cases e':j∈pn
          · rw [if_pos ((hpn' j).2 ⟨e',e⟩),if_neg e,if_pos e']
          · rw [if_neg fun h=>e' ((hpn' j).1 h).1,if_neg e,if_neg e'])
      refine ⟨ρ',w',a.put o.dst c,setDst epi x.dst (nv.of j0),pn',hext,u2,put_defers' ..,op_steps hio hcop (by rw [hgd];exact hg) hrun,?_⟩
      refine d.mark hR his hlt hdep hext (hdst hv) (fun j=>?_) (fun j h=>?_) (fun j hj=>(hI'.dead j (.inr hj)).2) ?_ u1
      · rw [hpn']
        exact ⟨fun h=>⟨h.1,fun hm=>h.2 (huniq j hm)⟩,fun h=>⟨h.1,fun e=>h.2 (e ▸ hMk)⟩⟩
      · rw [huniq j h];exact NewV.live hvr
      · rw [xd];exact (d.E.mono hext).put hvr o.dst
end Go.Abs
