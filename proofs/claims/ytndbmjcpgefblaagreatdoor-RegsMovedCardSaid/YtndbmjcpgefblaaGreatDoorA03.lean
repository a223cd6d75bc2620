/- A part of the proof (an abstract machine, walks): no statement of its own, no conditions. -/
import Derived.Test.YtndbmjcpgefblaaGreatDoorA02
import Derived.Laws.IdiomCopy
import Derived.Laws.Cells
set_option linter.all false
namespace Go.Abs
variable [Ov]
def AObj.par:AObj→List Pos
  | .cells _ _ _ _ par _=>par
  | _=>[]
def AObj.fixed:AObj→Bool
  | .cells _ _ _ rw _ _=>!rw
  | _=>false
def EntsR (ρ:Names):List AEnt→List MapEntry→Prop
  | [],[]=>True
  | e::l,c::m=>VR ρ e.key c.key∧VR ρ e.val c.val∧e.born=c.born∧EntsR ρ l m
  | _,_=>False
def EntsU (ρ:Names):List AEnt→List MapEntry→Prop
  | [],[]=>True
  | e::l,c::m=>VR ρ e.key c.key∧VR ρ e.val c.val∧EntsU ρ l m
  | _,_=>False
def StR:AState→LoopState→Prop
  | .ready,.ready | .busy,.busy | .done,.done | .exhausted,.exhausted=>True
  | _,_=>False
def PendR:AJump→Option Code→Prop
  | .none,none=>True
  | .exit i,some (.exit j)=>i=j
  | .ret,some .ret=>True
  | _,_=>False
def OptR (ρ:Names):Option Pos→Option Nat→Prop
  | none,none=>True
  | some i,some b=>ρ i=some (b,0)
  | _,_=>False
def AObj.len:AObj→Nat
  | .cells _ n _ _ _ _=>n
  | _=>0
variable (P:Program)
def MapOk (ces:Array MapEntry) (k:Nat):Prop:=(ces.toList.map (·.born)).Nodup∧∀ c∈ces.toList,c.born<k
def OR (ρ:Names):AObj→Nat→Obj→Prop
  | .cells c n e rw _ fz,off,.cells cs el fr=>el=e∧off+n≤cs.size∧(∀ i,i<n→∃ x,cs[off+i]?=some x∧VR ρ (c.getN .undef i) x) ∧
      (rw=true→∀ i,off+fz≤i→i<cs.size→¬(fr.1≤i∧i<fr.2))
  | .map es clock,off,.map ces k=>off=0∧k=clock∧MapOk ces k∧EntsR ρ es ces.toList
  | .umap es,off,.map ces k=>off=0∧MapOk ces k∧∃ l:List MapEntry,l.Perm ces.toList∧EntsU ρ es l
  | .strIter s rest pos,off,.stringIter bs p=>off=0∧p=pos∧bs.data.toList.map UInt8.toNat=s∧rest=s.drop pos
  | .loop st pend _ env ps as bd d,off,.loop r=>off=0∧StR st r.state∧PendR pend r.pending∧ρ d=some (r.defers,0) ∧
      r.params.toList.map Pos.slot=ps∧∃ nt,ERel ρ nt env r.tmps∧(∀ p∈r.params.toList,p<nt)∧cCode P nt r.assign=some as∧cCode P nt r.body=some bd
  | .deferred taken,off,.deferred cs=>off=0∧(taken=false→cs=some [])
  | .mapIter m since seen last,off,.mapIter m' s l' t=>off=0∧OptR ρ m m'∧s=since∧l'.toList=seen∧t=last
  | _,_,_=>False
theorem EntsR.mono {ρ ρ':Names} (h:Ext ρ ρ'):∀ {l:List AEnt} {m:List MapEntry},EntsR ρ l m→EntsR ρ' l m
  | [],[],_=>by simp [EntsR]
  | _::_,_::_,k=>by simp only [EntsR] at k ⊢;exact ⟨VR.mono h _ _ k.1,VR.mono h _ _ k.2.1,k.2.2.1,EntsR.mono h k.2.2.2⟩
  | [],_::_,k=>by simp [EntsR] at k
  | _::_,[],k=>by simp [EntsR] at k
theorem MapOk.empty:MapOk #[] 0:=⟨by simp,fun c h=>by simp at h⟩
theorem MapOk.modify {ces:Array MapEntry} {k:Nat} (h:MapOk ces k) (i:Nat) {f:MapEntry→MapEntry} (hf:∀ e,(f e).born=e.born):MapOk (ces.modify i f) k:=by
  have:∀ (l:List MapEntry) (i:Nat),(l.modify i f).map (·.born)=l.map (·.born):=by
    intro l
    induction l with
    | nil=>intro i;cases i<;>rfl
    | cons a l ih=>intro i;cases i with
      | zero=>simp [hf]
      | succ i=>simp [ih]
  refine ⟨by rw [Array.toList_modify,this];exact h.1,fun c hc=>?_⟩
  have hm:c.born∈(ces.toList.modify i f).map (·.born):=List.mem_map_of_mem (by rw [← Array.toList_modify];exact hc)
  rw [this,List.mem_map] at hm
  obtain ⟨d,hd,e⟩:=hm
  rw [← e];exact h.2 d hd
theorem MapOk.push {ces:Array MapEntry} {k:Nat} (h:MapOk ces k) {e:MapEntry} (he:e.born=k):MapOk (ces.push e) (k+1):=by
  refine ⟨?_,fun c hc=>?_⟩
  · rw [Array.toList_push,List.map_append,List.nodup_append]
    refine ⟨h.1,by simp,fun a ha b hb=>?_⟩
    simp only [List.map_cons,List.map_nil,List.mem_singleton] at hb
    rw [List.mem_map] at ha
    obtain ⟨d,hd,rfl⟩:=ha
    have:=h.2 d hd;omega
  · rw [Array.toList_push,List.mem_append] at hc
    rcases hc with hc | hc
    · have:=h.2 c hc;omega
    · simp only [List.mem_singleton] at hc;subst hc;omega
theorem MapOk.erase {ces:Array MapEntry} {k:Nat} (h:MapOk ces k) (i:Nat):MapOk (ces.eraseIdxIfInBounds i) k:=by
  refine ⟨?_,fun c hc=>?_⟩
  · rw [Array.toList_eraseIdxIfInBounds]
    exact h.1.sublist ((List.eraseIdx_sublist _ _).map _)
  · rw [Array.toList_eraseIdxIfInBounds] at hc
    exact h.2 c ((List.eraseIdx_sublist _ _).subset hc)
theorem MapOk.clear {k:Nat}:MapOk #[] k:=⟨by simp,fun c h=>by simp at h⟩
theorem EntsU.mono {ρ ρ':Names} (h:Ext ρ ρ'):∀ {l:List AEnt} {m:List MapEntry},EntsU ρ l m→EntsU ρ' l m
  | [],[],_=>by simp [EntsU]
  | _::_,_::_,k=>by simp only [EntsU] at k ⊢;exact ⟨VR.mono h _ _ k.1,VR.mono h _ _ k.2.1,EntsU.mono h k.2.2⟩
  | [],_::_,k=>by simp [EntsU] at k
  | _::_,[],k=>by simp [EntsU] at k
variable {P}
theorem OR.mono {ρ ρ':Names} (h:Ext ρ ρ') {o:AObj} {off:Nat} {ob:Obj} (k:OR P ρ o off ob):OR P ρ' o off ob:=by
  cases o<;>cases ob<;>simp only [OR] at k ⊢
  · obtain ⟨h1,h2,h3,h4⟩:=k
    exact ⟨h1,h2,fun i hi=>by obtain ⟨x,e,hv⟩:=h3 i hi;exact ⟨x,e,VR.mono h _ _ hv⟩,h4⟩
  · exact ⟨k.1,k.2.1,k.2.2.1,EntsR.mono h k.2.2.2⟩
  · exact ⟨k.1,k.2.1,by obtain ⟨l,h1,h2⟩:=k.2.2;exact ⟨l,h1,EntsU.mono h h2⟩⟩
  · exact k
  · obtain ⟨h1,h2,h3,h4,h5,nt,h6,h7⟩:=k
    exact ⟨h1,h2,h3,(h _ _ h4).1,h5,nt,ERel.mono h h6,h7⟩
  · exact k
  · refine ⟨k.1,?_,k.2.2⟩
    have:=k.2.1
    rename_i m _ _ _ m' _ _ _
    cases m<;>cases m'<;>simp only [OptR] at this ⊢
    exact (h _ _ this).1
structure Acc where
  w:Nat→Prop
  r:Nat→Prop
  un:Pos→Prop
  dead:Pos→Prop
structure Kept (Wr:Acc) (w w':World):Prop where
  os:w'.os=w.os
  tape:w'.tape=w.tape
  output:w'.output=w.output
  size:w.heap.size≤w'.heap.size
  block:∀ k,k<w.heap.size→¬ Wr.w k→w'.heap[k]?=w.heap[k]?
theorem Kept.refl (Wr:Acc) (w:World):Kept Wr w w:=⟨rfl,rfl,rfl,Nat.le_refl _,fun _ _ _=>rfl⟩
theorem Kept.trans {Wr:Acc} {a b c:World} (h:Kept Wr a b) (k:Kept Wr b c):Kept Wr a c :=
  ⟨k.os.trans h.os,k.tape.trans h.tape,k.output.trans h.output,Nat.le_trans h.size k.size,
    fun i hi hw=>(k.block i (Nat.lt_of_lt_of_le hi h.size) hw).trans (h.block i hi hw)⟩
theorem Kept.drew {Wr:Acc} {w w':World} (h:Kept Wr w w'):Kept Wr w { w' with drawn:=w'.drawn+1 }:=⟨h.os,h.tape,h.output,h.size,h.block⟩
variable (P)
def InfoR (q:Nat × Nat):AObj→Obj→Prop
  | .cells _ _ e _ _ _,.cells cs _ _=>q=(cs.size,(szOf P e).getD 0)
  | _,_=>True
structure Inv (Wr:Acc) (ρ:Names) (H:Heap) (w:World):Prop where
  obj:∀ i,H.get i≠.none→∃ b x ob,ρ i=some (b,x)∧w.heap[b]?=some ob∧OR P ρ (H.get i) x ob
  sep:∀ i j b x y,i≠j→H.get i≠.none→H.get j≠.none→ρ i=some (b,x)→ρ j=some (b,y)→(i∈(H.get j).par∧x+(H.get i).len≤y+(H.get j).len)∨(j∈(H.get i).par∧y+(H.get j).len≤x+(H.get i).len)
  par:∀ i j,i∈(H.get j).par→i.idx<H.next.idx∧(H.get i≠.none→(H.get i).fixed=true)
  wr:∀ i b x,H.get i≠.none→(H.get i).fixed=false→ρ i=some (b,x)→Wr.w b
  fresh:∀ i,H.next.idx≤i.idx→H.get i=.none∧ρ i=none
  new:∀ k,w.heap.size≤k→Wr.w k∧Wr.r k
  glob:∀ g,g<P.globals.size→ρ (Pos.slot g)=some (g,0)
  info:∀ i b x ob,H.get i≠.none→ρ i=some (b,x)→w.heap[b]?=some ob→InfoR P (ρ.k b) (H.get i) ob
  dom:∀ i b x,ρ i=some (b,x)→b<w.heap.size
  rd:∀ i b x,H.get i≠.none→ρ i=some (b,x)→Wr.r b
  un:∀ i,Wr.un i→H.get i=.none∧i.idx<H.next.idx∧∀ j,i∉(H.get j).par
  dead:∀ i,Wr.dead i→Wr.un i∧ρ i=none
variable {P}
theorem Inv.drew {Wr:Acc} {ρ:Names} {H:Heap} {w:World} (h:Inv P Wr ρ H w):Inv P Wr ρ H { w with drawn:=w.drawn+1 }:=⟨h.obj,h.sep,h.par,h.wr,h.fresh,h.new,h.glob,h.info,h.dom,h.rd,h.un,h.dead⟩
theorem Heap.get_set (H:Heap) (i j:Pos) (o:AObj):(H.set i o).get j=if j=i then o else H.get j:=Tree.get_set _ _ _ _ _
theorem Heap.get_new (H:Heap) (j:Pos) (o:AObj):(H.new o).get j=if j=H.next then o else H.get j:=Tree.get_set _ _ _ _ _
theorem Heap.next_set (H:Heap) (i:Pos) (o:AObj):(H.set i o).next=H.next:=rfl
theorem Heap.get_drops:∀ (l:List Pos) (H:Heap) (j:Pos),(H.drops l).get j=if j∈l then .none else H.get j
  | [],H,j=>by simp [Heap.drops]
  | i::l,H,j=>by
    rw [Heap.drops,Heap.get_drops l,Heap.get_set]
    by_cases h:j∈l<;>by_cases e:j=i<;>simp [h,e]
theorem Heap.next_drops:∀ (l:List Pos) (H:Heap),(H.drops l).next=H.next
  | [],_=>rfl
  | i::l,H=>by rw [Heap.drops,Heap.next_drops l];rfl
def Names.add (ρ:Names) (i:Pos) (b x:Nat) (q:Nat × Nat):Names:=⟨fun j=>if j=i then some (b,x) else ρ j,fun c=>if c=b then q else ρ.k c⟩
theorem Names.add_same (ρ:Names) (i:Pos) (b x:Nat) (q:Nat × Nat):ρ.add i b x q i=some (b,x):=by simp [Names.add]
theorem Names.add_k (ρ:Names) (i:Pos) (b x:Nat) (q:Nat × Nat):(ρ.add i b x q).k b=q:=by simp [Names.add]
theorem Names.add_ext {ρ:Names} {i:Pos} (b x:Nat) (q:Nat × Nat) (h:ρ i=none) (hb:∀ j c y,ρ j=some (c,y)→c=b→ρ.k b=q):Ext ρ (ρ.add i b x q):=by
  intro j y e
  refine ⟨?_,?_⟩
  · show (if j=i then some (b,x) else ρ j)=some y
    split
    · rename_i hj;subst hj;rw [h] at e;cases e
    · exact e
  · show (if y.1=b then q else ρ.k y.1)=ρ.k y.1
    split
    · rename_i hy;rw [hy];exact (hb j y.1 y.2 e hy).symm
    · rfl
theorem Inv.alloc {Wr:Acc} {ρ:Names} {H:Heap} {w:World} (h:Inv P Wr ρ H w) {o:AObj} {ob:Obj} (q:Nat × Nat) (hq:InfoR P q o ob) (ho:o≠.none) (hp:o.par=[])
    (hr:OR P (ρ.add H.next w.heap.size 0 q) o 0 ob) :
    Ext ρ (ρ.add H.next w.heap.size 0 q)∧Inv P Wr (ρ.add H.next w.heap.size 0 q) (H.new o) { w with heap:=w.heap.push ob }∧Kept Wr w { w with heap:=w.heap.push ob }:=by
  have hf:=h.fresh H.next (Nat.le_refl _)
  have hext:Ext ρ (ρ.add H.next w.heap.size 0 q):=Names.add_ext w.heap.size 0 q hf.2 (fun j c y e hc=>by have:=h.dom j c y e;omega)
  have hlt:∀ i,H.get i≠.none→∃ b x ob,ρ i=some (b,x)∧b<w.heap.size∧w.heap[b]?=some ob∧OR P ρ (H.get i) x ob:=by
    intro i hi
    obtain ⟨b,x,ob,e,hb,hr⟩:=h.obj i hi
    refine ⟨b,x,ob,e,?_,hb,hr⟩
    rcases Nat.lt_or_ge b w.heap.size with hl | hl
    · exact hl
    · simp [Array.getElem?_eq_none hl] at hb
  refine ⟨hext,⟨?_,?_,?_,?_,?_,?_,?_,?_,?_,?_,?_,?_⟩,⟨rfl,rfl,rfl,by simp,?_⟩⟩
  · intro i hi
    rw [Heap.get_new] at hi ⊢
    by_cases e:i=H.next
    · subst e
      rw [if_pos rfl]
      exact ⟨w.heap.size,0,ob,Names.add_same ..,by simp,hr⟩
    · rw [if_neg e] at hi ⊢
      obtain ⟨b,x,ob',e',hl,hb,hr'⟩:=hlt i hi
      refine ⟨b,x,ob',(hext _ _ e').1,?_,OR.mono hext hr'⟩
      show (w.heap.push ob)[b]?=_
      rw [Array.getElem?_push,if_neg (by omega)];exact hb
  · intro i j b x y hij hi hj ei ej
    rw [Heap.get_new] at hi hj
    rw [Heap.get_new,Heap.get_new]
    by_cases e1:i=H.next
    · subst e1
      have e2:j≠H.next:=fun h=>hij h.symm
      rw [if_neg e2] at hj
      obtain ⟨b',x',_,e',hl,_⟩:=hlt j hj
      rw [Names.add_same] at ei
      have:=(hext _ _ e').1
      rw [this] at ej
      injection ei with ei;injection ej with ej
      injection ei with ei _;injection ej with ej _
      omega
    · by_cases e2:j=H.next
      · subst e2
        rw [if_neg e1] at hi
        obtain ⟨b',x',_,e',hl,_⟩:=hlt i hi
        rw [Names.add_same] at ej
        have:=(hext _ _ e').1
        rw [this] at ei
        injection ei with ei;injection ej with ej
        injection ei with ei _;injection ej with ej _
        omega
      · rw [if_neg e1] at hi ⊢
        rw [if_neg e2] at hj ⊢
        simp only [Names.add,if_neg e1,if_neg e2] at ei ej
        exact h.sep i j b x y hij hi hj ei ej
  · intro i j hj
    rw [Heap.get_new] at hj
    by_cases e2:j=H.next
    · rw [if_pos e2,hp] at hj;cases hj
    · rw [if_neg e2] at hj
      obtain ⟨h1,h2⟩:=h.par i j hj
      have e1:i≠H.next:=fun e=>by subst e;omega
      rw [Heap.get_new,if_neg e1]
      refine ⟨?_,h2⟩
      show i.idx<H.next.succ.idx
      rw [Pos.idx_succ];omega
  · intro i b x hi hx e
    rw [Heap.get_new] at hi hx
    by_cases e1:i=H.next
    · subst e1
      rw [Names.add_same] at e
      injection e with e;injection e with e _
      exact (h.new b (by omega)).1
    · rw [if_neg e1] at hi hx
      simp only [Names.add,if_neg e1] at e
      exact h.wr i b x hi hx e
  · intro i hi
    have hi':H.next.succ.idx≤i.idx:=hi
    rw [Pos.idx_succ] at hi'
    have hne:i≠H.next:=fun e=>by subst e;omega
    rw [Heap.get_new,if_neg hne]
    obtain ⟨a,b⟩:=h.fresh i (by omega)
    exact ⟨a,by simp [Names.add,hne,b]⟩
  · intro k hk
    exact h.new k (by simp at hk;omega)
  · intro g hg
    exact (hext _ _ (h.glob g hg)).1
  · intro i b x ob' hi e hb
    rw [Heap.get_new] at hi ⊢
    by_cases e1:i=H.next
    · subst e1
      rw [Names.add_same] at e
      injection e with e;injection e with e _
      subst e
      rw [if_pos rfl,Names.add_k]
      have hb':(w.heap.push ob)[w.heap.size]?=some ob':=hb
      rw [Array.getElem?_push,if_pos rfl] at hb'
      injection hb' with hb';rw [← hb'];exact hq
    · rw [if_neg e1] at hi ⊢
      simp only [Names.add,if_neg e1] at e
      have hlt':=h.dom i b x e
      have hb':(w.heap.push ob)[b]?=some ob':=hb
      rw [Array.getElem?_push,if_neg (by omega)] at hb'
      rw [show (ρ.add H.next w.heap.size 0 q).k b=ρ.k b from (hext _ _ e).2]
      exact h.info i b x ob' hi e hb'
  · intro i b x e
    show b<(w.heap.push ob).size
    rw [Array.size_push]
    by_cases e1:i=H.next
    · subst e1
      rw [Names.add_same] at e
      injection e with e;injection e with e _;omega
    · simp only [Names.add,if_neg e1] at e
      have:=h.dom i b x e;omega
  · intro i b x hi e
    rw [Heap.get_new] at hi
    by_cases e1:i=H.next
    · subst e1
      rw [Names.add_same] at e
      injection e with e;injection e with e _
      exact (h.new b (by omega)).2
    · rw [if_neg e1] at hi
      simp only [Names.add,if_neg e1] at e
      exact h.rd i b x hi e
  · intro i hi
    obtain ⟨h1,h2,h3⟩:=h.un i hi
    have e1:i≠H.next:=fun e=>by subst e;omega
    refine ⟨by rw [Heap.get_new,if_neg e1];exact h1,?_,fun j hj=>?_⟩
    · show i.idx<H.next.succ.idx
      rw [Pos.idx_succ];omega
    · rw [Heap.get_new] at hj
      by_cases e2:j=H.next
      · rw [if_pos e2,hp] at hj;cases hj
      · rw [if_neg e2] at hj;exact h3 j hj
  · intro i hi
    obtain ⟨h1,h2⟩:=h.dead i hi
    have e1:i≠H.next:=fun e=>by have:=(h.un i h1).2.1;subst e;omega
    exact ⟨h1,by simp [Names.add,e1,h2]⟩
  · intro k hk _
    show (w.heap.push ob)[k]?=_
    rw [Array.getElem?_push,if_neg (by omega)]
theorem Inv.blk {Wr:Acc} {ρ:Names} {H:Heap} {w:World} (h:Inv P Wr ρ H w) {i:Pos} (hi:H.get i≠.none) :
    ∃ b x ob,ρ i=some (b,x)∧b<w.heap.size∧w.heap[b]?=some ob∧OR P ρ (H.get i) x ob:=by
  obtain ⟨b,x,ob,e,hb,hr⟩:=h.obj i hi
  refine ⟨b,x,ob,e,?_,hb,hr⟩
  rcases Nat.lt_or_ge b w.heap.size with hl | hl
  · exact hl
  · simp [Array.getElem?_eq_none hl] at hb
theorem Inv.idx_lt {Wr:Acc} {ρ:Names} {H:Heap} {w:World} (h:Inv P Wr ρ H w) {i:Pos} (hi:H.get i≠.none):i.idx<H.next.idx:=by
  rcases Nat.lt_or_ge i.idx H.next.idx with hl | hl
  · exact hl
  · exact absurd (h.fresh i hl).1 hi
theorem Inv.update {Wr:Acc} {ρ:Names} {H:Heap} {w:World} (h:Inv P Wr ρ H w) {i:Pos} {b x:Nat} {o':AObj} {ob':Obj} (hi:H.get i≠.none) (hfx:(H.get i).fixed=false)
    (hb:ρ i=some (b,x)) (hp:o'.par=[]) (hr:OR P ρ o' x ob') (hq:InfoR P (ρ.k b) o' ob') {w':World} (hw:w'.heap=w.heap.setIfInBounds b ob') (hos:w'.os=w.os) (hta:w'.tape=w.tape) (hou:w'.output=w.output) :
    Inv P Wr ρ ((H.drops (H.get i).par).set i o') w'∧Kept Wr w w':=by
  obtain ⟨b',x',ob,e',hl,hob,hor⟩:=h.blk hi
  rw [hb] at e'
  injection e' with e';injection e' with e1 e2
  subst e1;subst e2
  have hget:∀ j,((H.drops (H.get i).par).set i o').get j=if j=i then o' else if j∈(H.get i).par then .none else H.get j:=by
    intro j;rw [Heap.get_set,Heap.get_drops]
  have hother:∀ j,j≠i→(if j∈(H.get i).par then AObj.none else H.get j)≠.none→j∉(H.get i).par∧H.get j≠.none:=by
    intro j _ hj
    by_cases hm:j∈(H.get i).par
    · rw [if_pos hm] at hj;exact absurd rfl hj
    · rw [if_neg hm] at hj;exact ⟨hm,hj⟩
  have hne:∀ j y c,j≠i→j∉(H.get i).par→H.get j≠.none→ρ j=some (c,y)→c≠b:=by
    intro j y c hji hjp hj ej hc
    subst hc
    rcases h.sep i j c x y (fun e=>hji e.symm) hi hj hb ej with ⟨hm,_⟩ | ⟨hm,_⟩
    · have:=(h.par i j hm).2 hi;rw [hfx] at this;cases this
    · exact hjp hm
  refine ⟨⟨?_,?_,?_,?_,?_,?_,?_,?_,?_,?_,?_,?_⟩,⟨hos,hta,hou,by rw [hw];simp,?_⟩⟩
  · intro j hj
    rw [hget] at hj ⊢
    by_cases e:j=i
    · subst e
      rw [if_pos rfl]
      exact ⟨b,x,ob',hb,by rw [hw,Array.getElem?_setIfInBounds];simp [hl],hr⟩
    · rw [if_neg e] at hj ⊢
      obtain ⟨hm,hj'⟩:=hother j e hj
      rw [if_neg hm]
      obtain ⟨c,y,oc,ec,hc,hrc⟩:=h.obj j hj'
      have:=hne j y c e hm hj' ec
      exact ⟨c,y,oc,ec,by rw [hw,Array.getElem?_setIfInBounds,if_neg (fun h=>this h.symm)];exact hc,hrc⟩
  · intro j k c y z hjk hj hk ej ek
    rw [hget] at hj hk
    rw [hget,hget]
    by_cases e1:j=i
    · subst e1
      have e2:k≠j:=fun h=>hjk h.symm
      rw [if_neg e2] at hk
      obtain ⟨hm,hk'⟩:=hother k e2 hk
      rw [hb] at ej;injection ej with ej;injection ej with ej _
      exact absurd ej.symm (hne k z c e2 hm hk' ek)
    · by_cases e2:k=i
      · subst e2
        rw [if_neg e1] at hj
        obtain ⟨hm,hj'⟩:=hother j e1 hj
        rw [hb] at ek;injection ek with ek;injection ek with ek _
        exact absurd ek.symm (hne j y c e1 hm hj' ej)
      · rw [if_neg e1] at hj ⊢
        rw [if_neg e2] at hk ⊢
        obtain ⟨hm1,hj'⟩:=hother j e1 hj
        obtain ⟨hm2,hk'⟩:=hother k e2 hk
        rw [if_neg hm1,if_neg hm2]
        exact h.sep j k c y z hjk hj' hk' ej ek
  · intro j k hk
    rw [hget] at hk
    have hnx:((H.drops (H.get i).par).set i o').next=H.next:=by rw [Heap.next_set,Heap.next_drops]
    rw [hnx]
    by_cases e2:k=i
    · rw [if_pos e2,hp] at hk;cases hk
    · rw [if_neg e2] at hk
      by_cases hm2:k∈(H.get i).par
      · rw [if_pos hm2] at hk;cases hk
      · rw [if_neg hm2] at hk
        obtain ⟨h1,h2⟩:=h.par j k hk
        refine ⟨h1,fun hj=>?_⟩
        rw [hget] at hj ⊢
        by_cases e1:j=i
        · subst e1;have:=h2 hi;rw [hfx] at this;cases this
        · rw [if_neg e1] at hj ⊢
          obtain ⟨hm1,hj'⟩:=hother j e1 hj
          rw [if_neg hm1];exact h2 hj'
  · intro j c y hj hf ej
    rw [hget] at hj hf
    by_cases e1:j=i
    · subst e1;exact h.wr j c y hi hfx ej
    · rw [if_neg e1] at hj hf
      obtain ⟨hm1,hj'⟩:=hother j e1 hj
      rw [if_neg hm1] at hf
      exact h.wr j c y hj' hf ej
  · intro j hj
    have hj':H.next.idx≤j.idx:=by rw [Heap.next_set,Heap.next_drops] at hj;exact hj
    obtain ⟨h1,h2⟩:=h.fresh j hj'
    refine ⟨?_,h2⟩
    rw [hget]
    by_cases e1:j=i
    · subst e1;exact absurd h1 hi
    · rw [if_neg e1];split
      · rfl
      · exact h1
  · intro k hk;exact h.new k (by rw [hw] at hk;simpa using hk)
  · exact h.glob
  · intro j c y oc hj ej hc
    rw [hget] at hj ⊢
    by_cases e:j=i
    · subst e
      rw [if_pos rfl]
      rw [hb] at ej;injection ej with ej;injection ej with ej _
      subst ej
      rw [hw,Array.getElem?_setIfInBounds] at hc
      simp only [hl,if_true,Option.some.injEq] at hc
      rw [← hc];exact hq
    · rw [if_neg e] at hj ⊢
      obtain ⟨hm,hj'⟩:=hother j e hj
      rw [if_neg hm]
      have:=hne j y c e hm hj' ej
      rw [hw,Array.getElem?_setIfInBounds,if_neg (fun h=>this h.symm)] at hc
      exact h.info j c y oc hj' ej hc
  · intro j c y ej
    rw [hw,Array.size_setIfInBounds];exact h.dom j c y ej
  · intro j c y hj ej
    rw [hget] at hj
    by_cases e:j=i
    · subst e;exact h.rd j c y hi ej
    · rw [if_neg e] at hj
      exact h.rd j c y (hother j e hj).2 ej
  · intro j hj
    have hnx:((H.drops (H.get i).par).set i o').next=H.next:=by rw [Heap.next_set,Heap.next_drops]
    rw [hnx]
    obtain ⟨h1,h2,h3⟩:=h.un j hj
    refine ⟨?_,h2,fun k hk=>?_⟩
    · rw [hget,if_neg (fun e=>hi (by rw [← e];exact h1)),h1];split<;>rfl
    · rw [hget] at hk
      by_cases e2:k=i
      · rw [if_pos e2,hp] at hk;cases hk
      · rw [if_neg e2] at hk
        by_cases hm2:k∈(H.get i).par
        · rw [if_pos hm2] at hk;cases hk
        · rw [if_neg hm2] at hk;exact h3 k hk
  · exact h.dead
  · intro k hk hwr
    have:k≠b:=fun e=>hwr (e ▸ h.wr i b x hi hfx hb)
    rw [hw,Array.getElem?_setIfInBounds,if_neg (fun h=>this h.symm)]
theorem Heap.drops_nil (H:Heap):H.drops []=H:=rfl
theorem Inv.heap_eq {Wr:Acc} {ρ:Names} {H:Heap} {w w':World} (h:Inv P Wr ρ H w) (e:w'.heap=w.heap):Inv P Wr ρ H w' :=
  ⟨by rw [e];exact h.obj,h.sep,h.par,h.wr,h.fresh,by rw [e];exact h.new,h.glob,by rw [e];exact h.info,by rw [e];exact h.dom,h.rd,h.un,h.dead⟩
theorem Kept.heap_eq {Wr:Acc} {w w1 w':World} (h:Kept Wr w w1) (e:w'.heap=w1.heap) (hos:w'.os=w1.os) (hta:w'.tape=w1.tape) (hou:w'.output=w1.output):Kept Wr w w' :=
  ⟨hos.trans h.os,hta.trans h.tape,hou.trans h.output,by rw [e];exact h.size,fun k h1 h2=>by rw [e];exact h.block k h1 h2⟩
end Go.Abs
namespace Go.Abs
variable [Ov]
variable {P:Program}
theorem addr_add (b o i:Nat):(⟨b,o,none⟩:Addr).add i=⟨b,o+i,none⟩:=by unfold Addr.add;split<;>simp_all
theorem cell_of (w:World) {b:Nat} {cs:Array Value} {el:TypeId} {fr:Nat × Nat} (h:w.heap[b]?=some (.cells cs el fr)) (o:Nat):w.cell? ⟨b,o,none⟩=cs[o]?:=by
  simp [World.cell?,h]
theorem frozen_of (w:World) {b:Nat} {cs:Array Value} {el:TypeId} {fr:Nat × Nat} (h:w.heap[b]?=some (.cells cs el fr)) (o:Nat):w.frozen? ⟨b,o,none⟩=(decide (fr.1≤o)&&decide (o<fr.2)):=by
  simp [World.frozen?,h]
theorem run_load_at (w:World) {b o:Nat} {v:Value} (h:w.cell? ⟨b,o,none⟩=some v):(load ⟨b,o,none⟩).run P w=.ok v w:=by
  simp [h]
theorem run_loadCells_at (w:World) {b:Nat} {cs:Array Value} {el:TypeId} {fr:Nat × Nat} (h:w.heap[b]?=some (.cells cs el fr)) (o m:Nat) (hm:o+m≤cs.size) :
    (loadCells ⟨b,o,none⟩ m).run P w=.ok ((cs.toList.drop o).take m).toArray w:=by
  have hl:((cs.toList.drop o).take m).length=m:=by simp;omega
  have:=run_loadCells_list (P:=P) w ⟨b,o,none⟩ ((cs.toList.drop o).take m) (fun j v hv=>by
    rw [addr_add,cell_of w h]
    rw [List.getElem?_take] at hv
    split at hv
    · rw [List.getElem?_drop] at hv;simpa using hv
    · cases hv)
  rw [hl] at this
  exact this
def wr (cs:Array Value):Nat→List Value→Array Value
  | _,[]=>cs
  | o,v::l=>wr (cs.setIfInBounds o v) (o+1) l
theorem wr_size:∀ (l:List Value) (cs:Array Value) (o:Nat),(wr cs o l).size=cs.size
  | [],_,_=>rfl
  | v::l,cs,o=>by rw [wr,wr_size l];simp
theorem wr_get:∀ (l:List Value) (cs:Array Value) (o j:Nat),o+l.length≤cs.size→(wr cs o l)[j]?=if o≤j∧j<o+l.length then l[j-o]? else cs[j]?
  | [],cs,o,j,_=>by rw [wr,if_neg (by simp only [List.length_nil];omega)]
  | v::l,cs,o,j,h=>by
    simp only [List.length_cons] at h
    rw [wr,wr_get l _ _ _ (by simp;omega)]
    simp only [List.length_cons]
    by_cases h1:o+1≤j∧j<o+1+l.length
    · rw [if_pos h1,if_pos (by omega)]
      rw [show j-o=(j-(o+1))+1 by omega];simp
    · rw [if_neg h1]
      by_cases h2:j=o
      · subst h2
        rw [if_pos (by omega)]
        rw [Array.getElem?_setIfInBounds]
        simp;omega
      · rw [if_neg (by omega),Array.getElem?_setIfInBounds,if_neg (fun e=>h2 e.symm)]
theorem setCell_heap (w:World) {b:Nat} {cs:Array Value} {el:TypeId} {fr:Nat × Nat} (h:w.heap[b]?=some (.cells cs el fr)) (o:Nat) (v:Value) :
    (w.setCell ⟨b,o,none⟩ v).heap=w.heap.setIfInBounds b (.cells (cs.setIfInBounds o v) el fr):=by
  have hl:b<w.heap.size:=by
    rcases Nat.lt_or_ge b w.heap.size with hl | hl
    · exact hl
    · simp [Array.getElem?_eq_none hl] at h
  unfold World.setCell
  apply Array.ext_getElem?
  intro i
  simp only [Array.getElem?_modify,Array.getElem?_setIfInBounds]
  by_cases e:b=i
  · subst e
    rw [if_pos rfl,if_pos rfl,h];simp [hl]
  · rw [if_neg e,if_neg e]
theorem setCells_heap (b:Nat) (el:TypeId) (fr:Nat × Nat):∀ (l:List Value) (w:World) (cs:Array Value) (o:Nat),w.heap[b]?=some (.cells cs el fr) →
    (w.setCells b o l).heap=w.heap.setIfInBounds b (.cells (wr cs o l) el fr)∧(w.setCells b o l).os=w.os∧(w.setCells b o l).tape=w.tape∧(w.setCells b o l).output=w.output
  | [],w,cs,o,h=>by
    refine ⟨?_,rfl,rfl,rfl⟩
    simp only [World.setCells,wr]
    apply Array.ext_getElem?
    intro i
    rw [Array.getElem?_setIfInBounds]
    split
    · rename_i e;subst e
      rw [h]
      have:b<w.heap.size:=by
        rcases Nat.lt_or_ge b w.heap.size with hl | hl
        · exact hl
        · simp [Array.getElem?_eq_none hl] at h
      simp [this]
    · rfl
  | v::l,w,cs,o,h=>by
    have h1:=setCell_heap w h o v
    have hl:b<w.heap.size:=by
      rcases Nat.lt_or_ge b w.heap.size with hl | hl
      · exact hl
      · simp [Array.getElem?_eq_none hl] at h
    have h2:(w.setCell ⟨b,o,none⟩ v).heap[b]?=some (.cells (cs.setIfInBounds o v) el fr):=by
      rw [h1,Array.getElem?_setIfInBounds];simp [hl]
    obtain ⟨e1,e2,e3,e4⟩:=setCells_heap b el fr l (w.setCell ⟨b,o,none⟩ v) _ (o+1) h2
    simp only [World.setCells,wr]
    refine ⟨?_,e2,e3,e4⟩
    rw [e1,h1]
    apply Array.ext_getElem?
    intro i
    simp only [Array.getElem?_setIfInBounds,Array.size_setIfInBounds]
    split<;>rfl
theorem run_storeCells_at (w:World) {b:Nat} {cs:Array Value} {el:TypeId} {fr:Nat × Nat} (h:w.heap[b]?=some (.cells cs el fr)) (o:Nat) (l:List Value) (hm:o+l.length≤cs.size)
    (hf:∀ i,o≤i→i<o+l.length→¬(fr.1≤i∧i<fr.2)) (h1:∀ v∈l,v.oneCell'=true) :
    (storeCells ⟨b,o,none⟩ l).run P w=.ok () (w.setCells b o l):=by
  have:=run_storeCells_cells (P:=P) b o l 0 w (fun j hj=>by
      rw [cell_of w h];simp;omega) (fun j hj=>by
      rw [frozen_of w h]
      have:=hf (o+0+j) (by omega) (by omega)
      simp only [Bool.and_eq_false_iff,decide_eq_false_iff_not]
      omega) h1
  simpa using this
theorem writeCells_get:∀ (l:List AV) (c:Tree AV) (o j:Nat),(writeCells c o l).getN .undef j=if o≤j∧j<o+l.length then l.getD (j-o) .undef else c.getN .undef j
  | [],c,o,j=>by rw [writeCells,if_neg (by simp only [List.length_nil];omega)]
  | v::l,c,o,j=>by
    rw [writeCells,writeCells_get l,Tree.getN_setN _ _ _ _ _ _ (Nat.le_refl _)]
    simp only [List.length_cons]
    by_cases h1:o+1≤j∧j<o+1+l.length
    · rw [if_pos h1,if_pos (by omega),show j-o=(j-(o+1))+1 by omega];simp
    · rw [if_neg h1]
      by_cases h2:j=o
      · subst h2;rw [if_pos rfl,if_pos (by omega)];simp
      · rw [if_neg h2,if_neg (by omega)]
theorem mkCells_get (l:List AV) (j:Nat) (h:j<l.length):(mkCells l).getN .undef j=l.getD j .undef:=by
  rw [mkCells,writeCells_get,if_pos (by omega)];simp
theorem readCells_get:∀ (m:Nat) (c:Tree AV) (n o:Nat) (l:List AV),readCells c n o m=some l→l.length=m∧(0<m→o+m≤n)∧∀ j,j<m→l[j]?=some (c.getN .undef (o+j))
  | 0,c,n,o,l,h=>by simp only [readCells,Option.some.injEq] at h;subst h;simp
  | m+1,c,n,o,l,h=>by
    simp only [readCells] at h
    split at h
    · rename_i hlt
      split at h
      · rename_i l' hl
        simp only [Option.some.injEq] at h
        subst h
        obtain ⟨h1,h2,h3⟩:=readCells_get m c n (o+1) l' hl
        refine ⟨by simp [h1], fun _ => by rcases Nat.eq_zero_or_pos m with e | e; · omega
                                          · have:=h2 e;omega,fun j hj=>?_⟩
        cases j with
        | zero=>simp
        | succ j=>simp only [List.getElem?_cons_succ];rw [h3 j (by omega)];congr 2;omega
      · cases h
    · cases h
theorem readCells_VRs {ρ:Names} {c:Tree AV} {n e:Nat} {rw':Bool} {par:List Pos} {fz x:Nat} {cs:Array Value} {el:TypeId} {fr:Nat × Nat}
    (h:OR P ρ (.cells c n e rw' par fz) x (.cells cs el fr)) {o m:Nat} {l:List AV} (hl:readCells c n o m=some l) :
    VRs ρ l ((cs.toList.drop (x+o)).take m)∧(0<m→x+o+m≤cs.size):=by
  simp only [OR] at h
  obtain ⟨_,h2,h3,_⟩:=h
  obtain ⟨a1,a2,a3⟩:=readCells_get m c n o l hl
  have hle:0<m→x+o+m≤cs.size:=fun hm=>by have:=a2 hm;omega
  refine ⟨VRs.of_get ?_ ?_,hle⟩
  · rcases Nat.eq_zero_or_pos m with e | e
    · subst e;simp [a1]
    · have:=hle e;simp [a1];omega
  · intro i v c' hv hc
    have hi:i<m:=by
      rcases Nat.lt_or_ge i m with h | h
      · exact h
      · rw [List.getElem?_eq_none (by omega)] at hv;cases hv
    rw [a3 i hi] at hv
    injection hv with hv
    subst hv
    have:=a2 (by omega)
    obtain ⟨y,hy,hr⟩:=h3 (o+i) (by omega)
    rw [List.getElem?_take,if_pos hi,List.getElem?_drop,Array.getElem?_toList] at hc
    rw [show x+o+i=x+(o+i) by omega,hy] at hc
    injection hc with hc
    subst hc
    exact hr
theorem allOne_iff:∀ {l:List AV},allOne l=true→∀ v∈l,v.oneCell=true
  | [],_,_,h=>by cases h
  | a::l,h,v,hv=>by
    simp only [allOne,Bool.and_eq_true] at h
    rcases List.mem_cons.1 hv with e | e
    · subst e;exact h.1
    · exact allOne_iff h.2 v e
theorem VRs.oneCells {ρ:Names}:∀ {l:List AV} {m:List Value},VRs ρ l m→allOne l=true→∀ v∈m,v.oneCell'=true
  | [],[],_,_,_,h=>by cases h
  | a::l,c::m,k,h,v,hv=>by
    simp only [VRs] at k
    simp only [allOne,Bool.and_eq_true] at h
    rcases List.mem_cons.1 hv with e | e
    · subst e
      have:=VR.oneCell k.1 h.1
      cases v<;>simp_all [Value.oneCell']
    · exact VRs.oneCells k.2 h.2 v e
  | [],_::_,k,_,_,_=>by simp [VRs] at k
  | _::_,[],k,_,_,_=>by simp [VRs] at k
theorem writeAt_sound {Wr:Acc} {ρ:Names} {H H':Heap} {w:World} (h:Inv P Wr ρ H w) {i:Pos} {o:Nat} {l:List AV} (hw:writeAt H i o l=some H') {b x:Nat} (hb:ρ i=some (b,x))
    {m:List Value} (hm:VRs ρ l m):(storeCells ⟨b,x+o,none⟩ m).run P w=.ok () (w.setCells b (x+o) m)∧Inv P Wr ρ H' (w.setCells b (x+o) m)∧Kept Wr w (w.setCells b (x+o) m):=by
  unfold writeAt at hw
  split at hw
  · rename_i c n e par fz hi
    split at hw
    · rename_i hc
      simp only [Bool.and_eq_true,decide_eq_true_eq] at hc
      obtain ⟨⟨hc1,hc2⟩,hc3⟩:=hc
      injection hw with hw
      subst hw
      have hne:H.get i≠.none:=by rw [hi];simp
      obtain ⟨b',x',ob,e',hl,hob,hor⟩:=h.blk hne
      rw [hb] at e';injection e' with e';injection e' with e1 e2;subst e1;subst e2
      rw [hi] at hor
      cases ob with
      | cells cs el fr =>
        simp only [OR] at hor
        obtain ⟨g1,g2,g3,g4⟩:=hor
        have hlen:=VRs.length hm
        have hrun:=run_storeCells_at (P:=P) w hob (x+o) m (by omega) (fun j hj1 hj2=>g4 trivial j (by omega) (by omega)) (VRs.oneCells hm hc3)
        obtain ⟨e1,e2,e3,e4⟩:=setCells_heap b el fr m w cs (x+o) hob
        have:=h.update (i:=i) (o':=.cells (writeCells c o l) n e true [] fz) (ob':=.cells (wr cs (x+o) m) el fr) hne (by rw [hi];rfl) hb rfl (by
          simp only [OR]
          refine ⟨g1,by rw [wr_size];exact g2,fun j hj=>?_,fun _ j hj1 hj2=>g4 trivial j hj1 (by rw [wr_size] at hj2;exact hj2)⟩
          rw [writeCells_get,wr_get _ _ _ _ (by omega)]
          by_cases hin:o≤j∧j<o+l.length
          · rw [if_pos hin,if_pos (by omega),show x+j-(x+o)=j-o by omega]
            have hlt:j-o<l.length:=by omega
            obtain ⟨y,hy,hr⟩:=VRs.get hm (j-o) l[j-o] (by simp [hlt])
            exact ⟨y,hy,by simpa [List.getD,hlt] using hr⟩
          · rw [if_neg hin,if_neg (by omega)];exact g3 j hj) (by
          have:=h.info i b x _ hne hb hob
          rw [hi] at this
          simp only [InfoR] at this ⊢
          rw [wr_size];exact this) e1 e2 e3 e4
        rw [hi] at this
        exact ⟨hrun,this.1,this.2⟩
      | _=>simp [OR] at hor
    · cases hw
  · cases hw
end Go.Abs
