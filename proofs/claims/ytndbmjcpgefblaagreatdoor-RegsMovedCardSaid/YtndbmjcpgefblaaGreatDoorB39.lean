/- A part of the proof (an abstract machine, walks): no statement of its own, no conditions. -/
import Derived.Test.YtndbmjcpgefblaaGreatDoorB34
import Derived.Test.YtndbmjcpgefblaaGreatDoorB37
import Derived.Test.YtndbmjcpgefblaaGreatDoorB38
import Derived.Below
import Derived.HandedShaped
import Derived.OpenShut
import Derived.ChangeArms
set_option linter.all false
namespace Go.Abs
section
variable [Ov]
variable {P:Program}
def absV:Value→AV
  | .int k n=>.int (kc k) n
  | _=>.junk
theorem absV_vr (ρ:Names) (v:Value):VR ρ (absV v) v:=by
  cases v<;>simp [absV,VR]
def blockObj (cs:Array Value) (e:TypeId):AObj:=.cells (mkCells (cs.toList.map absV)) cs.size e false [] 0
def startAcc (w:World):Acc:=⟨fun b=>w.heap.size≤b,fun _=>True,fun _=>False,fun _=>False⟩
def startNames (P:Program) (n b1 b2:Nat) (w:World):Names:=⟨fun j=>if j.idx≤n then some (j.idx-1,0) else if j.idx=n+1 then some (b1,0) else if j.idx=n+2 then some (b2,0) else none,fun b=>match w.heap[b]? with
  | some (.cells cs e _)=>(cs.size,(szOf P e).getD 0)
  | _=>(0,0)⟩
def startHeap (n:Nat) (o1 o2:AObj):Heap:=⟨(Tree.leaf.set .none (Pos.slot n) o1).set .none (Pos.slot (n+1)) o2,Pos.slot (n+2)⟩
theorem startHeap_get (n:Nat) (o1 o2:AObj) (j:Pos):(startHeap n o1 o2).get j=if j.idx=n+2 then o2 else if j.idx=n+1 then o1 else .none:=by
  show Tree.get AObj.none j ((Tree.leaf.set .none (Pos.slot n) o1).set .none (Pos.slot (n+1)) o2)=_
  rw [Tree.get_set,Tree.get_set]
  have e:∀ k,j=Pos.slot k↔j.idx=k+1:=fun k=>⟨fun e=>by rw [e,Pos.idx_slot],fun e=>Pos.idx_inj (by rw [Pos.idx_slot];exact e)⟩
  by_cases h2:j.idx=n+2
  · rw [if_pos ((e _).2 h2),if_pos h2]
  · rw [if_neg (fun h=>h2 ((e _).1 h)),if_neg h2]
    by_cases h1:j.idx=n+1
    · rw [if_pos ((e _).2 h1),if_pos h1]
    · rw [if_neg (fun h=>h1 ((e _).1 h)),if_neg h1]
      exact get_leaf_none j j
theorem startNames_1 {n b1 b2:Nat} {w:World}:startNames P n b1 b2 w (Pos.slot n)=some (b1,0):=by
  show (if (Pos.slot n).idx≤n then _ else _)=_
  rw [Pos.idx_slot,if_neg (by omega),if_pos rfl]
theorem startNames_2 {n b1 b2:Nat} {w:World}:startNames P n b1 b2 w (Pos.slot (n+1))=some (b2,0):=by
  show (if (Pos.slot (n+1)).idx≤n then _ else _)=_
  rw [Pos.idx_slot,if_neg (by omega),if_neg (by omega),if_pos rfl]
theorem block_or {ρ:Names} {cs:Array Value} {e:TypeId} {fr:Nat × Nat}:OR P ρ (blockObj cs e) 0 (.cells cs e fr):=by
  simp only [blockObj,OR]
  refine ⟨trivial,by omega,fun i hi=>?_,fun h=>by cases h⟩
  refine ⟨cs[i],by rw [Nat.zero_add,getElem?_pos cs i hi],?_⟩
  rw [mkCells_at (by simpa using hi)]
  simp only [List.getElem_map,Array.getElem_toList]
  exact absV_vr ρ _
theorem start_inv {n b1 b2:Nat} {w:World} {o2:AObj} (hn:P.globals.size=n) (hw:n≤w.heap.size) {c1 c2:Array Value} {e1 e2:TypeId} {f1 f2:Nat × Nat} (h1:w.heap[b1]?=some (.cells c1 e1 f1)) (h2:w.heap[b2]?=some (.cells c2 e2 f2)) (ho:o2=.none∨b1≠b2∧o2=blockObj c2 e2):Inv P (startAcc w) (startNames P n b1 b2 w) (startHeap n (blockObj c1 e1) o2) w:=by
  have hg:=startHeap_get n (blockObj c1 e1) o2
  have hb1:b1<w.heap.size:=(Array.getElem?_eq_some_iff.1 h1).1
  have hb2:b2<w.heap.size:=(Array.getElem?_eq_some_iff.1 h2).1
  have key:∀ i,(startHeap n (blockObj c1 e1) o2).get i≠.none→(i.idx=n+1∧(startHeap n (blockObj c1 e1) o2).get i=blockObj c1 e1∧startNames P n b1 b2 w i=some (b1,0))∨(i.idx=n+2∧(startHeap n (blockObj c1 e1) o2).get i=blockObj c2 e2∧b1≠b2∧startNames P n b1 b2 w i=some (b2,0)):=by
    intro i hi
    rw [hg] at hi
    by_cases i2:i.idx=n+2
    · rw [if_pos i2] at hi
      rcases ho with ho | ⟨hne,ho⟩
      · exact absurd ho hi
      · refine .inr ⟨i2,by rw [hg,if_pos i2,ho],hne,?_⟩
        rw [show i=Pos.slot (n+1) from Pos.idx_inj (by rw [Pos.idx_slot];exact i2)];exact startNames_2
    · rw [if_neg i2] at hi
      by_cases i1:i.idx=n+1
      · refine .inl ⟨i1,by rw [hg,if_neg i2,if_pos i1],?_⟩
        rw [show i=Pos.slot n from Pos.idx_inj (by rw [Pos.idx_slot];exact i1)];exact startNames_1
      · rw [if_neg i1] at hi;exact absurd rfl hi
  have hfix:∀ c e,(blockObj c e).fixed=true:=fun _ _=>rfl
  have hpar:∀ i j,i∉((startHeap n (blockObj c1 e1) o2).get j).par:=fun i j h=>by
    by_cases hj:(startHeap n (blockObj c1 e1) o2).get j=.none
    · rw [hj] at h;cases h
    · rcases key j hj with ⟨_,q,_⟩ | ⟨_,q,_⟩<;>rw [q] at h<;>cases h
  refine ⟨fun i hi=>?_,fun i j b x y hij hi hj q1 q2=>?_,fun i j h=>absurd h (hpar i j),fun i b x hi hf q=>?_,fun i hi=>?_,fun k hk=>⟨hk,trivial⟩,fun g h=>?_,fun i b x ob hi q1 q2=>?_,fun i b x q=>?_,fun i b x _ _=>trivial,fun i h=>h.elim,fun i h=>h.elim⟩
  · rcases key i hi with ⟨_,q,r⟩ | ⟨_,q,_,r⟩
    · exact ⟨b1,0,_,r,h1,by rw [q];exact block_or⟩
    · exact ⟨b2,0,_,r,h2,by rw [q];exact block_or⟩
  · exfalso
    rcases key i hi with ⟨i1,_,r⟩ | ⟨i1,_,hne,r⟩<;>rcases key j hj with ⟨j1,_,r'⟩ | ⟨j1,_,hne',r'⟩
    · exact hij (Pos.idx_inj (by omega))
    · rw [r] at q1;rw [r'] at q2;injection q1 with q1;injection q1 with q1;injection q2 with q2;injection q2 with q2;omega
    · rw [r] at q1;rw [r'] at q2;injection q1 with q1;injection q1 with q1;injection q2 with q2;injection q2 with q2;omega
    · exact hij (Pos.idx_inj (by omega))
  · rcases key i hi with ⟨_,q',_⟩ | ⟨_,q',_⟩<;>rw [q',hfix] at hf<;>cases hf
  · have hi':n+3≤i.idx:=by
      have:(Pos.slot (n+2)).idx≤i.idx:=hi
      rw [Pos.idx_slot] at this;exact this
    refine ⟨by rw [hg,if_neg (by omega),if_neg (by omega)],?_⟩
    show (if i.idx≤n then _ else _)=_
    rw [if_neg (by omega),if_neg (by omega),if_neg (by omega)]
  · show (if (Pos.slot g).idx≤n then _ else _)=_
    rw [Pos.idx_slot,if_pos (by omega)];simp
  · have hk:∀ b c e f,w.heap[b]?=some (.cells c e f)→(startNames P n b1 b2 w).k b=(c.size,(szOf P e).getD 0):=fun b c e f h=>by
      show (match w.heap[b]? with | some (.cells cs e _)=>(cs.size,(szOf P e).getD 0) | _=>(0,0))=_
      rw [h]
    rcases key i hi with ⟨_,q',r⟩ | ⟨_,q',_,r⟩
    · rw [r] at q1;injection q1 with q1;injection q1 with q1;subst q1
      rw [h1] at q2;injection q2 with q2;subst q2
      rw [q'];simp only [blockObj,InfoR];exact hk _ _ _ _ h1
    · rw [r] at q1;injection q1 with q1;injection q1 with q1;subst q1
      rw [h2] at q2;injection q2 with q2;subst q2
      rw [q'];simp only [blockObj,InfoR];exact hk _ _ _ _ h2
  · have q':(if i.idx≤n then some (i.idx-1,0) else if i.idx=n+1 then some (b1,0) else if i.idx=n+2 then some (b2,0) else none)=some (b,x):=q
    split at q'
    · injection q' with q';injection q' with q';have:=Pos.idx_pos i;omega
    · split at q'
      · injection q' with q';injection q' with q';omega
      · split at q'
        · injection q' with q';injection q' with q';omega
        · cases q'
theorem block_sl {n:Nat} {o1 o2:AObj} {q:Pos} {cs:Array Value} {e:TypeId} (hq:(startHeap n o1 o2).get q=blockObj cs e) (hl:q.idx≤n+2) {size len cap off:Nat} {vs:List AV} (hc:len≤cap) (ho:off+len*size≤cs.size) (hv:vs.length=len*size) (hcell:∀ j (h:j<vs.length),∃ v,cs[off+j]?=some v∧absV v=vs[j]):Sl (startHeap n o1 o2) size vs len (.slice q off len cap true):=by
  refine .inr ⟨q,off,cap,true,_,_,e,false,[],0,rfl,hq,ho,hv,fun j hj=>?_,by show q.idx<(Pos.slot (n+2)).idx;rw [Pos.idx_slot];omega,hc⟩
  obtain ⟨v,h1,h2⟩:=hcell j hj
  have hlt:off+j<cs.size:=(Array.getElem?_eq_some_iff.1 h1).1
  rw [mkCells_at (by simpa using hlt)]
  simp only [List.getElem_map,Array.getElem_toList]
  rw [getElem?_pos cs _ hlt] at h1;injection h1 with h1
  rw [h1,h2]
end
end Go.Abs
namespace Go.Abs.R1
open Go.Proofs Go.Abs Go.RowKit
def RowB (w:World) (a:Option Addr) (len cap:Nat):Prop :=
  (a=none∧len=0∧cap=0)∨∃ (x:Addr) (Z:Nat→Nat × Nat),a=some x∧len≤cap∧∀ i,i<cap→((Z i).1<256∧(Z i).2<256)∧w.cell? (x.add (i*2))=some (.int .u8 (.ofNat (Z i).1))∧w.cell? ((x.add (i*2)).add 1)=some (.int .u8 (.ofNat (Z i).2))
theorem add_eq {x:Addr} (h:x.spot=none) (n:Nat):x.add n=⟨x.block,x.off+n,none⟩:=by
  obtain ⟨b,o,s⟩:=x
  cases h
  unfold Addr.add
  split
  · rename_i h;subst h;rfl
  · rfl
abbrev RowC (b:Nat) (c:Array Value) (a:Option Addr) (len cap:Nat):Prop:=(a=none∧len=0∧cap=0)∨∃ (x:Addr) (off:Nat) (Z:Nat→Nat × Nat),a=some x∧len≤cap∧off+len*2≤c.size∧(cap≠0→x=⟨b,off,none⟩)∧∀ i,i<len→((Z i).1<256∧(Z i).2<256)∧c[off+i*2]?=some (.int .u8 (.ofNat (Z i).1))∧c[off+i*2+1]?=some (.int .u8 (.ofNat (Z i).2))
theorem rbB {w:World} (h0:∃ c e f,w.heap[0]?=some (.cells c e f)) {a:Option Addr} {len cap:Nat} (h:RowB w a len cap):∃ b c e f,w.heap[b]?=some (.cells c e f)∧(RowC b c a len cap):=by
  obtain ⟨c0,e0,f0,h0⟩:=h0
  rcases h with h | ⟨x,Z,rfl,hl,hc⟩
  · exact ⟨0,c0,e0,f0,h0,.inl h⟩
  · by_cases hcap:cap=0
    · exact ⟨0,c0,e0,f0,h0,.inr ⟨x,0,Z,rfl,hl,by omega,fun h=>absurd hcap h,fun i hi=>by omega⟩⟩
    · have h00:=(hc 0 (by omega)).2.1
      have e00:x.add (0*2)=x:=rfl
      rw [e00] at h00
      unfold World.cell? at h00
      split at h00
      case h_2=>cases h00
      rename_i c e f hb
      split at h00
      · cases h00
      rename_i hsp
      have hs:x.spot=none:=by
        cases h:x.spot with
        | none=>rfl
        | some s=>rw [h] at hsp;exact absurd rfl hsp
      have hx:x=⟨x.block,x.off,none⟩:=by
        have:=add_eq hs 0
        exact this
      have hcell:∀ i,i<cap→c[x.off+i*2]?=some (.int .u8 (.ofNat (Z i).1))∧c[x.off+i*2+1]?=some (.int .u8 (.ofNat (Z i).2)):=fun i hi=>by
        obtain ⟨_,h1,h2⟩:=hc i hi
        rw [add_eq hs] at h1 h2
        rw [add_eq rfl] at h2
        simp only [World.cell?,hb,Option.isSome_none,Bool.false_eq_true,if_false] at h1 h2
        exact ⟨h1,h2⟩
      have hsz:x.off+len*2≤c.size:=by
        by_cases h0':len=0
        · have:=(Array.getElem?_eq_some_iff.1 h00).1;omega
        · have:=(Array.getElem?_eq_some_iff.1 (hcell (len-1) (by omega)).2).1;omega
      exact ⟨x.block,c,e,f,hb,.inr ⟨x,x.off,Z,rfl,hl,hsz,fun _=>hx,fun i hi=>⟨(hc i (by omega)).1,hcell i (by omega)⟩⟩⟩
theorem rsB {P:Program} {n b1 b2:Nat} {w:World} {o1 o2:AObj} {q:Pos} {b:Nat} {c:Array Value} {e:TypeId} (hq:(startHeap n o1 o2).get q=blockObj c e) (hl:q.idx≤n+2) (hρ:startNames P n b1 b2 w q=some (b,0)) {a:Option Addr} {len cap:Nat}
    (h:RowC b c a len cap) :
    ∃ sv l,VR (startNames P n b1 b2 w) sv (.slice a len cap)∧SlB (startHeap n o1 o2) l sv∧∀ m∈l,m.1<256∧m.2<256:=by
  rcases h with ⟨rfl,rfl,rfl⟩ | ⟨x,off,Z,rfl,h1,h2,h3,h4⟩
  · exact ⟨.nilslice,[],by simp [VR],.inl ⟨rfl,rfl,rfl⟩,fun m hm=>by cases hm⟩
  · have hlen:((List.range len).map Z).length=len:=by simp
    refine ⟨.slice q off len cap true,(List.range len).map Z,?_,?_,fun m hm=>?_⟩
    · simp only [VR]
      exact ⟨trivial,h1,Nat.le_refl _,fun _=>trivial,b,0,hρ,fun hc=>by rw [Nat.zero_add];exact h3 hc,fun h=>by cases h⟩
    · unfold SlB
      rw [hlen]
      refine block_sl hq hl h1 h2 (by rw [flatB_length,hlen]) fun j hj=>?_
      rw [flatB_length,hlen] at hj
      have hz:((List.range len).map Z)[j / 2]?=some (Z (j / 2)):=by simp [show j / 2<len by omega]
      obtain ⟨g1,g2⟩:=flatB_get hz
      obtain ⟨_,k1,k2⟩:=h4 (j / 2) (by omega)
      rcases (show j=2*(j / 2)∨j=2*(j / 2)+1 by omega) with ej | ej
      · refine ⟨_,by rw [show off+j=off+j / 2*2 by omega];exact k1,?_⟩
        rw [← ej] at g1
        exact (List.getElem?_eq_some_iff.1 g1).2.symm
      · refine ⟨_,by rw [show off+j=off+j / 2*2+1 by omega];exact k2,?_⟩
        rw [← ej] at g2
        exact (List.getElem?_eq_some_iff.1 g2).2.symm
    · obtain ⟨i,hi,rfl⟩:=List.mem_map.1 hm
      exact (h4 i (List.mem_range.1 hi)).1
theorem gb {w:World} (h:w.ShapedOpen Tryz.prog):(∃ c e f,w.heap[0]?=some (.cells c e f))∧6≤w.heap.size:=by
  have hs:=h.1
  have h0:(((begin Tryz.prog (fun _ _=>0) default).world.heap[0]?).bind Obj.row?).isSome=true:=by kernel_rfl
  have h5:(((begin Tryz.prog (fun _ _=>0) default).world.heap[5]?).bind Obj.row?).isSome=true:=by kernel_rfl
  have hgs:Tryz.prog.globals.size=6:=by kernel_rfl
  obtain ⟨⟨z0,t0⟩,r0⟩:=Option.isSome_iff_exists.1 h0
  obtain ⟨⟨z5,t5⟩,r5⟩:=Option.isSome_iff_exists.1 h5
  obtain ⟨c0,q0,_⟩:=hs 0 z0 t0 (by omega) r0
  obtain ⟨c5,q5,_⟩:=hs 5 z5 t5 (by omega) r5
  exact ⟨⟨c0,t0,_,q0⟩,(Array.getElem?_eq_some_iff.1 q5).1⟩
theorem mcs {w:World} (hw:w.ShapedOpen Tryz.prog) {a0:Option Addr} {len0 cap0:Nat} (h0:RowB w a0 len0 cap0) :
    Calls Tryz.prog 4 #[.slice a0 len0 cap0] w fun e w'=>e=.returned (.bool true)∧Below w.heap.size w w':=by
  obtain ⟨hg,hsz⟩:=gb hw
  obtain ⟨b1,c1,e1,f1,k1,r1⟩:=rbB hg h0
  have hgs:Tryz.prog.globals.size=6:=by kernel_rfl
  have hq1:(startHeap 6 (blockObj c1 e1) .none).get (Pos.slot 6)=blockObj c1 e1:=by rw [startHeap_get,Pos.idx_slot,if_neg (by omega),if_pos rfl]
  obtain ⟨s0,l0,v0,sl0,bd0⟩:=rsB (P:=Tryz.prog) (b1:=b1) (b2:=b1) (w:=w) hq1 (by rw [Pos.idx_slot];omega) startNames_1 r1
  obtain ⟨m,hm⟩:=R.regsMoved_ok (K:=fun v _=>v=.bool true) tbB sl0 bd0 fun _ _=>rfl
  refine (calls_of tblB_ok (f:=4) (nt:=233) (rs:=[.tmp p2]) (body:=b4) (by kernel_rfl) hm (ρ:=startNames Tryz.prog 6 b1 b1 w) ?_ (start_inv hgs hsz k1 k1 (.inl rfl))).mono ?_
  · simp only [VRs]
    exact ⟨v0,trivial⟩
  · rintro e w' ⟨v,H',c,rfl,rfl,ρ',_,hv,_,hk⟩
    refine ⟨?_,⟨hk.os,hk.tape,hk.output,hk.size,fun k hk'=>hk.block k hk' (by show ¬ (w.heap.size≤k);omega)⟩⟩
    cases c<;>simp only [VR] at hv
    rw [← hv]
theorem bn {n:Int} (h:(Lit.int .u8 n).wf=true):∃ k:Nat,n=.ofNat k∧k<256:=by
  have h':0≤n∧n<256:=by
    have e1:IntKind.min .u8=0:=by decide
    have e2:IntKind.max .u8=255:=by decide
    simp only [Lit.wf,Bool.and_eq_true,decide_eq_true_eq,e1,e2] at h
    omega
  exact ⟨n.toNat,(Int.toNat_of_nonneg h'.1).symm,by omega⟩
set_option maxRecDepth 100000 in
theorem open_row {H:Type} {enc:TypeId × Value→H} {W:World} {held:Bool} {fuel:Nat} {a:Option Addr} {len cap:Nat} {x:DataW H × List MemPlace} (h:DataW.trod enc Tryz.prog W 0 (fun _=>true) held fuel 33 (Value.slice a len cap).cells.toList=some x):RowB W a len cap:=by
  have hc:Tryz.prog.cellsOf 34=2:=by kernel_rfl
  have hc5:Tryz.prog.cellsOf 5=1:=by kernel_rfl
  rcases DataW.trod_slice Tryz.underlying33 h with ⟨hcs,_⟩ | ⟨x,l,c,elems,rest,n,_,hcs,_,_,hl,_,hlen,hel,hsp,_⟩
  · simp [Value.cells] at hcs
    obtain ⟨rfl,rfl,rfl⟩:=hcs
    exact .inl ⟨rfl,rfl,rfl⟩
  · simp [Value.cells] at hcs
    obtain ⟨rfl,rfl,rfl⟩:=hcs
    obtain ⟨hrl,hr⟩:=hsp rfl
    have each:∀ i,∃ z:Nat × Nat,i<cap→(z.1<256∧z.2<256)∧W.cell? (x.add (i*2))=some (.int .u8 (.ofNat z.1))∧W.cell? ((x.add (i*2)).add 1)=some (.int .u8 (.ofNat z.2)):=by
      intro i
      by_cases hi:i<cap
      case neg=>exact ⟨(0,0),fun h=>absurd h hi⟩
      have hy:∃ y,(W.cells? 0 (x.add (i*2)) 2).bind (DataW.trod enc Tryz.prog W 0 (fun _=>true) held n 34)=some y:=by
        by_cases h1:i<len
        · have:=hel i h1
          rw [hc] at this
          rw [this]
          exact ⟨_,getElem?_pos elems i (by omega)⟩
        · have:=hr (i-len) (by omega)
          rw [hc,show len+(i-len)=i by omega] at this
          rw [this]
          exact ⟨_,getElem?_pos rest (i-len) (by omega)⟩
      obtain ⟨y,hy⟩:=hy
      obtain ⟨cs,hcs,hy⟩:=Option.bind_eq_some_iff.1 hy
      obtain ⟨_,hl2,hcell⟩:=World.cells?_some hcs
      obtain ⟨xs,m,_,_,_,hxl,hx⟩:=DataW.trod_array Tryz.underlying34 hy
      obtain ⟨c0,c1,rfl⟩:∃ c0 c1,cs=[c0,c1]:=by
        match cs,hl2 with
        | [c0,c1],_=>exact ⟨c0,c1,rfl⟩
      have x0:=hx 0 (by omega)
      have x1:=hx 1 (by omega)
      rw [hc5,getElem?_pos xs 0 (by omega)] at x0
      rw [hc5,getElem?_pos xs 1 (by omega)] at x1
      obtain ⟨n0,e0,_,w0⟩:=DataW.trod_int Tryz.underlying5 x0
      obtain ⟨n1,e1,_,w1⟩:=DataW.trod_int Tryz.underlying5 x1
      simp at e0 e1
      subst e0;subst e1
      obtain ⟨k0,rfl,b0⟩:=bn w0
      obtain ⟨k1,rfl,b1⟩:=bn w1
      exact ⟨(k0,k1),fun _=>⟨⟨b0,b1⟩,by have:=hcell 0 (by omega);exact this,hcell 1 (by omega)⟩⟩
    obtain ⟨Z,hZ⟩:=Classical.axiomOfChoice each
    exact .inr ⟨x,Z,rfl,hl,hZ⟩
end Go.Abs.R1
