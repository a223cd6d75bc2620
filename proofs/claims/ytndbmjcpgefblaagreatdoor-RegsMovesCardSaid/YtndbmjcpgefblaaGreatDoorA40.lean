/- A part of the proof (an abstract machine, walks): no statement of its own, no conditions. -/
import Derived.Test.YtndbmjcpgefblaaGreatDoorA39
import Derived.Test.YtndbmjcpgefblaaGreatDoorA34
import Derived.Test.YtndbmjcpgefblaaGreatDoorA37
import Derived.Below
import Derived.HandedShaped
set_option linter.all false
namespace Go.Abs.R
open Go.Abs Go.Abs.R1
section
variable [Ov]
variable {tbl:Nat→AFunc}
theorem errOf_zero {fr to:List Int} {sp:Int} (h:errOf fr to sp=0):fr.length=to.length∧to.Nodup:=by
  unfold errOf at h
  split at h
  · cases h
  split at h
  · cases h
  split at h
  · cases h
  rename_i h1 _ h2
  exact ⟨Classical.not_not.1 h1,Classical.not_not.1 h2⟩
theorem known_call (T:Tb tbl) {H:Heap} {K:AV→Heap→Prop} (hK:K (.bool true) H):YF tbl (.func 5 [] []) [] H K:=YF.prim T.s5 (show gKnown _ H=_ from rfl) hK
theorem moves_any (T:Tb tbl) {H:Heap} {fr to:List Int} {sf st:AV} {sp:Int} {K:AV→Heap→Prop} (hf:SlI H fr sf) (ht:SlI H to st) (hfl:fr.length≤50) (htl:to.length≤50)
    (hK:∀ lv H',lv.defd=true→(errOf fr to sp=0→∃ out,Mv.Ord sp (sortP ((zipM fr to).filter fun m=>!decide (m.2=m.1))) out∧out.length≤200∧SlP H' out lv)→(errOf fr to sp≠0→lv=.nilslice)→Grew H H'→K (.tuple [lv,aN (errOf fr to sp)]) H'):YF tbl (.func 6 [] []) [sf,st,aI sp] H K :=
  moves_ok T hf ht hfl htl (fun h H' g=>hK .nilslice H' rfl (fun h'=>absurd h' h) (fun _=>rfl) g) fun h sv' H' out h1 h2 h3 g=>by
    have:=hK sv' H' h3.defd (fun _=>⟨out,h1,h2,h3⟩) (fun h'=>absurd h h') g
    rw [h] at this;exact this
theorem regsMoves_ok (T:Tb tbl) {H:Heap} {fr to:List Int} {sf st:AV} {sp:Int} {K:AV→Heap→Prop} (hf:SlI H fr sf) (ht:SlI H to st) (hK:∀ H',Grew H H'→K (.bool true) H'):YF tbl (.func 3 [] []) [sf,st,aI sp] H K:=by
  have hdf:=hf.defd;have hdt:=ht.defd;have hnf:=hf.len;have hnt:=ht.len
  refine YF.code T.c3 (by simp) ?_
  repeat first|refine RO.mov ?_|refine RO.lenSl ?_|refine RO.nil ?_|refine Ru.region ?_|refine Ru.seq ?_|refine RO.gtrN ?_
  refine RO.byCases (fun hl1=>?_) (fun hl1=>?_)
  · repeat first|refine RO.nil ?_|refine Ru.region ?_|refine Ru.seq ?_|refine Ru.condT ?_|refine RO.guardF ?_|refine RO.pickT ?_
    refine RO.call (known_call T ?_)
    repeat first|refine RO.mov ?_|refine RO.nil ?_
    exact Ru.ret1 (hK H (Grew.refl H))
  repeat first|refine RO.mov ?_|refine RO.lenSl ?_|refine RO.nil ?_|refine RO.gtrN ?_|refine RO.guardT ?_|refine RO.pickF ?_
  refine Ru.cond (fun hl2=>?_) (fun hl2=>?_)
  · repeat first|refine Ru.region ?_|refine Ru.seq ?_
    refine RO.call (known_call T ?_)
    repeat first|refine RO.mov ?_|refine RO.nil ?_
    exact Ru.ret1 (hK H (Grew.refl H))
  repeat first|refine Ru.region ?_|refine Ru.seq ?_|refine Ru.skip ?_
  refine RO.emptyS (size:=1) fun H1 v1 fp1 o1 g1 a1=>?_
  have hd1:=o1.sl.defd
  repeat first|refine RO.mov ?_
  refine RO.appendU o1 (g1.sl hf) (allOne_ints fr) (fun v2 H2 fp2 o2 u2=>?_)
  have hd2:=o2.sl.defd
  have gA:=u2.grew g1 a1
  have o2':SlI H2 fr v2:=by have:=o2.sl;simpa using this
  refine RO.emptyS (size:=1) fun H3 v3 fp3 o3 g3 a3=>?_
  have hd3:=o3.sl.defd
  repeat first|refine RO.mov ?_
  refine RO.appendU o3 ((gA.trans g3).sl ht) (allOne_ints to) (fun v4 H4 fp4 o4 u4=>?_)
  have hd4:=o4.sl.defd
  have g34:=u4.grew g3 a3
  have gB:=gA.trans g34
  have o4':SlI H4 to v4:=by have:=o4.sl;simpa using this
  have o2'':=g34.sl o2'
  repeat first|refine RO.mov ?_|refine RO.nil ?_|refine Ru.region ?_|refine Ru.seq ?_
  refine RO.call (moves_any T (sp:=sp) o2'' o4' (by omega) (by omega) fun lv H5 hdl h0 h1 g5=>?_) (had:=by show (v2.defd&&(v4.defd&&(true&&true)))=true;rw [hd2,hd4];rfl)
  have gC:=gB.trans g5
  repeat first|refine RO.mov ?_|refine RO.nil ?_|refine Ru.region ?_|refine Ru.seq ?_|refine RO.extract ?_
  refine RO.call (same_ok T.c7 (g5.sl o2'') (gC.sl hf) (by omega) ?_) (had:=by show (v2.defd&&(sf.defd&&true))=true;rw [hd2,hdf];rfl)
  rw [decide_eq_true (rfl:fr=fr)]
  repeat first|refine RO.mov ?_|refine RO.un ?_|refine RO.guardT ?_
  refine RO.call (same_ok T.c7 (g5.sl o4') (gC.sl ht) (by omega) ?_) (had:=by show (v4.defd&&(st.defd&&true))=true;rw [hd4,hdt];rfl)
  rw [decide_eq_true (rfl:to=to)]
  repeat first|refine RO.mov ?_|refine RO.nil ?_|refine Ru.region ?_|refine Ru.seq ?_|refine Ru.skip ?_|refine RO.un ?_|refine Ru.condF ?_|refine RO.guardT ?_|refine RO.pickF ?_
  refine RO.call (check_ok T (sp:=sp) (gC.sl hf) (gC.sl ht) (by omega) (by omega) ?_) (had:=by show (sf.defd&&(st.defd&&(true&&true)))=true;rw [hdf,hdt];rfl)
  refine RO.emptyS (size:=2) fun H6 v6 fp6 o6 g6 a6=>?_
  have hd6:=o6.sl.defd
  have gD:=gC.trans g6
  repeat first|refine RO.mov ?_|refine RO.nil ?_|refine Ru.region ?_|refine Ru.seq ?_|refine RO.eqlN ?_
  refine Ru.cond (fun he=>?_) (fun he=>?_)
  · obtain ⟨hlen,hnd⟩:=errOf_zero he
    obtain ⟨out,hord,hol,hlo⟩:=h0 he
    have hno:=hlo.len
    repeat first|refine RO.mov ?_|refine Ru.region ?_
    refine RO.call (refMoves_ok T (gD.sl hf) (gD.sl ht) (by omega) hlen hnd hord hol fun wv H7 hw g7=>?_) (had:=by show (sf.defd&&(st.defd&&(true&&true)))=true;rw [hdf,hdt];rfl)
    have hdw:=hw.defd
    repeat first|refine RO.mov ?_|refine RO.nil ?_|refine Ru.region ?_|refine Ru.seq ?_|refine RO.eqlN ?_
    refine RO.byCases (fun _=>?_) (fun h=>absurd rfl h)
    repeat first|refine RO.mov ?_|refine RO.guardT ?_
    refine RO.call (pairs_ok T.c10 ((g6.trans g7).sl hlo) hw (by omega) ?_) (had:=by show (lv.defd&&(wv.defd&&true))=true;rw [hdl,hdw];rfl)
    rw [decide_eq_true (rfl:out=out)]
    repeat first|refine RO.mov ?_|refine RO.guardT ?_|refine RO.pickT ?_
    refine RO.call (known_call T ?_)
    repeat first|refine RO.mov ?_|refine RO.nil ?_|refine RO.pickT ?_
    exact Ru.ret1 (hK H7 (gD.trans g7))
  · have hnl:=h1 he
    subst hnl
    repeat first|refine RO.mov ?_|refine Ru.region ?_|refine Ru.seq ?_|refine Ru.skip ?_|refine RO.eqlN ?_
    refine RO.byCases (fun _=>?_) (fun h=>absurd rfl h)
    repeat first|refine RO.mov ?_|refine RO.guardT ?_
    have hs0:SlP H6 [] .nilslice:=.inl ⟨rfl,rfl,rfl⟩
    have hs6:SlP H6 [] v6:=o6.sl
    refine RO.call (pairs_ok T.c10 hs0 hs6 (by simp) ?_) (had:=by show (true&&(v6.defd&&true))=true;rw [hd6];rfl)
    rw [decide_eq_true (rfl:([]:List (Int × Int))=[])]
    repeat first|refine RO.mov ?_|refine RO.guardT ?_|refine RO.pickT ?_
    refine RO.call (known_call T ?_)
    repeat first|refine RO.mov ?_|refine RO.nil ?_|refine RO.pickT ?_
    exact Ru.ret1 (hK H6 gD)
end
end Go.Abs.R
namespace Go.Abs
section
variable [Ov]
variable {P:Program}
def absV:Value→AV
  | .int k n=>.int (kc k) n
  | _=>.junk
theorem absV_vr (ρ:Names) (v:Value):VR ρ (absV v) v:=by
  cases v<;>simp [absV,VR]
def blockObj (cs:Array Value) (e:TypeId):AObj:=.cells (mkCells (cs.toList.map absV)) cs.size e false [] 0
def startAcc (w:World):Acc:=⟨fun b=>w.heap.size≤b,fun _=>True,fun _=>False,fun _=>False⟩
def startNames (P:Program) (n b1 b2:Nat) (w:World):Names:=⟨fun j=>if j.idx≤n then some (j.idx-1,0) else if j.idx=n+1 then some (b1,0) else if j.idx=n+2 then some (b2,0) else none,fun b=>match w.heap[b]? with
  | some (.cells cs e _)=>(cs.size,(szOf P e).getD 0)
  | _=>(0,0)⟩
def startHeap (n:Nat) (o1 o2:AObj):Heap:=⟨(Tree.leaf.set .none (Pos.slot n) o1).set .none (Pos.slot (n+1)) o2,Pos.slot (n+2)⟩
theorem startHeap_get (n:Nat) (o1 o2:AObj) (j:Pos):(startHeap n o1 o2).get j=if j.idx=n+2 then o2 else if j.idx=n+1 then o1 else .none:=by
  show Tree.get AObj.none j ((Tree.leaf.set .none (Pos.slot n) o1).set .none (Pos.slot (n+1)) o2)=_
  rw [Tree.get_set,Tree.get_set]
  have e:∀ k,j=Pos.slot k↔j.idx=k+1:=fun k=>⟨fun e=>by rw [e,Pos.idx_slot],fun e=>Pos.idx_inj (by rw [Pos.idx_slot];exact e)⟩
  by_cases h2:j.idx=n+2
  · rw [if_pos ((e _).2 h2),if_pos h2]
  · rw [if_neg (fun h=>h2 ((e _).1 h)),if_neg h2]
    by_cases h1:j.idx=n+1
    · rw [if_pos ((e _).2 h1),if_pos h1]
    · rw [if_neg (fun h=>h1 ((e _).1 h)),if_neg h1]
      exact get_leaf_none j j
theorem startNames_1 {n b1 b2:Nat} {w:World}:startNames P n b1 b2 w (Pos.slot n)=some (b1,0):=by
  show (if (Pos.slot n).idx≤n then _ else _)=_
  rw [Pos.idx_slot,if_neg (by omega),if_pos rfl]
theorem startNames_2 {n b1 b2:Nat} {w:World}:startNames P n b1 b2 w (Pos.slot (n+1))=some (b2,0):=by
  show (if (Pos.slot (n+1)).idx≤n then _ else _)=_
  rw [Pos.idx_slot,if_neg (by omega),if_neg (by omega),if_pos rfl]
theorem block_or {ρ:Names} {cs:Array Value} {e:TypeId} {fr:Nat × Nat}:OR P ρ (blockObj cs e) 0 (.cells cs e fr):=by
  simp only [blockObj,OR]
  refine ⟨trivial,by omega,fun i hi=>?_,fun h=>by cases h⟩
  refine ⟨cs[i],by rw [Nat.zero_add,getElem?_pos cs i hi],?_⟩
  rw [mkCells_at (by simpa using hi)]
  simp only [List.getElem_map,Array.getElem_toList]
  exact absV_vr ρ _
theorem start_inv {n b1 b2:Nat} {w:World} {o2:AObj} (hn:P.globals.size=n) (hw:n≤w.heap.size) {c1 c2:Array Value} {e1 e2:TypeId} {f1 f2:Nat × Nat} (h1:w.heap[b1]?=some (.cells c1 e1 f1)) (h2:w.heap[b2]?=some (.cells c2 e2 f2)) (ho:o2=.none∨b1≠b2∧o2=blockObj c2 e2):Inv P (startAcc w) (startNames P n b1 b2 w) (startHeap n (blockObj c1 e1) o2) w:=by
  have hg:=startHeap_get n (blockObj c1 e1) o2
  have hb1:b1<w.heap.size:=(Array.getElem?_eq_some_iff.1 h1).1
  have hb2:b2<w.heap.size:=(Array.getElem?_eq_some_iff.1 h2).1
  have key:∀ i,(startHeap n (blockObj c1 e1) o2).get i≠.none→(i.idx=n+1∧(startHeap n (blockObj c1 e1) o2).get i=blockObj c1 e1∧startNames P n b1 b2 w i=some (b1,0))∨(i.idx=n+2∧(startHeap n (blockObj c1 e1) o2).get i=blockObj c2 e2∧b1≠b2∧startNames P n b1 b2 w i=some (b2,0)):=by
    intro i hi
    rw [hg] at hi
    by_cases i2:i.idx=n+2
    · rw [if_pos i2] at hi
      rcases ho with ho | ⟨hne,ho⟩
      · exact absurd ho hi
      · refine .inr ⟨i2,by rw [hg,if_pos i2,ho],hne,?_⟩
        rw [show i=Pos.slot (n+1) from Pos.idx_inj (by rw [Pos.idx_slot];exact i2)];exact startNames_2
    · rw [if_neg i2] at hi
      by_cases i1:i.idx=n+1
      · refine .inl ⟨i1,by rw [hg,if_neg i2,if_pos i1],?_⟩
        rw [show i=Pos.slot n from Pos.idx_inj (by rw [Pos.idx_slot];exact i1)];exact startNames_1
      · rw [if_neg i1] at hi;exact absurd rfl hi
  have hfix:∀ c e,(blockObj c e).fixed=true:=fun _ _=>rfl
  have hpar:∀ i j,i∉((startHeap n (blockObj c1 e1) o2).get j).par:=fun i j h=>by
    by_cases hj:(startHeap n (blockObj c1 e1) o2).get j=.none
    · rw [hj] at h;cases h
    · rcases key j hj with ⟨_,q,_⟩ | ⟨_,q,_⟩<;>rw [q] at h<;>cases h
  refine ⟨fun i hi=>?_,fun i j b x y hij hi hj q1 q2=>?_,fun i j h=>absurd h (hpar i j),fun i b x hi hf q=>?_,fun i hi=>?_,fun k hk=>⟨hk,trivial⟩,fun g h=>?_,fun i b x ob hi q1 q2=>?_,fun i b x q=>?_,fun i b x _ _=>trivial,fun i h=>h.elim,fun i h=>h.elim⟩
  · rcases key i hi with ⟨_,q,r⟩ | ⟨_,q,_,r⟩
    · exact ⟨b1,0,_,r,h1,by rw [q];exact block_or⟩
    · exact ⟨b2,0,_,r,h2,by rw [q];exact block_or⟩
  · exfalso
    rcases key i hi with ⟨i1,_,r⟩ | ⟨i1,_,hne,r⟩<;>rcases key j hj with ⟨j1,_,r'⟩ | ⟨j1,_,hne',r'⟩
    · exact hij (Pos.idx_inj (by omega))
    · rw [r] at q1;rw [r'] at q2;injection q1 with q1;injection q1 with q1;injection q2 with q2;injection q2 with q2;omega
    · rw [r] at q1;rw [r'] at q2;injection q1 with q1;injection q1 with q1;injection q2 with q2;injection q2 with q2;omega
    · exact hij (Pos.idx_inj (by omega))
  · rcases key i hi with ⟨_,q',_⟩ | ⟨_,q',_⟩<;>rw [q',hfix] at hf<;>cases hf
  · have hi':n+3≤i.idx:=by
      have:(Pos.slot (n+2)).idx≤i.idx:=hi
      rw [Pos.idx_slot] at this;exact this
    refine ⟨by rw [hg,if_neg (by omega),if_neg (by omega)],?_⟩
    show (if i.idx≤n then _ else _)=_
    rw [if_neg (by omega),if_neg (by omega),if_neg (by omega)]
  · show (if (Pos.slot g).idx≤n then _ else _)=_
    rw [Pos.idx_slot,if_pos (by omega)];simp
  · have hk:∀ b c e f,w.heap[b]?=some (.cells c e f)→(startNames P n b1 b2 w).k b=(c.size,(szOf P e).getD 0):=fun b c e f h=>by
      show (match w.heap[b]? with | some (.cells cs e _)=>(cs.size,(szOf P e).getD 0) | _=>(0,0))=_
      rw [h]
    rcases key i hi with ⟨_,q',r⟩ | ⟨_,q',_,r⟩
    · rw [r] at q1;injection q1 with q1;injection q1 with q1;subst q1
      rw [h1] at q2;injection q2 with q2;subst q2
      rw [q'];simp only [blockObj,InfoR];exact hk _ _ _ _ h1
    · rw [r] at q1;injection q1 with q1;injection q1 with q1;subst q1
      rw [h2] at q2;injection q2 with q2;subst q2
      rw [q'];simp only [blockObj,InfoR];exact hk _ _ _ _ h2
  · have q':(if i.idx≤n then some (i.idx-1,0) else if i.idx=n+1 then some (b1,0) else if i.idx=n+2 then some (b2,0) else none)=some (b,x):=q
    split at q'
    · injection q' with q';injection q' with q';have:=Pos.idx_pos i;omega
    · split at q'
      · injection q' with q';injection q' with q';omega
      · split at q'
        · injection q' with q';injection q' with q';omega
        · cases q'
theorem block_sl {n:Nat} {o1 o2:AObj} {q:Pos} {cs:Array Value} {e:TypeId} (hq:(startHeap n o1 o2).get q=blockObj cs e) (hl:q.idx≤n+2) {size len cap off:Nat} {vs:List AV} (hc:len≤cap) (ho:off+len*size≤cs.size) (hv:vs.length=len*size) (hcell:∀ j (h:j<vs.length),∃ v,cs[off+j]?=some v∧absV v=vs[j]):Sl (startHeap n o1 o2) size vs len (.slice q off len cap true):=by
  refine .inr ⟨q,off,cap,true,_,_,e,false,[],0,rfl,hq,ho,hv,fun j hj=>?_,by show q.idx<(Pos.slot (n+2)).idx;rw [Pos.idx_slot];omega,hc⟩
  obtain ⟨v,h1,h2⟩:=hcell j hj
  have hlt:off+j<cs.size:=(Array.getElem?_eq_some_iff.1 h1).1
  rw [mkCells_at (by simpa using hlt)]
  simp only [List.getElem_map,Array.getElem_toList]
  rw [getElem?_pos cs _ hlt] at h1;injection h1 with h1
  rw [h1,h2]
end
end Go.Abs
namespace Go.Abs.R1
open Go.Proofs Go.Abs Go.RowKit
def RowI (w:World) (a:Option Addr) (len cap:Nat) (zs:List Int):Prop :=
  (a=none∧len=0∧cap=0)∨∃ x,a=some x∧len≤cap∧zs.length=cap∧∀ i,i<zs.length→w.cell? (x.add i)=some (.int .i64 (zs.getD i 0))
theorem row_block {w:World} (h0:∃ c e f,w.heap[0]?=some (.cells c e f)) {a:Option Addr} {len cap:Nat} {zs:List Int} (h:RowI w a len cap zs):∃ b c e f,w.heap[b]?=some (.cells c e f)∧((a=none∧len=0∧cap=0)∨∃ x off,a=some x∧len≤cap∧off+len≤c.size∧(cap≠0→x=⟨b,off,none⟩)∧∀ i,i<len→c[off+i]?=some (.int .i64 (zs.getD i 0))):=by
  obtain ⟨c0,e0,f0,h0⟩:=h0
  rcases h with h | ⟨x,rfl,hl,hz,hc⟩
  · exact ⟨0,c0,e0,f0,h0,.inl h⟩
  · by_cases hcap:cap=0
    · exact ⟨0,c0,e0,f0,h0,.inr ⟨x,0,rfl,hl,by omega,fun h=>absurd hcap h,fun i hi=>by omega⟩⟩
    · have h00:=hc 0 (by omega)
      have e00:x.add 0=x:=rfl
      rw [e00] at h00
      unfold World.cell? at h00
      split at h00
      case h_2=>cases h00
      rename_i c e f hb
      split at h00
      · cases h00
      rename_i hsp
      have hx:x=⟨x.block,x.off,none⟩:=by
        obtain ⟨b,o,s⟩:=x
        cases s with
        | none=>rfl
        | some s=>exact absurd rfl hsp
      have hcell:∀ i,i<cap→c[x.off+i]?=some (.int .i64 (zs.getD i 0)):=fun i hi=>by
        have h1:=hc i (by omega)
        by_cases hi0:i=0
        · subst hi0;exact h00
        · simp only [Addr.add,if_neg hi0,World.cell?,hb,Option.isSome_none,Bool.false_eq_true,if_false] at h1
          exact h1
      have hsz:x.off+len≤c.size:=by
        by_cases h0':len=0
        · have:=(Array.getElem?_eq_some_iff.1 h00).1;omega
        · have:=(Array.getElem?_eq_some_iff.1 (hcell (len-1) (by omega))).1;omega
      exact ⟨x.block,c,e,f,hb,.inr ⟨x,x.off,rfl,hl,hsz,fun _=>hx,fun i hi=>hcell i (by omega)⟩⟩
theorem row_sl {P:Program} {n b1 b2:Nat} {w:World} {o1 o2:AObj} {q:Pos} {b:Nat} {c:Array Value} {e:TypeId} (hq:(startHeap n o1 o2).get q=blockObj c e) (hl:q.idx≤n+2) (hρ:startNames P n b1 b2 w q=some (b,0)) {a:Option Addr} {len cap:Nat} {zs:List Int}
    (h:(a=none∧len=0∧cap=0)∨∃ x off,a=some x∧len≤cap∧off+len≤c.size∧(cap≠0→x=⟨b,off,none⟩)∧∀ i,i<len→c[off+i]?=some (.int .i64 (zs.getD i 0))) :
    ∃ sv l,VR (startNames P n b1 b2 w) sv (.slice a len cap)∧SlI (startHeap n o1 o2) l sv:=by
  rcases h with ⟨rfl,rfl,rfl⟩ | ⟨x,off,rfl,h1,h2,h3,h4⟩
  · exact ⟨.nilslice,[],by simp [VR],.inl ⟨rfl,rfl,rfl⟩⟩
  · refine ⟨.slice q off len cap true,(List.range len).map fun i=>zs.getD i 0,?_,?_⟩
    · simp only [VR]
      exact ⟨trivial,h1,Nat.le_refl _,fun _=>trivial,b,0,hρ,fun hc=>by rw [Nat.zero_add];exact h3 hc,fun h=>by cases h⟩
    · unfold SlI
      rw [show ((List.range len).map fun i=>zs.getD i 0).length=len by simp]
      refine block_sl hq hl h1 (by omega) (by simp) fun j hj=>?_
      have hj':j<len:=by simpa using hj
      exact ⟨_,h4 j hj',by simp [absV,kc]⟩
theorem glob_block {w:World} (h:w.ShapedOpen Tryz.prog):(∃ c e f,w.heap[0]?=some (.cells c e f))∧6≤w.heap.size:=by
  have hs:=h.1
  have h0:(((begin Tryz.prog (fun _ _=>0) default).world.heap[0]?).bind Obj.row?).isSome=true:=by kernel_rfl
  have h5:(((begin Tryz.prog (fun _ _=>0) default).world.heap[5]?).bind Obj.row?).isSome=true:=by kernel_rfl
  have hgs:Tryz.prog.globals.size=6:=by kernel_rfl
  obtain ⟨⟨z0,t0⟩,r0⟩:=Option.isSome_iff_exists.1 h0
  obtain ⟨⟨z5,t5⟩,r5⟩:=Option.isSome_iff_exists.1 h5
  obtain ⟨c0,q0,_⟩:=hs 0 z0 t0 (by omega) r0
  obtain ⟨c5,q5,_⟩:=hs 5 z5 t5 (by omega) r5
  exact ⟨⟨c0,t0,_,q0⟩,(Array.getElem?_eq_some_iff.1 q5).1⟩
theorem moves_calls {w:World} (hw:w.ShapedOpen Tryz.prog) {a0 a1:Option Addr} {len0 cap0 len1 cap1:Nat} {z0 z1:List Int} (h0:RowI w a0 len0 cap0 z0) (h1:RowI w a1 len1 cap1 z1) (sp:Int) :
    Calls Tryz.prog 3 #[.slice a0 len0 cap0,.slice a1 len1 cap1,.int .i64 sp] w fun e w'=>e=.returned (.bool true)∧Below w.heap.size w w':=by
  obtain ⟨hg,hsz⟩:=glob_block hw
  obtain ⟨b1,c1,e1,f1,k1,r1⟩:=row_block hg h0
  obtain ⟨b2,c2,e2,f2,k2,r2⟩:=row_block hg h1
  have hgs:Tryz.prog.globals.size=6:=by kernel_rfl
  have main:∀ (o2:AObj) (q:Pos) (b:Nat) (c:Array Value) (e:TypeId),Inv Tryz.prog (startAcc w) (startNames Tryz.prog 6 b1 b2 w) (startHeap 6 (blockObj c1 e1) o2) w→(startHeap 6 (blockObj c1 e1) o2).get q=blockObj c e→q.idx≤8→startNames Tryz.prog 6 b1 b2 w q=some (b,0)→((a1=none∧len1=0∧cap1=0)∨∃ x off,a1=some x∧len1≤cap1∧off+len1≤c.size∧(cap1≠0→x=⟨b,off,none⟩)∧∀ i,i<len1→c[off+i]?=some (.int .i64 (z1.getD i 0)))→(startHeap 6 (blockObj c1 e1) o2).get (Pos.slot 6)=blockObj c1 e1 →
      Calls Tryz.prog 3 #[.slice a0 len0 cap0,.slice a1 len1 cap1,.int .i64 sp] w fun e w'=>e=.returned (.bool true)∧Below w.heap.size w w':=by
    intro o2 q b c e hI hq hql hqn r2' hq1
    obtain ⟨s0,l0,v0,sl0⟩:=row_sl hq1 (by rw [Pos.idx_slot];omega) startNames_1 r1
    obtain ⟨s1,l1,v1,sl1⟩:=row_sl hq hql hqn r2'
    obtain ⟨m,hm⟩:=R.regsMoves_ok (K:=fun v _=>v=.bool true) tbB sl0 sl1 (sp:=sp) fun _ _=>rfl
    refine (calls_of tblB_ok (f:=3) (nt:=67) (rs:=[.tmp p6]) (body:=b3) (by kernel_rfl) hm (ρ:=startNames Tryz.prog 6 b1 b2 w) ?_ hI).mono ?_
    · simp only [VRs]
      exact ⟨v0,v1,by simp [VR,kc],trivial⟩
    · rintro e w' ⟨v,H',c,rfl,rfl,ρ',_,hv,_,hk⟩
      refine ⟨?_,⟨hk.os,hk.tape,hk.output,hk.size,fun k hk'=>hk.block k hk' (by show ¬ (w.heap.size≤k);omega)⟩⟩
      cases c<;>simp only [VR] at hv
      rw [← hv]
  by_cases hb:b1=b2
  · subst hb
    rw [k1] at k2;injection k2 with k2;injection k2 with k2 k3 k4
    subst k2;subst k3
    have hq1:(startHeap 6 (blockObj c1 e1) .none).get (Pos.slot 6)=blockObj c1 e1:=by rw [startHeap_get,Pos.idx_slot,if_neg (by omega),if_pos rfl]
    exact main .none (Pos.slot 6) b1 c1 e1 (start_inv hgs hsz k1 k1 (.inl rfl)) hq1 (by rw [Pos.idx_slot];omega) startNames_1 r2 hq1
  · refine main (blockObj c2 e2) (Pos.slot 7) b2 c2 e2 (start_inv hgs hsz k1 k2 (.inr ⟨hb,rfl⟩)) ?_ (by rw [Pos.idx_slot];omega) startNames_2 r2 ?_
    · rw [startHeap_get,Pos.idx_slot,if_pos rfl]
    · rw [startHeap_get,Pos.idx_slot,if_neg (by omega),if_pos rfl]
end Go.Abs.R1
