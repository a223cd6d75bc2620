/- A part of the proof (an abstract machine, walks): no statement of its own, no conditions. -/
import Derived.Test.YtndbmjcpgefblaaGreatDoorA03
import GoSem.Dispatch
set_option linter.all false
namespace Go.Abs
variable [Ov]
variable {P:Program}
theorem Inv.child {Wr:Acc} {ρ:Names} {H:Heap} {w:World} (h:Inv P Wr ρ H w) {i:Pos} {c:Tree AV} {m e:Nat} {par:List Pos} {fz:Nat} (hi:H.get i=.cells c m e true par fz)
    {b x:Nat} (hb:ρ i=some (b,x)) {c2:Tree AV} {n2 e2 fz2 b2 x2:Nat} {ob2:Obj} (q:Nat × Nat) (hq:InfoR P q (.cells c2 n2 e2 true (i::par) fz2) ob2) (hqb:b2=b→q=ρ.k b)
    (hr:OR P (ρ.add H.next b2 x2 q) (.cells c2 n2 e2 true (i::par) fz2) x2 ob2) {w':World} (hos:w'.os=w.os) (hta:w'.tape=w.tape) (hou:w'.output=w.output)
    (hcase:(b2=w.heap.size∧w'.heap=w.heap.push ob2) ∨
      (b2=b∧w'.heap=w.heap.setIfInBounds b ob2∧x+m≤x2+n2∧∃ cs cs2 el fr,w.heap[b]?=some (.cells cs el fr)∧ob2=.cells cs2 el fr∧cs2.size=cs.size∧∀ j,j<x+m→cs2[j]?=cs[j]?)) :
    Ext ρ (ρ.add H.next b2 x2 q)∧Inv P Wr (ρ.add H.next b2 x2 q) ((H.set i (.cells c m e false par fz)).new (.cells c2 n2 e2 true (i::par) fz2)) w'∧Kept Wr w w':=by
  have hne:H.get i≠.none:=by rw [hi];simp
  have hnf:(H.get i).fixed=false:=by rw [hi];rfl
  have hpar:(H.get i).par=par:=by rw [hi];rfl
  have hlen:(H.get i).len=m:=by rw [hi];rfl
  have hf:=h.fresh H.next (Nat.le_refl _)
  have hext:Ext ρ (ρ.add H.next b2 x2 q):=Names.add_ext b2 x2 q hf.2 (fun j c' y e' hc=>by
    rcases hcase with ⟨h1,_⟩ | ⟨h1,_⟩
    · have:=h.dom j c' y e';omega
    · rw [h1];exact (hqb h1).symm)
  have hin:i≠H.next:=fun e=>hne (e ▸ hf.1)
  obtain ⟨b',x',ob,e',hl,hob,hor⟩:=h.blk hne
  rw [hb] at e';injection e' with e';injection e' with e1 e2';subst e1;subst e2'
  have hWb:Wr.w b:=h.wr i b x hne hnf hb
  have hget:∀ j,((H.set i (.cells c m e false par fz)).new (.cells c2 n2 e2 true (i::par) fz2)).get j =
      if j=H.next then .cells c2 n2 e2 true (i::par) fz2 else if j=i then .cells c m e false par fz else H.get j:=by
    intro j;rw [Heap.get_new,Heap.next_set,Heap.get_set]
  have hlive:∀ j,j≠H.next→(if j=i then (AObj.cells c m e false par fz) else H.get j)≠.none→H.get j≠.none:=by
    intro j _ hj;by_cases e:j=i
    · subst e;exact hne
    · rwa [if_neg e] at hj
  have hsame:∀ j,(if j=i then (AObj.cells c m e false par fz) else H.get j).par=(H.get j).par∧(if j=i then (AObj.cells c m e false par fz) else H.get j).len=(H.get j).len:=by
    intro j;by_cases e:j=i
    · subst e;rw [if_pos rfl,hi];exact ⟨rfl,rfl⟩
    · rw [if_neg e];exact ⟨rfl,rfl⟩
  have hshare:∀ j y,j≠i→H.get j≠.none→ρ j=some (b,y)→j∈par∧y+(H.get j).len≤x+m:=by
    intro j y hji hj ej
    rcases h.sep i j b x y (fun e=>hji e.symm) hne hj hb ej with ⟨hm,_⟩ | ⟨hm,hle⟩
    · have:=(h.par i j hm).2 hne;rw [hnf] at this;cases this
    · rw [hpar] at hm;rw [hlen] at hle;exact ⟨hm,hle⟩
  have hkid:∀ j c' y,H.get j≠.none→ρ j=some (c',y)→c'=b2→(j=i∨j∈par)∧y+(H.get j).len≤x2+n2:=by
    intro j c' y hj ej hc
    rcases hcase with ⟨h1,_⟩ | ⟨h1,_,h3,_⟩
    · obtain ⟨c'',y',_,e'',hlt,_⟩:=h.blk hj
      rw [ej] at e'';injection e'' with e'';injection e'' with e3 _;omega
    · by_cases e:j=i
      · subst e;rw [hb] at ej;injection ej with ej;injection ej with _ ej;subst ej
        exact ⟨.inl rfl,by rw [hlen];exact h3⟩
      · have hc':c'=b:=hc.trans h1
        subst hc'
        obtain ⟨g1,g2⟩:=hshare j y e hj ej
        exact ⟨.inr g1,by omega⟩
  refine ⟨hext,⟨?_,?_,?_,?_,?_,?_,?_,?_,?_,?_,?_,?_⟩,⟨hos,hta,hou,?_,?_⟩⟩
  · intro j hj
    rw [hget] at hj ⊢
    by_cases e0:j=H.next
    · subst e0
      rw [if_pos rfl]
      refine ⟨b2,x2,ob2,Names.add_same ..,?_,hr⟩
      rcases hcase with ⟨h1,h2⟩ | ⟨h1,h2,_⟩
      · rw [h2,h1];simp
      · rw [h2,h1,Array.getElem?_setIfInBounds];simp [hl]
    · rw [if_neg e0] at hj ⊢
      have hj':=hlive j e0 hj
      obtain ⟨c',y,oc,ec,hcl,hc,hrc⟩:=h.blk hj'
      have hweak:OR P ρ (if j=i then (AObj.cells c m e false par fz) else H.get j) y oc:=by
        by_cases e3:j=i
        · subst e3
          rw [if_pos rfl]
          rw [hi] at hrc
          cases oc<;>simp only [OR] at hrc ⊢
          exact ⟨hrc.1,hrc.2.1,hrc.2.2.1,fun h=>by cases h⟩
        · rw [if_neg e3];exact hrc
      rcases hcase with ⟨h1,h2⟩ | ⟨h1,h2,h3,cs,cs2,el,fr,g1,g2,g3,g4⟩
      · exact ⟨c',y,oc,(hext _ _ ec).1,by rw [h2,Array.getElem?_push,if_neg (by omega)];exact hc,OR.mono hext hweak⟩
      · by_cases e4:c'=b
        · subst e4
          rw [hc] at g1;injection g1 with g1;subst g1
          refine ⟨c',y,ob2,(hext _ _ ec).1,by rw [h2,Array.getElem?_setIfInBounds];simp [hl],OR.mono hext ?_⟩
          subst g2
          have hend:y+(H.get j).len≤x+m:=by
            by_cases e3:j=i
            · subst e3;rw [hb] at ec;injection ec with ec;injection ec with _ ec;rw [hlen];omega
            · exact (hshare j y e3 hj' ec).2
          have hfix:(if j=i then (AObj.cells c m e false par fz) else H.get j).fixed=true:=by
            by_cases e3:j=i
            · rw [if_pos e3];rfl
            · rw [if_neg e3]
              exact (h.par j i (by rw [hpar];exact (hshare j y e3 hj' ec).1)).2 hj'
          have hle2:=(hsame j).2
          generalize (if j=i then (AObj.cells c m e false par fz) else H.get j)=oj at hweak hfix hle2
          cases oj with
          | cells c5 n5 e5 rw5 p5 f5 =>
            simp only [OR] at hweak ⊢
            obtain ⟨k1,k2,k3,k4⟩:=hweak
            have hn5:n5=(H.get j).len:=hle2
            have hrw:rw5=false:=by simpa [AObj.fixed] using hfix
            refine ⟨k1,by omega,fun t ht=>?_,fun h=>by rw [hrw] at h;cases h⟩
            obtain ⟨v,hv,hvr⟩:=k3 t ht
            exact ⟨v,by rw [g4 _ (by omega)];exact hv,hvr⟩
          | _=>simp [AObj.fixed] at hfix
        · exact ⟨c',y,oc,(hext _ _ ec).1,by rw [h2,Array.getElem?_setIfInBounds,if_neg (fun h=>e4 h.symm)];exact hc,OR.mono hext hweak⟩
  · intro j k c' y z hjk hj hk ej ek
    rw [hget] at hj hk
    rw [hget,hget]
    by_cases e1:j=H.next
    · subst e1
      have e2:k≠H.next:=fun h=>hjk h.symm
      rw [if_neg e2] at hk ⊢
      rw [if_pos rfl]
      have hk':=hlive k e2 hk
      simp only [Names.add,if_neg e2] at ek
      rw [Names.add_same] at ej;injection ej with ej;injection ej with ej1 ej2
      obtain ⟨g1,g2⟩:=hkid k c' z hk' ek ej1.symm
      right
      refine ⟨?_,?_⟩
      · show k∈i::par
        rcases g1 with g | g
        · rw [g];exact List.mem_cons_self ..
        · exact List.mem_cons_of_mem _ g
      · rw [(hsame k).2,← ej2];exact g2
    · by_cases e2:k=H.next
      · subst e2
        rw [if_neg e1] at hj ⊢
        rw [if_pos rfl]
        have hj':=hlive j e1 hj
        simp only [Names.add,if_neg e1] at ej
        rw [Names.add_same] at ek;injection ek with ek;injection ek with ek1 ek2
        obtain ⟨g1,g2⟩:=hkid j c' y hj' ej ek1.symm
        left
        refine ⟨?_,?_⟩
        · show j∈i::par
          rcases g1 with g | g
          · rw [g];exact List.mem_cons_self ..
          · exact List.mem_cons_of_mem _ g
        · rw [(hsame j).2,← ek2];exact g2
      · rw [if_neg e1] at hj ⊢
        rw [if_neg e2] at hk ⊢
        have hj':=hlive j e1 hj
        have hk':=hlive k e2 hk
        simp only [Names.add,if_neg e1,if_neg e2] at ej ek
        rw [(hsame j).1,(hsame j).2,(hsame k).1,(hsame k).2]
        exact h.sep j k c' y z hjk hj' hk' ej ek
  · intro j k hk
    rw [hget] at hk
    rw [hget]
    have hnext:((H.set i (.cells c m e false par fz)).new (.cells c2 n2 e2 true (i::par) fz2)).next.idx=H.next.idx+1:=by
      show (H.next.succ).idx=_;exact Pos.idx_succ _
    rw [hnext]
    by_cases e2:k=H.next
    · rw [if_pos e2] at hk
      have hk':j∈i::par:=hk
      rcases List.mem_cons.1 hk' with g | g
      · subst g
        have:=h.idx_lt hne
        refine ⟨by omega,fun _=>?_⟩
        rw [if_neg hin,if_pos rfl];rfl
      · obtain ⟨g1,g2⟩:=h.par j i (by rw [hpar];exact g)
        refine ⟨by omega,fun hj=>?_⟩
        have e1:j≠H.next:=fun e=>by subst e;omega
        rw [if_neg e1] at hj ⊢
        by_cases e3:j=i
        · rw [if_pos e3];rfl
        · rw [if_neg e3] at hj ⊢;exact g2 hj
    · rw [if_neg e2,(hsame k).1] at hk
      obtain ⟨g1,g2⟩:=h.par j k hk
      refine ⟨by omega,fun hj=>?_⟩
      have e1:j≠H.next:=fun e=>by subst e;omega
      rw [if_neg e1] at hj ⊢
      by_cases e3:j=i
      · rw [if_pos e3];rfl
      · rw [if_neg e3] at hj ⊢;exact g2 hj
  · intro j c' y hj hfx ej
    rw [hget] at hj hfx
    by_cases e1:j=H.next
    · subst e1
      rw [Names.add_same] at ej;injection ej with ej;injection ej with ej _
      rcases hcase with ⟨h1,_⟩ | ⟨h1,_⟩
      · exact (h.new c' (by omega)).1
      · rw [← ej,h1];exact hWb
    · rw [if_neg e1] at hj hfx
      simp only [Names.add,if_neg e1] at ej
      by_cases e3:j=i
      · rw [if_pos e3] at hfx;cases hfx
      · rw [if_neg e3] at hj hfx;exact h.wr j c' y hj hfx ej
  · intro j hj
    have hj':H.next.succ.idx≤j.idx:=hj
    rw [Pos.idx_succ] at hj'
    have e1:j≠H.next:=fun e=>by subst e;omega
    have e3:j≠i:=fun e=>by subst e;have:=h.idx_lt hne;omega
    rw [hget,if_neg e1,if_neg e3]
    obtain ⟨g1,g2⟩:=h.fresh j (by omega)
    exact ⟨g1,by simp [Names.add,e1,g2]⟩
  · intro k hk
    refine h.new k ?_
    rcases hcase with ⟨_,h2⟩ | ⟨_,h2,_⟩
    · rw [h2] at hk;simp at hk;omega
    · rw [h2] at hk;simpa using hk
  · intro g hg;exact (hext _ _ (h.glob g hg)).1
  · intro j c' y oc hj ej hc
    rw [hget] at hj ⊢
    by_cases e0:j=H.next
    · subst e0
      rw [Names.add_same] at ej;injection ej with ej;injection ej with ej _
      subst ej
      rw [if_pos rfl,Names.add_k]
      have:oc=ob2:=by
        rcases hcase with ⟨h1,h2⟩ | ⟨h1,h2,_⟩
        · rw [h2,h1,Array.getElem?_push,if_pos rfl] at hc;injection hc with hc;exact hc.symm
        · rw [h2,h1,Array.getElem?_setIfInBounds] at hc;simp only [hl,if_true,Option.some.injEq] at hc;exact hc.symm
      rw [this];exact hq
    · rw [if_neg e0] at hj ⊢
      have hj':=hlive j e0 hj
      simp only [Names.add,if_neg e0] at ej
      rw [show (ρ.add H.next b2 x2 q).k c'=ρ.k c' from (hext _ _ ej).2]
      have hlt:=h.dom j c' y ej
      obtain ⟨c'',y',oc',ec',_,hcl',_⟩:=h.blk hj'
      rw [ej] at ec';injection ec' with ec';injection ec' with ec1 ec2;subst ec1;subst ec2
      have hinf:=h.info j c' y oc' hj' ej hcl'
      have hold:InfoR P (ρ.k c') (if j=i then (AObj.cells c m e false par fz) else H.get j) oc':=by
        by_cases e3:j=i
        · subst e3;rw [if_pos rfl];rw [hi] at hinf;cases oc'<;>exact hinf
        · rw [if_neg e3];exact hinf
      rcases hcase with ⟨h1,h2⟩ | ⟨h1,h2,h3,cs,cs2,el,fr,g1,g2,g3,g4⟩
      · rw [h2,Array.getElem?_push,if_neg (by omega),hcl'] at hc
        injection hc with hc;rw [← hc];exact hold
      · rw [h2,Array.getElem?_setIfInBounds] at hc
        by_cases e4:b=c'
        · subst e4
          simp only [hl,if_true,Option.some.injEq] at hc
          rw [hcl'] at g1;injection g1 with g1;subst g1
          rw [← hc,g2]
          generalize (if j=i then (AObj.cells c m e false par fz) else H.get j)=oj at hold
          cases oj<;>simp only [InfoR] at hold ⊢
          rw [g3];exact hold
        · rw [if_neg e4,hcl'] at hc
          injection hc with hc;rw [← hc];exact hold
  · intro j c' y ej
    by_cases e1:j=H.next
    · subst e1
      rw [Names.add_same] at ej;injection ej with ej;injection ej with ej _
      rcases hcase with ⟨h1,h2⟩ | ⟨h1,h2,_⟩
      · rw [h2,Array.size_push];omega
      · rw [h2,Array.size_setIfInBounds];omega
    · simp only [Names.add,if_neg e1] at ej
      have:=h.dom j c' y ej
      rcases hcase with ⟨h1,h2⟩ | ⟨h1,h2,_⟩
      · rw [h2,Array.size_push];omega
      · rw [h2,Array.size_setIfInBounds];omega
  · intro j c' y hj ej
    rw [hget] at hj
    by_cases e1:j=H.next
    · subst e1
      rw [Names.add_same] at ej;injection ej with ej;injection ej with ej _
      rcases hcase with ⟨h1,_⟩ | ⟨h1,_⟩
      · exact (h.new c' (by omega)).2
      · rw [← ej,h1];exact h.rd i b x hne hb
    · rw [if_neg e1] at hj
      simp only [Names.add,if_neg e1] at ej
      exact h.rd j c' y (hlive j e1 hj) ej
  · intro j hj
    obtain ⟨h1,h2,h3⟩:=h.un j hj
    have hjn:j≠H.next:=fun e=>by subst e;omega
    have hji:j≠i:=fun e=>hne (by rw [← e];exact h1)
    refine ⟨by rw [hget,if_neg hjn,if_neg hji];exact h1,?_,fun k hk=>?_⟩
    · show j.idx<H.next.succ.idx
      rw [Pos.idx_succ];omega
    · rw [hget] at hk
      by_cases e2:k=H.next
      · rw [if_pos e2] at hk
        have hk':j∈i::par:=hk
        rcases List.mem_cons.1 hk' with g | g
        · exact hji g
        · exact h3 i (by rw [hpar];exact g)
      · rw [if_neg e2,(hsame k).1] at hk;exact h3 k hk
  · intro j hj
    obtain ⟨h1,h2⟩:=h.dead j hj
    have hjn:j≠H.next:=fun e=>by have:=(h.un j h1).2.1;subst e;omega
    exact ⟨h1,by simp [Names.add,hjn,h2]⟩
  · rcases hcase with ⟨_,h2⟩ | ⟨_,h2,_⟩<;>rw [h2]<;>simp
  · intro k hk hwr
    rcases hcase with ⟨_,h2⟩ | ⟨_,h2,_⟩
    · rw [h2,Array.getElem?_push,if_neg (by omega)]
    · have:k≠b:=fun e=>hwr (e ▸ hWb)
      rw [h2,Array.getElem?_setIfInBounds,if_neg (fun h=>this h.symm)]
end Go.Abs
namespace Go.Abs
variable [Ov]
mutual
theorem ofVal_sound (ρ:Names):∀ (v:Value) (a:AV),ofVal v=some a→VR ρ a v
  | .bool b,a,h=>by simp only [ofVal,Option.some.injEq] at h;subst h;simp [VR]
  | .int k n,a,h=>by simp only [ofVal,Option.some.injEq] at h;subst h;simp [VR]
  | .string s,a,h=>by simp only [ofVal,Option.some.injEq] at h;subst h;simp [VR]
  | .pointer none,a,h=>by simp only [ofVal,Option.some.injEq] at h;subst h;simp [VR]
  | .slice none 0 0,a,h=>by simp only [ofVal,Option.some.injEq] at h;subst h;simp [VR]
  | .map none,a,h=>by simp only [ofVal,Option.some.injEq] at h;subst h;simp [VR]
  | .nilFunc,a,h=>by simp only [ofVal,Option.some.injEq] at h;subst h;simp [VR]
  | .nilIface,a,h=>by simp only [ofVal,Option.some.injEq] at h;subst h;simp [VR]
  | .func (.func f) x y,a,h=>by
    simp only [ofVal] at h
    split at h
    · rename_i l m hl hm
      injection h with h;subst h
      simp only [VR]
      exact ⟨trivial,ofVals_sound ρ x.toList l hl,ofVals_sound ρ y.toList m hm⟩
    · cases h
  | .agg l,a,h=>by
    simp only [ofVal,Option.map_eq_some_iff] at h
    obtain ⟨m,hm,h⟩:=h;subst h
    simp only [VR];exact ofVals_sound ρ l.toList m hm
  | .tuple l,a,h=>by
    simp only [ofVal,Option.map_eq_some_iff] at h
    obtain ⟨m,hm,h⟩:=h;subst h
    simp only [VR];exact ofVals_sound ρ l.toList m hm
  | .iface t v,a,h=>by
    simp only [ofVal,Option.map_eq_some_iff] at h
    obtain ⟨m,hm,h⟩:=h;subst h
    simp only [VR];exact ⟨trivial,ofVal_sound ρ v m hm⟩
  | .float ..,a,h=>by simp [ofVal] at h
  | .complex ..,a,h=>by simp [ofVal] at h
  | .pointer (some _),a,h=>by simp [ofVal] at h
  | .slice (some _) _ _,a,h=>by simp [ofVal] at h
  | .slice none (_+1) _,a,h=>by simp [ofVal] at h
  | .slice none 0 (_+1),a,h=>by simp [ofVal] at h
  | .map (some _),a,h=>by simp [ofVal] at h
  | .chan _,a,h=>by simp [ofVal] at h
  | .func (.method _) _ _,a,h=>by simp [ofVal] at h
  | .func (.methodOf ..) _ _,a,h=>by simp [ofVal] at h
  | .func (.via ..) _ _,a,h=>by simp [ofVal] at h
  | .func (.yield _) _ _,a,h=>by simp [ofVal] at h
theorem ofVals_sound (ρ:Names):∀ (l:List Value) (m:List AV),ofVals l=some m→VRs ρ m l
  | [],m,h=>by simp only [ofVals,Option.some.injEq] at h;subst h;simp [VRs]
  | v::l,m,h=>by
    simp only [ofVals] at h
    split at h
    · rename_i a m' ha hm
      injection h with h;subst h
      simp only [VRs];exact ⟨ofVal_sound ρ v a ha,ofVals_sound ρ l m' hm⟩
    · cases h
end
section inv
variable {ρ:Names} {c:Value}
theorem VR.ptr_inv {i:Pos} {o:Nat} (h:VR ρ (.ptr i o) c):∃ b x,ρ i=some (b,x)∧c=.pointer (some ⟨b,x+o,none⟩):=by
  cases c with
  | pointer p=>cases p with
    | none=>simp only [VR] at h
    | some p=>simp only [VR] at h;obtain ⟨b,x,h1,h2⟩:=h;exact ⟨b,x,h1,by rw [h2]⟩
  | _=>simp only [VR] at h
theorem VR.nilptr_inv (h:VR ρ .nilptr c):c=.pointer none:=by
  cases c with
  | pointer p=>cases p with
    | none=>rfl
    | some p=>simp only [VR] at h
  | _=>simp only [VR] at h
theorem VR.bool_inv {b:Bool} (h:VR ρ (.bool b) c):c=.bool b:=by
  cases c<;>simp only [VR] at h
  rw [h]
theorem VR.int_inv {k:Nat} {n:Int} (h:VR ρ (.int k n) c):∃ k',k=kc k'∧c=.int k' n:=by
  cases c<;>simp only [VR] at h
  exact ⟨_,h.1,by rw [h.2]⟩
theorem VR.str_inv {s:List Nat} (h:VR ρ (.str s) c):∃ t:ByteArray,t.data.toList.map UInt8.toNat=s∧c=.string t:=by
  cases c<;>simp only [VR] at h
  exact ⟨_,h,rfl⟩
theorem VR.slice_inv {i:Pos} {o len cap:Nat} {ex:Bool} (h:VR ρ (.slice i o len cap ex) c):∃ ad cp,c=.slice (some ad) len cp∧len≤cap∧cap≤cp∧(ex=true→cp=cap) ∧
    ∃ b x,ρ i=some (b,x)∧(cp≠0→ad=⟨b,x+o,none⟩)∧(ex=false→x+o+cp*(ρ.k b).2≤(ρ.k b).1):=by
  cases c with
  | slice p n cp=>cases p with
    | none=>simp only [VR] at h
    | some p =>
      simp only [VR] at h
      obtain ⟨h1,h2,h3,h4,b,x,h5,h6,h7⟩:=h
      exact ⟨p,cp,by rw [h1],h2,h3,h4,b,x,h5,h6,h7⟩
  | _=>simp only [VR] at h
theorem VR.nilslice_inv (h:VR ρ .nilslice c):c=.slice none 0 0:=by
  cases c with
  | slice p n cp=>cases p with
    | none=>cases n<;>cases cp<;>simp only [VR] at h<;>rfl
    | some p=>simp only [VR] at h
  | _=>simp only [VR] at h
theorem VR.map_inv {i:Pos} (h:VR ρ (.map i) c):∃ b,ρ i=some (b,0)∧c=.map (some b):=by
  cases c with
  | map p=>cases p with
    | none=>simp only [VR] at h
    | some p=>simp only [VR] at h;exact ⟨p,h,rfl⟩
  | _=>simp only [VR] at h
theorem VR.nilmap_inv (h:VR ρ .nilmap c):c=.map none:=by
  cases c with
  | map p=>cases p with
    | none=>rfl
    | some p=>simp only [VR] at h
  | _=>simp only [VR] at h
theorem VR.agg_inv {l:List AV} (h:VR ρ (.agg l) c):∃ cs:Array Value,VRs ρ l cs.toList∧c=.agg cs:=by
  cases c<;>simp only [VR] at h
  exact ⟨_,h,rfl⟩
theorem VR.tuple_inv {l:List AV} (h:VR ρ (.tuple l) c):∃ cs:Array Value,VRs ρ l cs.toList∧c=.tuple cs:=by
  cases c<;>simp only [VR] at h
  exact ⟨_,h,rfl⟩
theorem VR.iface_inv {t:Nat} {v:AV} (h:VR ρ (.iface t v) c):∃ x,VR ρ v x∧c=.iface t x:=by
  cases c<;>simp only [VR] at h
  exact ⟨_,h.2,by rw [h.1]⟩
theorem VR.nilIface_inv (h:VR ρ .nilIface c):c=.nilIface:=by
  cases c<;>simp only [VR] at h
  rfl
theorem VR.func_inv {f:Nat} {a b:List AV} (h:VR ρ (.func f a b) c):∃ x y:Array Value,VRs ρ a x.toList∧VRs ρ b y.toList∧c=.func (.func f) x y:=by
  cases c with
  | func fn x y => cases fn <;> simp only [VR] at h
                   exact ⟨x,y,h.2.1,h.2.2,by rw [h.1]⟩
  | _=>simp only [VR] at h
theorem VR.yield_inv {i:Pos} (h:VR ρ (.yield i) c):∃ b,ρ i=some (b,0)∧c=.func (.yield b) #[] #[]:=by
  cases c with
  | func fn x y => cases fn <;> simp only [VR] at h
                   exact ⟨_,h.1,by rw [h.2.1,h.2.2]⟩
  | _=>simp only [VR] at h
theorem VR.nilFunc_inv (h:VR ρ .nilFunc c):c=.nilFunc:=by
  cases c with
  | nilFunc=>rfl
  | func fn x y=>cases fn<;>simp only [VR] at h
  | _=>simp only [VR] at h
end inv
variable {P:Program}
theorem run_und {t:TypeId} {d:TypeDesc} (h:P.underlying t=some d) (w:World):(underlying t).run P w=.ok d w:=by simp [underlying,h]
theorem szOf_info {t:TypeId} {s:Nat} (h:szOf P t=some s):∃ i,P.info? t=some i∧i.size=s:=by
  simpa [szOf,Option.map_eq_some_iff] using h
theorem byOf_info {t:TypeId} {s:Nat} (h:byOf P t=some s):∃ i,P.info? t=some i∧i.bytes=s:=by
  simpa [byOf,Option.map_eq_some_iff] using h
theorem run_typeInfo {t:TypeId} {i:TypeInfo} (h:P.info? t=some i) (w:World):(typeInfo t).run P w=.ok i w:=by simp [typeInfo,h]
theorem run_sizeOf {t:TypeId} {s:Nat} (h:szOf P t=some s) (w:World):(sizeOf t).run P w=.ok s w:=by
  obtain ⟨i,h1,h2⟩:=szOf_info h
  simp [sizeOf,run_typeInfo h1,h2]
theorem ofVal_defd {v:Value} {z:AV} (h:ofVal v=some z):z.defd=true:=by
  cases z<;>first | rfl | skip
  exfalso
  unfold ofVal at h
  split at h<;>(first | (cases h;done) | (rw [Option.map_eq_some_iff] at h;obtain ⟨_,_,h⟩:=h;cases h;done) | (split at h<;>first | (cases h;done) | skip))
theorem allOne_defd {v:AV} (h:allOne v.cells=true):v.defd=true:=by cases v<;>first | rfl | (simp [AV.cells,allOne,AV.oneCell] at h)
theorem zeroOf_info {t:TypeId} {z:AV} (h:zeroOf P t=some z):∃ i v,P.info? t=some i∧i.zero=some v∧ofVal v=some z:=by
  simp only [zeroOf,Option.bind_eq_some_iff] at h
  obtain ⟨i,h1,v,h2,h3⟩:=h
  exact ⟨i,v,h1,h2,h3⟩
theorem run_zeroValue {t:TypeId} {z:AV} (h:zeroOf P t=some z):∃ v,(∀ w,(zeroValue t).run P w=.ok v w)∧(∀ ρ,VR ρ z v)∧z.defd=true:=by
  obtain ⟨i,v,h1,h2,h3⟩:=zeroOf_info h
  exact ⟨v,fun w=>by simp [zeroValue,run_typeInfo h1,h2],fun ρ=>ofVal_sound ρ v z h3,ofVal_defd h3⟩
theorem run_isAgg {t:TypeId} {b:Bool} (h:aggOf P t=some b) (w:World):(isAgg t).run P w=.ok b w:=by
  simp only [aggOf,Option.map_eq_some_iff] at h
  obtain ⟨d,h1,h2⟩:=h
  simp only [isAgg,Sem.run_bind,run_und h1,Result.andThen_ok]
  cases d<;>simp_all
theorem gv_sound {Wr:Acc} {ρ:Names} {H:Heap} {w:World} {nt:Nat} {x:Operand} {ox:Opd} (hx:cOpd P nt x=some ox) {env:Tree AV} {a:Act} (hE:ERel ρ nt env a.tmps) (hI:Inv P Wr ρ H w) :
    VR ρ (gv env ox) (a.eval x):=by
  cases x with
  | tmp t =>
    simp only [cOpd] at hx
    split at hx
    · rename_i ht;injection hx with hx;subst hx;exact hE.2 t ht
    · cases hx
  | const v =>
    simp only [cOpd,Option.map_eq_some_iff] at hx
    obtain ⟨c,hc,hx⟩:=hx;subst hx
    exact ofVal_sound ρ v c hc
  | global g =>
    simp only [cOpd] at hx
    split at hx
    · rename_i ht;injection hx with hx;subst hx
      simp only [gv,Act.eval,VR]
      exact ⟨g,0,hI.glob g ht,rfl⟩
    · cases hx
  | func f =>
    simp only [cOpd,Option.some.injEq] at hx;subst hx
    simp [gv,Act.eval,VR,VRs]
theorem gvs_sound {Wr:Acc} {ρ:Names} {H:Heap} {w:World} {nt:Nat} {env:Tree AV} {a:Act} (hE:ERel ρ nt env a.tmps) (hI:Inv P Wr ρ H w) :
    ∀ {l:List Operand} {ol:List Opd},l.mapM (cOpd P nt)=some ol→VRs ρ (ol.map (gv env)) (l.map a.eval)
  | [],ol,h=>by simp at h;subst h;simp [VRs]
  | x::l,ol,h=>by
    simp only [List.mapM_cons,Option.bind_eq_bind,Option.bind_eq_some_iff,Option.pure_def,Option.some.injEq] at h
    obtain ⟨ox,h1,ol',h2,h3⟩:=h
    subst h3
    simp only [List.map_cons,VRs]
    exact ⟨gv_sound h1 hE hI,gvs_sound hE hI h2⟩
def Comes1 (P:Program) (s:Sem Value) (w:World) (Q:Value→World→Prop):Prop:=∃ v w',s.run P w=.ok v w'∧Q v w'
def Post (P:Program) (Wr:Acc) (ρ:Names) (w:World) (v:AV) (H':Heap) (c:Value) (w':World):Prop :=
  ∃ ρ',Ext ρ ρ'∧VR ρ' v c∧Inv P Wr ρ' H' w'∧Kept Wr w w'
theorem Post.same {Wr:Acc} {ρ:Names} {H:Heap} {w:World} {v:AV} {c:Value} (hI:Inv P Wr ρ H w) (h:VR ρ v c):Post P Wr ρ w v H c w:=⟨ρ,Ext.refl ρ,h,hI,Kept.refl Wr w⟩
theorem newCells_sound {Wr:Acc} {ρ:Names} {H:Heap} {w:World} (hI:Inv P Wr ρ H w) {l:List AV} {m:List Value} (hm:VRs ρ l m) (e n:Nat) (hn:n=l.length) (rest:List Value) :
    Ext ρ (ρ.add H.next w.heap.size 0 ((m++rest).length,(szOf P e).getD 0))∧Inv P Wr (ρ.add H.next w.heap.size 0 ((m++rest).length,(szOf P e).getD 0)) (H.new (.cells (mkCells l) n e true [] 0)) { w with heap:=w.heap.push (.cells (m++rest).toArray e (0,0)) } ∧
      Kept Wr w { w with heap:=w.heap.push (.cells (m++rest).toArray e (0,0)) }:=by
  have hext:Ext ρ (ρ.add H.next w.heap.size 0 ((m++rest).length,(szOf P e).getD 0)):=Names.add_ext w.heap.size 0 _ (hI.fresh H.next (Nat.le_refl _)).2 (fun j c y e' hc=>by have:=hI.dom j c y e';omega)
  refine hI.alloc _ (by simp [InfoR]) (by simp) rfl ?_
  have hlen:=VRs.length hm
  simp only [OR]
  refine ⟨trivial,by simp;omega,fun i hi=>?_,fun _ i _ _=>by omega⟩
  have hi':i<l.length:=by omega
  obtain ⟨y,hy,hr⟩:=VRs.get hm i l[i] (by simp [hi'])
  refine ⟨y,?_,?_⟩
  · have:i<m.length:=by omega
    simp [List.getElem?_append_left this,hy]
  · rw [mkCells_get l i hi']
    exact VR.mono hext _ _ (by simpa [List.getD,hi'] using hr)
end Go.Abs
namespace Go.Abs
variable [Ov]
variable {P:Program}
def Opk (P:Program) (Wr:Acc) (ρ:Names) (w:World) (s:Sem Next) (v:AV) (H':Heap):Prop :=
  ∃ c w',(s.run P w=.ok (.value c) w'∨(s.run P w=.ok .skip w'∧c=undef))∧Post P Wr ρ w v H' c w'
theorem Opk.val {Wr:Acc} {ρ:Names} {w w':World} {s:Sem Next} {v:AV} {H':Heap} {c:Value} (h:s.run P w=.ok (.value c) w') (hp:Post P Wr ρ w v H' c w'):Opk P Wr ρ w s v H':=⟨c,w',.inl h,hp⟩
section
variable {Wr:Acc} {ρ:Names} {H H':Heap} {w:World} {nt:Nat} {env:Tree AV} {a:Act} {o:Oper} {ao:AOp} {v:AV}
structure Ctx (P:Program) (Wr:Acc) (ρ:Names) (H:Heap) (w:World) (nt:Nat) (env:Tree AV) (a:Act):Prop where
  E:ERel ρ nt env a.tmps
  I:Inv P Wr ρ H w
theorem Ctx.gv (h:Ctx P Wr ρ H w nt env a) {x:Operand} {ox:Opd} (hx:cOpd P nt x=some ox):VR ρ (gv env ox) (a.eval x):=gv_sound hx h.E h.I
theorem ok_mov (h:Ctx P Wr ρ H w nt env a) {x:Operand} (ho:o.op=.move x∨o.op=.assign x) (hc:cOp P nt o=some ao) (he:evalOp ao env H=some (v,H')):Opk P Wr ρ w (execOp a.eval o) v H':=by
  have hc':∃ ox,cOpd P nt x=some ox∧ao=.mov ox:=by
    rcases ho with ho | ho<;>simp only [cOp,ho,Option.bind_eq_bind,Option.bind_eq_some_iff,Option.pure_def,Option.some.injEq] at hc<;>obtain ⟨ox,h1,h2⟩:=hc<;>exact ⟨ox,h1,h2.symm⟩
  obtain ⟨ox,h1,rfl⟩:=hc'
  simp only [evalOp,Option.some.injEq,Prod.mk.injEq] at he
  obtain ⟨rfl,rfl⟩:=he
  refine Opk.val (c:=a.eval x) (w':=w) ?_ (Post.same h.I (h.gv h1))
  rcases ho with ho | ho<;>simp [execOp,ho]
theorem ok_pick (h:Ctx P Wr ρ H w nt env a) {c x y:Operand} (ho:o.op=.pick c x y) (hc:cOp P nt o=some ao) (he:evalOp ao env H=some (v,H')):Opk P Wr ρ w (execOp a.eval o) v H':=by
  simp only [cOp,ho,Option.bind_eq_bind,Option.bind_eq_some_iff,Option.pure_def,Option.some.injEq] at hc
  obtain ⟨oc,h1,ox,h2,oy,h3,rfl⟩:=hc
  simp only [evalOp] at he
  have g1:=h.gv h1
  split at he
  · rename_i t ht
    simp only [Option.some.injEq,Prod.mk.injEq] at he
    obtain ⟨rfl,rfl⟩:=he
    rw [ht] at g1
    have hv:=g1.bool_inv
    refine Opk.val (c:=if t then a.eval x else a.eval y) (w':=w) (by simp [execOp,ho,hv,asBool]) (Post.same h.I ?_)
    cases t
    · exact h.gv h3
    · exact h.gv h2
  · cases he
theorem ok_alloc (h:Ctx P Wr ρ H w nt env a) {e:TypeId} (ho:o.op=.alloc e) (hc:cOp P nt o=some ao) (he:evalOp ao env H=some (v,H')):Opk P Wr ρ w (execOp a.eval o) v H':=by
  simp only [cOp,ho,Option.bind_eq_bind,Option.bind_eq_some_iff,Option.pure_def,Option.some.injEq] at hc
  obtain ⟨z,h1,rfl⟩:=hc
  simp only [evalOp,Option.some.injEq,Prod.mk.injEq] at he
  obtain ⟨rfl,rfl⟩:=he
  obtain ⟨zv,hz,hzr,hzd⟩:=run_zeroValue h1
  obtain ⟨g1,g2,g3⟩:=newCells_sound h.I (VR.cells (hzr ρ) hzd) e z.cells.length rfl []
  refine Opk.val (c:=.pointer (some ⟨w.heap.size,0,none⟩)) (w':={ w with heap:=w.heap.push (.cells (zv.cells.toList++[]).toArray e (0,0)) }) ?_ ⟨_,g1,?_,g2,g3⟩
  · simp [execOp,ho,Instr.alloc,hz,newVar,newRow]
  · simp only [VR];exact ⟨_,_,Names.add_same ..,by simp⟩
theorem ok_box (h:Ctx P Wr ρ H w nt env a) {e:TypeId} {x:Operand} (ho:o.op=.box e x) (hc:cOp P nt o=some ao) (he:evalOp ao env H=some (v,H')):Opk P Wr ρ w (execOp a.eval o) v H':=by
  simp only [cOp,ho,Option.bind_eq_bind,Option.bind_eq_some_iff,Option.pure_def,Option.some.injEq] at hc
  obtain ⟨ox,h1,rfl⟩:=hc
  simp only [evalOp] at he
  split at he
  · rename_i hone
    simp only [Option.some.injEq,Prod.mk.injEq] at he
    obtain ⟨rfl,rfl⟩:=he
    obtain ⟨g1,g2,g3⟩:=newCells_sound h.I (VR.cells (h.gv h1) (allOne_defd hone)) e _ rfl []
    refine Opk.val (c:=.pointer (some ⟨w.heap.size,0,none⟩)) (w':={ w with heap:=w.heap.push (.cells ((a.eval x).cells.toList++[]).toArray e (0,0)) }) ?_ ⟨_,g1,?_,g2,g3⟩
    · simp [execOp,ho,Instr.box,newVar,newRow]
    · simp only [VR];exact ⟨_,_,Names.add_same ..,by simp⟩
  · cases he
theorem loadV_sound (hI:Inv P Wr ρ H w) {av:AV} {c:Value} (hv:VR ρ av c) {t:TypeId} {n:Nat} {g:Bool} (hg:aggOf P t=some g) (hn:g=true→szOf P t=some n) (hn1:g=false→n=1)
    (he:loadV H av n g=some v):∃ b,c=.pointer (some b)∧∃ r,(loadVar t b).run P w=.ok r w∧VR ρ v r:=by
  unfold loadV at he
  split at he
  · rename_i id off
    · obtain ⟨b,x,hb,rfl⟩:=hv.ptr_inv
      refine ⟨_,rfl,?_⟩
      simp only [readAt] at he
      split at he
      · rename_i l hl
        split at hl
        · rename_i c m e rw' par fz hi
          have hne:H.get id≠.none:=by rw [hi];simp
          obtain ⟨b',x',ob,e',hlt,hob,hor⟩:=hI.blk hne
          rw [hb] at e';injection e' with e';injection e' with e1 e2;subst e1;subst e2
          rw [hi] at hor
          cases ob with
          | cells cs el fr =>
            obtain ⟨g1,g2⟩:=readCells_VRs hor hl
            cases g with
            | true =>
              simp only [if_true,Option.some.injEq] at he;subst he
              rcases Nat.eq_zero_or_pos n with hz | hz
              · subst hz
                refine ⟨.agg #[],?_,?_⟩
                · simp [loadVar,run_isAgg hg,run_sizeOf (hn rfl),loadCells,loadCellsFrom]
                · simp only [VR];simpa using g1
              · refine ⟨.agg ((cs.toList.drop (x+off)).take n).toArray,?_,by simp only [VR];simpa using g1⟩
                simp only [loadVar,Sem.run_bind,run_isAgg hg,Result.andThen_ok,if_true,run_sizeOf (hn rfl),run_loadCells_at w hob (x+off) n (g2 hz),Sem.run_pure]
            | false =>
              have:=hn1 rfl;subst this
              simp only [Bool.false_eq_true,if_false] at he
              have hx1:=g2 (by omega)
              obtain ⟨y,hy⟩:∃ y,cs[x+off]?=some y:=⟨cs[x+off],by simp⟩
              have hl1:(cs.toList.drop (x+off)).take 1=[y]:=by
                have hlt:x+off<cs.toList.length:=by simp;omega
                rw [List.drop_eq_getElem_cons hlt]
                simp only [List.take_succ_cons,List.take_zero]
                have:cs.toList[x+off]=y:=by simpa [Array.getElem?_eq_getElem (show x+off<cs.size by omega)] using hy
                rw [this]
              rw [hl1] at g1
              cases l with
              | nil=>simp [VRs] at g1
              | cons q l =>
                simp only [VRs] at g1
                simp only [List.head?_cons,Option.some.injEq] at he;subst he
                refine ⟨y,?_,g1.1⟩
                simp only [loadVar,Sem.run_bind,run_isAgg hg,Result.andThen_ok,Bool.false_eq_true,if_false]
                exact run_load_at w (by rw [cell_of w hob];exact hy)
          | _=>simp [OR] at hor
        · cases hl
      · cases he
  · cases he
theorem ok_load (h:Ctx P Wr ρ H w nt env a) {t:TypeId} {x:Operand} (ho:o.op=.load t x) (hc:cOp P nt o=some ao) (he:evalOp ao env H=some (v,H')):Opk P Wr ρ w (execOp a.eval o) v H':=by
  simp only [cOp,ho,Option.bind_eq_bind,Option.bind_eq_some_iff,Option.pure_def,Option.some.injEq] at hc
  obtain ⟨g,hg,hc⟩:=hc
  have key:∃ ox n,cOpd P nt x=some ox∧(g=true→szOf P t=some n)∧(g=false→n=1)∧∃ q,loadV H (gv env ox) n g=some q∧v=q∧H'=H:=by
    cases g with
    | true =>
      simp only [if_true,Option.bind_eq_some_iff,Option.some.injEq] at hc
      obtain ⟨n,hn,ox,h1,rfl⟩:=hc
      simp only [evalOp,Option.map_eq_some_iff,Prod.mk.injEq] at he
      obtain ⟨q,hq,rfl,rfl⟩:=he
      exact ⟨ox,n,h1,fun _=>hn,by simp,_,hq,rfl,rfl⟩
    | false =>
      simp only [Bool.false_eq_true,if_false,Option.bind_eq_some_iff,Option.some.injEq] at hc
      obtain ⟨ox,h1,rfl⟩:=hc
      simp only [evalOp,Option.map_eq_some_iff,Prod.mk.injEq] at he
      obtain ⟨q,hq,rfl,rfl⟩:=he
      exact ⟨ox,1,h1,by simp,fun _=>rfl,_,hq,rfl,rfl⟩
  obtain ⟨ox,n,h1,h2,h3,q,hq,rfl,rfl⟩:=key
  obtain ⟨b,hb,r,hr,hv⟩:=loadV_sound h.I (h.gv h1) hg h2 h3 hq
  exact Opk.val (c:=r) (w':=w) (by simp [execOp,ho,hb,Instr.loadAt,Instr.sureAddr,hr]) (Post.same h.I hv)
theorem writeAt_allOne {id:Pos} {off:Nat} {l:List AV} (h:writeAt H id off l=some H'):allOne l=true:=by
  unfold writeAt at h
  split at h
  · split at h
    · rename_i hc;simp only [Bool.and_eq_true] at hc;exact hc.2
    · cases h
  · cases h
theorem ok_store (h:Ctx P Wr ρ H w nt env a) {t:TypeId} {x y:Operand} (ho:o.op=.store t x y) (hc:cOp P nt o=some ao) (he:evalOp ao env H=some (v,H')):Opk P Wr ρ w (execOp a.eval o) v H':=by
  simp only [cOp,ho,Option.bind_eq_bind,Option.bind_eq_some_iff,Option.pure_def,Option.some.injEq] at hc
  obtain ⟨n,hn,ox,h1,oy,h2,rfl⟩:=hc
  simp only [evalOp] at he
  have g1:=h.gv h1
  split at he
  · rename_i id off hv
    rw [hv] at g1
    split at he
    · rename_i hlen
      split at he
      · rename_i H1 hw
        simp only [Option.some.injEq,Prod.mk.injEq] at he
        obtain ⟨rfl,rfl⟩:=he
        · obtain ⟨b,z,hb,hx⟩:=g1.ptr_inv
          have hcs:=VR.cells (h.gv h2) (allOne_defd (writeAt_allOne hw))
          obtain ⟨k1,k2,k3⟩:=writeAt_sound h.I hw hb hcs
          have hsz:(a.eval y).cells.size=n:=by have:=VRs.length hcs;simp at this;omega
          refine ⟨undef,_,.inr ⟨?_,rfl⟩,⟨ρ,Ext.refl ρ,VR.undef ρ,k2,k3⟩⟩
          simp [execOp,ho,hx,Instr.storeAt,Instr.sureAddr,storeVar,run_sizeOf hn,hsz,k1]
      · cases he
    · cases he
  · cases he
end
end Go.Abs
