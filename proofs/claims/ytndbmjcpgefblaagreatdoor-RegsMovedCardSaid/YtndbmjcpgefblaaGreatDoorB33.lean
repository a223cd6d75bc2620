/- A part of the proof (an abstract machine, walks): no statement of its own, no conditions. -/
import Derived.Test.YtndbmjcpgefblaaGreatDoorA29
import Derived.Test.YtndbmjcpgefblaaGreatDoorA30
import Derived.Test.YtndbmjcpgefblaaGreatDoorA31
import Derived.Test.YtndbmjcpgefblaaGreatDoorA32
import Derived.Test.YtndbmjcpgefblaaGreatDoorA26
import Derived.Test.YtndbmjcpgefblaaGreatDoorA28
set_option linter.all false
namespace Go.Abs.R1
open Go.Proofs Go.Abs
theorem run_piece {c:ACode} {fr:Fr} {H:Heap} {K:AJump→Fr→Heap→Prop} {C:Prop} (h:(Go.Abs.K.runs table 100000).exec c fr H K=C) (hC:C):SoundC Tryz.prog 179 c fr H K :=
  SoundC.run table_ok (((Go.Abs.K.runs_same table 100000).exec c fr H K).symm.trans h |>.mpr hC)
theorem chain {c c':ACode} {L:LV} {O:LO} {X:Pos} {fr:Fr} {H:Heap} {K:AJump→Fr→Heap→Prop} (hc:c=.seq (hd c) c') (h:(Go.Abs.K.runs table 100000).exec (hd c) fr H (At L O X)=SelfAt L O X) (hk:SoundC Tryz.prog 179 c' ⟨mkEnv L,[],none⟩ ⟨mkObjs O,X⟩ K):SoundC Tryz.prog 179 c fr H K:=by
  rw [hc]
  exact SoundC.seq (run_piece h (selfAt L O X)) fun j fr' H' ha=>SoundC.at (by omega) ha hk
theorem known_sound:SoundC Tryz.prog 179 b5 ⟨.leaf,[],none⟩ ⟨.leaf,X0⟩ endsTrue:=by
  have h8:SoundC Tryz.prog 179 c7 ⟨mkEnv L7,[],none⟩ ⟨mkObjs O7,X7⟩ endsTrue:=run_piece piece8 ⟨rfl,rfl,rfl⟩
  have h7:SoundC Tryz.prog 179 c6 ⟨mkEnv L6,[],none⟩ ⟨mkObjs O6,X6⟩ endsTrue:=chain rfl piece7 h8
  have h6:SoundC Tryz.prog 179 c5 ⟨mkEnv L5,[],none⟩ ⟨mkObjs O5,X5⟩ endsTrue:=chain rfl piece6 h7
  have h5:SoundC Tryz.prog 179 c4 ⟨mkEnv L4,[],none⟩ ⟨mkObjs O4,X4⟩ endsTrue:=chain rfl piece5 h6
  have h4:SoundC Tryz.prog 179 c3 ⟨mkEnv L3,[],none⟩ ⟨mkObjs O3,X3⟩ endsTrue:=chain rfl piece4 h5
  have h3:SoundC Tryz.prog 179 c2 ⟨mkEnv L2,[],none⟩ ⟨mkObjs O2,X2⟩ endsTrue:=chain rfl piece3 h4
  have h2:SoundC Tryz.prog 179 c1 ⟨mkEnv L1,[],none⟩ ⟨mkObjs O1,X1⟩ endsTrue:=chain rfl piece2 h3
  have h1:SoundC Tryz.prog 179 c0 ⟨mkEnv L0,[],none⟩ ⟨mkObjs O0,X0⟩ endsTrue:=chain rfl piece1 h2
  have h0:SoundC Tryz.prog 179 (hd b5) ⟨.leaf,[],none⟩ ⟨.leaf,X0⟩ (At L0 O0 X0) :=
    SoundC.run (tbl:=table.getN .none) table_ok (n:=12) (show Xc (table.getN .none) 12 (.region [O p0 (.mov (C (.bool false)))]) _ _ _ from Xc.region (Xo.op (v:=.bool false) rfl (Xo.nil ⟨rfl,rfl,rfl,rfl,trivial,trivial⟩)))
  show SoundC Tryz.prog 179 (.seq (hd b5) c0) _ _ _
  refine SoundC.seq h0 fun j fr' H' ha=>SoundC.at (by omega) ha h1
theorem known_ok:PrimOk Tryz.prog 5 gKnown:=by
  refine gKnown_ok ⟨⟨Tryz.f5,Tryz.func5,by kernel_rfl,by kernel_rfl⟩⟩ (n:=6) (by kernel_rfl) fun {Wr} {ρ} {w} hI=>?_
  refine calls_of_sound (tbl:=table.getN .none) (args:=[]) table_ok (f:=5) (rs:=[.tmp p0]) (body:=b5) rfl (by simp) (v:=.bool true) ?_ (by simp [VRs]) hI
  intro Wr ρ w cc b a hc hF hI k cs
  refine (known_sound hc hF hI k cs).mono ?_
  rintro j fr H ⟨rfl,h1,h2⟩
  exact ⟨trivial,h1,[.bool true],by simp only [readRes,Option.map_some,h2],rfl⟩
end Go.Abs.R1
namespace Go.Abs.R
open Go.Abs Go.Abs.R1
variable {tbl:Nat→AFunc}
end Go.Abs.R
namespace Go.Abs.R
open Go.Abs Go.Abs.R1
variable {tbl:Nat→AFunc}
def idxV:Option Nat→AV
  | some k=>aN k
  | none=>.int 3 (.negSucc 0)
theorem findIdx_none {α:Type} {p:α→Bool} {l:List α} (h:∀ j z,j<l.length→l[j]?=some z→p z=false):l.findIdx? p=none:=by
  rw [List.findIdx?_eq_none_iff]
  intro z hz
  obtain ⟨j,hj,e⟩:=List.getElem_of_mem hz
  exact h j z hj (by rw [getElem?_pos l j hj,e])
theorem findIdx_some {α:Type} {p:α→Bool} {l:List α} {i:Nat} {z:α} (hi:l[i]?=some z) (hp:p z=true) (h:∀ j z,j<i→l[j]?=some z→p z=false):l.findIdx? p=some i:=by
  obtain ⟨hl,e⟩:=List.getElem?_eq_some_iff.1 hi
  rw [List.findIdx?_eq_some_iff_getElem]
  refine ⟨hl,by rw [e];exact hp,fun j hj=>?_⟩
  rw [h j l[j] hj (getElem?_pos l j (by omega))];simp
theorem index_ok (hf:tbl 49=f49) {H:Heap} {la:List Int} {x:Int} {sa:AV} {K:AV→Heap→Prop} (ha:SlI H la sa) (hs:la.length<1000000) (hK:K (idxV (la.findIdx? fun z=>decide (x=z))) H):YF tbl (.func 49 [] []) [sa,aI x] H K:=by
  have hda:=ha.defd;have hla:=ha.len
  refine YF.code hf (by simp) ?_
  repeat first|refine RO.mov ?_|refine RO.lenSl ?_|refine RO.nil ?_|refine Ru.region ?_|refine Ru.seq ?_|refine Ru.block ?_
  refine Ru.name fun S hS=>?_
  have loop:∀ k i,la.length-i=k→i≤la.length→(∀ j z,j<i→la[j]?=some z→decide (x=z)=false)→Ru tbl (fcx [.tmp p4] K) S [(p0,sa),(p1,aI x),(p7,aN la.length),(p8,aN i)] H:=by
    subst hS
    intro k
    induction k using Nat.strongRecOn with
    | ind k ih =>
      intro i hk hi hI
      refine Ru.loop ?_
      repeat first|refine RO.lssN ?_|refine RO.nil ?_|refine Ru.region ?_|refine Ru.seq ?_
      refine Ru.cond (fun h=>?_) (fun h=>?_)
      · repeat first|refine RO.mov ?_|refine RO.nil ?_|refine Ru.region ?_|refine Ru.seq ?_|refine Ru.block ?_|refine Ru.skip ?_
        refine RO.idxI ha fun q o z hz hc _=>?_
        repeat first|refine RO.nil ?_|refine RO.eql ?_|refine RO.load1 ?_
        refine Ru.cond (fun he=>?_) (fun he=>?_)
        · repeat first|refine RO.mov ?_|refine RO.nil ?_|refine Ru.region ?_|refine Ru.seq ?_
          refine Ru.ret1 ?_
          rw [findIdx_some hz (by simpa using he) hI] at hK
          exact hK
        · repeat first|refine RO.mov ?_|refine RO.nil ?_|refine Ru.region ?_|refine Ru.skip ?_|refine RO.inc ?_
          refine Ru.weak (ih (la.length-(i+1)) (by omega) (i+1) rfl (by omega) fun j w hj hw=>?_) ⟨rfl,rfl,rfl,rfl,trivial⟩
          by_cases e:j=i
          · subst e;rw [hz] at hw;injection hw with hw;subst hw;simpa using he
          · exact hI j w (by omega) hw
      · refine Ru.exitTo ?_
        repeat first|refine RO.mov ?_|refine RO.nil ?_|refine Ru.region ?_|refine Ru.seq ?_
        refine Ru.ret1 ?_
        rw [findIdx_none fun j z hj hz=>hI j z (by omega) hz] at hK
        exact hK
  exact Ru.weak (loop _ 0 rfl (by omega) (by omega)) ⟨rfl,rfl,rfl,rfl,trivial⟩
theorem idxV_ge (o:Option Nat):∃ z,idxV o=aI z∧decide (0≤z)=o.isSome:=by
  cases o with
  | none=>exact ⟨-1,rfl,rfl⟩
  | some k=>exact ⟨.ofNat k,rfl,by simp⟩
theorem contains_ok (hf:tbl 24=f24) (hf2:tbl 49=f49) {H:Heap} {la:List Int} {x:Int} {sa:AV} {K:AV→Heap→Prop} (ha:SlI H la sa) (hs:la.length<1000000) (hK:K (.bool (decide (x∈la))) H):YF tbl (.func 24 [] []) [sa,aI x] H K:=by
  have hda:=ha.defd
  refine YF.code hf (by simp) ?_
  repeat first|refine RO.mov ?_|refine RO.nil ?_|refine Ru.region ?_|refine Ru.seq ?_
  refine RO.call (index_ok hf2 ha hs ?_) (had:=by simp [hda];rfl)
  obtain ⟨z,e1,e2⟩:=idxV_ge (la.findIdx? fun z=>decide (x=z))
  rw [e1]
  refine RO.geq (b:=0) ?_
  rw [e2]
  repeat first|refine RO.mov ?_|refine RO.nil ?_
  refine Ru.ret1 ?_
  have e:(la.findIdx? fun z=>decide (x=z)).isSome=decide (x∈la):=by
    rw [Bool.eq_iff_iff];simp
  rw [e];exact hK
end Go.Abs.R
namespace Go.Abs.R
open Go.Abs Go.Abs.R1
variable {tbl:Nat→AFunc}
def TestI (tbl:Nat→AFunc) (fv:AV) (A:Heap) (p:Int→Bool) (l:List Int):Prop:=∀ z∈l,∀ (H:Heap) (K:AV→Heap→Prop),Grew A H→(∀ H',Grew H H'→K (.bool (p z)) H')→YF tbl fv [aI z] H K
def TestP (tbl:Nat→AFunc) (fv:AV) (A:Heap) (p:Int × Int→Bool) (l:List (Int × Int)):Prop:=∀ z∈l,∀ (H:Heap) (K:AV→Heap→Prop),Grew A H→(∀ H',Grew H H'→K (.bool (p z)) H')→YF tbl fv [.agg (aP z)] H K
theorem indexF_ok (hf:tbl 45=f45) {H:Heap} {la:List Int} {fv sa:AV} {p:Int→Bool} {K:AV→Heap→Prop} (ha:SlI H la sa) (hs:la.length<1000000) (hfd:fv.defd=true) (ht:TestI tbl fv H p la) (hK:∀ H',Grew H H'→K (idxV (la.findIdx? p)) H'):YF tbl (.func 45 [] []) [sa,fv] H K:=by
  have hda:=ha.defd;have hla:=ha.len
  refine YF.code hf (by simp) ?_
  repeat first|refine RO.mov ?_|refine RO.lenSl ?_|refine RO.nil ?_|refine Ru.region ?_|refine Ru.seq ?_|refine Ru.block ?_
  refine Ru.name fun S hS=>?_
  have loop:∀ k i H1,la.length-i=k→i≤la.length→Grew H H1→(∀ j z,j<i→la[j]?=some z→p z=false)→Ru tbl (fcx [.tmp p4] K) S [(p0,sa),(p1,fv),(p7,aN la.length),(p8,aN i)] H1:=by
    subst hS
    intro k
    induction k using Nat.strongRecOn with
    | ind k ih =>
      intro i H1 hk hi hg hI
      refine Ru.loop ?_
      repeat first|refine RO.lssN ?_|refine RO.nil ?_|refine Ru.region ?_|refine Ru.seq ?_
      refine Ru.cond (fun h=>?_) (fun h=>?_)
      · repeat first|refine RO.mov ?_|refine RO.nil ?_|refine Ru.region ?_|refine Ru.seq ?_|refine Ru.block ?_|refine Ru.skip ?_
        refine RO.idxI (hg.sl ha) fun q o z hz hc _=>?_
        repeat first|refine RO.load1 ?_
        refine RO.call (ht z (List.mem_of_getElem? hz) H1 _ hg fun H2 hg2=>?_)
        repeat first|refine RO.nil ?_
        refine Ru.condB (fun he=>?_) (fun he=>?_)
        · repeat first|refine RO.mov ?_|refine RO.nil ?_|refine Ru.region ?_|refine Ru.seq ?_
          refine Ru.ret1 ?_
          have:=hK H2 (hg.trans hg2)
          rw [findIdx_some hz he hI] at this
          exact this
        · repeat first|refine RO.mov ?_|refine RO.nil ?_|refine Ru.region ?_|refine Ru.skip ?_|refine RO.inc ?_
          refine Ru.weak (ih (la.length-(i+1)) (by omega) (i+1) H2 rfl (by omega) (hg.trans hg2) fun j w hj hw=>?_) ⟨rfl,rfl,rfl,rfl,trivial⟩
          by_cases e:j=i
          · subst e;rw [hz] at hw;injection hw with hw;subst hw;exact he
          · exact hI j w (by omega) hw
      · refine Ru.exitTo ?_
        repeat first|refine RO.mov ?_|refine RO.nil ?_|refine Ru.region ?_|refine Ru.seq ?_
        refine Ru.ret1 ?_
        have:=hK H1 hg
        rw [findIdx_none fun j z hj hz=>hI j z (by omega) hz] at this
        exact this
  exact Ru.weak (loop _ 0 H rfl (by omega) (Grew.refl H) (by omega)) ⟨rfl,rfl,rfl,rfl,trivial⟩
theorem findIdx_isSome {α:Type} {p:α→Bool} {l:List α}:(l.findIdx? p).isSome=l.any p:=by
  rw [Bool.eq_iff_iff];simp
theorem containsF_ok (hf:tbl 20=f20) (hf2:tbl 45=f45) {H:Heap} {la:List Int} {fv sa:AV} {p:Int→Bool} {K:AV→Heap→Prop} (ha:SlI H la sa) (hs:la.length<1000000) (hfd:fv.defd=true) (ht:TestI tbl fv H p la) (hK:∀ H',Grew H H'→K (.bool (la.any p)) H'):YF tbl (.func 20 [] []) [sa,fv] H K:=by
  have hda:=ha.defd
  refine YF.code hf (by simp) ?_
  repeat first|refine RO.mov ?_|refine RO.nil ?_|refine Ru.region ?_|refine Ru.seq ?_
  refine RO.call (indexF_ok hf2 ha hs hfd ht fun H2 hg=>?_) (had:=by simp [hda,hfd])
  obtain ⟨z,e1,e2⟩:=idxV_ge (la.findIdx? p)
  rw [e1]
  refine RO.geq (b:=0) ?_
  rw [e2,findIdx_isSome]
  repeat first|refine RO.mov ?_|refine RO.nil ?_
  refine Ru.ret1 ?_
  exact hK H2 hg
theorem below_ok (hf:tbl 18=f18) {H:Heap} {l:List Int}:TestI tbl (.func 18 [] []) H (fun z=>decide (z<0)) l:=by
  intro z _ H K hg hK
  refine YF.code hf (by simp) ?_
  repeat first|refine RO.mov ?_|refine RO.lss ?_|refine RO.nil ?_|refine Ru.region ?_|refine Ru.seq ?_
  exact Ru.ret1 (hK H (Grew.refl H))
theorem indexP_ok (hf:tbl 61=f61) {H:Heap} {la:List (Int × Int)} {fv sa:AV} {p:Int × Int→Bool} {K:AV→Heap→Prop} (ha:SlP H la sa) (hs:la.length<1000000) (hfd:fv.defd=true) (ht:TestP tbl fv H p la) (hK:∀ H',Grew H H'→K (idxV (la.findIdx? p)) H'):YF tbl (.func 61 [] []) [sa,fv] H K:=by
  have hda:=ha.defd;have hla:=ha.len
  refine YF.code hf (by simp) ?_
  repeat first|refine RO.mov ?_|refine RO.lenSl ?_|refine RO.nil ?_|refine Ru.region ?_|refine Ru.seq ?_|refine Ru.block ?_
  refine Ru.name fun S hS=>?_
  have loop:∀ k i H1,la.length-i=k→i≤la.length→Grew H H1→(∀ j z,j<i→la[j]?=some z→p z=false)→Ru tbl (fcx [.tmp p4] K) S [(p0,sa),(p1,fv),(p7,aN la.length),(p8,aN i)] H1:=by
    subst hS
    intro k
    induction k using Nat.strongRecOn with
    | ind k ih =>
      intro i H1 hk hi hg hI
      refine Ru.loop ?_
      repeat first|refine RO.lssN ?_|refine RO.nil ?_|refine Ru.region ?_|refine Ru.seq ?_
      refine Ru.cond (fun h=>?_) (fun h=>?_)
      · repeat first|refine RO.mov ?_|refine RO.nil ?_|refine Ru.region ?_|refine Ru.seq ?_|refine Ru.block ?_|refine Ru.skip ?_
        refine RO.idxP (hg.sl ha) fun q o z hz _ _ hc _=>?_
        repeat first|refine RO.loadN ?_
        refine RO.call (ht z (List.mem_of_getElem? hz) H1 _ hg fun H2 hg2=>?_)
        repeat first|refine RO.nil ?_
        refine Ru.condB (fun he=>?_) (fun he=>?_)
        · repeat first|refine RO.mov ?_|refine RO.nil ?_|refine Ru.region ?_|refine Ru.seq ?_
          refine Ru.ret1 ?_
          have:=hK H2 (hg.trans hg2)
          rw [findIdx_some hz he hI] at this
          exact this
        · repeat first|refine RO.mov ?_|refine RO.nil ?_|refine Ru.region ?_|refine Ru.skip ?_|refine RO.inc ?_
          refine Ru.weak (ih (la.length-(i+1)) (by omega) (i+1) H2 rfl (by omega) (hg.trans hg2) fun j w hj hw=>?_) ⟨rfl,rfl,rfl,rfl,trivial⟩
          by_cases e:j=i
          · subst e;rw [hz] at hw;injection hw with hw;subst hw;exact he
          · exact hI j w (by omega) hw
      · refine Ru.exitTo ?_
        repeat first|refine RO.mov ?_|refine RO.nil ?_|refine Ru.region ?_|refine Ru.seq ?_
        refine Ru.ret1 ?_
        have:=hK H1 hg
        rw [findIdx_none fun j z hj hz=>hI j z (by omega) hz] at this
        exact this
  exact Ru.weak (loop _ 0 H rfl (by omega) (Grew.refl H) (by omega)) ⟨rfl,rfl,rfl,rfl,trivial⟩
theorem containsP_ok (hf:tbl 58=f58) (hf2:tbl 61=f61) {H:Heap} {la:List (Int × Int)} {fv sa:AV} {p:Int × Int→Bool} {K:AV→Heap→Prop} (ha:SlP H la sa) (hs:la.length<1000000) (hfd:fv.defd=true) (ht:TestP tbl fv H p la) (hK:∀ H',Grew H H'→K (.bool (la.any p)) H'):YF tbl (.func 58 [] []) [sa,fv] H K:=by
  have hda:=ha.defd
  refine YF.code hf (by simp) ?_
  repeat first|refine RO.mov ?_|refine RO.nil ?_|refine Ru.region ?_|refine Ru.seq ?_
  refine RO.call (indexP_ok hf2 ha hs hfd ht fun H2 hg=>?_) (had:=by simp [hda,hfd])
  obtain ⟨z,e1,e2⟩:=idxV_ge (la.findIdx? p)
  rw [e1]
  refine RO.geq (b:=0) ?_
  rw [e2,findIdx_isSome]
  repeat first|refine RO.mov ?_|refine RO.nil ?_
  refine Ru.ret1 ?_
  exact hK H2 hg
end Go.Abs.R
namespace Go.Mv
abbrev M:=Int × Int
def freeIn (left:List M) (m:M):Bool:=left.all fun o=>decide (o=m)||decide (o.2≠m.1)
def respare (sp f:Int) (left:List M):List M:=left.map fun m=>if m.2=f then (m.1,sp) else m
inductive Ord (sp:Int):List M→List M→Prop
  | nil:Ord sp [] []
  | free {left out:List M} {k:Nat} {m:M} (h:left.findIdx? (freeIn left)=some k) (hm:left[k]?=some m) (r:Ord sp (left.eraseIdx k) out):Ord sp left (m::out)
  | ring {left out:List M} {m:M} (hm:left.head?=some m) (h:left.findIdx? (freeIn left)=none) (r:Ord sp (respare sp m.1 left) out):Ord sp left ((sp,m.1)::out)
def keys (l:List M):List Int:=l.map (·.1)
theorem respare_keys (sp f:Int) (l:List M):keys (respare sp f l)=keys l:=by
  simp only [keys,respare,List.map_map]
  refine List.map_congr_left fun m _=>?_
  simp only [Function.comp];split<;>rfl
theorem freeIn_iff {l:List M} {m:M}:freeIn l m=true↔∀ o∈l,o≠m→o.2≠m.1:=by
  simp only [freeIn,List.all_eq_true,Bool.or_eq_true,decide_eq_true_eq]
  exact ⟨fun h o ho hne=>(h o ho).resolve_left hne,fun h o ho=>by by_cases e:o=m;exact .inl e;exact .inr (h o ho e)⟩
theorem respare_free {sp:Int} {l:List M} {m:M} (hm:l.head?=some m) (hs:sp∉keys l):∃ k,(respare sp m.1 l).findIdx? (freeIn (respare sp m.1 l))=some k:=by
  cases h:(respare sp m.1 l).findIdx? (freeIn (respare sp m.1 l)) with
  | some k=>exact ⟨k,rfl⟩
  | none =>
    exfalso
    rw [List.findIdx?_eq_none_iff] at h
    have hml:m∈l:=List.mem_of_mem_head? (by rw [hm];rfl)
    have h0:=h (if m.2=m.1 then (m.1,sp) else m) (List.mem_map.2 ⟨m,hml,rfl⟩)
    have:freeIn (respare sp m.1 l) (if m.2=m.1 then (m.1,sp) else m)=true:=by
      rw [freeIn_iff]
      intro o ho _
      obtain ⟨o',ho',rfl⟩:=List.mem_map.1 ho
      have hk:sp≠m.1:=fun e=>hs (e ▸ List.mem_map_of_mem hml)
      have e1:(if m.2=m.1 then (m.1,sp) else m).1=m.1:=by split<;>rfl
      rw [e1]
      split
      · exact hk
      · assumption
    rw [this] at h0;cases h0
def noFree (l:List M):Nat:=match l.findIdx? (freeIn l) with | some _=>0 | none=>1
theorem ord_exists (sp:Int):∀ (n:Nat) (l:List M),2*l.length+noFree l≤n→sp∉keys l→∃ out,Ord sp l out∧out.length≤2*l.length+noFree l
  | n,[],_,_=>⟨[],.nil,by simp⟩
  | 0,a::l,h,_=>by simp at h
  | n+1,a::l,h,hs=>by
    have hlen:(a::l).length=l.length+1:=rfl
    cases hf:(a::l).findIdx? (freeIn (a::l)) with
    | some k =>
      have hk:k<(a::l).length:=(List.findIdx?_eq_some_iff_findIdx_eq.1 hf).1
      have hl:((a::l).eraseIdx k).length=l.length:=by rw [List.length_eraseIdx_of_lt hk];rfl
      have h0:noFree (a::l)=0:=by simp only [noFree,hf]
      have h1:noFree ((a::l).eraseIdx k)≤1:=by unfold noFree;split<;>omega
      obtain ⟨out,h3,h4⟩:=ord_exists sp n ((a::l).eraseIdx k) (by omega) (fun hm=>by
        obtain ⟨x,hx,e⟩:=List.mem_map.1 hm
        exact hs (List.mem_map.2 ⟨x,List.mem_of_mem_eraseIdx hx,e⟩))
      exact ⟨(a::l)[k]::out,.free hf (getElem?_pos _ k hk) h3,by simp only [List.length_cons] at h4 ⊢;omega⟩
    | none =>
      have h0:noFree (a::l)=1:=by simp only [noFree,hf]
      obtain ⟨k,hk⟩:=respare_free (sp:=sp) (l:=a::l) (m:=a) rfl hs
      have h1:noFree (respare sp a.1 (a::l))=0:=by simp only [noFree,hk]
      have hl:(respare sp a.1 (a::l)).length=(a::l).length:=by simp [respare]
      obtain ⟨out,h3,h4⟩:=ord_exists sp n (respare sp a.1 (a::l)) (by omega) (by rw [respare_keys];exact hs)
      exact ⟨(sp,a.1)::out,.ring rfl hf h3,by simp only [List.length_cons] at h4 hl ⊢;omega⟩
theorem erase_perm:∀ {l:List M} {k:Nat} (hk:k<l.length),(l[k]::l.eraseIdx k).Perm l
  | [],k,hk=>by simp at hk
  | a::l,0,_=>by simp
  | a::l,k+1,hk=>by
    simp only [List.getElem_cons_succ,List.eraseIdx_cons_succ]
    exact (List.Perm.swap a _ _).trans ((erase_perm (by simpa using hk)).cons a)
def Asc (l:List M):Prop:=l.Pairwise fun a b=>a.1<b.1
theorem Asc.nodupKeys {l:List M} (h:Asc l):(keys l).Nodup:=by
  rw [List.Nodup,keys,List.pairwise_map]
  exact h.imp fun h=>by omega
theorem Asc.keyInj {l:List M} (h:Asc l) {a b:M} (ha:a∈l) (hb:b∈l) (e:a.1=b.1):a=b:=by
  induction l with
  | nil=>cases ha
  | cons c l ih =>
    rw [Asc,List.pairwise_cons] at h
    rcases List.mem_cons.1 ha with rfl | ha'<;>rcases List.mem_cons.1 hb with rfl | hb'
    · rfl
    · have:=h.1 b hb';omega
    · have:=h.1 a ha';omega
    · exact ih h.2 ha' hb'
theorem Asc.erase {l:List M} (h:Asc l) (k:Nat):Asc (l.eraseIdx k):=h.sublist (List.eraseIdx_sublist ..)
theorem Asc.respare {l:List M} (h:Asc l) (sp f:Int):Asc (respare sp f l):=by
  rw [Asc,Mv.respare,List.pairwise_map]
  refine h.imp fun {a b} h=>?_
  have e:∀ m:M,(if m.2=f then (m.1,sp) else m).1=m.1:=fun m=>by split<;>rfl
  rw [e,e];exact h
end Go.Mv
namespace Go.Abs
variable {tbl:Nat→AFunc} {c:Cx} {s:List SI} {L:Kn} {H:Heap} {d:Option Pos} {l:List AOper}
theorem RO.pickT {x a b:Opd} {v:AV} (h:RO tbl c l s (setL L d v) H) (hx:gvL L x=.bool true:=by (conv=>lhs;whnf)<;>rfl) (ha:gvL L a=v:=by (conv=>lhs;whnf)<;>rfl) (hv:v.defd=true:=by first | rfl | assumption):RO tbl c (⟨d,.pick x a b,none,[],[]⟩::l) s L H :=
  RO.op (fun env hle=>by simp only [evalOp,hle.gv hx rfl,hle.gv ha hv,if_true]) h
theorem RO.pickF {x a b:Opd} {v:AV} (h:RO tbl c l s (setL L d v) H) (hx:gvL L x=.bool false:=by (conv=>lhs;whnf)<;>rfl) (hb:gvL L b=v:=by (conv=>lhs;whnf)<;>rfl) (hv:v.defd=true:=by first | rfl | assumption):RO tbl c (⟨d,.pick x a b,none,[],[]⟩::l) s L H :=
  RO.op (fun env hle=>by simp only [evalOp,hle.gv hx rfl,hle.gv hb hv,Bool.false_eq_true,if_false]) h
theorem cell_new {vs:List AV} {e:Nat} {rw':Bool} {par:List Pos} {fz:Nat} {j:Nat} {v:AV} (h:vs[j]?=some v):cellAt (H.new (.cells (mkCells vs) vs.length e rw' par fz)) H.next j=some v:=by
  obtain ⟨hj,e⟩:=List.getElem?_eq_some_iff.1 h
  have hb:Nat.blt j vs.length=true:=Eq.mpr Nat.blt_eq hj
  simp only [cellAt,Heap.get_new,if_true,hb,mkCells_at hj,e]
theorem read_new {vs:List AV} {e:Nat} {rw':Bool} {par:List Pos} {fz:Nat}:readAt (H.new (.cells (mkCells vs) vs.length e rw' par fz)) H.next 0 vs.length=some vs:=by
  simp only [readAt,Heap.get_new,if_true]
  exact readCells_of (by simp) fun i hi=>by rw [Nat.zero_add];exact mkCells_at hi
theorem Grew.read {A B:Heap} (h:Grew A B) {i:Pos} (hi:i.idx<A.next.idx) (o n:Nat):readAt B i o n=readAt A i o n:=by
  simp only [readAt,h.old i hi]
theorem next_lt (H:Heap) (o:AObj):H.next.idx<(H.new o).next.idx:=by rw [Heap.next_new];omega
end Go.Abs
namespace Go.Abs.R
open Go.Abs Go.Abs.R1
variable {tbl:Nat→AFunc}
theorem to_ok (hf:tbl 56=f56) {m:Int × Int} {H:Heap} {K:AV→Heap→Prop} (hK:∀ H',Grew H H'→K (aI m.1) H'):YF tbl (.func 56 [] []) [.agg (aP m)] H K:=by
  refine YF.code hf (by simp) ?_
  repeat first|refine Ru.region ?_|refine Ru.seq ?_
  refine RO.box ?_
  have hc:cellAt (H.new (.cells (mkCells (aP m)) 2 60 true [] 0)) H.next 0=some (aI m.1):=cell_new (vs:=aP m) rfl
  repeat first|refine RO.mov ?_|refine RO.nil ?_|refine Ru.region ?_|refine Ru.seq ?_
  refine RO.idxArr ?_
  refine RO.load1 ?_ (hc:=hc)
  repeat first|refine RO.mov ?_|refine RO.nil ?_
  exact Ru.ret1 (hK _ (Grew.new H _))
theorem from_ok (hf:tbl 60=f60) {m:Int × Int} {H:Heap} {K:AV→Heap→Prop} (hK:∀ H',Grew H H'→K (aI m.2) H'):YF tbl (.func 60 [] []) [.agg (aP m)] H K:=by
  refine YF.code hf (by simp) ?_
  repeat first|refine Ru.region ?_|refine Ru.seq ?_
  refine RO.box ?_
  have hc:cellAt (H.new (.cells (mkCells (aP m)) 2 60 true [] 0)) H.next 1=some (aI m.2):=cell_new (vs:=aP m) rfl
  repeat first|refine RO.mov ?_|refine RO.nil ?_|refine Ru.region ?_|refine Ru.seq ?_
  refine RO.idxArr ?_
  refine RO.load1 ?_ (hc:=hc)
  repeat first|refine RO.mov ?_|refine RO.nil ?_
  exact Ru.ret1 (hK _ (Grew.new H _))
theorem idle_ok (hf:tbl 52=f52) (hf2:tbl 56=f56) {A:Heap} {l:List (Int × Int)}:TestP tbl (.func 52 [] []) A (fun m=>decide (m.2=m.1)) l:=by
  intro m _ H K hg hK
  refine YF.code hf (by simp) ?_
  repeat first|refine Ru.region ?_|refine Ru.seq ?_
  refine RO.box ?_
  have hr:readAt (H.new (.cells (mkCells (aP m)) 2 60 true [] 0)) H.next 0 2=some (aP m):=read_new (vs:=aP m)
  have hg0:=Grew.new H (.cells (mkCells (aP m)) 2 60 true [] 0)
  have hlt:=next_lt H (.cells (mkCells (aP m)) 2 60 true [] 0)
  repeat first|refine RO.mov ?_|refine RO.nil ?_|refine Ru.region ?_|refine Ru.seq ?_|refine RO.loadN ?_
  refine RO.callR (to_ok hf2 fun H2 hg2=>?_)
  have hr2:readAt H2 H.next 0 2=some (aP m):=by rw [hg2.read hlt];exact hr
  refine ⟨fun env hle=>?_,?_⟩
  · exact recheck_load2 hle rfl rfl hr2 (recheck_load2 hle rfl rfl hr2 rfl)
  refine RO.callR (to_ok hf2 fun H3 hg3=>?_)
  have hr3:readAt H3 H.next 0 2=some (aP m):=by rw [hg3.read (Nat.lt_of_lt_of_le hlt hg2.nx)];exact hr2
  refine ⟨fun env hle=>?_,?_⟩
  · exact recheck_load2 hle rfl rfl hr3 rfl
  repeat first|refine RO.build ?_
  refine RO.eq ?_ (ht:=eqv_pair m (m.1,m.1))
  repeat first|refine RO.mov ?_|refine RO.nil ?_
  refine Ru.ret1 ?_
  have e:(decide (m=(m.1,m.1)) != false)=decide (m.2=m.1):=by
    rw [Bool.eq_iff_iff]
    simp [Prod.ext_iff]
  rw [e]
  exact hK H3 ((hg0.trans hg2).trans hg3)
theorem reads_ok (hf:tbl 59=f59) (hf2:tbl 56=f56) (hf3:tbl 60=f60) {A:Heap} {m:Int × Int} {q:Pos} (hq:q.idx<A.next.idx) (hm:readAt A q 0 2=some (aP m)) {l:List (Int × Int)}:TestP tbl (.func 59 [] [.ptr q 0]) A (fun o=>decide (o≠m)&&decide (o.2=m.1)) l:=by
  intro o _ H K hg hK
  refine YF.code hf (by simp) ?_
  repeat first|refine Ru.region ?_|refine Ru.seq ?_
  refine RO.box ?_
  have hr:readAt (H.new (.cells (mkCells (aP o)) 2 60 true [] 0)) H.next 0 2=some (aP o):=read_new (vs:=aP o)
  have hg0:=Grew.new H (.cells (mkCells (aP o)) 2 60 true [] 0)
  have hlt:=next_lt H (.cells (mkCells (aP o)) 2 60 true [] 0)
  have hm1:readAt (H.new (.cells (mkCells (aP o)) 2 60 true [] 0)) q 0 2=some (aP m):=by rw [(hg.trans hg0).read hq];exact hm
  repeat first|refine RO.mov ?_|refine RO.nil ?_|refine Ru.region ?_|refine Ru.seq ?_|refine RO.loadN ?_
  refine RO.eq ?_ (ht:=eqv_pair o m)
  repeat first|refine RO.mov ?_
  by_cases hom:o=m
  · have e:(decide (o=m) != true)=false:=by simp [hom]
    rw [e]
    repeat first|refine RO.guardF ?_
    refine RO.pickF ?_
    repeat first|refine RO.mov ?_|refine RO.nil ?_
    refine Ru.ret1 ?_
    have:K (.bool (decide (o≠m)&&decide (o.2=m.1))) _:=hK _ hg0
    rw [show (decide (o≠m)&&decide (o.2=m.1))=false by simp [hom]] at this
    exact this
  · have e:(decide (o=m) != true)=true:=by simp [hom]
    rw [e]
    repeat first|refine RO.loadN ?_|refine RO.guardT ?_
    refine RO.callR (from_ok hf3 fun H2 hg2=>?_)
    have hm2:readAt H2 q 0 2=some (aP m):=by rw [((hg.trans hg0).trans hg2).read hq];exact hm
    refine ⟨fun env hle=>?_,?_⟩
    · exact recheck_load2 hle rfl rfl hm2 rfl
    repeat first|refine RO.guardT ?_
    refine RO.call (to_ok hf2 fun H3 hg3=>?_)
    repeat first|refine RO.eql ?_|refine RO.guardT ?_
    refine RO.pickT ?_
    repeat first|refine RO.mov ?_|refine RO.nil ?_
    refine Ru.ret1 ?_
    have:K (.bool (decide (o≠m)&&decide (o.2=m.1))) _:=hK _ ((hg0.trans hg2).trans hg3)
    rw [show (decide (o≠m)&&decide (o.2=m.1))=decide (o.2=m.1) by simp [hom]] at this
    exact this
theorem free_ok (hf:tbl 57=f57) (hf2:tbl 58=f58) (hf3:tbl 61=f61) (hf4:tbl 59=f59) (hf5:tbl 56=f56) (hf6:tbl 60=f60) {A:Heap} {left:List (Int × Int)} {lsv:AV} {q:Pos} (hq:q.idx<A.next.idx) (hc:cellAt A q 0=some lsv) (hl:SlP A left lsv) (hs:left.length<1000000) {l:List (Int × Int)}:TestP tbl (.func 57 [] [.ptr q 0]) A (Mv.freeIn left) l:=by
  intro m _ H K hg hK
  have hd:=hl.defd
  refine YF.code hf (by simp) ?_
  repeat first|refine Ru.region ?_|refine Ru.seq ?_
  refine RO.box ?_
  have hg0:=Grew.new H (.cells (mkCells (aP m)) 2 60 true [] 0)
  have hlt:=next_lt H (.cells (mkCells (aP m)) 2 60 true [] 0)
  have hr:readAt (H.new (.cells (mkCells (aP m)) 2 60 true [] 0)) H.next 0 2=some (aP m):=read_new (vs:=aP m)
  have hc0:cellAt (H.new (.cells (mkCells (aP m)) 2 60 true [] 0)) q 0=some lsv:=by rw [(hg.trans hg0).cellAt hq];exact hc
  repeat first|refine RO.mov ?_|refine RO.nil ?_|refine Ru.region ?_|refine Ru.seq ?_|refine RO.load1 ?_|refine RO.mkFunc ?_
  refine RO.call (containsP_ok hf2 hf3 ((hg.trans hg0).sl hl) hs rfl (reads_ok hf4 hf5 hf6 hlt hr) fun H2 hg2=>?_) (had:=by simp [hd];rfl)
  repeat first|refine RO.mov ?_|refine RO.nil ?_|refine RO.un ?_
  refine Ru.ret1 ?_
  have e:(!left.any fun o=>decide (o≠m)&&decide (o.2=m.1))=Mv.freeIn left m:=by
    rw [Bool.eq_iff_iff,Mv.freeIn_iff,Bool.not_eq_true',List.any_eq_false]
    refine ⟨fun h o ho hne he=>h o ho (by simp [hne,he]),fun h o ho hc=>?_⟩
    simp only [Bool.and_eq_true,decide_eq_true_eq] at hc
    exact h o ho hc.1 hc.2
  rw [e]
  exact hK H2 (hg0.trans hg2)
end Go.Abs.R
namespace Go.Abs.R
open Go.Abs Go.Abs.R1
variable {tbl:Nat→AFunc}
theorem clone_ok (hf:tbl 51=f51) {H:Heap} {l:List (Int × Int)} {sv:AV} {K:AV→Heap→Prop} (hs:SlP H l sv) (hl:l.length<1000000) (hK:∀ sv' H' fp,OwnP H' fp 60 l true sv'→Grew H H'→Above H fp→K sv' H'):YF tbl (.func 51 [] []) [sv] H K:=by
  have hd:=hs.defd
  refine YF.code hf (by simp) ?_
  repeat first|refine RO.mov ?_|refine RO.nil ?_|refine Ru.region ?_|refine Ru.seq ?_
  rcases hs with ⟨rfl,hn,hv⟩ | ⟨i,o,cap,ex,c',m,e',rw',par,fz,rfl,hg,hm,hl',hc,hi,hcap⟩
  · skip
    refine RO.eq (t:=true) ?_
    repeat first|refine RO.mov ?_|refine RO.nil ?_|refine Ru.region ?_|refine Ru.seq ?_|refine Ru.condT ?_
    refine Ru.ret1 ?_
    have:l=[]:=List.eq_nil_of_length_eq_zero hn
    subst this
    exact hK _ _ [] (.inl ⟨rfl,rfl,rfl,rfl⟩) (Grew.refl _) (fun j hj=>(by cases hj))
  · have hs:SlP H l (.slice i o l.length cap ex):=.inr ⟨i,o,cap,ex,c',m,e',rw',par,fz,rfl,hg,hm,hl',hc,hi,hcap⟩
    refine RO.eq (t:=false) ?_
    repeat first|refine RO.nil ?_|refine Ru.region ?_|refine Ru.seq ?_|refine Ru.skip ?_|refine Ru.condF ?_
    refine RO.emptyS (size:=2) fun H1 sv1 fp1 h1 g1 a1=>?_
    have hd1:=h1.sl.defd
    repeat first|refine RO.mov ?_
    refine RO.appendU h1 (g1.sl hs) (allOne_pairs l) (fun sv2 H2 fp2 h2 u2=>?_)
    have hd2:=h2.sl.defd
    repeat first|refine RO.mov ?_|refine RO.nil ?_
    refine Ru.ret1 ?_
    refine hK sv2 H2 fp2 ?_ (u2.grew g1 a1) (u2.above g1 a1)
    unfold OwnP
    simpa using h2
theorem filter_of_none {p:Int × Int→Bool} {l:List (Int × Int)} (h:l.findIdx? p=none):(l.filter fun m=>!p m)=l:=by
  rw [List.findIdx?_eq_none_iff] at h
  rw [List.filter_eq_self]
  intro m hm;rw [h m hm];rfl
theorem filter_to {p:Int × Int→Bool} {l:List (Int × Int)} {i:Nat} (h:l.findIdx? p=some i):((l.take (i+1)).filter fun m=>!p m)=l.take i∧i<l.length:=by
  rw [List.findIdx?_eq_some_iff_getElem] at h
  obtain ⟨hi,h1,h2⟩:=h
  refine ⟨?_,hi⟩
  rw [List.take_succ_eq_append_getElem hi,List.filter_append,List.filter_eq_self.2]
  · simp [h1]
  · intro m hm
    obtain ⟨j,hj,e⟩:=List.getElem_of_mem hm
    rw [List.length_take] at hj
    rw [List.getElem_take] at e
    have:=h2 j (by omega)
    rw [e] at this
    simpa using this
theorem delF_ok (hf:tbl 50=f50) (hf2:tbl 61=f61) {H:Heap} {fp:List Pos} {full:Bool} {l:List (Int × Int)} {fv sv:AV} {p:Int × Int→Bool} {K:AV→Heap→Prop} (ho:OwnP H fp 60 l full sv) (hl:l.length<1000000) (hfd:fv.defd=true) (ht:∀ A l,TestP tbl fv A p l) (hK:∀ sv' H' fp' full',OwnP H' fp' 60 (l.filter fun m=>!p m) full' sv'→Upd fp fp' H H'→K sv' H'):YF tbl (.func 50 [] []) [sv,fv] H K:=by
  have hd:=ho.sl.defd
  refine YF.code hf (by simp) ?_
  repeat first|refine RO.mov ?_|refine RO.nil ?_|refine Ru.region ?_|refine Ru.seq ?_
  refine RO.call (indexP_ok hf2 ho.sl hl hfd (ht H l) fun H1 hg=>?_) (had:=by simp [hd,hfd])
  have ho1:=hg.own ho
  cases hi:l.findIdx? p with
  | none =>
    simp only [idxV]
    repeat first|refine RO.mov ?_|refine RO.nil ?_|refine Ru.region ?_|refine Ru.seq ?_|refine RO.eql ?_|refine Ru.condT ?_
    refine Ru.ret1 (hK _ _ _ full ?_ (hg.upd fp))
    rw [filter_of_none hi];exact ho1
  | some i0 =>
    simp only [idxV]
    obtain ⟨e0,hi0⟩:=filter_to hi
    obtain ⟨b,cap,ex,rfl⟩:=Own.shape ho (by omega)
    repeat first|refine RO.mov ?_|refine RO.nil ?_|refine Ru.region ?_|refine Ru.seq ?_|refine Ru.block ?_|refine Ru.skip ?_|refine RO.eql ?_|refine RO.inc ?_|refine Ru.condF ?_
    refine Ru.name fun S hS=>?_
    have loop:∀ k i j lc H2 fp2,l.length-j=k→i<j→j≤l.length→lc.length=l.length→OwnP H2 fp2 60 lc full (.slice b 0 l.length cap ex)→Upd fp fp2 H H2→lc.take i=(l.take j).filter (fun m=>!p m)→lc.drop j=l.drop j→Ru tbl (fcx [.tmp p4] K) S [(p0,.slice b 0 l.length cap ex),(p1,fv),(p5,aN i),(p6,aN j)] H2:=by
      subst hS
      intro k
      induction k using Nat.strongRecOn with
      | ind k ih =>
        intro i j lc H2 fp2 hk hij hj hlc ho2 hu2 ht1 ht2
        refine Ru.loop ?_
        repeat first|refine RO.mov ?_|refine RO.lenSl ?_|refine RO.lssN ?_|refine RO.nil ?_|refine Ru.region ?_|refine Ru.seq ?_
        refine Ru.cond (fun h=>?_) (fun h=>?_)
        · repeat first|refine RO.mov ?_|refine Ru.region ?_|refine Ru.seq ?_|refine Ru.block ?_|refine Ru.skip ?_
          have hsl2:SlP H2 lc (.slice b 0 l.length cap ex):=by have:=ho2.sl;exact this
          refine RO.idxP hsl2 fun q o z hz _ _ hr _=>?_
          repeat first|refine RO.loadN ?_
          refine RO.allocStore (us:=[aI z.1,aI z.2]) rfl rfl rfl (by intro w;rfl) fun q' H3 g3 hr3 hq3=>?_
          have hzl:l[j]?=some z:=by
            have h0:(lc.drop j)[0]?=(l.drop j)[0]?:=by rw [ht2]
            have h1:lc[j]?=l[j]?:=by simpa using h0
            rw [← h1];exact hz
          repeat first|refine RO.mov ?_|refine RO.nil ?_|refine Ru.region ?_|refine Ru.seq ?_|refine RO.loadN ?_
          refine RO.call (ht H3 [z] z (List.mem_singleton.2 rfl) H3 _ (Grew.refl _) fun H4 g4=>?_)
          have hr4:readAt H4 q' 0 2=some [aI z.1,aI z.2]:=by rw [g4.read hq3];exact hr3
          have ho4:=(g3.trans g4).own ho2
          have hu4:=hu2.trans ((g3.trans g4).upd fp2)
          have htk:(l.take (j+1)).filter (fun m=>!p m)=(l.take j).filter (fun m=>!p m)++(if p z then [] else [z]):=by
            obtain ⟨hjl,hje⟩:=List.getElem?_eq_some_iff.1 hzl
            rw [List.take_succ_eq_append_getElem hjl,List.filter_append,hje]
            congr 1
            cases hpz:p z<;>simp [hpz]
          repeat first|refine RO.nil ?_|refine RO.un ?_
          refine Ru.condB (fun he=>?_) (fun he=>?_)
          · repeat first|refine RO.mov ?_|refine Ru.region ?_|refine Ru.seq ?_|refine RO.loadN ?_
            refine RO.idxSl ?_
            obtain ⟨H5,h5,u5,o5⟩:=OwnP.set (l:=lc) (by rw [hlc];exact ho4) (k:=i) (by omega) z.1 z.2
            refine RO.store (i:=b) (o:=0+i*2) (v:=.agg [aI z.1,aI z.2]) (by rw [Nat.zero_add];exact h5) ?_
            repeat first|refine RO.mov ?_|refine RO.nil ?_|refine Ru.region ?_|refine RO.inc ?_
            refine Ru.weak (ih (l.length-(j+1)) (by omega) (i+1) (j+1) (lc.set i (z.1,z.2)) H5 [b] rfl (by omega) (by omega) (by rw [List.length_set];exact hlc) (by rw [hlc] at o5;exact o5) (hu4.trans u5) ?_ ?_) ⟨rfl,rfl,rfl,rfl,trivial⟩
            · have hp:p z=false:=by simpa using he
              rw [htk,hp,← ht1,List.take_set,List.take_succ_eq_append_getElem (by omega:i<lc.length)]
              have hti:(lc.take i).length=i:=by rw [List.length_take];omega
              rw [List.set_append,if_neg (by omega),hti];simp
            · rw [List.drop_set_of_lt (by omega)]
              have:(lc.drop j).drop 1=(l.drop j).drop 1:=by rw [ht2]
              simpa [List.drop_drop] using this
          · repeat first|refine RO.mov ?_|refine RO.nil ?_|refine Ru.region ?_|refine Ru.skip ?_|refine RO.inc ?_
            refine Ru.weak (ih (l.length-(j+1)) (by omega) i (j+1) lc H4 fp2 rfl (by omega) (by omega) hlc ho4 hu4 ?_ ?_) ⟨rfl,rfl,rfl,rfl,trivial⟩
            · have hp:p z=true:=by simpa using he
              rw [htk,hp,← ht1];simp
            · have:(lc.drop j).drop 1=(l.drop j).drop 1:=by rw [ht2]
              simpa [List.drop_drop] using this
        · refine Ru.exitTo ?_
          have hje:j=l.length:=by omega
          have hres:lc.take i=l.filter (fun m=>!p m):=by rw [ht1,hje,List.take_length]
          have ho2':OwnP H2 fp2 60 lc full (.slice b 0 lc.length cap ex):=by rw [hlc];exact ho2
          obtain ⟨hbm,hcap,_⟩:=Own.mem ho2'
          have he5:=Own.elem ho2'
          repeat first|refine RO.mov ?_|refine Ru.region ?_|refine Ru.seq ?_
          refine RO.sliceV (m:=cap) (b:=l.length) (a:=i) rfl rfl rfl (by show bound (aN i) l.length=_;exact bound_of (by omega)) (by rw [he5];simp) (v:=.slice b (i*2) (l.length-i) (cap-i) ex) (by
            have e1:(if ex&&decide (cap=i) then 0 else 0+i*2)=i*2:=by rw [decide_eq_false (by omega)];simp
            rw [e1];simp) ?_
          have hcut:=OwnP.cut (l:=lc) (by rw [hlc];exact ho2) (b:=i) (by omega)
          have hil:(lc.take i).length=i:=by rw [List.length_take];omega
          obtain ⟨H6,h6,u6,o6⟩:=OwnP.tail (l:=lc.take i) (ws:=reps [aI 0,aI 0] (l.length-i)) (o:=i*2) (by rw [hil];exact hcut) (by rw [hil];exact Nat.le_refl _) (by
            have:∀ n,(reps [aI 0,aI 0] n).length=n*2:=fun n=>by induction n with
              | zero=>rfl
              | succ n ih=>simp only [reps,List.length_append,ih,List.length_cons,List.length_nil];omega
            rw [this];omega) (by
            have:∀ n,allOne (reps [aI 0,aI 0] n)=true:=fun n=>by induction n with
              | zero=>rfl
              | succ n ih=>simp only [reps,List.cons_append,List.nil_append,allOne,ih];rfl
            exact this _)
          refine RO.clearSl (n:=l.length-i) rfl (by omega) h6 ?_
          repeat first|refine RO.mov ?_|refine RO.nil ?_|refine Ru.region ?_|refine Ru.seq ?_
          refine RO.sliceV (m:=cap) (b:=i) (a:=0) rfl rfl (by show bound (aN i) cap=_;exact bound_of (by omega)) rfl (by simp) (v:=.slice b 0 i cap ex) (by simp) ?_
          repeat first|refine RO.mov ?_|refine RO.nil ?_
          refine Ru.ret1 (hK _ _ [b] false ?_ (hu2.trans u6))
          rw [← hres]
          rw [hil] at o6;exact o6
    refine Ru.weak (loop _ i0 (i0+1) l H1 fp rfl (by omega) (by omega) rfl ho1 (hg.upd fp) e0.symm rfl) ⟨rfl,rfl,rfl,rfl,trivial⟩
theorem del_ok (hf:tbl 62=f62) {H:Heap} {fp:List Pos} {full:Bool} {l:List (Int × Int)} {b:Pos} {cap:Nat} {ex:Bool} {K:AV→Heap→Prop} (ho:OwnP H fp 60 l full (.slice b 0 l.length cap ex)) (hl:l.length<1000000) {k:Nat} (hk:k<l.length) (hK:∀ H' fp',OwnP H' fp' 60 (l.eraseIdx k) false (.slice b 0 (l.eraseIdx k).length cap ex)→Upd fp fp' H H'→K (.slice b 0 (l.eraseIdx k).length cap ex) H'):YF tbl (.func 62 [] []) [.slice b 0 l.length cap ex,aN k,aN (k+1)] H K:=by
  obtain ⟨hbm,hcap,_⟩:=Own.mem ho
  have he5:=Own.elem ho
  have hel:(l.eraseIdx k).length=l.length-1:=List.length_eraseIdx_of_lt hk
  refine YF.code hf (by simp) ?_
  repeat first|refine RO.mov ?_|refine RO.lenSl ?_|refine RO.nil ?_|refine Ru.region ?_|refine Ru.seq ?_
  refine RO.sliceV (m:=l.length) (b:=k+1) (a:=k) rfl (by show bound (aN l.length) cap=_;exact bound_of hcap) (by show bound (aN (k+1)) l.length=_;exact bound_of (by omega)) (by show bound (aN k) (k+1)=_;exact bound_of (by omega)) (by simp) rfl ?_
  repeat first|refine RO.mov ?_|refine RO.nil ?_|refine Ru.region ?_|refine Ru.seq ?_|refine RO.eqlN ?_
  refine Ru.cond (fun h=>?_) (fun _=>?_)
  · omega
  repeat first|refine RO.mov ?_|refine RO.lenSl ?_|refine RO.nil ?_|refine Ru.region ?_|refine Ru.seq ?_|refine Ru.skip ?_
  refine RO.sliceV (m:=cap) (b:=k) (a:=0) rfl rfl (by show bound (aN k) cap=_;exact bound_of (by omega)) rfl (by simp) (v:=.slice b 0 k cap ex) (by simp) ?_
  repeat first|refine RO.mov ?_
  generalize ho2:(if ex&&decide (cap=k+1) then 0 else 0+(k+1)*2)=o2
  refine RO.sliceV (m:=cap) (b:=l.length) (a:=k+1) rfl rfl rfl (by show bound (aN (k+1)) l.length=_;exact bound_of (by omega)) (by rw [he5];simp) (v:=.slice b o2 (l.length-(k+1)) (cap-(k+1)) ex) (by rw [ho2];simp) ?_
  obtain ⟨H',fp',g1,g2,g3⟩:=OwnP.del ho hk
  have hsrc:source H 2 (.slice b o2 (l.length-(k+1)) (cap-(k+1)) ex)=some (l.length-(k+1),flatP (l.drop (k+1))):=by
    by_cases h0:l.length-(k+1)=0
    · rw [h0,List.drop_eq_nil_of_le (by omega)]
      obtain ⟨i',c,par,cap',ex',rfl,h2,hg,_⟩:=ho.resolve_left (fun h=>by cases h.2.2.2)
      injection h2 with h2
      subst h2
      simp only [source,readAt,hg,Nat.zero_mul,readCells];rfl
    · have:o2=(k+1)*2:=by rw [← ho2,decide_eq_false (by omega)];simp
      subst this
      obtain ⟨i',o',cap',ex',e1,_,_,_,h4⟩:=Sl.at ho.sl (by omega)
      injection e1 with e1 e2
      subst e1;subst e2
      have hfl:=flatP_length l
      have:=h4 ((k+1)*2) ((l.length-(k+1))*2) (by omega)
      rw [Nat.zero_add] at this
      simp only [source,this]
      congr 2
      rw [List.take_of_length_le (by rw [List.length_drop];omega)]
      have:∀ (l:List (Int × Int)) (k:Nat),(flatP l).drop (k*2)=flatP (l.drop k):=fun l k=>by
        apply List.ext_getElem?
        intro j
        rw [List.getElem?_drop,flatP_at,flatP_at,List.getElem?_drop,show (k*2+j) / 2=k+j / 2 by omega,show (k*2+j) % 2=j % 2 by omega]
      exact this _ _
  refine RO.append hsrc g1 ?_
  repeat first|refine RO.mov ?_|refine RO.lenSl ?_|refine RO.nil ?_|refine Ru.region ?_|refine Ru.seq ?_
  obtain ⟨hbm2,hcap2,_⟩:=Own.mem g2
  have he6:=Own.elem g2
  refine RO.sliceV (m:=cap) (b:=l.length) (a:=l.length-1) rfl rfl (by show bound (aN l.length) cap=_;exact bound_of (by omega)) (by show bound (aN (l.length-1)) l.length=_;exact bound_of (by omega)) (by rw [he6];simp) (v:=.slice b ((l.length-1)*2) 1 (cap-(l.length-1)) ex) (by
    have e1:(if ex&&decide (cap=l.length-1) then 0 else 0+(l.length-1)*2)=(l.length-1)*2:=by rw [decide_eq_false (by omega)];simp
    rw [e1,show l.length-(l.length-1)=1 by omega];simp) ?_
  obtain ⟨H6,h6,u6,o6⟩:=OwnP.tail g2 (ws:=reps [aI 0,aI 0] 1) (o:=(l.length-1)*2) (by omega) (by show _+2≤_;omega) rfl
  refine RO.clearSl (n:=1) rfl (by omega) h6 ?_
  repeat first|refine RO.mov ?_|refine RO.nil ?_|refine Ru.region ?_|refine Ru.seq ?_
  refine Ru.ret1 ?_
  have:=hK H6 [b] o6 (g3.trans u6)
  rw [hel] at this;exact this
end Go.Abs.R
