/- A part of the proof (an abstract machine, walks): no statement of its own, no conditions. -/
import Derived.Test.YtndbmjcpgefblaaGreatDoorB34
import Derived.Test.YtndbmjcpgefblaaGreatDoorA30
import Derived.Test.YtndbmjcpgefblaaGreatDoorB35
set_option linter.all false
namespace Go.Abs.R
open Go.Abs Go.Abs.R1
structure Tb (tbl:Nat→AFunc):Prop where
  c3:tbl 3=f3
  c4:tbl 4=f4
  c6:tbl 6=f6
  c7:tbl 7=f7
  c8:tbl 8=f8
  c9:tbl 9=f9
  c10:tbl 10=f10
  c11:tbl 11=f11
  c18:tbl 18=f18
  c19:tbl 19=f19
  c20:tbl 20=f20
  c21:tbl 21=f21
  c22:tbl 22=f22
  c23:tbl 23=f23
  c24:tbl 24=f24
  c25:tbl 25=f25
  c26:tbl 26=f26
  c44:tbl 44=f44
  c45:tbl 45=f45
  c46:tbl 46=f46
  s47:tbl 47=.prim gSort
  c48:tbl 48=f48
  c49:tbl 49=f49
  c50:tbl 50=f50
  c51:tbl 51=f51
  c52:tbl 52=f52
  s53:tbl 53=.prim (gSortP 54)
  c56:tbl 56=f56
  c57:tbl 57=f57
  c58:tbl 58=f58
  c59:tbl 59=f59
  c60:tbl 60=f60
  c61:tbl 61=f61
  c62:tbl 62=f62
  c76:tbl 76=f76
  s5:tbl 5=.prim gKnown
section
variable [Ov]
variable {tbl:Nat→AFunc}
def zipM (fr to:List Int):List (Int × Int):=to.zip fr
def errOf (fr to:List Int) (sp:Int):Nat :=
  if fr.length≠to.length then 2 else if sp<0∨(∃ z∈fr++to,z<0) then 3 else if ¬ to.Nodup then 6 else if sp∈fr++to then 4 else 0
theorem sorted_dup {l:List Int}:(∃ j,j+1<(sortI l).length∧(sortI l)[j]?=(sortI l)[j+1]?)↔¬ l.Nodup:=by
  rw [← (sortI_perm l).nodup_iff]
  have hs:=sortI_sorted l
  generalize sortI l=s at hs
  constructor
  · rintro ⟨j,hj,e⟩ hn
    rw [getElem?_pos s j (by omega),getElem?_pos s (j+1) hj] at e
    injection e with e
    exact (List.pairwise_iff_getElem.1 hn j (j+1) (by omega) hj (by omega)) e
  · intro hn
    apply Classical.byContradiction
    intro hc
    refine hn (List.pairwise_iff_getElem.2 fun i j hi hj hij e=>?_)
    have h1:=List.pairwise_iff_getElem.1 hs
    have hle:s[i]≤s[i+1]'(by omega):=h1 i (i+1) hi (by omega) (by omega)
    have hle2:s[i+1]'(by omega)≤s[j]:=by
      by_cases h:i+1=j
      · subst h;omega
      · exact h1 (i+1) j (by omega) hj (by omega)
    exact hc ⟨i,by omega,by rw [getElem?_pos s i hi,getElem?_pos s (i+1) (by omega)];congr 1;omega⟩
theorem lay2 {L:Kn} {x y:Opd} {a b z:AV} (hx:gvL L x=a) (hy:gvL L y=b) (ha:a.cells=[a]) (hb:b.cells=[b]) (had:a.defd=true) (hbd:b.defd=true):layL L (reps [z] 2) [(0,1,x),(1,1,y)]=some [a,b]:=by
  simp [layL,hx,hy,ha,hb,had,hbd,reps,layAt]
theorem zip_take {fr to:List Int} (hl:fr.length=to.length) {i:Nat} (hi:i<to.length):(zipM fr to).take (i+1)=(zipM fr to).take i++[(to[i],fr[i]'(by omega))]:=by
  have hz:i<(zipM fr to).length:=by simp [zipM];omega
  rw [List.take_succ_eq_append_getElem hz]
  simp [zipM]
theorem zip_keys {fr to:List Int} (hl:fr.length=to.length):(zipM fr to).map (·.1)=to:=by
  simp [zipM]
  exact List.map_fst_zip (by omega)
theorem moves_ok (T:Tb tbl) {H:Heap} {fr to:List Int} {sf st:AV} {sp:Int} {K:AV→Heap→Prop} (hf:SlI H fr sf) (ht:SlI H to st) (hfl:fr.length≤50) (htl:to.length≤50)
    (hE:errOf fr to sp≠0→∀ H',Grew H H'→K (.tuple [.nilslice,aN (errOf fr to sp)]) H')
    (hO:errOf fr to sp=0→∀ sv' H' out,Mv.Ord sp (sortP ((zipM fr to).filter fun m=>!decide (m.2=m.1))) out→out.length≤200→SlP H' out sv'→Grew H H'→K (.tuple [sv',aN 0]) H'):YF tbl (.func 6 [] []) [sf,st,aI sp] H K:=by
  have hdf:=hf.defd;have hdt:=ht.defd;have hnf:=hf.len;have hnt:=ht.len
  refine YF.code T.c6 (by simp) ?_
  repeat first|refine RO.mov ?_|refine RO.lenSl ?_|refine RO.nil ?_|refine Ru.region ?_|refine Ru.seq ?_|refine RO.neqN ?_
  refine Ru.cond (fun h=>?_) (fun h=>?_)
  · have he:errOf fr to sp=2:=by unfold errOf;rw [if_pos h]
    repeat first|refine RO.mov ?_|refine RO.nil ?_|refine Ru.region ?_|refine Ru.seq ?_
    refine Ru.ret2 ?_
    have:=hE (by omega) H (Grew.refl H)
    rw [he] at this;exact this
  have hlen:fr.length=to.length:=by omega
  repeat first|refine RO.mov ?_|refine RO.nil ?_|refine Ru.region ?_|refine Ru.seq ?_|refine Ru.skip ?_
  refine RO.buildSlice (vs:=[sf,st]) ?_ (lay2 rfl rfl hf.cells ht.cells hdf hdt) (by simp [allOne,hf.oneCell,ht.oneCell])
  have g0:Grew H (H.new (.cells (mkCells [sf,st]) 2 22 true [] 0)):=Grew.new H _
  have hsl:Sl (H.new (.cells (mkCells [sf,st]) 2 22 true [] 0)) 1 [sf,st] 2 (.slice H.next 0 2 2 true):=(Own.new (H:=H) (e:=22) (size:=1) (n:=2) (vs:=[sf,st]) rfl true true).sl
  refine RO.call (concat_ok T.c19 T.c44 (g0.sl hf) (g0.sl ht) hsl (by omega) (by omega) fun av H1 ha g1=>?_)
  have hda:=ha.defd;have hna:=ha.len
  have gA:Grew H H1:=g0.trans g1
  repeat first|refine RO.mov ?_|refine RO.lss ?_|refine RO.nil ?_|refine Ru.region ?_|refine Ru.seq ?_
  refine RO.byCases (fun hneg=>?_) (fun hneg=>?_)
  · have he:errOf fr to sp=3:=by unfold errOf;rw [if_neg (by simp [hlen]),if_pos (.inl hneg)]
    repeat first|refine RO.guardF ?_
    refine RO.pickT ?_
    repeat first|refine RO.mov ?_|refine RO.nil ?_|refine Ru.region ?_|refine Ru.seq ?_|refine Ru.condT ?_
    refine Ru.ret2 ?_
    have:=hE (by omega) H1 gA
    rw [he] at this;exact this
  repeat first|refine RO.mov ?_|refine RO.guardT ?_
  refine RO.call (containsF_ok T.c20 T.c45 ha (by simp;omega) rfl (below_ok T.c18) fun H2 g2=>?_) (had:=by simp [hda];rfl)
  have gB:=gA.trans g2
  refine RO.pickF ?_
  repeat first|refine RO.nil ?_
  refine Ru.condB (fun hany=>?_) (fun hany=>?_)
  · have hx:∃ z∈fr++to,z<0:=by
      obtain ⟨z,hz,e⟩:=List.any_eq_true.1 hany
      exact ⟨z,hz,of_decide_eq_true e⟩
    have he:errOf fr to sp=3:=by unfold errOf;rw [if_neg (by simp [hlen]),if_pos (.inr hx)]
    repeat first|refine RO.mov ?_|refine RO.nil ?_|refine Ru.region ?_|refine Ru.seq ?_
    refine Ru.ret2 ?_
    have:=hE (by omega) H2 gB
    rw [he] at this;exact this
  have hnx:¬ (sp<0∨∃ z∈fr++to,z<0):=by
    rintro (h | ⟨z,hz,e⟩)
    · exact hneg h
    · rw [List.any_eq_false] at hany
      exact hany z hz (by simpa using e)
  repeat first|refine RO.mov ?_|refine Ru.region ?_|refine Ru.seq ?_|refine Ru.skip ?_
  refine RO.call (values_ok T.c22 ht.cells ht.oneCell ?_) (had:=by show (st.defd&&true)=true;rw [hdt];rfl)
  refine RO.call (sorted_ok T.c21 T.c46 T.c76 T.c48 T.s47 (gB.sl ht) (by omega) fun sv3 H3 fp3 o3 g3 a3=>?_)
  have hd3:=o3.sl.defd
  have gC:=gB.trans g3
  have hsl3:(sortI to).length=to.length:=(sortI_perm to).length_eq
  repeat first|refine RO.mov ?_|refine RO.nil ?_|refine Ru.region ?_|refine Ru.seq ?_
  refine RO.call (compact_ok T.c23 o3 (by omega) fun v4 H4 fp4 m hm4 hd4 hdup u4=>?_) (had:=by show (sv3.defd&&true)=true;rw [hd3];rfl)
  have gD:Grew H H4:=(u4.grew g3 a3) |> gB.trans
  rw [sorted_dup,hsl3] at hdup
  repeat first|refine RO.mov ?_|refine RO.lenSl ?_|refine RO.lssN ?_|refine RO.nil ?_
  refine Ru.cond (fun hlt=>?_) (fun hlt=>?_)
  · have he:errOf fr to sp=6:=by unfold errOf;rw [if_neg (by simp [hlen]),if_neg hnx,if_pos (hdup.1 hlt)]
    repeat first|refine RO.mov ?_|refine RO.nil ?_|refine Ru.region ?_|refine Ru.seq ?_
    refine Ru.ret2 ?_
    have:=hE (by omega) H4 gD
    rw [he] at this;exact this
  have hnd:to.Nodup:=Classical.not_not.1 fun h=>hlt (hdup.2 h)
  repeat first|refine RO.mov ?_|refine Ru.region ?_|refine Ru.seq ?_|refine Ru.skip ?_
  have gE:Grew H1 H4:=g2.trans (u4.grew g3 a3)
  refine RO.call (contains_ok T.c24 T.c49 (gE.sl ha) (by simp;omega) ?_) (had:=by simp [hda];rfl)
  repeat first|refine RO.nil ?_
  refine Ru.cond (fun hin=>?_) (fun hin=>?_)
  · have he:errOf fr to sp=4:=by unfold errOf;rw [if_neg (by simp [hlen]),if_neg hnx,if_neg (by simpa using hnd),if_pos hin]
    repeat first|refine RO.mov ?_|refine RO.nil ?_|refine Ru.region ?_|refine Ru.seq ?_
    refine Ru.ret2 ?_
    have:=hE (by omega) H4 gD
    rw [he] at this;exact this
  have he0:errOf fr to sp=0:=by unfold errOf;rw [if_neg (by simp [hlen]),if_neg hnx,if_neg (by simpa using hnd),if_neg hin]
  have hzl:(zipM fr to).length=to.length:=by simp [zipM];omega
  repeat first|refine RO.mov ?_|refine RO.lenSl ?_|refine RO.nil ?_|refine Ru.region ?_|refine Ru.seq ?_|refine Ru.block ?_|refine Ru.skip ?_
  refine Ru.name fun S hS=>?_
  have loop:∀ kk i,to.length-i=kk→i≤to.length→∀ (HX:Heap) (fp:List Pos) (lv:AV),OwnP HX fp 60 ((zipM fr to).take i) true lv→Grew H HX→Above H fp→Ru tbl (fcx [.tmp p6,.tmp p7] K) S [(p0,sf),(p1,st),(p2,aI sp),(p6,.nilslice),(p11,lv),(p44,aN to.length),(p45,aN i)] HX:=by
    subst hS
    intro kk
    induction kk using Nat.strongRecOn with
    | ind kk ih =>
      intro i hkk hi HX fp lv oX gX aX
      have hdl:=oX.sl.defd
      refine Ru.loop ?_
      repeat first|refine RO.lssN ?_|refine RO.nil ?_|refine Ru.region ?_|refine Ru.seq ?_
      refine Ru.cond (fun hlt=>?_) (fun hlt=>?_)
      · repeat first|refine RO.mov ?_|refine RO.nil ?_|refine Ru.region ?_|refine Ru.seq ?_|refine Ru.block ?_|refine Ru.skip ?_
        refine RO.idxI (gX.sl ht) fun q o z hz hc _=>?_
        repeat first|refine RO.mov ?_|refine RO.load1 ?_
        refine RO.idxI (gX.sl hf) fun q2 o2 y hy hc2 _=>?_
        have htk:=zip_take hlen hlt
        rw [getElem?_pos to i hlt] at hz;injection hz with hz
        rw [getElem?_pos fr i (by omega)] at hy;injection hy with hy
        rw [hz,hy] at htk
        repeat first|refine RO.load1 ?_|refine RO.build ?_
        refine RO.pushP (m:=(z,y)) oX rfl (fun w sv' HY fpY oY uY=>?_) (hn:=by rw [List.length_take];omega)
        rw [← htk] at oY
        have hdy:=oY.sl.defd
        repeat first|refine RO.mov ?_|refine RO.nil ?_|refine Ru.region ?_|refine RO.inc ?_
        exact Ru.weak (ih (to.length-(i+1)) (by omega) (i+1) rfl (by omega) HY fpY sv' oY (uY.grew gX aX) (uY.above gX aX)) ⟨rfl,rfl,rfl,rfl,rfl,rfl,rfl,trivial⟩
      · have hie:i=to.length:=by omega
        have hzt:(zipM fr to).take i=zipM fr to:=by rw [hie,← hzl,List.take_length]
        rw [hzt] at oX
        have hkeys:=zip_keys hlen
        have hndk:((zipM fr to).map (·.1)).Nodup:=by rw [hkeys];exact hnd
        have hspk:sp∉Mv.keys (sortP ((zipM fr to).filter fun m=>!decide (m.2=m.1))):=by
          intro hm
          obtain ⟨m,hm1,hm2⟩:=List.mem_map.1 hm
          have hm3:=(List.mem_filter.1 ((sortP_perm _).mem_iff.1 hm1)).1
          have:sp∈to:=by rw [← hkeys,← hm2];exact List.mem_map_of_mem hm3
          exact hin (List.mem_append_right _ this)
        obtain ⟨out,hord,hol⟩:=Mv.ord_exists sp _ _ (Nat.le_refl _) hspk
        have hnf1:∀ l,Mv.noFree l≤1:=fun l=>by unfold Mv.noFree;split<;>omega
        have hnf2:=hnf1 (sortP ((zipM fr to).filter fun m=>!decide (m.2=m.1)))
        have hsl2:(sortP ((zipM fr to).filter fun m=>!decide (m.2=m.1))).length≤50:=by
          rw [(sortP_perm _).length_eq]
          exact Nat.le_trans (List.length_filter_le ..) (by omega)
        refine Ru.exitTo ?_
        repeat first|refine RO.mov ?_|refine Ru.region ?_|refine Ru.seq ?_
        refine RO.call (inOrder_ok T.c25 T.c51 T.c50 T.c52 T.s53 T.c56 T.c57 T.c58 T.c59 T.c60 T.c61 T.c62 oX.sl (by omega) hndk hord (by omega) fun ov HY hov gY=>?_) (had:=by show (lv.defd&&(true&&true))=true;rw [hdl];rfl)
        have hdo:=hov.defd;have hno:=hov.len
        repeat first|refine RO.mov ?_|refine RO.lenSl ?_|refine RO.nil ?_|refine Ru.block ?_
        refine Ru.name fun S2 hS2=>?_
        have gXY:=gX.trans gY
        have loop2:∀ qq i,out.length-i=qq→i≤out.length→∀ (HZ:Heap) (fp:List Pos) (lv:AV),OwnP HZ fp 36 (out.take i) true lv→Grew HY HZ→Above HY fp→Ru tbl (fcx [.tmp p6,.tmp p7] K) S2 [(p6,lv),(p63,ov),(p64,aN out.length),(p65,aN i)] HZ:=by
          subst hS2
          intro qq
          induction qq using Nat.strongRecOn with
          | ind qq ih2 =>
            intro i hqq hi HZ fp lv oZ gZ aZ
            have hdl:=oZ.sl.defd
            refine Ru.loop ?_
            repeat first|refine RO.lssN ?_|refine RO.nil ?_|refine Ru.region ?_|refine Ru.seq ?_
            refine Ru.cond (fun hlt=>?_) (fun hlt=>?_)
            · repeat first|refine Ru.region ?_|refine Ru.seq ?_|refine Ru.block ?_|refine Ru.skip ?_
              refine RO.idxP (gZ.sl hov) fun q o z hz _ _ hrd _=>?_
              repeat first|refine RO.loadN ?_
              refine RO.allocStore (us:=[aI z.1,aI z.2]) rfl rfl rfl (by intro w;rfl) fun q' HW gW hrW hqW=>?_
              have htk:out.take (i+1)=out.take i++[z]:=by
                obtain ⟨h1,h2⟩:=List.getElem?_eq_some_iff.1 hz
                rw [List.take_succ_eq_append_getElem h1,h2]
              repeat first|refine RO.mov ?_|refine RO.nil ?_|refine Ru.region ?_|refine RO.loadN ?_
              refine RO.pushP (m:=z) (gW.own oZ) rfl (fun w sv' HV fpV oV uV=>?_) (hn:=by rw [List.length_take];omega)
              rw [← htk] at oV
              have hdv:=oV.sl.defd
              repeat first|refine RO.mov ?_|refine RO.nil ?_|refine Ru.region ?_|refine RO.inc ?_
              exact Ru.weak (ih2 (out.length-(i+1)) (by omega) (i+1) rfl (by omega) HV fpV sv' oV (uV.grew (gZ.trans gW) aZ) (uV.above (gZ.trans gW) aZ)) ⟨rfl,rfl,rfl,rfl,trivial⟩
            · have hie:i=out.length:=by omega
              rw [hie,List.take_length] at oZ
              refine Ru.exitTo ?_
              repeat first|refine RO.mov ?_|refine RO.nil ?_|refine Ru.region ?_|refine Ru.seq ?_
              exact Ru.ret2 (hO he0 lv HZ out hord (by omega) oZ.sl (gXY.trans gZ))
        exact Ru.weak (loop2 _ 0 rfl (by omega) HY [] .nilslice (.inl ⟨rfl,rfl,rfl,rfl⟩) (Grew.refl _) (fun j hj=>by cases hj)) ⟨rfl,rfl,rfl,rfl,trivial⟩
  exact Ru.weak (loop _ 0 rfl (by omega) H4 [] .nilslice (.inl ⟨rfl,rfl,rfl,rfl⟩) gD (fun j hj=>by cases hj)) ⟨rfl,rfl,rfl,rfl,rfl,rfl,rfl,trivial⟩
end
end Go.Abs.R
