/- A part of the proof (an abstract machine, walks): no statement of its own, no conditions. -/
import Derived.Test.YtndbmjcpgefblaaGreatDoorA27
import Derived.Test.YtndbmjcpgefblaaGreatDoorA33
import Derived.Test.YtndbmjcpgefblaaGreatDoorA36
set_option linter.all false
namespace Go.Proofs
open Go.Shelf Go.RowKit Go.Lib Go.Sort Go.Abs
def cfMv (x y:Int × Int):Int:=Lib.compareInt x.1 y.1
theorem ltMv (x y:Int × Int):ltOf cfMv x y=decide (x.1<y.1):=by
  unfold ltOf cfMv Lib.compareInt
  by_cases h1:x.1<y.1
  · simp [h1]
  · by_cases h2:y.1<x.1<;>simp [h1,h2]
theorem swoMv:SWO (ltOf cfMv) where
  irrefl x:=by rw [ltMv];simp
  trans x y z h1 h2:=by rw [ltMv] at *;simp at *;omega
  ntrans x y z h1 h2:=by rw [ltMv] at *;simp at *;omega
theorem sortMv_ok:PrimOk Tryz.prog 53 (gSortP 54):=by
  refine gSortP_ok (cmpF:=54) ⟨⟨Tryz.f53,Tryz.func53,by kernel_rfl,by kernel_rfl⟩⟩ ltMv (fun blk off cap d w hH hblk hsz=>?_) (fun p cap fv w=>AnyF.slices_SortFunc_none Tryz.sortMv p cap fv w)
  have eg:∀ args w,(callFunc 54 args).run Tryz.prog w=.ok (.enter 54 args) w:=enters_of Tryz.func54 (by kernel_rfl) rfl
  exact AnyQ.slices_SortFunc Tryz.sortMv 2 Tryz.isAgg60 Tryz.sizeOf60 encP (fun _=>rfl) (fun x v hv=>by simp [encP] at hv;rcases hv with rfl | rfl<;>rfl) cfMv swoMv 54 #[] blk off cap d w eg (fun _ _ _ _ x y=>Tryz.cl54 x y _) hH hblk hsz
end Go.Proofs
namespace Go.Abs.R1
open Go.Proofs Go.Abs
theorem ent_of {P:Program} {tbl:Nat→AFunc} (ht:TblOk P tbl) (f:Nat):EntOk P f (tbl f):=by
  cases h:tbl f with
  | none=>trivial
  | code nt rs body=>exact ht.code f nt rs body h
  | prim g=>exact ht.prim f g h
  | over g=>exact ht.over f g h
def tblB (f:Nat):AFunc:=if Nat.beq f 5 then .prim gKnown else if Nat.beq f 47 then .prim gSort else if Nat.beq f 53 then .prim (gSortP 54) else table.getN .none f
theorem tblB_ok:TblOk Tryz.prog tblB:=tblOk fun f=>by
  unfold tblB
  split
  · rename_i h;rw [Nat.eq_of_beq_eq_true h];exact known_ok
  · split
    · rename_i h;rw [Nat.eq_of_beq_eq_true h];exact qSort
    · split
      · rename_i h;rw [Nat.eq_of_beq_eq_true h];exact sortMv_ok
      · exact ent_of table_ok f
theorem tbB:R.Tb tblB:=⟨by kernel_rfl,by kernel_rfl,by kernel_rfl,by kernel_rfl,by kernel_rfl,by kernel_rfl,by kernel_rfl,by kernel_rfl,by kernel_rfl,by kernel_rfl,by kernel_rfl,by kernel_rfl,by kernel_rfl,by kernel_rfl,by kernel_rfl,by kernel_rfl,by kernel_rfl,by kernel_rfl,by kernel_rfl,by kernel_rfl,by kernel_rfl,by kernel_rfl,by kernel_rfl,by kernel_rfl,by kernel_rfl,by kernel_rfl,by kernel_rfl,by kernel_rfl,by kernel_rfl,by kernel_rfl,by kernel_rfl,by kernel_rfl,by kernel_rfl,by kernel_rfl,by kernel_rfl,by kernel_rfl⟩
end Go.Abs.R1
namespace Go.Abs.R
open Go.Abs Go.Abs.R1
section
variable [Ov]
variable {tbl:Nat→AFunc}
theorem take_mem_dup {l:List Int}:(∃ j,∃ h:j<l.length,l[j]∈l.take j)↔¬ l.Nodup:=by
  constructor
  · rintro ⟨j,hj,hm⟩ hn
    obtain ⟨i,hi,e⟩:=List.getElem_of_mem hm
    rw [List.length_take] at hi
    rw [List.getElem_take] at e
    exact List.pairwise_iff_getElem.1 hn i j (by omega) hj (by omega) e
  · intro hn
    apply Classical.byContradiction
    intro hc
    refine hn (List.pairwise_iff_getElem.2 fun i j hi hj hij e=>hc ⟨j,hj,?_⟩)
    rw [List.mem_iff_getElem]
    exact ⟨i,by rw [List.length_take];omega,by rw [List.getElem_take];exact e⟩
theorem check_ok (T:Tb tbl) {H:Heap} {fr to:List Int} {sf st:AV} {sp:Int} {K:AV→Heap→Prop} (hf:SlI H fr sf) (ht:SlI H to st) (hfl:fr.length≤50) (htl:to.length≤50) (hK:K (aN (errOf fr to sp)) H):YF tbl (.func 8 [] []) [sf,st,aI sp] H K:=by
  have hdf:=hf.defd;have hdt:=ht.defd;have hnf:=hf.len;have hnt:=ht.len
  refine YF.code T.c8 (by simp) ?_
  repeat first|refine RO.mov ?_|refine RO.lenSl ?_|refine RO.nil ?_|refine Ru.region ?_|refine Ru.seq ?_|refine RO.neqN ?_
  refine Ru.cond (fun h=>?_) (fun h=>?_)
  · have he:errOf fr to sp=2:=by unfold errOf;rw [if_pos h]
    repeat first|refine RO.mov ?_|refine RO.nil ?_|refine Ru.region ?_|refine Ru.seq ?_
    rw [he] at hK
    exact Ru.ret1 hK
  have hlen:fr.length=to.length:=by omega
  repeat first|refine RO.mov ?_|refine RO.nil ?_|refine Ru.region ?_|refine Ru.seq ?_|refine Ru.block ?_|refine Ru.skip ?_
  refine Ru.name fun S hS=>?_
  have loop:∀ kk i,fr.length-i=kk→i≤fr.length→(∀ j (h:j<fr.length),j<i→0≤fr[j]∧0≤to[j]'(by omega))→Ru tbl (fcx [.tmp p6] K) S [(p0,sf),(p1,st),(p2,aI sp),(p7,aN i)] H:=by
    subst hS
    intro kk
    induction kk using Nat.strongRecOn with
    | ind kk ih =>
      intro i hkk hi hI
      refine Ru.loop ?_
      repeat first|refine RO.mov ?_|refine RO.lenSl ?_|refine RO.lssN ?_|refine RO.nil ?_|refine Ru.region ?_|refine Ru.seq ?_
      refine Ru.cond (fun hlt=>?_) (fun hlt=>?_)
      · have bad:(fr[i]<0∨to[i]'(by omega)<0)→errOf fr to sp=3:=fun h=>by
          have hx:∃ z∈fr++to,z<0:=by
            rcases h with h | h
            · exact ⟨_,List.mem_append_left _ (List.getElem_mem hlt),h⟩
            · exact ⟨_,List.mem_append_right _ (List.getElem_mem (by omega)),h⟩
          unfold errOf
          rw [if_neg (by simp [hlen]),if_pos (.inr hx)]
        repeat first|refine RO.mov ?_|refine Ru.region ?_|refine Ru.seq ?_|refine Ru.block ?_|refine Ru.skip ?_
        refine RO.idxI hf fun q o z hz hc _=>?_
        rw [getElem?_pos fr i hlt] at hz;injection hz with hz
        repeat first|refine RO.mov ?_|refine RO.lss ?_|refine RO.load1 ?_
        refine RO.byCases (fun hneg=>?_) (fun hneg=>?_)
        · repeat first|refine RO.guardF ?_
          refine RO.pickT ?_
          repeat first|refine RO.mov ?_|refine RO.nil ?_|refine Ru.region ?_|refine Ru.seq ?_|refine Ru.condT ?_
          rw [bad (.inl (by rw [hz];exact hneg))] at hK
          exact Ru.ret1 hK
        repeat first|refine RO.mov ?_|refine RO.guardT ?_
        refine RO.idxI ht (fun q2 o2 y hy hc2 _=>?_)
        rw [getElem?_pos to i (by omega)] at hy;injection hy with hy
        repeat first|refine RO.lss ?_|refine RO.load1 ?_|refine RO.guardT ?_
        refine RO.pickF ?_
        repeat first|refine RO.nil ?_
        refine Ru.cond (fun hneg2=>?_) (fun hneg2=>?_)
        · repeat first|refine RO.mov ?_|refine RO.nil ?_|refine Ru.region ?_|refine Ru.seq ?_
          rw [bad (.inr (by rw [hy];exact hneg2))] at hK
          exact Ru.ret1 hK
        repeat first|refine RO.mov ?_|refine RO.nil ?_|refine Ru.region ?_|refine Ru.skip ?_|refine RO.inc ?_
        refine Ru.weak (ih (fr.length-(i+1)) (by omega) (i+1) rfl (by omega) fun j hj hji=>?_) ⟨rfl,rfl,rfl,rfl,trivial⟩
        by_cases e:j=i
        · subst e;exact ⟨by rw [hz];exact Int.not_lt.1 hneg,by rw [hy];exact Int.not_lt.1 hneg2⟩
        · exact hI j hj (by omega)
      · refine Ru.exitTo ?_
        have hie:i=fr.length:=by omega
        subst hie
        have hnx:¬ ∃ z∈fr++to,z<0:=by
          rintro ⟨z,hz,e⟩
          rcases List.mem_append.1 hz with h | h
          · obtain ⟨j,hj,rfl⟩:=List.getElem_of_mem h;have:=(hI j hj hj).1;omega
          · obtain ⟨j,hj,rfl⟩:=List.getElem_of_mem h;have:=(hI j (by omega) (by omega)).2;omega
        repeat first|refine RO.mov ?_|refine RO.lss ?_|refine RO.nil ?_|refine Ru.region ?_|refine Ru.seq ?_
        refine Ru.cond (fun hneg=>?_) (fun hneg=>?_)
        · have he:errOf fr to sp=3:=by unfold errOf;rw [if_neg (by simp [hlen]),if_pos (.inl hneg)]
          repeat first|refine RO.mov ?_|refine RO.nil ?_|refine Ru.region ?_|refine Ru.seq ?_
          rw [he] at hK
          exact Ru.ret1 hK
        have hnx2:¬ (sp<0∨∃ z∈fr++to,z<0):=fun h=>h.elim hneg hnx
        repeat first|refine RO.mov ?_|refine RO.nil ?_|refine Ru.region ?_|refine Ru.seq ?_|refine Ru.block ?_|refine Ru.skip ?_
        refine Ru.name fun S2 hS2=>?_
        have loop2:∀ qq i,to.length-i=qq→i≤to.length→(∀ j (h:j<to.length),j<i→to[j]∉to.take j)→Ru tbl (fcx [.tmp p6] K) S2 [(p0,sf),(p1,st),(p2,aI sp),(p8,aN i)] H:=by
          subst hS2
          intro qq
          induction qq using Nat.strongRecOn with
          | ind qq ih2 =>
            intro i hqq hi hI2
            refine Ru.loop ?_
            repeat first|refine RO.mov ?_|refine RO.lenSl ?_|refine RO.lssN ?_|refine RO.nil ?_|refine Ru.region ?_|refine Ru.seq ?_
            refine Ru.cond (fun hlt=>?_) (fun hlt=>?_)
            · repeat first|refine RO.mov ?_|refine Ru.region ?_|refine Ru.seq ?_|refine Ru.block ?_|refine Ru.skip ?_
              refine RO.takeSl (b:=i) ht fun sv' hs'=>?_
              have hs2:SlI H (to.take i) sv':=by
                unfold SlI
                rw [List.map_take,List.length_take,Nat.min_eq_left (by omega)]
                simpa using hs'
              have hds:=hs2.defd
              repeat first|refine RO.mov ?_
              refine RO.idxI ht fun q o z hz hc _=>?_
              rw [getElem?_pos to i hlt] at hz;injection hz with hz
              repeat first|refine RO.load1 ?_
              refine RO.call (has_ok T.c26 hs2 (by rw [List.length_take];omega) ?_) (had:=by show (sv'.defd&&true)=true;rw [hds];rfl)
              repeat first|refine RO.nil ?_
              refine Ru.cond (fun hm=>?_) (fun hm=>?_)
              · have he:errOf fr to sp=6:=by unfold errOf;rw [if_neg (by simp [hlen]),if_neg hnx2,if_pos (take_mem_dup.1 ⟨i,hlt,by rw [hz];exact hm⟩)]
                repeat first|refine RO.mov ?_|refine RO.nil ?_|refine Ru.region ?_|refine Ru.seq ?_
                rw [he] at hK
                exact Ru.ret1 hK
              repeat first|refine RO.mov ?_|refine RO.nil ?_|refine Ru.region ?_|refine Ru.skip ?_|refine RO.inc ?_
              refine Ru.weak (ih2 (to.length-(i+1)) (by omega) (i+1) rfl (by omega) fun j hj hji=>?_) ⟨rfl,rfl,rfl,rfl,trivial⟩
              by_cases e:j=i
              · subst e;rw [hz];exact hm
              · exact hI2 j hj (by omega)
            · refine Ru.exitTo ?_
              have hnd:¬ ¬ to.Nodup:=fun h=>by
                obtain ⟨j,hj,hm⟩:=take_mem_dup.2 h
                exact hI2 j hj (by omega) hm
              repeat first|refine RO.mov ?_|refine Ru.region ?_|refine Ru.seq ?_
              refine RO.call (has_ok T.c26 hf (by omega) ?_) (had:=by show (sf.defd&&true)=true;rw [hdf];rfl)
              repeat first|refine RO.mov ?_
              refine RO.byCases (fun hm=>?_) (fun hm=>?_)
              · have he:errOf fr to sp=4:=by unfold errOf;rw [if_neg (by simp [hlen]),if_neg hnx2,if_neg hnd,if_pos (List.mem_append_left _ hm)]
                repeat first|refine RO.guardF ?_
                refine RO.pickT ?_
                repeat first|refine RO.mov ?_|refine RO.nil ?_|refine Ru.region ?_|refine Ru.seq ?_|refine Ru.condT ?_
                rw [he] at hK
                exact Ru.ret1 hK
              repeat first|refine RO.mov ?_|refine RO.guardT ?_
              refine RO.call (has_ok T.c26 ht (by omega) ?_) (had:=by show (st.defd&&true)=true;rw [hdt];rfl)
              refine RO.pickF ?_
              repeat first|refine RO.nil ?_
              refine Ru.cond (fun hm2=>?_) (fun hm2=>?_)
              · have he:errOf fr to sp=4:=by unfold errOf;rw [if_neg (by simp [hlen]),if_neg hnx2,if_neg hnd,if_pos (List.mem_append_right _ hm2)]
                repeat first|refine RO.mov ?_|refine RO.nil ?_|refine Ru.region ?_|refine Ru.seq ?_
                rw [he] at hK
                exact Ru.ret1 hK
              · have he:errOf fr to sp=0:=by unfold errOf;rw [if_neg (by simp [hlen]),if_neg hnx2,if_neg hnd,if_neg (fun h=>(List.mem_append.1 h).elim hm hm2)]
                repeat first|refine RO.mov ?_|refine RO.nil ?_|refine Ru.region ?_|refine Ru.seq ?_|refine Ru.skip ?_
                rw [he] at hK
                exact Ru.ret1 hK
        exact Ru.weak (loop2 _ 0 rfl (by omega) fun j _ hj=>by omega) ⟨rfl,rfl,rfl,rfl,trivial⟩
  exact Ru.weak (loop _ 0 rfl (by omega) fun j _ hj=>by omega) ⟨rfl,rfl,rfl,rfl,trivial⟩
end
end Go.Abs.R
