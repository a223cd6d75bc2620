/- A part of the proof (an abstract machine, walks): no statement of its own, no conditions. -/
import Derived.Test.YtndbmjcpgefblaaGreatDoorA38
set_option linter.all false
namespace Go.Abs.R
open Go.Abs Go.Abs.R1
section
variable [Ov]
variable {tbl:Nat→AFunc}
set_option maxHeartbeats 1000000 in
theorem refMoves_ok (T:Tb tbl) {H:Heap} {fr to:List Int} {sf st:AV} {sp:Int} {K:AV→Heap→Prop} (hf:SlI H fr sf) (ht:SlI H to st) (htl:to.length≤50) (hlen:fr.length=to.length) (hnd:to.Nodup) {out:List (Int × Int)} (hord:Mv.Ord sp (sortP ((zipM fr to).filter fun m=>!decide (m.2=m.1))) out) (hol:out.length≤200)
    (hK:∀ sv' H',SlP H' out sv'→Grew H H'→K sv' H'):YF tbl (.func 9 [] []) [sf,st,aI sp] H K:=by
  have hdf:=hf.defd;have hdt:=ht.defd;have hnf:=hf.len;have hnt:=ht.len
  have hzl:(zipM fr to).length=to.length:=by simp [zipM];omega
  refine YF.code T.c9 (by simp) ?_
  repeat first|refine RO.mov ?_|refine RO.nil ?_|refine Ru.region ?_|refine Ru.seq ?_
  refine RO.emptyS (size:=2) fun H1 lv1 fp1 o1 g1 a1=>?_
  refine RO.emptyS (size:=2) fun H2 ov2 fp2 o2 g2 a2=>?_
  have hd1:=o1.sl.defd;have hd2:=o2.sl.defd
  have o1':=g2.own o1
  have hdis0:∀ j∈fp1,j∉fp2:=fun j h1 h2=>by have:=o1.below j h1;have:=a2 j h2;omega
  have gA:Grew H H2:=g1.trans g2
  have aO:Above H fp2:=fun j hj=>by have:=a2 j hj;have:=g1.nx;omega
  repeat first|refine RO.mov ?_|refine RO.nil ?_|refine Ru.region ?_|refine Ru.seq ?_|refine Ru.block ?_
  refine Ru.name fun S hS=>?_
  have loop:∀ kk i,to.length-i=kk→i≤to.length→∀ (HX:Heap) (fp:List Pos) (lv:AV),OwnP HX fp 36 (((zipM fr to).take i).filter fun m=>!decide (m.2=m.1)) true lv→Upd fp1 fp H2 HX→Ru tbl (fcx [.tmp p6] K) S [(p0,sf),(p1,st),(p2,aI sp),(p7,lv),(p8,ov2),(p9,aN i)] HX:=by
    subst hS
    intro kk
    induction kk using Nat.strongRecOn with
    | ind kk ih =>
      intro i hkk hi HX fp lv oX uX
      have hdl:=oX.sl.defd
      have gX:=uX.grew gA a1
      refine Ru.loop ?_
      repeat first|refine RO.mov ?_|refine RO.lenSl ?_|refine RO.lssN ?_|refine RO.nil ?_|refine Ru.region ?_|refine Ru.seq ?_
      refine Ru.cond (fun hlt=>?_) (fun hlt=>?_)
      · have hst:=zfilter_step hlen (show i<to.length by omega)
        repeat first|refine RO.mov ?_|refine Ru.region ?_|refine Ru.seq ?_|refine Ru.block ?_|refine Ru.skip ?_
        refine RO.idxI (gX.sl hf) (fun q o z hz hc _=>?_) (hj:=by omega)
        repeat first|refine RO.mov ?_|refine RO.load1 ?_
        refine RO.idxI (gX.sl ht) (fun q2 o2 y hy hc2 _=>?_) (hj:=by omega)
        have hz':=hz;have hy':=hy
        rw [getElem?_pos fr i (by omega)] at hz;injection hz with hz
        rw [getElem?_pos to i (by omega)] at hy;injection hy with hy
        rw [hz,hy] at hst
        repeat first|refine RO.nil ?_|refine RO.neq ?_|refine RO.load1 ?_
        refine Ru.cond (fun hne=>?_) (fun hne=>?_)
        · repeat first|refine RO.mov ?_|refine Ru.region ?_
          refine RO.idxI (gX.sl ht) (fun q3 o3 y3 hy3 hc3 _=>?_) (hj:=by omega)
          rw [hy'] at hy3;injection hy3 with hy3;subst hy3
          repeat first|refine RO.mov ?_|refine RO.load1 ?_
          refine RO.idxI (gX.sl hf) (fun q4 o4 z4 hz4 hc4 _=>?_) (hj:=by omega)
          rw [hz'] at hz4;injection hz4 with hz4;subst hz4
          repeat first|refine RO.load1 ?_|refine RO.build ?_
          refine RO.pushP (m:=(y,z)) oX rfl (fun w sv' HY fpY oY uY=>?_) (hn:=by
            have:=List.length_filter_le (fun m:Int × Int=>!decide (m.2=m.1)) ((zipM fr to).take i)
            rw [List.length_take] at this;omega)
          have hdy:=oY.sl.defd
          repeat first|refine RO.mov ?_|refine RO.nil ?_|refine Ru.region ?_|refine RO.inc ?_
          refine Ru.weak (ih (to.length-(i+1)) (by omega) (i+1) rfl (by omega) HY fpY sv' (by rw [hst,if_neg hne];exact oY) (uX.trans uY)) ⟨rfl,rfl,rfl,rfl,rfl,rfl,trivial⟩
        · repeat first|refine RO.mov ?_|refine RO.nil ?_|refine Ru.region ?_|refine Ru.skip ?_|refine RO.inc ?_
          refine Ru.weak (ih (to.length-(i+1)) (by omega) (i+1) rfl (by omega) HX fp lv (by rw [hst,if_pos (Classical.not_not.1 hne),List.append_nil];exact oX) uX) ⟨rfl,rfl,rfl,rfl,rfl,rfl,trivial⟩
      · have hie:i=to.length:=by omega
        rw [hie,← hzl,List.take_length] at oX
        have hkeys:=zip_keys hlen
        have hnd2:(((zipM fr to).filter fun m=>!decide (m.2=m.1)).map (·.1)).Nodup:=by
          have:((zipM fr to).map (·.1)).Nodup:=by rw [hkeys];exact hnd
          exact this.sublist (List.filter_sublist.map _)
        have hasc:Mv.Asc (sortP ((zipM fr to).filter fun m=>!decide (m.2=m.1))):=sortP_asc hnd2
        have hfl:((zipM fr to).filter fun m=>!decide (m.2=m.1)).length≤50:=Nat.le_trans (List.length_filter_le ..) (by omega)
        refine Ru.exitTo ?_
        repeat first|refine Ru.seq ?_|refine Ru.block ?_
        refine Ru.name fun S2 hS2=>?_
        have main:∀ l rest,Mv.Ord sp l rest→Mv.Asc l→∀ (r:List (Int × Int)) (HZ:Heap) (fpL fpO:List Pos) (lv ov:AV) (done:List (Int × Int)),l.Perm r→r.length≤50→done++rest=out→OwnP HZ fpL 36 r true lv→OwnP HZ fpO 36 done true ov→Grew H HZ→Above H fpL→Above H fpO→(∀ j∈fpL,j∉fpO)→Ru tbl (fcx [.tmp p6] K) S2 [(p2,aI sp),(p7,lv),(p8,ov)] HZ:=by
          subst hS2
          intro l rest ho
          induction ho with
          | nil =>
            intro _ r HZ fpL fpO lv ov done hp _ hout oL oO gZ aL aO _
            have hr:r=[]:=List.nil_perm.1 hp
            subst hr
            have hnl:=oL.sl.len
            have hdl:=oL.sl.defd;have hdo:=oO.sl.defd
            refine Ru.loop ?_
            repeat first|refine RO.mov ?_|refine RO.lenSl ?_|refine RO.nil ?_|refine Ru.region ?_|refine Ru.seq ?_|refine RO.gtrN ?_|refine Ru.condF ?_
            refine Ru.exitTo ?_
            repeat first|refine RO.mov ?_|refine RO.nil ?_|refine Ru.region ?_|refine Ru.seq ?_
            refine Ru.ret1 (hK ov HZ ?_ gZ)
            rw [List.append_nil] at hout
            rw [← hout];exact oO.sl
          | @free l rest k m hfi hm hr ih =>
            intro hasc r HZ fpL fpO lv ov done hp hr50 hout oL oO gZ aL aO hdis
            have hrl:0<r.length:=by rw [← hp.length_eq];have:=(List.getElem?_eq_some_iff.1 hm).1;omega
            obtain ⟨b,cap,ex,rfl⟩:=Own.shape oL (by omega)
            have hdo:=oO.sl.defd
            refine Ru.loop ?_
            repeat first|refine RO.mov ?_|refine RO.lenSl ?_|refine RO.nil ?_|refine Ru.region ?_|refine Ru.seq ?_|refine RO.gtrN ?_
            refine Ru.cond (fun _=>?_) (fun h=>?_)
            rotate_left
            · exact absurd hrl h
            repeat first|refine RO.mov ?_|refine RO.nil ?_|refine Ru.region ?_|refine Ru.seq ?_|refine Ru.block ?_|refine Ru.skip ?_
            refine Ru.weak (scan_ok hr50 hrl oL hdo fun v a hB hL=>?_) ⟨rfl,rfl,rfl,rfl,rfl,rfl,trivial⟩
            rcases hB with ⟨rfl,hB⟩ | ⟨bb,mm,rfl,hB1,hB2,hB3,hB4⟩
            · have:=Mv.pick_none hasc hp fun j o ho=>hB j (List.getElem?_eq_some_iff.1 ho).1
              rw [hfi] at this;cases this
            obtain ⟨k',e1,e2,hp2⟩:=Mv.pick_some hasc hp hB2 hB3 fun j o ho hf=>hB4 j o (List.getElem?_eq_some_iff.1 ho).1 ho hf
            rw [hfi] at e1;injection e1 with e1;subst e1
            rw [hm] at e2;injection e2 with e2;subst e2
            obtain ⟨hbb,hbe⟩:=List.getElem?_eq_some_iff.1 hB2
            obtain ⟨_,_,hbr⟩:=pair_at oL.sl rfl hbb
            have hbr':readAt HZ b (0+bb*2) 2=some [aI m.1,aI m.2]:=by rw [Nat.zero_add,hbr,hbe]
            have hol2:done.length+1≤out.length:=by rw [← hout];simp
            repeat first|refine RO.mov ?_|refine RO.nil ?_|refine Ru.region ?_|refine Ru.seq ?_|refine RO.geqN ?_|refine RO.loadN ?_|refine Ru.condT ?_|refine RO.idxSl ?_
            refine RO.pushP (m:=m) oO rfl fun w sv' HW fpW oW uW=>?_
            have hdw:=oW.sl.defd
            have oLW:=uW.own oL hdis
            have gW:=uW.grew gZ aO
            have aW:=uW.above gZ aO
            have hdisW:∀ j∈fpL,j∉fpW:=uW.apart oL hdis
            repeat first|refine RO.mov ?_|refine RO.nil ?_|refine Ru.region ?_|refine Ru.seq ?_
            refine RO.buildSlice (vs:=[]) ?_ rfl rfl
            generalize hHV:HW.new (.cells (mkCells []) ([]:List AV).length 36 true [] 0)=HV
            have oE:Own HV [HW.next] 36 2 [] 0 true (.slice HW.next 0 0 0 true):=by
              rw [← hHV];exact Own.new (H:=HW) (e:=36) (n:=0) (size:=2) (vs:=[]) rfl true true
            have gV:Grew HW HV:=by rw [← hHV];exact Grew.new HW _
            have oLV:=gV.own oLW
            repeat first|refine RO.mov ?_
            refine RO.takeSl (b:=bb) oLV.sl fun tv htv=>?_
            have hdt2:=htv.defd
            repeat first|refine RO.mov ?_|refine RO.inc ?_
            generalize ho2:(if ex&&decide (cap=bb+1) then 0 else 0+(bb+1)*2)=o2
            generalize hHU:((HV.set HW.next .none).set HW.next (HV.get HW.next))=HU
            have hget:∀ j,HU.get j=HV.get j:=fun j=>by
              rw [← hHU,Heap.get_set]
              split
              · rename_i e;rw [e]
              · rename_i e;rw [Heap.get_set,if_neg e]
            have hnx:HU.next=HV.next:=by rw [← hHU];rfl
            have gU:Grew HV HU:=⟨Nat.le_of_eq (by rw [hnx]),fun j _=>hget j⟩
            have oLU:=gU.own oLV
            have oEU:=gU.own oE
            obtain ⟨hbm,hcap,hblt⟩:=Own.mem oLW
            have hbne:b≠HW.next:=ne_idx (by omega)
            have hev:∀ (env:Tree AV) (X:Heap),gv env (.t p124)=.slice b 0 r.length cap ex→gv env (.t p126)=aN (bb+1)→elemIs X b 36=true→evalOp (.sliceSl 36 2 (.t p124) (some (.t p126)) none none) env X=some (.slice b o2 (r.length-(bb+1)) (cap-(bb+1)) ex,X):=fun env X h1 h2 h3=>by
              have hb2:boundO env (some (.t p126)) 0 r.length=some (bb+1):=by simp only [boundO,h2];exact bound_of (by omega)
              simp only [evalOp,h1,boundO,Option.bind_eq_bind,Option.bind_some]
              simp only [boundO] at hb2
              rw [hb2]
              simp only [Option.bind_some,h3,Bool.or_true,if_true,ho2]
              simp
            refine RO.gen (v:=.slice b o2 (r.length-(bb+1)) (cap-(bb+1)) ex) (H':=HU) (by intro f a h;cases h) (by intro a h;cases h) (fun env hle=>⟨HV.set HW.next .none,?_,?_⟩) (fun env hle=>rfl) ?_
            · have h119:env.get .undef p119=.slice HW.next 0 0 0 true:=hle.get rfl rfl
              simp only [hideAll,h119,nameOf]
              refine hev env _ (hle.gv rfl rfl) (hle.gv rfl rfl) ?_
              have:=Own.elem oLV
              simp only [elemIs,Heap.get_set,if_neg hbne] at this ⊢
              exact this
            · have h119:env.get .undef p119=.slice HW.next 0 0 0 true:=hle.get rfl rfl
              simp only [hideAll,h119,nameOf,showAll]
              exact hHU
            obtain ⟨sv3,H3,fp3,e3,o3,n3,h3a,h3b⟩:=oEU.append (ws:=flatP (r.take bb)) (k:=bb) (bytes:=16) (by rw [flatP_length,List.length_take];omega) (allOne_pairs _) (by omega) (by omega)
            have hdv3:=o3.sl.defd
            have htU:SlP HU (r.take bb) tv:=by
              have:=gU.sl htv
              unfold SlP
              rw [flatP_take,List.length_take,Nat.min_eq_left (by omega)];exact this
            have u3:Upd [HW.next] fp3 HU H3:=⟨n3,fun j hj=>(h3a j hj).imp id fun h=>h.1,h3b⟩
            have hEL:∀ j∈fpL,j∉[HW.next]:=fun j hj e=>by
              rw [List.mem_singleton] at e;subst e
              have:=oLW.below _ hj;omega
            have oL3:=u3.own oLU hEL
            refine RO.gen (v:=sv3) (H':=H3) (by intro f a h;cases h) (by intro a h;cases h) (fun env hle=>⟨H3,?_,rfl⟩) (fun env hle=>?_) ?_
            · have hlt:(r.take bb).length=bb:=by rw [List.length_take];omega
              have hsrc:=Sl.source htU
              rw [hlt] at hsrc
              simp only [hideAll,evalOp,Bool.false_eq_true,if_false,hle.gv (x:=.t p119) (v:=.slice HW.next 0 0 0 true) rfl rfl,hle.gv (x:=.t p122) (v:=tv) rfl hdt2,hsrc,e3]
            · have h127:env.get .undef p127=.slice b o2 (r.length-(bb+1)) (cap-(bb+1)) ex:=hle.get rfl rfl
              simp only [recheck,guardOk,if_true,hev env H3 (hle.gv rfl rfl) (hle.gv rfl rfl) (Own.elem oL3),h127,sameV,same1,Pos.beq_iff.2 rfl,Nat.beq_refl,beq_self_eq_true,Bool.and_self]
            have hts:=tail_sl oL3 (k:=bb+1) (by omega)
            rw [ho2] at hts
            refine RO.appendU o3 hts (allOne_pairs _) (fun sv4 H4 fp4 o4 u4=>?_) (hb:=by rw [List.length_drop];omega) (hn:=by rw [List.length_drop];omega)
            have hd4:=o4.sl.defd
            have o4':OwnP H4 fp4 36 (r.eraseIdx bb) true sv4:=by
              unfold OwnP
              rw [← take_drop_erase,flatP_append,List.length_append,List.length_take,List.length_drop,Nat.min_eq_left (by omega)]
              rw [List.length_drop] at o4
              simpa using o4
            repeat first|refine RO.mov ?_|refine RO.nil ?_
            refine Ru.exitTo ?_
            have hfar:∀ j∈fp4,HW.next.idx≤j.idx:=fun j hj=>by
              have n1:=gV.nx
              rcases u4.hd j hj with e | e
              · rcases u3.hd j e with e | e
                · rw [List.mem_singleton] at e;subst e;exact Nat.le_refl _
                · rw [hnx] at e;omega
              · have:=u3.nx;rw [hnx] at this;omega
            have gW4:Grew HW H4:=u4.grew (u3.grew (gV.trans gU) (fun j hj=>by rw [List.mem_singleton] at hj;subst hj;exact Nat.le_refl _)) (fun j hj=>by
              rcases u3.hd j hj with e | e
              · rw [List.mem_singleton] at e;subst e;exact Nat.le_refl _
              · have:=gV.nx;rw [hnx] at e;omega)
            exact Ru.weak (ih (hasc.erase k) (r.eraseIdx bb) H4 fp4 fpW sv4 sv' (done++[m]) hp2 (by rw [List.length_eraseIdx_of_lt hbb];omega) (by rw [← hout];simp) o4' (gW4.own oW) (gW.trans gW4) (fun j hj=>by have:=hfar j hj;have:=gW.nx;omega) aW (fun j hj hj'=>by have:=hfar j hj;have:=oW.below j hj';omega)) ⟨rfl,rfl,rfl,trivial⟩
          | @ring l rest m hm hfi hr ih =>
            intro hasc r HZ fpL fpO lv ov done hp hr50 hout oL oO gZ aL aO hdis
            have hrl:0<r.length:=by rw [← hp.length_eq];cases l with
              | nil=>cases hm
              | cons _ _=>simp
            obtain ⟨b,cap,ex,rfl⟩:=Own.shape oL (by omega)
            have hdo:=oO.sl.defd
            refine Ru.loop ?_
            repeat first|refine RO.mov ?_|refine RO.lenSl ?_|refine RO.nil ?_|refine Ru.region ?_|refine Ru.seq ?_|refine RO.gtrN ?_
            refine Ru.cond (fun _=>?_) (fun h=>?_)
            rotate_left
            · exact absurd hrl h
            repeat first|refine RO.mov ?_|refine RO.nil ?_|refine Ru.region ?_|refine Ru.seq ?_|refine Ru.block ?_|refine Ru.skip ?_
            refine Ru.weak (scan_ok hr50 hrl oL hdo fun v a hB hL=>?_) ⟨rfl,rfl,rfl,rfl,rfl,rfl,trivial⟩
            rcases hB with ⟨rfl,hB⟩ | ⟨bb,mm,rfl,hB1,hB2,hB3,hB4⟩
            rotate_left
            · obtain ⟨k',e1,_,_⟩:=Mv.pick_some hasc hp hB2 hB3 fun j o ho hf=>hB4 j o (List.getElem?_eq_some_iff.1 ho).1 ho hf
              rw [hfi] at e1;cases e1
            have hal:=hL.1
            have hra:r[a]?=some r[a]:=getElem?_pos r a hal
            have hhead:=Mv.pick_head hasc hp hra fun j o ho=>hL.2 _ j o hra (List.getElem?_eq_some_iff.1 ho).1 ho
            rw [hm] at hhead;injection hhead with hhead
            obtain ⟨ha1,_,_⟩:=pair_at oL.sl rfl hal
            have ha1':cellAt HZ b (0+a*2+0*1)=some (aI m.1):=by rw [Nat.zero_add,Nat.zero_mul,Nat.add_zero,ha1,hhead]
            have hol2:done.length+1≤out.length:=by rw [← hout];simp
            repeat first|refine RO.mov ?_|refine RO.nil ?_|refine Ru.region ?_|refine Ru.seq ?_|refine Ru.skip ?_|refine RO.geq ?_|refine RO.load1 ?_|refine RO.build ?_|refine Ru.condF ?_|refine RO.idxSl ?_|refine RO.idxArr ?_
            refine RO.pushP (m:=(sp,m.1)) oO rfl fun w sv' HW fpW oW uW=>?_
            have hdw:=oW.sl.defd
            have oLW:=uW.own oL hdis
            have gW:=uW.grew gZ aO
            have aW:=uW.above gZ aO
            have hdisW:∀ j∈fpL,j∉fpW:=uW.apart oL hdis
            repeat first|refine RO.mov ?_|refine RO.nil ?_|refine Ru.region ?_|refine Ru.seq ?_|refine Ru.block ?_
            refine Ru.name fun S8 hS8=>?_
            have loop8:∀ kk i,r.length-i=kk→i≤r.length→∀ (HB:Heap) (fpB:List Pos),OwnP HB fpB 36 ((r.take i).map (fun x=>if x.2=m.1 then (x.1,sp) else x)++r.drop i) true (.slice b 0 r.length cap ex)→Upd fpL fpB HW HB→Ru tbl (fcx [.tmp p6] K) S8 [(p2,aI sp),(p7,.slice b 0 r.length cap ex),(p8,sv'),(p11,aN a),(p15,aN i)] HB:=by
              subst hS8
              intro kk
              induction kk using Nat.strongRecOn with
              | ind kk ih8 =>
                intro i hkk hi HB fpB oB uB
                refine Ru.loop ?_
                repeat first|refine RO.mov ?_|refine RO.lenSl ?_|refine RO.lssN ?_|refine RO.nil ?_|refine Ru.region ?_|refine Ru.seq ?_
                refine Ru.cond (fun hlt=>?_) (fun hlt=>?_)
                · have hlc:((r.take i).map (fun x=>if x.2=m.1 then (x.1,sp) else x)++r.drop i).length=r.length:=by simp;omega
                  have hri:r[i]?=some r[i]:=getElem?_pos r i hlt
                  have hst:=respare_step (sp:=sp) (f:=m.1) hri
                  have hci:((r.take i).map (fun x=>if x.2=m.1 then (x.1,sp) else x)++r.drop i)[i]?=some r[i]:=by
                    rw [List.getElem?_append_right (by rw [List.length_map,List.length_take];omega),List.getElem?_drop,List.length_map,List.length_take,Nat.min_eq_left hi]
                    simpa using hri
                  have hca:∃ y,((r.take i).map (fun x=>if x.2=m.1 then (x.1,sp) else x)++r.drop i)[a]?=some y∧y.1=m.1:=by
                    by_cases hai:a<i
                    · refine ⟨if (r[a]).2=m.1 then ((r[a]).1,sp) else r[a],by rw [List.getElem?_append_left (by rw [List.length_map,List.length_take];omega),List.getElem?_map,List.getElem?_take_of_lt hai,hra];rfl,?_⟩
                      by_cases hc:(r[a]).2=m.1
                      · rw [if_pos hc];show (r[a]).1=m.1;rw [hhead]
                      · rw [if_neg hc,hhead]
                    · refine ⟨r[a],?_,by rw [hhead]⟩
                      rw [List.getElem?_append_right (by rw [List.length_map,List.length_take];omega),List.getElem?_drop,List.length_map,List.length_take,Nat.min_eq_left hi,show i+(a-i)=a by omega]
                      exact hra
                  obtain ⟨y,hy,hym⟩:=hca
                  obtain ⟨hyl,hye⟩:=List.getElem?_eq_some_iff.1 hy
                  obtain ⟨hcl,hce⟩:=List.getElem?_eq_some_iff.1 hci
                  obtain ⟨_,q2,_⟩:=pair_at oB.sl hlc hcl
                  obtain ⟨q1,_,_⟩:=pair_at oB.sl hlc hyl
                  rw [hce] at q2
                  rw [hye,hym] at q1
                  have q2':cellAt HB b (0+i*2+1*1)=some (aI r[i].2):=by rw [Nat.zero_add,Nat.mul_one];exact q2
                  have q1':cellAt HB b (0+a*2+0*1)=some (aI m.1):=by rw [Nat.zero_add,Nat.zero_mul,Nat.add_zero];exact q1
                  repeat first|refine RO.mov ?_|refine RO.nil ?_|refine Ru.region ?_|refine Ru.seq ?_|refine Ru.block ?_|refine Ru.skip ?_|refine RO.eql ?_|refine RO.load1 ?_|refine RO.idxSl ?_|refine RO.idxArr ?_
                  refine Ru.cond (fun he=>?_) (fun he=>?_)
                  · repeat first|refine RO.mov ?_|refine Ru.region ?_|refine RO.idxSl ?_|refine RO.idxArr ?_
                    obtain ⟨HD,hw,uD,oD⟩:=OwnP.set1 (by rw [hlc];exact oB) hci sp
                    refine RO.store (i:=b) (o:=0+i*2+1*1) (v:=aI sp) (by rw [Nat.zero_add,Nat.one_mul];exact hw) ?_
                    repeat first|refine RO.mov ?_|refine RO.nil ?_|refine Ru.region ?_|refine RO.inc ?_
                    refine Ru.weak (ih8 (r.length-(i+1)) (by omega) (i+1) rfl (by omega) HD [b] (by
                      rw [hst,if_pos he];rw [hlc] at oD;exact oD) (uB.trans uD)) ⟨rfl,rfl,rfl,rfl,rfl,trivial⟩
                  · repeat first|refine RO.mov ?_|refine RO.nil ?_|refine Ru.region ?_|refine Ru.skip ?_|refine RO.inc ?_
                    refine Ru.weak (ih8 (r.length-(i+1)) (by omega) (i+1) rfl (by omega) HB fpB (by
                      rw [hst,if_neg he]
                      rw [show (((r.take i).map (fun x=>if x.2=m.1 then (x.1,sp) else x)++r.drop i).set i r[i])=((r.take i).map (fun x=>if x.2=m.1 then (x.1,sp) else x)++r.drop i) from by
                        rw [← hce];exact List.set_getElem_self ..]
                      exact oB) uB) ⟨rfl,rfl,rfl,rfl,rfl,trivial⟩
                · have hie:i=r.length:=by omega
                  have hresp:((r.take i).map (fun x=>if x.2=m.1 then (x.1,sp) else x)++r.drop i)=Mv.respare sp m.1 r:=by
                    rw [hie,List.take_length,List.drop_length,List.append_nil];rfl
                  rw [hresp] at oB
                  have hlr:(Mv.respare sp m.1 r).length=r.length:=by simp [Mv.respare]
                  refine Ru.exitTo ?_
                  repeat first|refine Ru.blk ?_
                  exact Ru.weak (ih (hasc.respare sp m.1) (Mv.respare sp m.1 r) HB fpB fpW _ sv' (done++[(sp,m.1)]) (respare_perm hp sp m.1) (by omega) (by rw [← hout];simp) oB (uB.own oW (fun j hj hj'=>hdisW j hj' hj)) (uB.grew gW aL) (uB.above gW aL) aW (fun j hj hj'=>by
                    rcases uB.hd j hj with e | e
                    · exact hdisW j e hj'
                    · have:=oW.below j hj';omega)) ⟨rfl,rfl,rfl,trivial⟩
            exact Ru.weak (loop8 _ 0 rfl (by omega) HW fpL (by simpa using oLW) (Upd.refl _ _)) ⟨rfl,rfl,rfl,rfl,rfl,trivial⟩
        exact Ru.weak (main _ _ hord hasc _ HX fp fp2 lv ov2 [] (sortP_perm _) hfl rfl oX (uX.own o2 (fun j h1 h2=>hdis0 j h2 h1)) gX (uX.above gA a1) aO (fun j h1 h2=>by
          rcases uX.hd j h1 with e | e
          · exact hdis0 j e h2
          · have:=o2.below j h2;omega)) ⟨rfl,rfl,rfl,trivial⟩
  exact Ru.weak (loop _ 0 rfl (by omega) H2 fp1 lv1 (by simpa [OwnP,flatP] using o1') (Upd.refl _ _)) ⟨rfl,rfl,rfl,rfl,rfl,rfl,trivial⟩
end
end Go.Abs.R
