/- A part of the proof (an abstract machine, walks): no statement of its own, no conditions. -/
import Derived.Test.YtndbmjcpgefblaaGreatDoorB33
import Derived.Test.YtndbmjcpgefblaaGreatDoorA26
import Derived.Test.YtndbmjcpgefblaaGreatDoorA23
set_option linter.all false
namespace Go.Abs
variable {H H' A:Heap} {fp:List Pos} {e:Nat} {l:List (Int × Int)} {full:Bool} {sv:AV}
theorem sort_own {F:Nat} (ho:OwnP H fp e l full sv) (hn:(l.map (·.1)).Nodup) (hl:l.length≤4000000):∃ H' fp',gSortP F [sv,.func F [] []] H=some (.tuple [],H')∧OwnP H' fp' e (sortP l) full sv∧Upd fp fp' H H':=by
  have hsl:(sortP l).length=l.length:=(sortP_perm l).length_eq
  have hf1:=flatP_length l
  have hf2:=flatP_length (sortP l)
  rcases ho with ⟨rfl,hv,h0,rfl⟩ | ⟨i,c,par,cap,ex,rfl,rfl,hg,hcap,hlen,hc,hp,hfull⟩
  · have:l=[]:=List.eq_nil_of_length_eq_zero h0
    subst this
    exact ⟨H,[],rfl,.inl ⟨rfl,rfl,rfl,rfl⟩,Upd.refl _ _⟩
  · have ho:OwnP H (i::par) e l full (.slice i 0 l.length cap ex):=.inr ⟨i,c,par,cap,ex,rfl,rfl,hg,hcap,hlen,hc,hp,hfull⟩
    cases hll:l.length with
    | zero =>
      have:l=[]:=List.eq_nil_of_length_eq_zero hll
      subst this
      exact ⟨H,_,rfl,ho,Upd.refl _ _⟩
    | succ n =>
      obtain ⟨H',h1,h2,h3⟩:=Own.write ho (o:=0) (ws:=flatP (sortP l)) (us:=flatP (sortP l)) (by omega) (allOne_pairs _) (by omega) fun j hj=>by rw [if_pos (by omega),Nat.sub_zero]
      refine ⟨H',[i],?_,?_,h2⟩
      · have hpn:=pairsN_of (c:=c) (zs:=l) (o:=0) fun j hj=>by rw [Nat.zero_add];exact hc j hj
        rw [hll] at hpn
        have hcnd:(Nat.beq F F&&Nat.ble ((n+1)*2) (cap*2)&&Nat.ble n 4000000)=true:=by
          simp only [Bool.and_eq_true,Nat.beq_refl,true_and]
          exact ⟨Nat.ble_eq_true_of_le (by omega),Nat.ble_eq_true_of_le (by omega)⟩
        have hd:(decide (0≤0)&&decide (0+(flatP (sortP l)).length≤cap*2)&&allOne (flatP (sortP l)))=true:=by
          simp only [Bool.and_eq_true,decide_eq_true_eq,allOne_pairs,and_true];omega
        simp only [writeAt,hg,hd,if_true,Option.some.injEq] at h1
        simp only [gSortP,hg,hcnd,if_true,hpn,if_pos hn,h1]
      · unfold OwnP
        rw [hsl,← hll];exact h3
end Go.Abs
namespace Go.Abs.R
open Go.Abs Go.Abs.R1
variable {tbl:Nat→AFunc}
theorem respare_step {sp f:Int} {left:List (Int × Int)} {i:Nat} {z:Int × Int} (hz:left[i]?=some z):((left.take (i+1)).map (fun m=>if m.2=f then (m.1,sp) else m)++left.drop (i+1))=((left.take i).map (fun m=>if m.2=f then (m.1,sp) else m)++left.drop i).set i (if z.2=f then (z.1,sp) else z):=by
  obtain ⟨hi,e⟩:=List.getElem?_eq_some_iff.1 hz
  rw [List.take_succ_eq_append_getElem hi,List.map_append,e,List.set_append,if_neg (by rw [List.length_map,List.length_take];omega),List.length_map,List.length_take,Nat.min_eq_left (show i≤left.length by omega)]
  rw [List.drop_eq_getElem_cons hi,Nat.sub_self,List.set_cons_zero]
  simp
theorem inOrder_ok (c25:tbl 25=f25) (c51:tbl 51=f51) (c50:tbl 50=f50) (c52:tbl 52=f52) (s53:tbl 53=.prim (gSortP 54)) (c56:tbl 56=f56) (c57:tbl 57=f57) (c58:tbl 58=f58) (c59:tbl 59=f59) (c60:tbl 60=f60) (c61:tbl 61=f61) (c62:tbl 62=f62)
    {H:Heap} {l out:List (Int × Int)} {sv:AV} {sp:Int} {K:AV→Heap→Prop} (hs:SlP H l sv) (hl:l.length≤1000) (hn:(l.map (·.1)).Nodup) (ho:Mv.Ord sp (sortP (l.filter fun m=>!decide (m.2=m.1))) out) (hol:out.length≤100000)
    (hK:∀ sv' H',SlP H' out sv'→Grew H H'→K sv' H'):YF tbl (.func 25 [] []) [sv,aI sp] H K:=by
  have hd:=hs.defd
  refine YF.code c25 (by simp) ?_
  repeat first|refine RO.mov ?_|refine RO.nil ?_|refine Ru.region ?_|refine Ru.seq ?_
  refine RO.call (clone_ok c51 hs (by omega) fun sv1 H1 fp1 o1 g1 a1=>?_) (had:=by simp [hd])
  have hd1:=o1.sl.defd
  refine RO.call (delF_ok c50 c61 o1 (by omega) rfl (fun A l=>idle_ok c52 c56) fun sv2 H2 fp2 full2 o2 u2=>?_) (had:=by simp [hd1];rfl)
  have hd2:=o2.sl.defd
  refine RO.allocOne o2.sl.oneCell o2.sl.cells hd2 (by intro u;rfl) fun q H3 g3 hq3 hqn=>?_
  have o3:=g3.own o2
  have hc3:=hq3.cell
  repeat first|refine RO.nil ?_|refine Ru.region ?_|refine Ru.seq ?_|refine RO.load1 ?_
  have hl2:(l.filter fun m=>!decide (m.2=m.1)).length≤1000:=Nat.le_trans (List.length_filter_le ..) hl
  have hn2:((l.filter fun m=>!decide (m.2=m.1)).map (·.1)).Nodup:=hn.sublist (List.filter_sublist.map _)
  obtain ⟨H4,fp4,e4,o4,u4⟩:=sort_own (F:=54) o3 hn2 (by omega)
  refine RO.call (YF.prim s53 e4 ?_) (had:=by show (sv2.defd&&true)=true;rw [hd2];rfl)
  have hA:Above H fp2:=u2.above g1 a1
  have hqf:q∉fp2:=fun e=>by have:=o2.below q e;omega
  have hG3:Grew H H3:=(u2.grew g1 a1).trans g3
  have hG4:Grew H H4:=u4.grew hG3 hA
  have hA4:Above H fp4:=u4.above hG3 hA
  have hq4:One H4 q 59 sv2:=hq3.upd u4 hqf
  have hqf4:q∉fp4:=fun e=>by
    rcases u4.hd q e with e | e
    · exact hqf e
    · have:=hq3.lt;omega
  have hqA:H.next.idx≤q.idx:=by have:=(u2.grew g1 a1).nx;omega
  have hsl:(sortP (l.filter fun m=>!decide (m.2=m.1))).length≤1000:=by rw [(sortP_perm _).length_eq];exact hl2
  repeat first|refine RO.nil ?_|refine Ru.seq ?_|refine Ru.block ?_
  refine Ru.name fun S hS=>?_
  have loop:∀ left rest,Mv.Ord sp left rest→∀ (HX:Heap) (fpL fpO:List Pos) (lv ov:AV) (done:List (Int × Int)) (fullL:Bool),left.length≤1000→done++rest=out→OwnP HX fpL 60 left fullL lv→OwnP HX fpO 60 done true ov→One HX q 59 lv→Grew H HX→Above H fpL→Above H fpO→q∉fpL→q∉fpO→(∀ j∈fpL,j∉fpO)→Ru tbl (fcx [.tmp p4] K) S [(p1,aI sp),(p4,ov),(p5,.ptr q 0)] HX:=by
    subst hS
    intro left rest hord
    induction hord with
    | nil =>
      intro HX fpL fpO lv ov done fullL hll hout oL oO hq hG hAL hAO hqL hqO hdis
      have hc:=hq.cell
      have hlen:=oL.sl.len
      have hdl:=oL.sl.defd
      have hdo:=oO.sl.defd
      refine Ru.loop ?_
      repeat first|refine RO.lenSl ?_|refine RO.nil ?_|refine Ru.region ?_|refine Ru.seq ?_|refine RO.gtrN ?_|refine RO.load1 ?_|refine Ru.condF ?_
      refine Ru.exitTo ?_
      repeat first|refine RO.mov ?_|refine RO.nil ?_|refine Ru.region ?_|refine Ru.seq ?_
      refine Ru.ret1 (hK ov HX ?_ hG)
      rw [List.append_nil] at hout
      rw [← hout];exact oO.sl
    | @free left rest k m hf hm hr ih =>
      intro HX fpL fpO lv ov done fullL hll hout oL oO hq hG hAL hAO hqL hqO hdis
      obtain ⟨hkl,hkm⟩:=List.getElem?_eq_some_iff.1 hm
      obtain ⟨b,cap,ex,rfl⟩:=Own.shape oL (by omega)
      have hc:=hq.cell
      have hdo:=oO.sl.defd
      have hol2:done.length+1≤out.length:=by rw [← hout];simp
      refine Ru.loop ?_
      repeat first|refine RO.lenSl ?_|refine RO.nil ?_|refine Ru.region ?_|refine Ru.seq ?_|refine RO.gtrN ?_|refine RO.load1 ?_
      refine Ru.cond (fun _=>?_) (fun h=>?_)
      rotate_left
      · omega
      repeat first|refine RO.mov ?_|refine RO.nil ?_|refine Ru.region ?_|refine Ru.seq ?_|refine Ru.block ?_|refine Ru.skip ?_|refine RO.load1 ?_|refine RO.mkFunc ?_
      refine RO.call (indexP_ok c61 oL.sl (by omega) rfl (free_ok c57 c58 c61 c59 c56 c60 hq.lt hc oL.sl (by omega)) fun HY gY=>?_)
      rw [hf]
      simp only [idxV]
      have hqY:=hq.grew gY
      have hcY:=hqY.cell
      have oLY:=gY.own oL
      have oOY:=gY.own oO
      repeat first|refine RO.mov ?_|refine RO.lssN ?_|refine RO.nil ?_|refine Ru.region ?_|refine Ru.seq ?_|refine Ru.skip ?_|refine RO.load1 ?_|refine Ru.condF ?_
      refine RO.idxP oLY.sl fun q' o' z hz _ _ hrd _=>?_
      have hzm:z=m:=by rw [hm] at hz;injection hz with hz;exact hz.symm
      subst hzm
      repeat first|refine RO.loadN ?_
      refine RO.pushP (m:=z) oOY rfl fun w sv' HZ fpZ oOZ uZ=>?_
      have hqZ:=hqY.upd uZ hqO
      have hcZ:=hqZ.cell
      have oLZ:=uZ.own oLY hdis
      have hdz:=oOZ.sl.defd
      have hdisZ:∀ j∈fpL,j∉fpZ:=uZ.apart oLY hdis
      repeat first|refine RO.mov ?_|refine RO.nil ?_|refine Ru.region ?_|refine RO.inc ?_|refine RO.load1 ?_
      refine RO.call (del_ok c62 oLZ (by omega) hkl fun HV fpV oLV uV=>?_)
      have hGY:=hG.trans gY
      have hGZ:=uZ.grew hGY hAO
      have hAOZ:=uZ.above hGY hAO
      have hqOZ:q∉fpZ:=fun e=>by
        rcases uZ.hd q e with e | e
        · exact hqO e
        · have:=hqY.lt;omega
      have hqV:=hqZ.upd uV hqL
      have oOV:=uV.own oOZ (fun j hj hj'=>hdisZ j hj' hj)
      have hGV:=uV.grew hGZ hAL
      have hALV:=uV.above hGZ hAL
      have hqLV:q∉fpV:=fun e=>by
        rcases uV.hd q e with e | e
        · exact hqL e
        · have:=hqZ.lt;omega
      have hdisV:∀ j∈fpV,j∉fpZ:=fun j hj hj'=>by
        rcases uV.hd j hj with e | e
        · exact hdisZ j e hj'
        · have:=oOZ.below j hj';omega
      refine RO.store1 (w:=.slice b 0 (left.eraseIdx k).length cap ex) hqV fun HW uW hqW=>?_
      have oLW:=uW.own oLV (fun j hj e=>by rw [List.mem_singleton] at e;subst e;exact hqLV hj)
      have oOW:=uW.own oOV (fun j hj e=>by rw [List.mem_singleton] at e;subst e;exact hqOZ hj)
      have hGW:Grew H HW:=uW.grew hGV (fun j hj=>by rw [List.mem_singleton] at hj;subst hj;exact hqA)
      repeat first|refine RO.nil ?_|refine Ru.blk ?_
      exact Ru.weak (ih HW fpV fpZ _ sv' (done++[z]) false (by rw [List.length_eraseIdx_of_lt hkl];omega) (by rw [← hout];simp) oLW oOW hqW hGW hALV hAOZ hqLV hqOZ hdisV) ⟨rfl,rfl,rfl,trivial⟩
    | @ring left rest m hm hf hr ih =>
      intro HX fpL fpO lv ov done fullL hll hout oL oO hq hG hAL hAO hqL hqO hdis
      have hpos:0<left.length:=by cases left with
        | nil=>cases hm
        | cons a l=>simp
      have hm0:left[0]?=some m:=by rw [← List.head?_eq_getElem?];exact hm
      obtain ⟨b,cap,ex,rfl⟩:=Own.shape oL (by omega)
      have hc:=hq.cell
      have hdo:=oO.sl.defd
      have hol2:done.length+1≤out.length:=by rw [← hout];simp
      refine Ru.loop ?_
      repeat first|refine RO.lenSl ?_|refine RO.nil ?_|refine Ru.region ?_|refine Ru.seq ?_|refine RO.gtrN ?_|refine RO.load1 ?_
      refine Ru.cond (fun _=>?_) (fun h=>?_)
      rotate_left
      · exact absurd hpos h
      repeat first|refine RO.mov ?_|refine RO.nil ?_|refine Ru.region ?_|refine Ru.seq ?_|refine Ru.block ?_|refine Ru.skip ?_|refine RO.load1 ?_|refine RO.mkFunc ?_
      refine RO.call (indexP_ok c61 oL.sl (by omega) rfl (free_ok c57 c58 c61 c59 c56 c60 hq.lt hc oL.sl (by omega)) fun HY gY=>?_)
      rw [hf]
      simp only [idxV]
      have hqY:=hq.grew gY
      have hcY:=hqY.cell
      have oLY:=gY.own oL
      have oOY:=gY.own oO
      repeat first|refine RO.mov ?_|refine RO.lss ?_|refine RO.nil ?_|refine Ru.region ?_|refine Ru.seq ?_|refine RO.load1 ?_|refine Ru.condT ?_
      refine RO.idxP (j:=0) oLY.sl fun q' o' z hz _ _ hrd _=>?_
      have hzm:z=m:=by rw [hm0] at hz;injection hz with hz;exact hz.symm
      subst hzm
      repeat first|refine RO.loadN ?_
      refine RO.call (to_ok c56 (m:=z) fun HY2 gY2=>?_)
      have hqY2:=hqY.grew gY2
      have oLY2:=gY2.own oLY
      have oOY2:=gY2.own oOY
      repeat first|refine RO.mov ?_|refine RO.nil ?_|refine Ru.region ?_|refine Ru.seq ?_|refine RO.build ?_
      refine RO.pushP (m:=(sp,z.1)) oOY2 rfl fun w sv' HZ fpZ oOZ uZ=>?_
      have hqZ:=hqY2.upd uZ hqO
      have hcZ:=hqZ.cell
      have oLZ:=uZ.own oLY2 hdis
      have hdz:=oOZ.sl.defd
      have hdisZ:∀ j∈fpL,j∉fpZ:=uZ.apart oLY2 hdis
      have hGY:=(hG.trans gY).trans gY2
      have hGZ:=uZ.grew hGY hAO
      have hAOZ:=uZ.above hGY hAO
      have hqOZ:q∉fpZ:=fun e=>by
        rcases uZ.hd q e with e | e
        · exact hqO e
        · have:=hqY2.lt;omega
      repeat first|refine RO.mov ?_|refine RO.lenSl ?_|refine RO.nil ?_|refine Ru.region ?_|refine Ru.seq ?_|refine Ru.block ?_|refine RO.load1 ?_
      refine Ru.name fun S2 hS2=>?_
      have loop2:∀ kk i,left.length-i=kk→i≤left.length→∀ (HB:Heap) (fpB:List Pos),OwnP HB fpB 60 ((left.take i).map (fun m=>if m.2=z.1 then (m.1,sp) else m)++left.drop i) fullL (.slice b 0 left.length cap ex)→Upd fpL fpB HZ HB→Ru tbl (fcx [.tmp p4] K) S2 [(p1,aI sp),(p4,sv'),(p5,.ptr q 0),(p8,aI z.1),(p35,aN left.length),(p36,aN i)] HB:=by
        subst hS2
        intro kk
        induction kk using Nat.strongRecOn with
        | ind kk ih2 =>
          intro i hk hi HB fpB oB uB
          have hqB:=hqZ.upd uB hqL
          have hcB:=hqB.cell
          have hqLB:q∉fpB:=fun e=>by
            rcases uB.hd q e with e | e
            · exact hqL e
            · have:=hqZ.lt;omega
          refine Ru.loop ?_
          repeat first|refine RO.lssN ?_|refine RO.nil ?_|refine Ru.region ?_|refine Ru.seq ?_
          refine Ru.cond (fun h=>?_) (fun h=>?_)
          · repeat first|refine RO.mov ?_|refine RO.nil ?_|refine Ru.region ?_|refine Ru.seq ?_|refine Ru.block ?_|refine Ru.skip ?_|refine RO.load1 ?_
            have hlci:((left.take i).map (fun m=>if m.2=z.1 then (m.1,sp) else m)++left.drop i).length=left.length:=by simp;omega
            have hsB:SlP HB ((left.take i).map (fun m=>if m.2=z.1 then (m.1,sp) else m)++left.drop i) (.slice b 0 left.length cap ex):=oB.sl
            refine RO.idxP (j:=i) hsB (fun q2 o2 y hy _ _ hrd2 _=>?_) (hj:=by omega)
            have hyl:left[i]?=some y:=by
              rw [List.getElem?_append_right (by rw [List.length_map,List.length_take];omega),List.getElem?_drop,List.length_map,List.length_take,Nat.min_eq_left hi] at hy
              simpa using hy
            have hst:=respare_step (sp:=sp) (f:=z.1) hyl
            repeat first|refine RO.loadN ?_
            refine RO.call (from_ok c60 (m:=y) fun HC gC=>?_)
            have hqC:=hqB.grew gC
            have hcC:=hqC.cell
            have oC:=gC.own oB
            repeat first|refine RO.mov ?_|refine RO.nil ?_|refine RO.eql ?_
            refine Ru.cond (fun he=>?_) (fun he=>?_)
            · repeat first|refine RO.mov ?_|refine Ru.region ?_|refine RO.load1 ?_
              refine RO.idxSl ?_
              refine RO.idxArr ?_
              obtain ⟨HD,hw,uD,oD⟩:=OwnP.set1 (by rw [hlci];exact oC) hy sp
              refine RO.store (i:=b) (o:=0+i*2+1*1) (v:=aI sp) (by rw [Nat.zero_add,Nat.one_mul];exact hw) ?_
              repeat first|refine RO.mov ?_|refine RO.nil ?_|refine Ru.region ?_|refine RO.inc ?_
              refine Ru.weak (ih2 (left.length-(i+1)) (by omega) (i+1) rfl (by omega) HD [b] (by
                rw [hst,if_pos he];rw [hlci] at oD;exact oD) ((uB.trans (gC.upd fpB)).trans uD)) ⟨rfl,rfl,rfl,rfl,rfl,rfl,trivial⟩
            · repeat first|refine RO.mov ?_|refine RO.nil ?_|refine Ru.region ?_|refine Ru.skip ?_|refine RO.inc ?_
              refine Ru.weak (ih2 (left.length-(i+1)) (by omega) (i+1) rfl (by omega) HC fpB (by
                rw [hst,if_neg he]
                rw [show (((left.take i).map (fun m=>if m.2=z.1 then (m.1,sp) else m)++left.drop i).set i y)=((left.take i).map (fun m=>if m.2=z.1 then (m.1,sp) else m)++left.drop i) from by
                  obtain ⟨h1,h2⟩:=List.getElem?_eq_some_iff.1 hy
                  rw [← h2];exact List.set_getElem_self ..]
                exact oC) (uB.trans (gC.upd fpB))) ⟨rfl,rfl,rfl,rfl,rfl,rfl,trivial⟩
          · have hie:i=left.length:=by omega
            have hresp:((left.take i).map (fun m=>if m.2=z.1 then (m.1,sp) else m)++left.drop i)=Mv.respare sp z.1 left:=by
              rw [hie,List.take_length,List.drop_length,List.append_nil];rfl
            rw [hresp] at oB
            refine Ru.exitTo ?_
            refine Ru.exitTo ?_
            have oOB:=uB.own oOZ (fun j hj hj'=>hdisZ j hj' hj)
            have hdisB:∀ j∈fpB,j∉fpZ:=fun j hj hj'=>by
              rcases uB.hd j hj with e | e
              · exact hdisZ j e hj'
              · have:=oOZ.below j hj';omega
            have hlr:(Mv.respare sp z.1 left).length=left.length:=by simp [Mv.respare]
            exact Ru.weak (ih HB fpB fpZ _ sv' (done++[(sp,z.1)]) fullL (by omega) (by rw [← hout];simp) oB oOB hqB (uB.grew hGZ hAL) (uB.above hGZ hAL) hAOZ hqLB hqOZ hdisB) ⟨rfl,rfl,rfl,trivial⟩
      refine Ru.weak (loop2 _ 0 rfl (by omega) HZ fpL (by simpa using oLZ) (Upd.refl _ _)) ⟨rfl,rfl,rfl,rfl,rfl,rfl,trivial⟩
  refine Ru.weak (loop _ _ ho H4 fp4 [] sv2 .nilslice [] full2 hsl rfl o4 (.inl ⟨rfl,rfl,rfl,rfl⟩) hq4 hG4 hA4 (fun j hj=>by cases hj) hqf4 (fun h=>by cases h) (fun j _ h=>by cases h)) ⟨rfl,rfl,rfl,trivial⟩
end Go.Abs.R
namespace Go.Abs
variable {tbl:Nat→AFunc} {c:Cx} {s:List SI} {L:Kn} {H H' A:Heap} {d:Option Pos} {l:List AOper} {size n e k cap bytes:Nat} {vs ws:List AV} {sv:AV} {fp fp':List Pos} {full ex:Bool} {i:Pos}
theorem Own.fit (h:Own H fp e size vs n full (.slice i 0 n cap ex)) (hw:ws.length=k*size) (h1:allOne ws=true) (hfit:n+k≤cap) :
    ∃ H' fp',appendV e bytes size H (.slice i 0 n cap ex) k ws=some (.slice i 0 (n+k) cap ex,H')∧Own H' fp' e size (vs++ws) (n+k) false (.slice i 0 (n+k) cap ex)∧Upd fp fp' H H':=by
  rcases h with ⟨_,_,_,h⟩ | ⟨i',c,par,cap',ex',rfl,h2,hg,hcap,hl,hc,hp,hfull⟩
  · cases h
  injection h2 with h2 _ _ h3 h4
  subst h2;subst h3;subst h4
  have hb1:Nat.ble (n+k) cap=true:=Nat.ble_eq_true_of_le hfit
  by_cases hk:k=0
  · subst hk
    have hws:ws=[]:=List.eq_nil_of_length_eq_zero (by omega)
    subst hws
    refine ⟨H,i::par,?_,?_,Upd.refl _ _⟩
    · simp only [appendV,h1,Bool.not_true,Bool.false_eq_true,if_false,hb1,if_true,Nat.beq_refl]
    · exact .inr ⟨i,c,par,cap,ex,rfl,rfl,hg,hcap,by simpa using hl,by simpa using hc,hp,fun h=>by cases h⟩
  · have hk0:Nat.beq k 0=false:=by cases h:Nat.beq k 0 with | false=>rfl | true=>exact absurd (Nat.eq_of_beq_eq_true h) hk
    have hroom:n*size+ws.length≤cap*size:=by rw [hw,← Nat.add_mul];exact Nat.mul_le_mul_right _ hfit
    have hwr:writeAt H i (0+n*size) ws=some ((H.drops par).set i (.cells (writeCells c (0+n*size) ws) (cap*size) e true [] 0)):=by
      have hd:(decide (0≤0+n*size)&&decide (0+n*size+ws.length≤cap*size)&&allOne ws)=true:=by
        simp only [Bool.and_eq_true,decide_eq_true_eq,h1,and_true];omega
      simp only [writeAt,hg,hd,if_true]
    refine ⟨(H.drops par).set i (.cells (writeCells c (0+n*size) ws) (cap*size) e true [] 0),[i],by simp only [appendV,h1,Bool.not_true,Bool.false_eq_true,if_false,hb1,if_true,hk0,hwr],?_,⟨?_,?_,?_⟩⟩
    · refine .inr ⟨i,writeCells c (0+n*size) ws,[],cap,ex,rfl,rfl,by rw [Heap.get_set,if_pos rfl],hfit,by rw [List.length_append,hl,hw,Nat.add_mul],fun j hj=>?_,fun p hp'=>?_,fun hf=>by cases hf⟩
      · rw [writeCells_get]
        rw [List.length_append] at hj
        by_cases hjn:j<vs.length
        · rw [if_neg (by omega),hc j hjn,List.getElem_append_left hjn]
        · rw [if_pos (by omega),List.getElem_append_right (by omega)]
          have:j-(0+n*size)<ws.length:=by omega
          simp only [List.getD_eq_getElem?_getD,this,getElem?_pos,Option.getD_some]
          congr 1;omega
      · rw [List.mem_singleton] at hp';subst hp'
        rw [Heap.next_set,Heap.next_drops];exact hp _ (List.mem_cons_self ..)
    · rw [Heap.next_set,Heap.next_drops];exact Nat.le_refl _
    · intro j hj;rw [List.mem_singleton] at hj;subst hj;exact .inl (List.mem_cons_self ..)
    · intro j hj _
      rw [Heap.get_set,if_neg fun e:j=i=>hj (by rw [e];exact List.mem_cons_self ..),Heap.get_drops,if_neg fun e=>hj (List.mem_cons_of_mem _ e)]
theorem RO.appendFit {x y:Opd} {yv:AV} {zs:List AV} (ho:Own H fp e size vs n full (.slice i 0 n cap ex)) (hs:Sl H size ws k yv) (h1:allOne ws=true) (hfit:n+k≤cap) (h:∀ H' fp',Own H' fp' e size (vs++ws) (n+k) false (.slice i 0 (n+k) cap ex)→Upd fp fp' H H'→RO tbl c l s (setL L d (.slice i 0 (n+k) cap ex)) H') (hx:gvL L x=.slice i 0 n cap ex:=by (conv=>lhs;whnf)<;>rfl) (hy:gvL L y=yv:=by (conv=>lhs;whnf)<;>rfl) :
    RO tbl c (⟨d,.append e bytes size zs false x y,none,[],[]⟩::l) s L H:=by
  obtain ⟨H',fp',h2,h3,h4⟩:=ho.fit (bytes:=bytes) hs.length h1 hfit
  exact RO.append hs.source h2 (h H' fp' h3 h4) hx rfl hy hs.defd
theorem RO.cap0 {x:Opd} (h:RO tbl c l s (setL L d (.int 3 (.ofNat 0))) H) (hx:gvL L x=.nilslice:=by (conv=>lhs;whnf)<;>rfl):RO tbl c (⟨d,.cap x,none,[],[]⟩::l) s L H :=
  RO.op (fun env hle=>by simp only [evalOp,hle.gv hx rfl]) h
theorem RO.appendMk {x y:Opd} {z:AV} {m:Nat} (h:RO tbl c l s (setL L d (.slice H.next 0 (m+1) (m+1) false)) (H.new (.cells (mkCells (reps [z] (m+1))) ((m+1)*1) e true [] 0))) (hz:z.oneCell=true) (hb:(m+1)*bytes≤70368744177664) (hm:m+1≤70368744177664) (hx:gvL L x=.nilslice:=by (conv=>lhs;whnf)<;>rfl) (hy:gvL L y=.int 3 (.ofNat (m+1)):=by (conv=>lhs;whnf)<;>rfl) :
    RO tbl c (⟨d,.append e bytes 1 [z] true x y,none,[],[]⟩::l) s L H:=by
  have h1:∀ n,allOne (reps [z] n)=true:=fun n=>by
    induction n with
    | zero=>rfl
    | succ n ih=>simp only [reps,List.cons_append,List.nil_append,allOne,hz,ih,Bool.and_self]
  have h2:(small ((m+1)*bytes)&&small (m+1))=true:=by rw [small_of hb,small_of hm];rfl
  have h3:Nat.beq (m+1) 0=false:=rfl
  exact RO.op (fun env hle=>by simp only [evalOp,if_true,hle.gv hx rfl,hle.gv hy rfl,h2,appendV,h1,Bool.not_true,Bool.false_eq_true,if_false,h3]) h
theorem Own.wr (h:Own H fp e size vs n full (.slice i 0 n cap ex)) {o:Nat} (ho:o+ws.length≤cap*size) (h1:allOne ws=true) :
    ∃ H' us,us.length=vs.length∧writeAt H i o ws=some H'∧Upd fp [i] H H'∧Own H' [i] e size us n full (.slice i 0 n cap ex):=by
  obtain ⟨H',g1,g2,g3⟩:=Own.write h ho h1 (us:=(List.range vs.length).map fun j=>if o≤j∧j<o+ws.length then ws.getD (j-o) .undef else vs.getD j .undef) (by simp) fun j hj=>by
    rw [List.getElem?_map,List.getElem?_range hj]
    simp only [Option.map_some]
    split
    · rename_i hc
      rw [getElem?_pos ws _ (by omega)];simp [List.getD_eq_getElem?_getD,show j-o<ws.length by omega]
    · rw [getElem?_pos vs _ hj];simp [List.getD_eq_getElem?_getD,hj]
  exact ⟨H',_,by simp,g1,g2,g3⟩
abbrev OwnI (H:Heap) (fp:List Pos) (e:Nat) (zs:List Int) (full:Bool) (sv:AV):Prop:=Own H fp e 1 (zs.map aI) zs.length full sv
theorem OwnI.set {zs:List Int} (h:OwnI H fp e zs full (.slice i 0 zs.length cap ex)) {k:Nat} (hk:k<zs.length) (z:Int):∃ H',writeAt H i (k*1) [aI z]=some H'∧Upd fp [i] H H'∧OwnI H' [i] e (zs.set k z) full (.slice i 0 zs.length cap ex):=by
  have hm:=(Own.mem h).2.1
  have:=Own.write h (o:=k*1) (ws:=[aI z]) (us:=(zs.set k z).map aI) (by simp;omega) rfl (by simp) fun j hj=>by
    rw [List.getElem?_map,List.getElem?_set,List.getElem?_map]
    have hkl:j<zs.length:=by simpa using hj
    by_cases hc:k=j
    · subst hc;simp [hk]
    · rw [if_neg hc,if_neg (by simp;omega)]
  unfold OwnI
  rw [List.length_set];exact this
theorem RO.pushI {q:Pos} {x y:Opd} {z:Int} {zs:List AV} {zl:List Int} (ho:OwnI H fp 3 zl true sv)
    (h:∀ w sv' H' fp',OwnI H' fp' 3 (zl++[z]) true sv'→Upd fp fp' H H'→RO tbl c l s (setL ((q,w)::L) d sv') H')
    (hx:gvL L x=aI z:=by (conv=>lhs;whnf)<;>rfl) (hy:∀ w,gvL ((q,w)::L) y=sv:=by (intro w;conv=>lhs;whnf)<;>rfl) (hn:zl.length+1≤1000000:=by omega) :
    RO tbl c (⟨some q,.buildSlice 3 1 [.int 3 (.ofNat 0)] [(0,1,x)],none,[],[]⟩::⟨d,.append 3 8 1 zs false y (.t q),none,[],[]⟩::l) s L H:=by
  have hlay:layL L (reps [.int 3 (.ofNat 0)] 1) [(0,1,x)]=some [aI z]:=by
    simp only [layL,hx];rfl
  refine RO.buildSlice ?_ hlay
  have hg:Grew H (H.new (.cells (mkCells [aI z]) 1 3 true [] 0)):=Grew.new H _
  have hs:Sl (H.new (.cells (mkCells [aI z]) 1 3 true [] 0)) 1 [aI z] 1 (.slice H.next 0 1 1 true):=(Own.new (H:=H) (e:=3) (size:=1) (n:=1) (vs:=[aI z]) rfl true true).sl
  refine RO.appendO (hg.own ho) hs rfl (fun sv' H' fp' h1 h2 h3 h4=>?_) (hy _) (by show lk (setL L (some q) _) q=_;simp only [setL,lk,Pos.beq_iff.2 rfl]) (by omega) (by omega)
  refine h _ sv' H' fp' ?_ ?_
  · unfold OwnI
    rw [List.map_append,List.length_append];exact h1
  · exact (hg.upd fp).trans ⟨h2,fun j hj=>(h3 j hj).imp id fun h=>h.1,h4⟩
end Go.Abs
namespace Go.Abs.R
open Go.Abs Go.Abs.R1
variable {tbl:Nat→AFunc}
theorem grow_ok (c44:tbl 44=f44) {H:Heap} {n:Nat} {K:AV→Heap→Prop} (hn:n≤1000000) (hK:∀ sv' H' fp',Own H' fp' 3 1 [] 0 false sv'→(sv'=.nilslice∧n=0∨∃ b,sv'=.slice b 0 0 n false)→Grew H H'→Above H fp'→K sv' H'):YF tbl (.func 44 [] []) [.nilslice,aN n] H K:=by
  refine YF.code c44 (by simp) ?_
  repeat first|refine RO.mov ?_|refine RO.lssN ?_|refine RO.nil ?_|refine Ru.region ?_|refine Ru.seq ?_|refine Ru.skip ?_|refine Ru.condF ?_
  refine RO.cap0 ?_
  repeat first|refine RO.mov ?_|refine RO.lenSl ?_
  refine RO.arith (v:=aN 0) ?_ (hv:=by rfl)
  refine RO.arith (v:=aN n) ?_ (hv:=by
    simp only [arithV]
    rw [show (Int.ofNat n-Int.ofNat 0:Int)=Int.ofNat n from Int.sub_zero _,wrapF_int (by simp) (by simp;omega)])
  repeat first|refine RO.mov ?_|refine RO.nil ?_|refine Ru.region ?_|refine Ru.seq ?_|refine RO.gtrN ?_
  refine Ru.cond (fun h=>?_) (fun h=>?_)
  · obtain ⟨m,rfl⟩:∃ m,n=m+1:=⟨n-1,by omega⟩
    repeat first|refine RO.mov ?_|refine Ru.region ?_
    refine RO.cap0 ?_
    refine RO.sliceNil (m:=0) (b:=0) (a:=0) rfl rfl rfl rfl ?_
    repeat first|refine RO.mov ?_
    refine RO.appendMk (m:=m) ?_ rfl (by omega) (by omega)
    repeat first|refine RO.mov ?_|refine RO.lenSl ?_
    refine RO.sliceV (m:=m+1) (b:=0) (a:=0) rfl rfl rfl rfl rfl (v:=.slice H.next 0 0 (m+1) false) rfl ?_
    repeat first|refine RO.mov ?_|refine RO.nil ?_|refine Ru.region ?_|refine Ru.seq ?_
    refine Ru.ret1 (hK _ _ [H.next] (.inr ⟨H.next,_,[],m+1,false,rfl,rfl,by rw [Heap.get_new,if_pos rfl],Nat.zero_le _,rfl,fun j hj=>by simp at hj,fun p hp=>?_,fun h=>by cases h⟩) (.inr ⟨_,rfl⟩) (Grew.new H _) fun j hj=>?_)
    · rw [List.mem_singleton] at hp;subst hp;rw [Heap.next_new];omega
    · rw [List.mem_singleton] at hj;subst hj;exact Nat.le_refl _
  · have:n=0:=by omega
    subst this
    repeat first|refine RO.mov ?_|refine RO.nil ?_|refine Ru.region ?_|refine Ru.seq ?_|refine Ru.skip ?_
    exact Ru.ret1 (hK _ _ [] (.inl ⟨rfl,rfl,rfl,rfl⟩) (.inl ⟨rfl,rfl⟩) (Grew.refl _) fun j hj=>by cases hj)
theorem app_any (tbl:Nat→AFunc) {c:Cx} {s:List SI} {L:Kn} {d:Option Pos} {l:List AOper} {H:Heap} {x y:Opd} {yv sv:AV} {n k N:Nat} {zs vs ws:List AV} {fp:List Pos} (ho:Own H fp 3 1 vs n false sv) (hcap:sv=.nilslice∧N=0∨∃ b,sv=.slice b 0 n N false) (hs:Sl H 1 ws k yv) (h1:allOne ws=true) (hfit:n+k≤N)
    (h:∀ sv' H' fp',Own H' fp' 3 1 (vs++ws) (n+k) false sv'→(sv'=.nilslice∧N=0∨∃ b,sv'=.slice b 0 (n+k) N false)→Upd fp fp' H H'→RO tbl c l s (setL L d sv') H') (hx:gvL L x=sv:=by (conv=>lhs;whnf)<;>rfl) (hy:gvL L y=yv:=by (conv=>lhs;whnf)<;>rfl) :
    RO tbl c (⟨d,.append 3 8 1 zs false x y,none,[],[]⟩::l) s L H:=by
  rcases hcap with ⟨rfl,h0⟩ | ⟨b,rfl⟩
  · have hn:n=0:=by omega
    have hk:k=0:=by omega
    subst hn;subst hk
    have hws:ws=[]:=List.eq_nil_of_length_eq_zero (by have:=hs.length;omega)
    subst hws
    have hvs:vs=[]:=List.eq_nil_of_length_eq_zero (by have:=ho.sl.length;omega)
    subst hvs
    exact RO.append hs.source (r:=(.nilslice,H)) (by simp [appendV,allOne]) (h .nilslice H fp ho (.inl ⟨rfl,h0⟩) (Upd.refl _ _)) hx rfl hy hs.defd
  · exact RO.appendFit ho hs h1 hfit (fun H' fp' h2 h3=>h _ H' fp' h2 (.inr ⟨b,rfl⟩) h3) hx hy
theorem concat_ok (c19:tbl 19=f19) (c44:tbl 44=f44) {H:Heap} {la lb:List Int} {sa sb cv:AV} {K:AV→Heap→Prop} (ha:SlI H la sa) (hb:SlI H lb sb) (hc:Sl H 1 [sa,sb] 2 cv) (hla:la.length≤1000) (hlb:lb.length≤1000) (hK:∀ sv' H',SlI H' (la++lb) sv'→Grew H H'→K sv' H'):YF tbl (.func 19 [] []) [cv] H K:=by
  obtain ⟨b,o,cap,ex,rfl,_,_,hat,_⟩:=hc.at (by omega)
  have h0:=hat 0 (by simp)
  have h1:=hat 1 (by simp)
  simp only [List.getElem_cons_zero,List.getElem_cons_succ] at h0 h1
  have hda:=ha.defd;have hdb:=hb.defd;have hna:=ha.len;have hnb:=hb.len
  refine YF.code c19 (by simp) ?_
  repeat first|refine RO.mov ?_|refine RO.lenSl ?_|refine RO.nil ?_|refine Ru.region ?_|refine Ru.seq ?_|refine Ru.block ?_
  refine Ru.loop ?_
  repeat first|refine RO.lssN ?_|refine RO.nil ?_|refine Ru.region ?_|refine Ru.seq ?_|refine Ru.block ?_|refine Ru.skip ?_|refine Ru.condT ?_
  refine RO.idxSl (j:=0) ?_
  refine RO.load1 ?_ (hc:=h0)
  repeat first|refine RO.mov ?_|refine RO.lenSl ?_|refine RO.lssN ?_|refine RO.nil ?_|refine Ru.region ?_|refine Ru.seq ?_|refine Ru.skip ?_|refine RO.inc ?_|refine Ru.condF ?_
  refine Ru.loop ?_
  repeat first|refine RO.lssN ?_|refine RO.nil ?_|refine Ru.region ?_|refine Ru.seq ?_|refine Ru.block ?_|refine Ru.skip ?_|refine Ru.condT ?_
  refine RO.idxSl (j:=1) ?_
  refine RO.load1 ?_ (hc:=h1)
  repeat first|refine RO.mov ?_|refine RO.lenSl ?_|refine RO.lssN ?_|refine RO.nil ?_|refine Ru.region ?_|refine Ru.seq ?_|refine Ru.skip ?_|refine RO.inc ?_|refine Ru.condF ?_
  refine Ru.loop ?_
  repeat first|refine RO.lssN ?_|refine RO.nil ?_|refine Ru.region ?_|refine Ru.seq ?_|refine Ru.condF ?_
  refine Ru.exitTo ?_
  repeat first|refine RO.mov ?_|refine Ru.region ?_|refine Ru.seq ?_
  refine RO.call (grow_ok c44 (n:=0+la.length+lb.length) (by omega) fun sv1 H1 fp1 o1 s1 g1 a1=>?_)
  have hd1:=o1.sl.defd
  have h0':cellAt H1 b (o+0)=some sa:=by rw [g1.cellAt ‹_›];exact h0
  have h1':cellAt H1 b (o+1)=some sb:=by rw [g1.cellAt ‹_›];exact h1
  repeat first|refine RO.mov ?_|refine RO.lenSl ?_|refine RO.nil ?_|refine Ru.region ?_|refine Ru.seq ?_|refine Ru.block ?_
  refine Ru.loop ?_
  repeat first|refine RO.lssN ?_|refine RO.nil ?_|refine Ru.region ?_|refine Ru.seq ?_|refine Ru.block ?_|refine Ru.skip ?_|refine Ru.condT ?_
  refine RO.idxSl (j:=0) ?_
  refine RO.load1 ?_ (hc:=h0')
  repeat first|refine RO.mov ?_|refine RO.nil ?_|refine Ru.region ?_
  refine app_any tbl o1 s1 (g1.sl ha) (allOne_ints la) (by omega) (fun sv2 H2 fp2 o2 s2 u2=>?_)
  have hd2:=o2.sl.defd
  have hbn:b∉fp1:=fun e=>by have:=a1 b e;omega
  have h1'':cellAt H2 b (o+1)=some sb:=by rw [cellAt_congr (u2.old b hbn (by have:=g1.nx;omega))];exact h1'
  have g2:=u2.grew g1 a1
  repeat first|refine RO.mov ?_|refine RO.nil ?_|refine Ru.region ?_|refine RO.inc ?_
  refine Ru.loop ?_
  repeat first|refine RO.lssN ?_|refine RO.nil ?_|refine Ru.region ?_|refine Ru.seq ?_|refine Ru.block ?_|refine Ru.skip ?_|refine Ru.condT ?_
  refine RO.idxSl (j:=1) ?_
  refine RO.load1 ?_ (hc:=h1'')
  repeat first|refine RO.mov ?_|refine RO.nil ?_|refine Ru.region ?_
  refine app_any tbl o2 s2 (g2.sl hb) (allOne_ints lb) (by omega) (fun sv3 H3 fp3 o3 s3 u3=>?_)
  have hd3:=o3.sl.defd
  repeat first|refine RO.mov ?_|refine RO.nil ?_|refine Ru.region ?_|refine RO.inc ?_
  refine Ru.loop ?_
  repeat first|refine RO.lssN ?_|refine RO.nil ?_|refine Ru.region ?_|refine Ru.seq ?_|refine Ru.condF ?_
  refine Ru.exitTo ?_
  repeat first|refine RO.mov ?_|refine RO.nil ?_|refine Ru.region ?_|refine Ru.seq ?_
  refine Ru.ret1 (hK sv3 H3 ?_ (u3.grew g2 (u2.above g1 a1)))
  have:=o3.sl
  unfold SlI
  rw [List.map_append,List.length_append]
  simpa using this
end Go.Abs.R
namespace Go.Abs
section
variable [Ov]
variable {tbl:Nat→AFunc}
def valsBody:ACode:=.seq (.region [op1 8 (.arith .lss 3 (tt 7) (tt 6))]) (.seq (.cond (tt 8) .skip (.exit 0)) (.seq (.block 1 (.seq (.region [op1 9 (.idxSl 1 (tt 5) (tt 7)),op1 10 (.load1 (tt 9)),op1 4 (.mov (tt 10))]) (.seq (.region [op1 11 (.mov (tt 0)),op1 12 (.mov (tt 4)),op1 13 (.call (tt 11) [tt 12]),op1 14 (.unary .not (tt 13))]) (.cond (tt 14) .ret .skip)))) (.region [op1 15 (.arith .add 3 (tt 7) (.c (.int 3 (.ofNat 1)))),op1 7 (.mov (tt 15))])))
def valsCode:ACode:=.seq (.region [op1 5 (.load1 (tt 1)),op1 6 (.lenSl (tt 5)),op1 7 (.mov (.c (.int 3 (.ofNat 0))))]) (.block 0 (.loop valsBody))
theorem vals_env (a b:AV):putArgs ([]++[a]++[b]) .xH .leaf=(Tree.leaf.set AV.undef (sl 0) a).set .undef (sl 1) b:=rfl
theorem iter_vals {F:Nat} (c48:tbl F=.code 16 [] valsCode) {A:Heap} {l:List Int} {sv:AV} (hs:SlI A l sv) (hl:l.length≤999):IterOk tbl (l.length+200) F sv A l:=by
  intro B1 B2 D L e1 e2 envA H1 K J hnx hA hK
  have hd:=hs.defd;have hlen:=hs.len
  have o1:=J.o1;have o2:=J.o2;have o3:=J.o3;have o4:=J.o4
  refine Xf.code (n:=l.length+199) c48 (by simp) ?_
  rw [vals_env]
  generalize hE:(Tree.leaf.set AV.undef (sl 0) (.yield L)).set .undef (sl 1) (.ptr B1 0)=env
  have h0:env.get .undef (sl 0)=.yield L:=by rw [← hE];simp [Tree.get_set,slot_inj]
  have h1:env.get .undef (sl 1)=.ptr B1 0:=by rw [← hE];simp [Tree.get_set,slot_inj]
  clear hE
  have gB1:cellAt H1 B1 0=some sv:=by
    unfold cellAt;rw [J.b1];simp only [show Nat.blt 0 1=true from rfl,if_true];rw [mkCells_get _ _ (by simp)];rfl
  have hlenV:∀ (env':Tree AV) H,env'.get .undef (sl 5)=sv→evalOp (.lenSl (tt 5)) env' H=some (aN l.length,H):=fun env' H he=>by
    simp only [evalOp,gv,tt,he]
    cases sv<;>simp only [lenOf,Option.some.injEq,reduceCtorEq] at hlen<;>rw [← hlen]
  have hadd:∀ (E:Tree AV) (H:Heap) (i:Nat),i<l.length→E.get .undef (sl 7)=aN i→evalOp (.arith .add 3 (tt 7) (.c (.int 3 (.ofNat 1)))) E H=some (aN (i+1),H):=fun E H i hi he=>by
    simp only [tt,evalOp,gv,he,arith2,Nat.beq_refl,Bool.and_self,if_true,arithV]
    rw [show (Int.ofNat i+Int.ofNat 1:Int)=Int.ofNat (i+1) from rfl,wrapF_int (by simp;omega) (by simp;omega)]
    rfl
  have claim:∀ k i env H2,l.length-i=k→i≤l.length→env.get .undef (sl 0)=.yield L→env.get .undef (sl 5)=sv→env.get .undef (sl 6)=aN l.length→env.get .undef (sl 7)=aN i→ListJ A sv B1 B2 D L e1 e2 envA L.idx (l.take i) H2→∀ K0:AJump→Fr→Heap→Prop,(∀ env H2,ListJ A sv B1 B2 D L e1 e2 envA L.idx l H2→K0 (.exit 0) ⟨env,[],none⟩ H2)→Xc tbl (k+100) (.loop valsBody) ⟨env,[],none⟩ H2 K0:=by
    intro k
    induction k using Nat.strongRecOn with
    | ind k ih =>
      intro i env H2 hk hi q0 q5 q6 q7 J2 K0 hK0
      have hnx2:=J2.nx
      refine Xc.loop (n:=k+99) ?_
      unfold valsBody
      refine Xc.seq' (n:=20) (m:=60) (k:=k+98) (by omega) (by omega) (Xc.region (n:=19) ?_)
      by_cases hil:i<l.length
      · refine Xo.op (n:=18) (v:=.bool true) (H':=H2) (by
          simp only [op1,tt,evalOp,gv,q6,q7,arith2,Nat.beq_refl,Bool.and_self,if_true,arithV,Option.map_some]
          rw [show ilt (Int.ofNat i) (Int.ofNat l.length)=true from Eq.mpr Nat.blt_eq hil]) (Xo.nil (n:=17) ?_)
        refine Xc.seq' (n:=20) (m:=50) (k:=59) (by omega) (by omega) (Xc.condT (n:=19) (by simp [gv,setDst,Tree.get_set,tt]) (Xc.skip (n:=18) ?_))
        have hs2:SlI H2 l sv:=hs.frame (by have:=J2.o5;omega) J2.frm
        obtain ⟨b,o,cap,ex,hsv,_,_,hat,_⟩:=hs2.at (by omega)
        have hc:=hat (i*1) (by simpa using hil)
        simp only [Nat.mul_one,List.getElem_map] at hc
        refine Xc.seq' (n:=48) (m:=20) (k:=49) (by omega) (by omega) (Xc.block (n:=47) (Xc.seq' (n:=20) (m:=46) (k:=46) (by omega) (by omega) (Xc.region (n:=19) ?_)))
        refine Xo.op (n:=18) (v:=.ptr b (o+i)) (H':=H2) (by
          have:Nat.blt i l.length=true:=Eq.mpr Nat.blt_eq hil
          simp [op1,tt,evalOp,gv,setDst,Tree.get_set,slot_inj,q5,q7,hsv,this]) ?_
        refine Xo.op (n:=17) (v:=aI l[i]) (H':=H2) (eval_load1 (by simp [tt,gv,setDst,Tree.get_set]) hc) ?_
        refine Xo.op (n:=16) (v:=aI l[i]) (H':=H2) (by simp [op1,tt,evalOp,gv,setDst,Tree.get_set]) (Xo.nil (n:=15) ?_)
        refine Xc.seq' (n:=45) (m:=20) (k:=45) (by omega) (by omega) (Xc.region (n:=44) ?_)
        refine Xo.op (n:=43) (v:=.yield L) (H':=H2) (by simp [op1,tt,evalOp,gv,setDst,Tree.get_set,slot_inj];exact q0) ?_
        refine Xo.op (n:=42) (v:=aI l[i]) (H':=H2) (by simp [op1,tt,evalOp,gv,setDst,Tree.get_set,slot_inj]) ?_
        refine Xo.call (n:=41) ?_
        simp only [gv,tt,setDst,Tree.get_set,slot_inj,List.map_cons,List.map_nil]
        refine Xf.mono (n:=40) (by omega) (fun _ _ h=>h) (yield_round J2 hA (by rw [List.length_take];omega) fun H3 J3 hsame=>?_)
        refine Xo.op (n:=40) (v:=.bool false) (H':=H3) (by simp [op1,tt,evalOp,gv,setDst,Tree.get_set,slot_inj,unV]) (Xo.nil (n:=39) ?_)
        refine Xc.condF (n:=19) (by simp [tt,gv,setDst,Tree.get_set,slot_inj]) (Xc.skip (n:=18) ?_)
        refine Xc.region (n:=19) ?_
        refine Xo.op (n:=18) (v:=aN (i+1)) (H':=H3) (hadd _ _ i hil (by simp [setDst,Tree.get_set,slot_inj];exact q7)) ?_
        refine Xo.op (n:=17) (v:=aN (i+1)) (H':=H3) (by simp [op1,tt,evalOp,gv,setDst,Tree.get_set]) (Xo.nil (n:=16) ?_)
        refine Xc.mono (n:=(l.length-(i+1))+100) (by omega) (fun _ _ _ h=>h) (ih (l.length-(i+1)) (by omega) (i+1) _ H3 rfl (by omega) ?_ ?_ ?_ ?_ (by rw [List.take_succ_eq_append_getElem hil];exact J3) K0 hK0)
        · simp [setDst,Tree.get_set,slot_inj];exact q0
        · simp [setDst,Tree.get_set,slot_inj];exact q5
        · simp [setDst,Tree.get_set,slot_inj];exact q6
        · simp [setDst,Tree.get_set,slot_inj]
      · have hie:i=l.length:=by omega
        refine Xo.op (n:=18) (v:=.bool false) (H':=H2) (by
          simp only [op1,tt,evalOp,gv,q6,q7,arith2,Nat.beq_refl,Bool.and_self,if_true,arithV,Option.map_some]
          rw [show ilt (Int.ofNat i) (Int.ofNat l.length)=false from by
            cases h:Nat.blt i l.length with
            | false=>exact h
            | true=>exact absurd (Eq.mp Nat.blt_eq h) hil]) (Xo.nil (n:=17) ?_)
        refine Xc.seq' (n:=20) (m:=50) (k:=59) (by omega) (by omega) (Xc.condF (n:=19) (by simp [gv,setDst,Tree.get_set,tt]) (Xc.exit (n:=18) ?_))
        refine hK0 _ H2 ?_
        rw [hie,List.take_length] at J2;exact J2
  unfold valsCode
  refine Xc.seq' (n:=20) (m:=l.length+190) (k:=l.length+198) (by omega) (by omega) (Xc.region (n:=19) ?_)
  refine Xo.op (n:=18) (v:=sv) (H':=H1) (eval_load1 h1 gB1) ?_
  refine Xo.op (n:=17) (v:=aN l.length) (H':=H1) (hlenV _ _ (by simp [setDst,Tree.get_set])) ?_
  refine Xo.op (n:=16) (v:=aN 0) (H':=H1) (by simp [op1,evalOp,gv]) (Xo.nil (n:=15) ?_)
  refine Xc.block (n:=l.length+189) (Xc.mono (n:=l.length+100) (by omega) (fun _ _ _ h=>h) (claim l.length 0 _ H1 (by omega) (by omega) ?_ ?_ ?_ ?_ (by simpa using J) _ fun env H2 J2=>?_))
  · simp [setDst,Tree.get_set,slot_inj];exact h0
  · simp [setDst,Tree.get_set,slot_inj]
  · simp [setDst,Tree.get_set,slot_inj]
  · simp [setDst,Tree.get_set,slot_inj]
  · exact ⟨trivial,rfl,[],rfl,hK _ l H2 J2 (List.Perm.refl _)⟩
end
end Go.Abs
namespace Go.Abs.R
open Go.Abs Go.Abs.R1
section
variable [Ov]
variable {tbl:Nat→AFunc}
theorem values_ok (c22:tbl 22=f22) {H:Heap} {sv:AV} {K:AV→Heap→Prop} (h1:sv.cells=[sv]) (h2:sv.oneCell=true) (hK:K (.func 48 [] [.ptr H.next 0]) (H.new (.cells (mkCells [sv]) 1 22 true [] 0))):YF tbl (.func 22 [] []) [sv] H K :=
  ⟨40,keys_call (c22.trans rfl) h1 h2 hK⟩
theorem sorted_ok (c21:tbl 21=f21) (c46:tbl 46=f46) (c76:tbl 76=f76) (c48:tbl 48=f48) (s47:tbl 47=.prim gSort) {H:Heap} {l:List Int} {sv:AV} {K:AV→Heap→Prop} (hs:SlI H l sv) (hl:l.length≤999)
    (hK:∀ v H' fp,OwnI H' fp 3 (sortI l) true v→Grew H H'→Above H fp→K v H'):YF tbl (.func 21 [] []) [.func 48 [] [.ptr H.next 0]] (H.new (.cells (mkCells [sv]) 1 22 true [] 0)) K:=by
  refine ⟨_,sorted_call (A:=H) (ks:=l) (c21.trans rfl) s47 (c46.trans rfl) (c76.trans rfl) (by omega) (iter_vals (c48.trans rfl) hs hl) (by rw [Heap.get_new,if_pos rfl]) (Nat.le_refl _) (by rw [Heap.next_new];omega) (fun j hj=>by rw [Heap.get_new,if_neg (ne_idx (by omega))]) fun v H4 h1 h2 h3=>?_⟩
  rcases h1 with ⟨rfl,rfl⟩ | ⟨id,rfl,hne,hlo,hg⟩
  · exact hK _ _ [] (.inl ⟨rfl,rfl,rfl,rfl⟩) ⟨h3.2,h2⟩ (fun j hj=>by cases hj)
  · have hsl:(sortI l).length=l.length:=(sortI_perm l).length_eq
    refine hK _ _ [id] (.inr ⟨id,_,[],l.length,false,rfl,by rw [hsl],by rw [Nat.mul_one];exact hg,by omega,by simp,fun j hj=>mkCells_at hj,fun p hp=>?_,fun _=>.inr hsl⟩) ⟨h3.2,h2⟩ (fun j hj=>by rw [List.mem_singleton] at hj;subst hj;exact hlo)
    rw [List.mem_singleton] at hp;subst hp;exact h3.1 _ _ _ _ _ rfl
end
end Go.Abs.R
