/- A part of the proof (an abstract machine, walks): no statement of its own, no conditions. -/
import Derived.Test.YtndbmjcpgefblaaGreatDoorA33
import Derived.Test.YtndbmjcpgefblaaGreatDoorA26
set_option linter.all false
namespace Go.Abs.R
open Go.Abs Go.Abs.R1
variable {tbl:Nat→AFunc}
theorem clone_ok (hf:tbl 51=f51) {H:Heap} {l:List (Int × Int)} {sv:AV} {K:AV→Heap→Prop} (hs:SlP H l sv) (hl:l.length<1000000) (hK:∀ sv' H' fp,OwnP H' fp 60 l true sv'→Grew H H'→Above H fp→K sv' H'):YF tbl (.func 51 [] []) [sv] H K:=by
  have hd:=hs.defd
  refine YF.code hf (by simp) ?_
  repeat first|refine RO.mov ?_|refine RO.nil ?_|refine Ru.region ?_|refine Ru.seq ?_
  rcases hs with ⟨rfl,hn,hv⟩ | ⟨i,o,cap,ex,c',m,e',rw',par,fz,rfl,hg,hm,hl',hc,hi,hcap⟩
  · skip
    refine RO.eq (t:=true) ?_
    repeat first|refine RO.mov ?_|refine RO.nil ?_|refine Ru.region ?_|refine Ru.seq ?_|refine Ru.condT ?_
    refine Ru.ret1 ?_
    have:l=[]:=List.eq_nil_of_length_eq_zero hn
    subst this
    exact hK _ _ [] (.inl ⟨rfl,rfl,rfl,rfl⟩) (Grew.refl _) (fun j hj=>(by cases hj))
  · have hs:SlP H l (.slice i o l.length cap ex):=.inr ⟨i,o,cap,ex,c',m,e',rw',par,fz,rfl,hg,hm,hl',hc,hi,hcap⟩
    refine RO.eq (t:=false) ?_
    repeat first|refine RO.nil ?_|refine Ru.region ?_|refine Ru.seq ?_|refine Ru.skip ?_|refine Ru.condF ?_
    refine RO.emptyS (size:=2) fun H1 sv1 fp1 h1 g1 a1=>?_
    have hd1:=h1.sl.defd
    repeat first|refine RO.mov ?_
    refine RO.appendU h1 (g1.sl hs) (allOne_pairs l) (fun sv2 H2 fp2 h2 u2=>?_)
    have hd2:=h2.sl.defd
    repeat first|refine RO.mov ?_|refine RO.nil ?_
    refine Ru.ret1 ?_
    refine hK sv2 H2 fp2 ?_ (u2.grew g1 a1) (u2.above g1 a1)
    unfold OwnP
    simpa using h2
theorem filter_of_none {p:Int × Int→Bool} {l:List (Int × Int)} (h:l.findIdx? p=none):(l.filter fun m=>!p m)=l:=by
  rw [List.findIdx?_eq_none_iff] at h
  rw [List.filter_eq_self]
  intro m hm;rw [h m hm];rfl
theorem filter_to {p:Int × Int→Bool} {l:List (Int × Int)} {i:Nat} (h:l.findIdx? p=some i):((l.take (i+1)).filter fun m=>!p m)=l.take i∧i<l.length:=by
  rw [List.findIdx?_eq_some_iff_getElem] at h
  obtain ⟨hi,h1,h2⟩:=h
  refine ⟨?_,hi⟩
  rw [List.take_succ_eq_append_getElem hi,List.filter_append,List.filter_eq_self.2]
  · simp [h1]
  · intro m hm
    obtain ⟨j,hj,e⟩:=List.getElem_of_mem hm
    rw [List.length_take] at hj
    rw [List.getElem_take] at e
    have:=h2 j (by omega)
    rw [e] at this
    simpa using this
theorem delF_ok (hf:tbl 50=f50) (hf2:tbl 61=f61) {H:Heap} {fp:List Pos} {full:Bool} {l:List (Int × Int)} {fv sv:AV} {p:Int × Int→Bool} {K:AV→Heap→Prop} (ho:OwnP H fp 60 l full sv) (hl:l.length<1000000) (hfd:fv.defd=true) (ht:∀ A l,TestP tbl fv A p l) (hK:∀ sv' H' fp' full',OwnP H' fp' 60 (l.filter fun m=>!p m) full' sv'→Upd fp fp' H H'→K sv' H'):YF tbl (.func 50 [] []) [sv,fv] H K:=by
  have hd:=ho.sl.defd
  refine YF.code hf (by simp) ?_
  repeat first|refine RO.mov ?_|refine RO.nil ?_|refine Ru.region ?_|refine Ru.seq ?_
  refine RO.call (indexP_ok hf2 ho.sl hl hfd (ht H l) fun H1 hg=>?_) (had:=by simp [hd,hfd])
  have ho1:=hg.own ho
  cases hi:l.findIdx? p with
  | none =>
    simp only [idxV]
    repeat first|refine RO.mov ?_|refine RO.nil ?_|refine Ru.region ?_|refine Ru.seq ?_|refine RO.eql ?_|refine Ru.condT ?_
    refine Ru.ret1 (hK _ _ _ full ?_ (hg.upd fp))
    rw [filter_of_none hi];exact ho1
  | some i0 =>
    simp only [idxV]
    obtain ⟨e0,hi0⟩:=filter_to hi
    obtain ⟨b,cap,ex,rfl⟩:=Own.shape ho (by omega)
    repeat first|refine RO.mov ?_|refine RO.nil ?_|refine Ru.region ?_|refine Ru.seq ?_|refine Ru.block ?_|refine Ru.skip ?_|refine RO.eql ?_|refine RO.inc ?_|refine Ru.condF ?_
    refine Ru.name fun S hS=>?_
    have loop:∀ k i j lc H2 fp2,l.length-j=k→i<j→j≤l.length→lc.length=l.length→OwnP H2 fp2 60 lc full (.slice b 0 l.length cap ex)→Upd fp fp2 H H2→lc.take i=(l.take j).filter (fun m=>!p m)→lc.drop j=l.drop j→Ru tbl (fcx [.tmp p4] K) S [(p0,.slice b 0 l.length cap ex),(p1,fv),(p5,aN i),(p6,aN j)] H2:=by
      subst hS
      intro k
      induction k using Nat.strongRecOn with
      | ind k ih =>
        intro i j lc H2 fp2 hk hij hj hlc ho2 hu2 ht1 ht2
        refine Ru.loop ?_
        repeat first|refine RO.mov ?_|refine RO.lenSl ?_|refine RO.lssN ?_|refine RO.nil ?_|refine Ru.region ?_|refine Ru.seq ?_
        refine Ru.cond (fun h=>?_) (fun h=>?_)
        · repeat first|refine RO.mov ?_|refine Ru.region ?_|refine Ru.seq ?_|refine Ru.block ?_|refine Ru.skip ?_
          have hsl2:SlP H2 lc (.slice b 0 l.length cap ex):=by have:=ho2.sl;exact this
          refine RO.idxP hsl2 fun q o z hz _ _ hr _=>?_
          repeat first|refine RO.loadN ?_
          refine RO.allocStore (us:=[aI z.1,aI z.2]) rfl rfl rfl (by intro w;rfl) fun q' H3 g3 hr3 hq3=>?_
          have hzl:l[j]?=some z:=by
            have h0:(lc.drop j)[0]?=(l.drop j)[0]?:=by rw [ht2]
            have h1:lc[j]?=l[j]?:=by simpa using h0
            rw [← h1];exact hz
          repeat first|refine RO.mov ?_|refine RO.nil ?_|refine Ru.region ?_|refine Ru.seq ?_|refine RO.loadN ?_
          refine RO.call (ht H3 [z] z (List.mem_singleton.2 rfl) H3 _ (Grew.refl _) fun H4 g4=>?_)
          have hr4:readAt H4 q' 0 2=some [aI z.1,aI z.2]:=by rw [g4.read hq3];exact hr3
          have ho4:=(g3.trans g4).own ho2
          have hu4:=hu2.trans ((g3.trans g4).upd fp2)
          have htk:(l.take (j+1)).filter (fun m=>!p m)=(l.take j).filter (fun m=>!p m)++(if p z then [] else [z]):=by
            obtain ⟨hjl,hje⟩:=List.getElem?_eq_some_iff.1 hzl
            rw [List.take_succ_eq_append_getElem hjl,List.filter_append,hje]
            congr 1
            cases hpz:p z<;>simp [hpz]
          repeat first|refine RO.nil ?_|refine RO.un ?_
          refine Ru.condB (fun he=>?_) (fun he=>?_)
          · repeat first|refine RO.mov ?_|refine Ru.region ?_|refine Ru.seq ?_|refine RO.loadN ?_
            refine RO.idxSl ?_
            obtain ⟨H5,h5,u5,o5⟩:=OwnP.set (l:=lc) (by rw [hlc];exact ho4) (k:=i) (by omega) z.1 z.2
            refine RO.store (i:=b) (o:=0+i*2) (v:=.agg [aI z.1,aI z.2]) (by rw [Nat.zero_add];exact h5) ?_
            repeat first|refine RO.mov ?_|refine RO.nil ?_|refine Ru.region ?_|refine RO.inc ?_
            refine Ru.weak (ih (l.length-(j+1)) (by omega) (i+1) (j+1) (lc.set i (z.1,z.2)) H5 [b] rfl (by omega) (by omega) (by rw [List.length_set];exact hlc) (by rw [hlc] at o5;exact o5) (hu4.trans u5) ?_ ?_) ⟨rfl,rfl,rfl,rfl,trivial⟩
            · have hp:p z=false:=by simpa using he
              rw [htk,hp,← ht1,List.take_set,List.take_succ_eq_append_getElem (by omega:i<lc.length)]
              have hti:(lc.take i).length=i:=by rw [List.length_take];omega
              rw [List.set_append,if_neg (by omega),hti];simp
            · rw [List.drop_set_of_lt (by omega)]
              have:(lc.drop j).drop 1=(l.drop j).drop 1:=by rw [ht2]
              simpa [List.drop_drop] using this
          · repeat first|refine RO.mov ?_|refine RO.nil ?_|refine Ru.region ?_|refine Ru.skip ?_|refine RO.inc ?_
            refine Ru.weak (ih (l.length-(j+1)) (by omega) i (j+1) lc H4 fp2 rfl (by omega) (by omega) hlc ho4 hu4 ?_ ?_) ⟨rfl,rfl,rfl,rfl,trivial⟩
            · have hp:p z=true:=by simpa using he
              rw [htk,hp,← ht1];simp
            · have:(lc.drop j).drop 1=(l.drop j).drop 1:=by rw [ht2]
              simpa [List.drop_drop] using this
        · refine Ru.exitTo ?_
          have hje:j=l.length:=by omega
          have hres:lc.take i=l.filter (fun m=>!p m):=by rw [ht1,hje,List.take_length]
          have ho2':OwnP H2 fp2 60 lc full (.slice b 0 lc.length cap ex):=by rw [hlc];exact ho2
          obtain ⟨hbm,hcap,_⟩:=Own.mem ho2'
          have he5:=Own.elem ho2'
          repeat first|refine RO.mov ?_|refine Ru.region ?_|refine Ru.seq ?_
          refine RO.sliceV (m:=cap) (b:=l.length) (a:=i) rfl rfl rfl (by show bound (aN i) l.length=_;exact bound_of (by omega)) (by rw [he5];simp) (v:=.slice b (i*2) (l.length-i) (cap-i) ex) (by
            have e1:(if ex&&decide (cap=i) then 0 else 0+i*2)=i*2:=by rw [decide_eq_false (by omega)];simp
            rw [e1];simp) ?_
          have hcut:=OwnP.cut (l:=lc) (by rw [hlc];exact ho2) (b:=i) (by omega)
          have hil:(lc.take i).length=i:=by rw [List.length_take];omega
          obtain ⟨H6,h6,u6,o6⟩:=OwnP.tail (l:=lc.take i) (ws:=reps [aI 0,aI 0] (l.length-i)) (o:=i*2) (by rw [hil];exact hcut) (by rw [hil];exact Nat.le_refl _) (by
            have:∀ n,(reps [aI 0,aI 0] n).length=n*2:=fun n=>by induction n with
              | zero=>rfl
              | succ n ih=>simp only [reps,List.length_append,ih,List.length_cons,List.length_nil];omega
            rw [this];omega) (by
            have:∀ n,allOne (reps [aI 0,aI 0] n)=true:=fun n=>by induction n with
              | zero=>rfl
              | succ n ih=>simp only [reps,List.cons_append,List.nil_append,allOne,ih];rfl
            exact this _)
          refine RO.clearSl (n:=l.length-i) rfl (by omega) h6 ?_
          repeat first|refine RO.mov ?_|refine RO.nil ?_|refine Ru.region ?_|refine Ru.seq ?_
          refine RO.sliceV (m:=cap) (b:=i) (a:=0) rfl rfl (by show bound (aN i) cap=_;exact bound_of (by omega)) rfl (by simp) (v:=.slice b 0 i cap ex) (by simp) ?_
          repeat first|refine RO.mov ?_|refine RO.nil ?_
          refine Ru.ret1 (hK _ _ [b] false ?_ (hu2.trans u6))
          rw [← hres]
          rw [hil] at o6;exact o6
    refine Ru.weak (loop _ i0 (i0+1) l H1 fp rfl (by omega) (by omega) rfl ho1 (hg.upd fp) e0.symm rfl) ⟨rfl,rfl,rfl,rfl,trivial⟩
theorem del_ok (hf:tbl 62=f62) {H:Heap} {fp:List Pos} {full:Bool} {l:List (Int × Int)} {b:Pos} {cap:Nat} {ex:Bool} {K:AV→Heap→Prop} (ho:OwnP H fp 60 l full (.slice b 0 l.length cap ex)) (hl:l.length<1000000) {k:Nat} (hk:k<l.length) (hK:∀ H' fp',OwnP H' fp' 60 (l.eraseIdx k) false (.slice b 0 (l.eraseIdx k).length cap ex)→Upd fp fp' H H'→K (.slice b 0 (l.eraseIdx k).length cap ex) H'):YF tbl (.func 62 [] []) [.slice b 0 l.length cap ex,aN k,aN (k+1)] H K:=by
  obtain ⟨hbm,hcap,_⟩:=Own.mem ho
  have he5:=Own.elem ho
  have hel:(l.eraseIdx k).length=l.length-1:=List.length_eraseIdx_of_lt hk
  refine YF.code hf (by simp) ?_
  repeat first|refine RO.mov ?_|refine RO.lenSl ?_|refine RO.nil ?_|refine Ru.region ?_|refine Ru.seq ?_
  refine RO.sliceV (m:=l.length) (b:=k+1) (a:=k) rfl (by show bound (aN l.length) cap=_;exact bound_of hcap) (by show bound (aN (k+1)) l.length=_;exact bound_of (by omega)) (by show bound (aN k) (k+1)=_;exact bound_of (by omega)) (by simp) rfl ?_
  repeat first|refine RO.mov ?_|refine RO.nil ?_|refine Ru.region ?_|refine Ru.seq ?_|refine RO.eqlN ?_
  refine Ru.cond (fun h=>?_) (fun _=>?_)
  · omega
  repeat first|refine RO.mov ?_|refine RO.lenSl ?_|refine RO.nil ?_|refine Ru.region ?_|refine Ru.seq ?_|refine Ru.skip ?_
  refine RO.sliceV (m:=cap) (b:=k) (a:=0) rfl rfl (by show bound (aN k) cap=_;exact bound_of (by omega)) rfl (by simp) (v:=.slice b 0 k cap ex) (by simp) ?_
  repeat first|refine RO.mov ?_
  generalize ho2:(if ex&&decide (cap=k+1) then 0 else 0+(k+1)*2)=o2
  refine RO.sliceV (m:=cap) (b:=l.length) (a:=k+1) rfl rfl rfl (by show bound (aN (k+1)) l.length=_;exact bound_of (by omega)) (by rw [he5];simp) (v:=.slice b o2 (l.length-(k+1)) (cap-(k+1)) ex) (by rw [ho2];simp) ?_
  obtain ⟨H',fp',g1,g2,g3⟩:=OwnP.del ho hk
  have hsrc:source H 2 (.slice b o2 (l.length-(k+1)) (cap-(k+1)) ex)=some (l.length-(k+1),flatP (l.drop (k+1))):=by
    by_cases h0:l.length-(k+1)=0
    · rw [h0,List.drop_eq_nil_of_le (by omega)]
      obtain ⟨i',c,par,cap',ex',rfl,h2,hg,_⟩:=ho.resolve_left (fun h=>by cases h.2.2.2)
      injection h2 with h2
      subst h2
      simp only [source,readAt,hg,Nat.zero_mul,readCells];rfl
    · have:o2=(k+1)*2:=by rw [← ho2,decide_eq_false (by omega)];simp
      subst this
      obtain ⟨i',o',cap',ex',e1,_,_,_,h4⟩:=Sl.at ho.sl (by omega)
      injection e1 with e1 e2
      subst e1;subst e2
      have hfl:=flatP_length l
      have:=h4 ((k+1)*2) ((l.length-(k+1))*2) (by omega)
      rw [Nat.zero_add] at this
      simp only [source,this]
      congr 2
      rw [List.take_of_length_le (by rw [List.length_drop];omega)]
      have:∀ (l:List (Int × Int)) (k:Nat),(flatP l).drop (k*2)=flatP (l.drop k):=fun l k=>by
        apply List.ext_getElem?
        intro j
        rw [List.getElem?_drop,flatP_at,flatP_at,List.getElem?_drop,show (k*2+j) / 2=k+j / 2 by omega,show (k*2+j) % 2=j % 2 by omega]
      exact this _ _
  refine RO.append hsrc g1 ?_
  repeat first|refine RO.mov ?_|refine RO.lenSl ?_|refine RO.nil ?_|refine Ru.region ?_|refine Ru.seq ?_
  obtain ⟨hbm2,hcap2,_⟩:=Own.mem g2
  have he6:=Own.elem g2
  refine RO.sliceV (m:=cap) (b:=l.length) (a:=l.length-1) rfl rfl (by show bound (aN l.length) cap=_;exact bound_of (by omega)) (by show bound (aN (l.length-1)) l.length=_;exact bound_of (by omega)) (by rw [he6];simp) (v:=.slice b ((l.length-1)*2) 1 (cap-(l.length-1)) ex) (by
    have e1:(if ex&&decide (cap=l.length-1) then 0 else 0+(l.length-1)*2)=(l.length-1)*2:=by rw [decide_eq_false (by omega)];simp
    rw [e1,show l.length-(l.length-1)=1 by omega];simp) ?_
  obtain ⟨H6,h6,u6,o6⟩:=OwnP.tail g2 (ws:=reps [aI 0,aI 0] 1) (o:=(l.length-1)*2) (by omega) (by show _+2≤_;omega) rfl
  refine RO.clearSl (n:=1) rfl (by omega) h6 ?_
  repeat first|refine RO.mov ?_|refine RO.nil ?_|refine Ru.region ?_|refine Ru.seq ?_
  refine Ru.ret1 ?_
  have:=hK H6 [b] o6 (g3.trans u6)
  rw [hel] at this;exact this
end Go.Abs.R
namespace Go.Abs
variable {H H' A:Heap} {fp:List Pos} {e:Nat} {l:List (Int × Int)} {full:Bool} {sv:AV}
theorem sort_own {F:Nat} (ho:OwnP H fp e l full sv) (hn:(l.map (·.1)).Nodup) (hl:l.length≤4000000):∃ H' fp',gSortP F [sv,.func F [] []] H=some (.tuple [],H')∧OwnP H' fp' e (sortP l) full sv∧Upd fp fp' H H':=by
  have hsl:(sortP l).length=l.length:=(sortP_perm l).length_eq
  have hf1:=flatP_length l
  have hf2:=flatP_length (sortP l)
  rcases ho with ⟨rfl,hv,h0,rfl⟩ | ⟨i,c,par,cap,ex,rfl,rfl,hg,hcap,hlen,hc,hp,hfull⟩
  · have:l=[]:=List.eq_nil_of_length_eq_zero h0
    subst this
    exact ⟨H,[],rfl,.inl ⟨rfl,rfl,rfl,rfl⟩,Upd.refl _ _⟩
  · have ho:OwnP H (i::par) e l full (.slice i 0 l.length cap ex):=.inr ⟨i,c,par,cap,ex,rfl,rfl,hg,hcap,hlen,hc,hp,hfull⟩
    cases hll:l.length with
    | zero =>
      have:l=[]:=List.eq_nil_of_length_eq_zero hll
      subst this
      exact ⟨H,_,rfl,ho,Upd.refl _ _⟩
    | succ n =>
      obtain ⟨H',h1,h2,h3⟩:=Own.write ho (o:=0) (ws:=flatP (sortP l)) (us:=flatP (sortP l)) (by omega) (allOne_pairs _) (by omega) fun j hj=>by rw [if_pos (by omega),Nat.sub_zero]
      refine ⟨H',[i],?_,?_,h2⟩
      · have hpn:=pairsN_of (c:=c) (zs:=l) (o:=0) fun j hj=>by rw [Nat.zero_add];exact hc j hj
        rw [hll] at hpn
        have hcnd:(Nat.beq F F&&Nat.ble ((n+1)*2) (cap*2)&&Nat.ble n 4000000)=true:=by
          simp only [Bool.and_eq_true,Nat.beq_refl,true_and]
          exact ⟨Nat.ble_eq_true_of_le (by omega),Nat.ble_eq_true_of_le (by omega)⟩
        have hd:(decide (0≤0)&&decide (0+(flatP (sortP l)).length≤cap*2)&&allOne (flatP (sortP l)))=true:=by
          simp only [Bool.and_eq_true,decide_eq_true_eq,allOne_pairs,and_true];omega
        simp only [writeAt,hg,hd,if_true,Option.some.injEq] at h1
        simp only [gSortP,hg,hcnd,if_true,hpn,if_pos hn,h1]
      · unfold OwnP
        rw [hsl,← hll];exact h3
end Go.Abs
namespace Go.Abs.R
open Go.Abs Go.Abs.R1
variable {tbl:Nat→AFunc}
theorem respare_step {sp f:Int} {left:List (Int × Int)} {i:Nat} {z:Int × Int} (hz:left[i]?=some z):((left.take (i+1)).map (fun m=>if m.2=f then (m.1,sp) else m)++left.drop (i+1))=((left.take i).map (fun m=>if m.2=f then (m.1,sp) else m)++left.drop i).set i (if z.2=f then (z.1,sp) else z):=by
  obtain ⟨hi,e⟩:=List.getElem?_eq_some_iff.1 hz
  rw [List.take_succ_eq_append_getElem hi,List.map_append,e,List.set_append,if_neg (by rw [List.length_map,List.length_take];omega),List.length_map,List.length_take,Nat.min_eq_left (show i≤left.length by omega)]
  rw [List.drop_eq_getElem_cons hi,Nat.sub_self,List.set_cons_zero]
  simp
theorem inOrder_ok (c25:tbl 25=f25) (c51:tbl 51=f51) (c50:tbl 50=f50) (c52:tbl 52=f52) (s53:tbl 53=.prim (gSortP 54)) (c56:tbl 56=f56) (c57:tbl 57=f57) (c58:tbl 58=f58) (c59:tbl 59=f59) (c60:tbl 60=f60) (c61:tbl 61=f61) (c62:tbl 62=f62)
    {H:Heap} {l out:List (Int × Int)} {sv:AV} {sp:Int} {K:AV→Heap→Prop} (hs:SlP H l sv) (hl:l.length≤1000) (hn:(l.map (·.1)).Nodup) (ho:Mv.Ord sp (sortP (l.filter fun m=>!decide (m.2=m.1))) out) (hol:out.length≤100000)
    (hK:∀ sv' H',SlP H' out sv'→Grew H H'→K sv' H'):YF tbl (.func 25 [] []) [sv,aI sp] H K:=by
  have hd:=hs.defd
  refine YF.code c25 (by simp) ?_
  repeat first|refine RO.mov ?_|refine RO.nil ?_|refine Ru.region ?_|refine Ru.seq ?_
  refine RO.call (clone_ok c51 hs (by omega) fun sv1 H1 fp1 o1 g1 a1=>?_) (had:=by simp [hd])
  have hd1:=o1.sl.defd
  refine RO.call (delF_ok c50 c61 o1 (by omega) rfl (fun A l=>idle_ok c52 c56) fun sv2 H2 fp2 full2 o2 u2=>?_) (had:=by simp [hd1];rfl)
  have hd2:=o2.sl.defd
  refine RO.allocOne o2.sl.oneCell o2.sl.cells hd2 (by intro u;rfl) fun q H3 g3 hq3 hqn=>?_
  have o3:=g3.own o2
  have hc3:=hq3.cell
  repeat first|refine RO.nil ?_|refine Ru.region ?_|refine Ru.seq ?_|refine RO.load1 ?_
  have hl2:(l.filter fun m=>!decide (m.2=m.1)).length≤1000:=Nat.le_trans (List.length_filter_le ..) hl
  have hn2:((l.filter fun m=>!decide (m.2=m.1)).map (·.1)).Nodup:=hn.sublist (List.filter_sublist.map _)
  obtain ⟨H4,fp4,e4,o4,u4⟩:=sort_own (F:=54) o3 hn2 (by omega)
  refine RO.call (YF.prim s53 e4 ?_) (had:=by show (sv2.defd&&true)=true;rw [hd2];rfl)
  have hA:Above H fp2:=u2.above g1 a1
  have hqf:q∉fp2:=fun e=>by have:=o2.below q e;omega
  have hG3:Grew H H3:=(u2.grew g1 a1).trans g3
  have hG4:Grew H H4:=u4.grew hG3 hA
  have hA4:Above H fp4:=u4.above hG3 hA
  have hq4:One H4 q 59 sv2:=hq3.upd u4 hqf
  have hqf4:q∉fp4:=fun e=>by
    rcases u4.hd q e with e | e
    · exact hqf e
    · have:=hq3.lt;omega
  have hqA:H.next.idx≤q.idx:=by have:=(u2.grew g1 a1).nx;omega
  have hsl:(sortP (l.filter fun m=>!decide (m.2=m.1))).length≤1000:=by rw [(sortP_perm _).length_eq];exact hl2
  repeat first|refine RO.nil ?_|refine Ru.seq ?_|refine Ru.block ?_
  refine Ru.name fun S hS=>?_
  have loop:∀ left rest,Mv.Ord sp left rest→∀ (HX:Heap) (fpL fpO:List Pos) (lv ov:AV) (done:List (Int × Int)) (fullL:Bool),left.length≤1000→done++rest=out→OwnP HX fpL 60 left fullL lv→OwnP HX fpO 60 done true ov→One HX q 59 lv→Grew H HX→Above H fpL→Above H fpO→q∉fpL→q∉fpO→(∀ j∈fpL,j∉fpO)→Ru tbl (fcx [.tmp p4] K) S [(p1,aI sp),(p4,ov),(p5,.ptr q 0)] HX:=by
    subst hS
    intro left rest hord
    induction hord with
    | nil =>
      intro HX fpL fpO lv ov done fullL hll hout oL oO hq hG hAL hAO hqL hqO hdis
      have hc:=hq.cell
      have hlen:=oL.sl.len
      have hdl:=oL.sl.defd
      have hdo:=oO.sl.defd
      refine Ru.loop ?_
      repeat first|refine RO.lenSl ?_|refine RO.nil ?_|refine Ru.region ?_|refine Ru.seq ?_|refine RO.gtrN ?_|refine RO.load1 ?_|refine Ru.condF ?_
      refine Ru.exitTo ?_
      repeat first|refine RO.mov ?_|refine RO.nil ?_|refine Ru.region ?_|refine Ru.seq ?_
      refine Ru.ret1 (hK ov HX ?_ hG)
      rw [List.append_nil] at hout
      rw [← hout];exact oO.sl
    | @free left rest k m hf hm hr ih =>
      intro HX fpL fpO lv ov done fullL hll hout oL oO hq hG hAL hAO hqL hqO hdis
      obtain ⟨hkl,hkm⟩:=List.getElem?_eq_some_iff.1 hm
      obtain ⟨b,cap,ex,rfl⟩:=Own.shape oL (by omega)
      have hc:=hq.cell
      have hdo:=oO.sl.defd
      have hol2:done.length+1≤out.length:=by rw [← hout];simp
      refine Ru.loop ?_
      repeat first|refine RO.lenSl ?_|refine RO.nil ?_|refine Ru.region ?_|refine Ru.seq ?_|refine RO.gtrN ?_|refine RO.load1 ?_
      refine Ru.cond (fun _=>?_) (fun h=>?_)
      rotate_left
      · omega
      repeat first|refine RO.mov ?_|refine RO.nil ?_|refine Ru.region ?_|refine Ru.seq ?_|refine Ru.block ?_|refine Ru.skip ?_|refine RO.load1 ?_|refine RO.mkFunc ?_
      refine RO.call (indexP_ok c61 oL.sl (by omega) rfl (free_ok c57 c58 c61 c59 c56 c60 hq.lt hc oL.sl (by omega)) fun HY gY=>?_)
      rw [hf]
      simp only [idxV]
      have hqY:=hq.grew gY
      have hcY:=hqY.cell
      have oLY:=gY.own oL
      have oOY:=gY.own oO
      repeat first|refine RO.mov ?_|refine RO.lssN ?_|refine RO.nil ?_|refine Ru.region ?_|refine Ru.seq ?_|refine Ru.skip ?_|refine RO.load1 ?_|refine Ru.condF ?_
      refine RO.idxP oLY.sl fun q' o' z hz _ _ hrd _=>?_
      have hzm:z=m:=by rw [hm] at hz;injection hz with hz;exact hz.symm
      subst hzm
      repeat first|refine RO.loadN ?_
      refine RO.pushP (m:=z) oOY rfl fun w sv' HZ fpZ oOZ uZ=>?_
      have hqZ:=hqY.upd uZ hqO
      have hcZ:=hqZ.cell
      have oLZ:=uZ.own oLY hdis
      have hdz:=oOZ.sl.defd
      have hdisZ:∀ j∈fpL,j∉fpZ:=uZ.apart oLY hdis
      repeat first|refine RO.mov ?_|refine RO.nil ?_|refine Ru.region ?_|refine RO.inc ?_|refine RO.load1 ?_
      refine RO.call (del_ok c62 oLZ (by omega) hkl fun HV fpV oLV uV=>?_)
      have hGY:=hG.trans gY
      have hGZ:=uZ.grew hGY hAO
      have hAOZ:=uZ.above hGY hAO
      have hqOZ:q∉fpZ:=fun e=>by
        rcases uZ.hd q e with e | e
        · exact hqO e
        · have:=hqY.lt;omega
      have hqV:=hqZ.upd uV hqL
      have oOV:=uV.own oOZ (fun j hj hj'=>hdisZ j hj' hj)
      have hGV:=uV.grew hGZ hAL
      have hALV:=uV.above hGZ hAL
      have hqLV:q∉fpV:=fun e=>by
        rcases uV.hd q e with e | e
        · exact hqL e
        · have:=hqZ.lt;omega
      have hdisV:∀ j∈fpV,j∉fpZ:=fun j hj hj'=>by
        rcases uV.hd j hj with e | e
        · exact hdisZ j e hj'
        · have:=oOZ.below j hj';omega
      refine RO.store1 (w:=.slice b 0 (left.eraseIdx k).length cap ex) hqV fun HW uW hqW=>?_
      have oLW:=uW.own oLV (fun j hj e=>by rw [List.mem_singleton] at e;subst e;exact hqLV hj)
      have oOW:=uW.own oOV (fun j hj e=>by rw [List.mem_singleton] at e;subst e;exact hqOZ hj)
      have hGW:Grew H HW:=uW.grew hGV (fun j hj=>by rw [List.mem_singleton] at hj;subst hj;exact hqA)
      repeat first|refine RO.nil ?_|refine Ru.blk ?_
      exact Ru.weak (ih HW fpV fpZ _ sv' (done++[z]) false (by rw [List.length_eraseIdx_of_lt hkl];omega) (by rw [← hout];simp) oLW oOW hqW hGW hALV hAOZ hqLV hqOZ hdisV) ⟨rfl,rfl,rfl,trivial⟩
    | @ring left rest m hm hf hr ih =>
      intro HX fpL fpO lv ov done fullL hll hout oL oO hq hG hAL hAO hqL hqO hdis
      have hpos:0<left.length:=by cases left with
        | nil=>cases hm
        | cons a l=>simp
      have hm0:left[0]?=some m:=by rw [← List.head?_eq_getElem?];exact hm
      obtain ⟨b,cap,ex,rfl⟩:=Own.shape oL (by omega)
      have hc:=hq.cell
      have hdo:=oO.sl.defd
      have hol2:done.length+1≤out.length:=by rw [← hout];simp
      refine Ru.loop ?_
      repeat first|refine RO.lenSl ?_|refine RO.nil ?_|refine Ru.region ?_|refine Ru.seq ?_|refine RO.gtrN ?_|refine RO.load1 ?_
      refine Ru.cond (fun _=>?_) (fun h=>?_)
      rotate_left
      · exact absurd hpos h
      repeat first|refine RO.mov ?_|refine RO.nil ?_|refine Ru.region ?_|refine Ru.seq ?_|refine Ru.block ?_|refine Ru.skip ?_|refine RO.load1 ?_|refine RO.mkFunc ?_
      refine RO.call (indexP_ok c61 oL.sl (by omega) rfl (free_ok c57 c58 c61 c59 c56 c60 hq.lt hc oL.sl (by omega)) fun HY gY=>?_)
      rw [hf]
      simp only [idxV]
      have hqY:=hq.grew gY
      have hcY:=hqY.cell
      have oLY:=gY.own oL
      have oOY:=gY.own oO
      repeat first|refine RO.mov ?_|refine RO.lss ?_|refine RO.nil ?_|refine Ru.region ?_|refine Ru.seq ?_|refine RO.load1 ?_|refine Ru.condT ?_
      refine RO.idxP (j:=0) oLY.sl fun q' o' z hz _ _ hrd _=>?_
      have hzm:z=m:=by rw [hm0] at hz;injection hz with hz;exact hz.symm
      subst hzm
      repeat first|refine RO.loadN ?_
      refine RO.call (to_ok c56 (m:=z) fun HY2 gY2=>?_)
      have hqY2:=hqY.grew gY2
      have oLY2:=gY2.own oLY
      have oOY2:=gY2.own oOY
      repeat first|refine RO.mov ?_|refine RO.nil ?_|refine Ru.region ?_|refine Ru.seq ?_|refine RO.build ?_
      refine RO.pushP (m:=(sp,z.1)) oOY2 rfl fun w sv' HZ fpZ oOZ uZ=>?_
      have hqZ:=hqY2.upd uZ hqO
      have hcZ:=hqZ.cell
      have oLZ:=uZ.own oLY2 hdis
      have hdz:=oOZ.sl.defd
      have hdisZ:∀ j∈fpL,j∉fpZ:=uZ.apart oLY2 hdis
      have hGY:=(hG.trans gY).trans gY2
      have hGZ:=uZ.grew hGY hAO
      have hAOZ:=uZ.above hGY hAO
      have hqOZ:q∉fpZ:=fun e=>by
        rcases uZ.hd q e with e | e
        · exact hqO e
        · have:=hqY2.lt;omega
      repeat first|refine RO.mov ?_|refine RO.lenSl ?_|refine RO.nil ?_|refine Ru.region ?_|refine Ru.seq ?_|refine Ru.block ?_|refine RO.load1 ?_
      refine Ru.name fun S2 hS2=>?_
      have loop2:∀ kk i,left.length-i=kk→i≤left.length→∀ (HB:Heap) (fpB:List Pos),OwnP HB fpB 60 ((left.take i).map (fun m=>if m.2=z.1 then (m.1,sp) else m)++left.drop i) fullL (.slice b 0 left.length cap ex)→Upd fpL fpB HZ HB→Ru tbl (fcx [.tmp p4] K) S2 [(p1,aI sp),(p4,sv'),(p5,.ptr q 0),(p8,aI z.1),(p35,aN left.length),(p36,aN i)] HB:=by
        subst hS2
        intro kk
        induction kk using Nat.strongRecOn with
        | ind kk ih2 =>
          intro i hk hi HB fpB oB uB
          have hqB:=hqZ.upd uB hqL
          have hcB:=hqB.cell
          have hqLB:q∉fpB:=fun e=>by
            rcases uB.hd q e with e | e
            · exact hqL e
            · have:=hqZ.lt;omega
          refine Ru.loop ?_
          repeat first|refine RO.lssN ?_|refine RO.nil ?_|refine Ru.region ?_|refine Ru.seq ?_
          refine Ru.cond (fun h=>?_) (fun h=>?_)
          · repeat first|refine RO.mov ?_|refine RO.nil ?_|refine Ru.region ?_|refine Ru.seq ?_|refine Ru.block ?_|refine Ru.skip ?_|refine RO.load1 ?_
            have hlci:((left.take i).map (fun m=>if m.2=z.1 then (m.1,sp) else m)++left.drop i).length=left.length:=by simp;omega
            have hsB:SlP HB ((left.take i).map (fun m=>if m.2=z.1 then (m.1,sp) else m)++left.drop i) (.slice b 0 left.length cap ex):=oB.sl
            refine RO.idxP (j:=i) hsB (fun q2 o2 y hy _ _ hrd2 _=>?_) (hj:=by omega)
            have hyl:left[i]?=some y:=by
              rw [List.getElem?_append_right (by rw [List.length_map,List.length_take];omega),List.getElem?_drop,List.length_map,List.length_take,Nat.min_eq_left hi] at hy
              simpa using hy
            have hst:=respare_step (sp:=sp) (f:=z.1) hyl
            repeat first|refine RO.loadN ?_
            refine RO.call (from_ok c60 (m:=y) fun HC gC=>?_)
            have hqC:=hqB.grew gC
            have hcC:=hqC.cell
            have oC:=gC.own oB
            repeat first|refine RO.mov ?_|refine RO.nil ?_|refine RO.eql ?_
            refine Ru.cond (fun he=>?_) (fun he=>?_)
            · repeat first|refine RO.mov ?_|refine Ru.region ?_|refine RO.load1 ?_
              refine RO.idxSl ?_
              refine RO.idxArr ?_
              obtain ⟨HD,hw,uD,oD⟩:=OwnP.set1 (by rw [hlci];exact oC) hy sp
              refine RO.store (i:=b) (o:=0+i*2+1*1) (v:=aI sp) (by rw [Nat.zero_add,Nat.one_mul];exact hw) ?_
              repeat first|refine RO.mov ?_|refine RO.nil ?_|refine Ru.region ?_|refine RO.inc ?_
              refine Ru.weak (ih2 (left.length-(i+1)) (by omega) (i+1) rfl (by omega) HD [b] (by
                rw [hst,if_pos he];rw [hlci] at oD;exact oD) ((uB.trans (gC.upd fpB)).trans uD)) ⟨rfl,rfl,rfl,rfl,rfl,rfl,trivial⟩
            · repeat first|refine RO.mov ?_|refine RO.nil ?_|refine Ru.region ?_|refine Ru.skip ?_|refine RO.inc ?_
              refine Ru.weak (ih2 (left.length-(i+1)) (by omega) (i+1) rfl (by omega) HC fpB (by
                rw [hst,if_neg he]
                rw [show (((left.take i).map (fun m=>if m.2=z.1 then (m.1,sp) else m)++left.drop i).set i y)=((left.take i).map (fun m=>if m.2=z.1 then (m.1,sp) else m)++left.drop i) from by
                  obtain ⟨h1,h2⟩:=List.getElem?_eq_some_iff.1 hy
                  rw [← h2];exact List.set_getElem_self ..]
                exact oC) (uB.trans (gC.upd fpB))) ⟨rfl,rfl,rfl,rfl,rfl,rfl,trivial⟩
          · have hie:i=left.length:=by omega
            have hresp:((left.take i).map (fun m=>if m.2=z.1 then (m.1,sp) else m)++left.drop i)=Mv.respare sp z.1 left:=by
              rw [hie,List.take_length,List.drop_length,List.append_nil];rfl
            rw [hresp] at oB
            refine Ru.exitTo ?_
            refine Ru.exitTo ?_
            have oOB:=uB.own oOZ (fun j hj hj'=>hdisZ j hj' hj)
            have hdisB:∀ j∈fpB,j∉fpZ:=fun j hj hj'=>by
              rcases uB.hd j hj with e | e
              · exact hdisZ j e hj'
              · have:=oOZ.below j hj';omega
            have hlr:(Mv.respare sp z.1 left).length=left.length:=by simp [Mv.respare]
            exact Ru.weak (ih HB fpB fpZ _ sv' (done++[(sp,z.1)]) fullL (by omega) (by rw [← hout];simp) oB oOB hqB (uB.grew hGZ hAL) (uB.above hGZ hAL) hAOZ hqLB hqOZ hdisB) ⟨rfl,rfl,rfl,trivial⟩
      refine Ru.weak (loop2 _ 0 rfl (by omega) HZ fpL (by simpa using oLZ) (Upd.refl _ _)) ⟨rfl,rfl,rfl,rfl,rfl,rfl,trivial⟩
  refine Ru.weak (loop _ _ ho H4 fp4 [] sv2 .nilslice [] full2 hsl rfl o4 (.inl ⟨rfl,rfl,rfl,rfl⟩) hq4 hG4 hA4 (fun j hj=>by cases hj) hqf4 (fun h=>by cases h) (fun j _ h=>by cases h)) ⟨rfl,rfl,rfl,trivial⟩
end Go.Abs.R
namespace Go.Abs
variable {tbl:Nat→AFunc} {c:Cx} {s:List SI} {L:Kn} {H H' A:Heap} {d:Option Pos} {l:List AOper} {size n e k cap bytes:Nat} {vs ws:List AV} {sv:AV} {fp fp':List Pos} {full ex:Bool} {i:Pos}
theorem Own.fit (h:Own H fp e size vs n full (.slice i 0 n cap ex)) (hw:ws.length=k*size) (h1:allOne ws=true) (hfit:n+k≤cap) :
    ∃ H' fp',appendV e bytes size H (.slice i 0 n cap ex) k ws=some (.slice i 0 (n+k) cap ex,H')∧Own H' fp' e size (vs++ws) (n+k) false (.slice i 0 (n+k) cap ex)∧Upd fp fp' H H':=by
  rcases h with ⟨_,_,_,h⟩ | ⟨i',c,par,cap',ex',rfl,h2,hg,hcap,hl,hc,hp,hfull⟩
  · cases h
  injection h2 with h2 _ _ h3 h4
  subst h2;subst h3;subst h4
  have hb1:Nat.ble (n+k) cap=true:=Nat.ble_eq_true_of_le hfit
  by_cases hk:k=0
  · subst hk
    have hws:ws=[]:=List.eq_nil_of_length_eq_zero (by omega)
    subst hws
    refine ⟨H,i::par,?_,?_,Upd.refl _ _⟩
    · simp only [appendV,h1,Bool.not_true,Bool.false_eq_true,if_false,hb1,if_true,Nat.beq_refl]
    · exact .inr ⟨i,c,par,cap,ex,rfl,rfl,hg,hcap,by simpa using hl,by simpa using hc,hp,fun h=>by cases h⟩
  · have hk0:Nat.beq k 0=false:=by cases h:Nat.beq k 0 with | false=>rfl | true=>exact absurd (Nat.eq_of_beq_eq_true h) hk
    have hroom:n*size+ws.length≤cap*size:=by rw [hw,← Nat.add_mul];exact Nat.mul_le_mul_right _ hfit
    have hwr:writeAt H i (0+n*size) ws=some ((H.drops par).set i (.cells (writeCells c (0+n*size) ws) (cap*size) e true [] 0)):=by
      have hd:(decide (0≤0+n*size)&&decide (0+n*size+ws.length≤cap*size)&&allOne ws)=true:=by
        simp only [Bool.and_eq_true,decide_eq_true_eq,h1,and_true];omega
      simp only [writeAt,hg,hd,if_true]
    refine ⟨(H.drops par).set i (.cells (writeCells c (0+n*size) ws) (cap*size) e true [] 0),[i],by simp only [appendV,h1,Bool.not_true,Bool.false_eq_true,if_false,hb1,if_true,hk0,hwr],?_,⟨?_,?_,?_⟩⟩
    · refine .inr ⟨i,writeCells c (0+n*size) ws,[],cap,ex,rfl,rfl,by rw [Heap.get_set,if_pos rfl],hfit,by rw [List.length_append,hl,hw,Nat.add_mul],fun j hj=>?_,fun p hp'=>?_,fun hf=>by cases hf⟩
      · rw [writeCells_get]
        rw [List.length_append] at hj
        by_cases hjn:j<vs.length
        · rw [if_neg (by omega),hc j hjn,List.getElem_append_left hjn]
        · rw [if_pos (by omega),List.getElem_append_right (by omega)]
          have:j-(0+n*size)<ws.length:=by omega
          simp only [List.getD_eq_getElem?_getD,this,getElem?_pos,Option.getD_some]
          congr 1;omega
      · rw [List.mem_singleton] at hp';subst hp'
        rw [Heap.next_set,Heap.next_drops];exact hp _ (List.mem_cons_self ..)
    · rw [Heap.next_set,Heap.next_drops];exact Nat.le_refl _
    · intro j hj;rw [List.mem_singleton] at hj;subst hj;exact .inl (List.mem_cons_self ..)
    · intro j hj _
      rw [Heap.get_set,if_neg fun e:j=i=>hj (by rw [e];exact List.mem_cons_self ..),Heap.get_drops,if_neg fun e=>hj (List.mem_cons_of_mem _ e)]
theorem RO.appendFit {x y:Opd} {yv:AV} {zs:List AV} (ho:Own H fp e size vs n full (.slice i 0 n cap ex)) (hs:Sl H size ws k yv) (h1:allOne ws=true) (hfit:n+k≤cap) (h:∀ H' fp',Own H' fp' e size (vs++ws) (n+k) false (.slice i 0 (n+k) cap ex)→Upd fp fp' H H'→RO tbl c l s (setL L d (.slice i 0 (n+k) cap ex)) H') (hx:gvL L x=.slice i 0 n cap ex:=by (conv=>lhs;whnf)<;>rfl) (hy:gvL L y=yv:=by (conv=>lhs;whnf)<;>rfl) :
    RO tbl c (⟨d,.append e bytes size zs false x y,none,[],[]⟩::l) s L H:=by
  obtain ⟨H',fp',h2,h3,h4⟩:=ho.fit (bytes:=bytes) hs.length h1 hfit
  exact RO.append hs.source h2 (h H' fp' h3 h4) hx rfl hy hs.defd
theorem RO.cap0 {x:Opd} (h:RO tbl c l s (setL L d (.int 3 (.ofNat 0))) H) (hx:gvL L x=.nilslice:=by (conv=>lhs;whnf)<;>rfl):RO tbl c (⟨d,.cap x,none,[],[]⟩::l) s L H :=
  RO.op (fun env hle=>by simp only [evalOp,hle.gv hx rfl]) h
theorem RO.appendMk {x y:Opd} {z:AV} {m:Nat} (h:RO tbl c l s (setL L d (.slice H.next 0 (m+1) (m+1) false)) (H.new (.cells (mkCells (reps [z] (m+1))) ((m+1)*1) e true [] 0))) (hz:z.oneCell=true) (hb:(m+1)*bytes≤70368744177664) (hm:m+1≤70368744177664) (hx:gvL L x=.nilslice:=by (conv=>lhs;whnf)<;>rfl) (hy:gvL L y=.int 3 (.ofNat (m+1)):=by (conv=>lhs;whnf)<;>rfl) :
    RO tbl c (⟨d,.append e bytes 1 [z] true x y,none,[],[]⟩::l) s L H:=by
  have h1:∀ n,allOne (reps [z] n)=true:=fun n=>by
    induction n with
    | zero=>rfl
    | succ n ih=>simp only [reps,List.cons_append,List.nil_append,allOne,hz,ih,Bool.and_self]
  have h2:(small ((m+1)*bytes)&&small (m+1))=true:=by rw [small_of hb,small_of hm];rfl
  have h3:Nat.beq (m+1) 0=false:=rfl
  exact RO.op (fun env hle=>by simp only [evalOp,if_true,hle.gv hx rfl,hle.gv hy rfl,h2,appendV,h1,Bool.not_true,Bool.false_eq_true,if_false,h3]) h
theorem Own.wr (h:Own H fp e size vs n full (.slice i 0 n cap ex)) {o:Nat} (ho:o+ws.length≤cap*size) (h1:allOne ws=true) :
    ∃ H' us,us.length=vs.length∧writeAt H i o ws=some H'∧Upd fp [i] H H'∧Own H' [i] e size us n full (.slice i 0 n cap ex):=by
  obtain ⟨H',g1,g2,g3⟩:=Own.write h ho h1 (us:=(List.range vs.length).map fun j=>if o≤j∧j<o+ws.length then ws.getD (j-o) .undef else vs.getD j .undef) (by simp) fun j hj=>by
    rw [List.getElem?_map,List.getElem?_range hj]
    simp only [Option.map_some]
    split
    · rename_i hc
      rw [getElem?_pos ws _ (by omega)];simp [List.getD_eq_getElem?_getD,show j-o<ws.length by omega]
    · rw [getElem?_pos vs _ hj];simp [List.getD_eq_getElem?_getD,hj]
  exact ⟨H',_,by simp,g1,g2,g3⟩
abbrev OwnI (H:Heap) (fp:List Pos) (e:Nat) (zs:List Int) (full:Bool) (sv:AV):Prop:=Own H fp e 1 (zs.map aI) zs.length full sv
theorem OwnI.set {zs:List Int} (h:OwnI H fp e zs full (.slice i 0 zs.length cap ex)) {k:Nat} (hk:k<zs.length) (z:Int):∃ H',writeAt H i (k*1) [aI z]=some H'∧Upd fp [i] H H'∧OwnI H' [i] e (zs.set k z) full (.slice i 0 zs.length cap ex):=by
  have hm:=(Own.mem h).2.1
  have:=Own.write h (o:=k*1) (ws:=[aI z]) (us:=(zs.set k z).map aI) (by simp;omega) rfl (by simp) fun j hj=>by
    rw [List.getElem?_map,List.getElem?_set,List.getElem?_map]
    have hkl:j<zs.length:=by simpa using hj
    by_cases hc:k=j
    · subst hc;simp [hk]
    · rw [if_neg hc,if_neg (by simp;omega)]
  unfold OwnI
  rw [List.length_set];exact this
theorem RO.pushI {q:Pos} {x y:Opd} {z:Int} {zs:List AV} {zl:List Int} (ho:OwnI H fp 3 zl true sv)
    (h:∀ w sv' H' fp',OwnI H' fp' 3 (zl++[z]) true sv'→Upd fp fp' H H'→RO tbl c l s (setL ((q,w)::L) d sv') H')
    (hx:gvL L x=aI z:=by (conv=>lhs;whnf)<;>rfl) (hy:∀ w,gvL ((q,w)::L) y=sv:=by (intro w;conv=>lhs;whnf)<;>rfl) (hn:zl.length+1≤1000000:=by omega) :
    RO tbl c (⟨some q,.buildSlice 3 1 [.int 3 (.ofNat 0)] [(0,1,x)],none,[],[]⟩::⟨d,.append 3 8 1 zs false y (.t q),none,[],[]⟩::l) s L H:=by
  have hlay:layL L (reps [.int 3 (.ofNat 0)] 1) [(0,1,x)]=some [aI z]:=by
    simp only [layL,hx];rfl
  refine RO.buildSlice ?_ hlay
  have hg:Grew H (H.new (.cells (mkCells [aI z]) 1 3 true [] 0)):=Grew.new H _
  have hs:Sl (H.new (.cells (mkCells [aI z]) 1 3 true [] 0)) 1 [aI z] 1 (.slice H.next 0 1 1 true):=(Own.new (H:=H) (e:=3) (size:=1) (n:=1) (vs:=[aI z]) rfl true true).sl
  refine RO.appendO (hg.own ho) hs rfl (fun sv' H' fp' h1 h2 h3 h4=>?_) (hy _) (by show lk (setL L (some q) _) q=_;simp only [setL,lk,Pos.beq_iff.2 rfl]) (by omega) (by omega)
  refine h _ sv' H' fp' ?_ ?_
  · unfold OwnI
    rw [List.map_append,List.length_append];exact h1
  · exact (hg.upd fp).trans ⟨h2,fun j hj=>(h3 j hj).imp id fun h=>h.1,h4⟩
end Go.Abs
