/- A part of the proof (an abstract machine, walks): no statement of its own, no conditions. -/
import Derived.Test.YtndbmjcpgefblaaGreatDoorB37
set_option linter.all false
namespace Go.Abs.R
open Go.Abs Go.Abs.R1
def ml2:ACode:=(.seq (.seq (.region [O p94 (.mov (T p12)),O p95 (.arith .lss 3 (T p94) (I 3 21))]) (.cond (T p95) .skip (.exit 2))) (.seq (.block 3 (.region [O p98 (.mov (T p11)),O p99 (.mov (T p12)),O p100 (.mov (T p12)),O p101 (.idxSl 1 (T p98) (T p99)),N (.store 1 (T p101) (T p100))])) (.region [O p96 (.mov (T p12)),O p97 (.arith .add 3 (T p96) (I 3 1)),O p12 (.mov (T p97))])))
def ml4:ACode:=(.seq (.seq (.region [O p102 (.mov (T p14)),O p103 (.mov (T p9)),O p104 (.lenSl (T p103)),O p105 (.arith .lss 3 (T p102) (T p104))]) (.cond (T p105) .skip (.exit 4))) (.seq (.block 5 (.seq (.region [O p108 (.mov (T p9)),O p109 (.mov (T p14)),O p110 (.idxSl 2 (T p108) (T p109)),O p111 (.idxArr 2 1 (T p110) (I 3 0)),O p112 (.load1 (T p111)),O p113 (.mov (T p9)),O p114 (.mov (T p14)),O p115 (.idxSl 2 (T p113) (T p114)),O p116 (.idxArr 2 1 (T p115) (I 3 1)),O p117 (.load1 (T p116)),O p15 (.mov (T p112)),O p16 (.mov (T p117))]) (.seq (.seq (.region [O p118 (.mov (T p15)),O p119 (.arith .lss 3 (T p118) (I 3 0)),O p120 (.mov (T p119)),G p121 (.mov (T p15)) p120 false,G p122 (.arith .gtr 3 (T p121) (I 3 20)) p120 false,O p123 (.pick (T p120) (C (.bool true)) (T p122)),O p124 (.mov (T p123)),G p125 (.mov (T p16)) p124 false,G p126 (.arith .lss 3 (T p125) (I 3 0)) p124 false,O p127 (.pick (T p124) (C (.bool true)) (T p126)),O p128 (.mov (T p127)),G p129 (.mov (T p16)) p128 false,G p130 (.arith .gtr 3 (T p129) (I 3 20)) p128 false,O p131 (.pick (T p128) (C (.bool true)) (T p130)),O p132 (.mov (T p131)),G p133 (.mov (T p15)) p132 false,G p134 (.mov (T p16)) p132 false,G p135 (.arith .eql 3 (T p133) (T p134)) p132 false,O p136 (.pick (T p132) (C (.bool true)) (T p135))]) (.cond (T p136) (.seq (.region [O p2 (.mov (C (.bool false)))]) .ret) .skip)) (.seq (.region [O p137 (.mov (T p11)),O p138 (.mov (T p15)),O p139 (.mov (T p11)),O p140 (.mov (T p16)),O p141 (.idxSl 1 (T p139) (T p140)),O p142 (.load1 (T p141)),O p143 (.idxSl 1 (T p137) (T p138)),N (.store 1 (T p143) (T p142))]) (.region [O p144 (.mov (T p13)),O p145 (.mov (T p144)),G p146 (.mov (T p15)) p145 false,G p147 (.arith .eql 3 (T p146) (I 3 20)) p145 false,O p148 (.pick (T p145) (C (.bool true)) (T p147)),O p13 (.mov (T p148))]))))) (.region [O p106 (.mov (T p14)),O p107 (.arith .add 3 (T p106) (I 3 1)),O p14 (.mov (T p107))])))
def ml6:ACode:=(.seq (.seq (.region [O p150 (.mov (T p18)),O p151 (.arith .lss 3 (T p150) (I 3 20))]) (.cond (T p151) .skip (.exit 6))) (.seq (.block 7 (.region [O p154 (.mov (T p17)),O p155 (.mov (T p18)),O p156 (.mov (T p18)),O p157 (.idxSl 1 (T p154) (T p155)),N (.store 1 (T p157) (T p156))])) (.region [O p152 (.mov (T p18)),O p153 (.arith .add 3 (T p152) (I 3 1)),O p18 (.mov (T p153))])))
def ml8:ACode:=(.seq (.seq (.region [O p158 (.mov (T p19)),O p159 (.mov (T p4)),O p160 (.lenSl (T p159)),O p161 (.arith .lss 3 (T p158) (T p160))]) (.cond (T p161) .skip (.exit 8))) (.seq (.block 9 (.region [O p164 (.mov (T p17)),O p165 (.mov (T p4)),O p166 (.mov (T p19)),O p167 (.idxSl 1 (T p165) (T p166)),O p168 (.load1 (T p167)),O p169 (.mov (T p3)),O p170 (.mov (T p19)),O p171 (.idxSl 1 (T p169) (T p170)),O p172 (.load1 (T p171)),O p173 (.idxSl 1 (T p164) (T p168)),N (.store 1 (T p173) (T p172))])) (.region [O p162 (.mov (T p19)),O p163 (.arith .add 3 (T p162) (I 3 1)),O p19 (.mov (T p163))])))
def ml12:ACode:=(.seq (.seq (.region [O p182 (.mov (T p23)),O p183 (.arith .lss 3 (T p182) (I 3 20)),O p184 (.mov (T p183)),G p185 (.mov (T p22)) p184 true,G p186 (.mov (T p21)) p184 true,G p187 (.arith .neq 3 (T p185) (T p186)) p184 true,O p188 (.pick (T p184) (T p187) (C (.bool false)))]) (.cond (T p188) .skip (.exit 12))) (.seq (.block 13 (.region [O p191 (.mov (T p17)),O p192 (.mov (T p22)),O p193 (.idxSl 1 (T p191) (T p192)),O p194 (.load1 (T p193)),O p22 (.mov (T p194))])) (.region [O p189 (.mov (T p23)),O p190 (.arith .add 3 (T p189) (I 3 1)),O p23 (.mov (T p190))])))
def ml10:ACode:=(.seq (.seq (.region [O p174 (.mov (T p21)),O p175 (.arith .lss 3 (T p174) (I 3 20))]) (.cond (T p175) .skip (.exit 10))) (.seq (.block 11 (.seq (.region [O p178 (.mov (T p17)),O p179 (.mov (T p21)),O p180 (.idxSl 1 (T p178) (T p179)),O p181 (.load1 (T p180)),O p22 (.mov (T p181))]) (.seq (.seq (.region [O p23 (.mov (I 3 0))]) (.block 12 (.loop (.seq (.seq (.region [O p182 (.mov (T p23)),O p183 (.arith .lss 3 (T p182) (I 3 20)),O p184 (.mov (T p183)),G p185 (.mov (T p22)) p184 true,G p186 (.mov (T p21)) p184 true,G p187 (.arith .neq 3 (T p185) (T p186)) p184 true,O p188 (.pick (T p184) (T p187) (C (.bool false)))]) (.cond (T p188) .skip (.exit 12))) (.seq (.block 13 (.region [O p191 (.mov (T p17)),O p192 (.mov (T p22)),O p193 (.idxSl 1 (T p191) (T p192)),O p194 (.load1 (T p193)),O p22 (.mov (T p194))])) (.region [O p189 (.mov (T p23)),O p190 (.arith .add 3 (T p189) (I 3 1)),O p23 (.mov (T p190))])))))) (.seq (.region [O p195 (.mov (T p20)),O p196 (.mov (T p195)),G p197 (.mov (T p22)) p196 false,G p198 (.mov (T p21)) p196 false,G p199 (.arith .eql 3 (T p197) (T p198)) p196 false,G p200 (.mov (T p199)) p196 false,G p201 (.mov (T p17)) p200 true,G p202 (.mov (T p21)) p200 true,G p203 (.idxSl 1 (T p201) (T p202)) p200 true,G p204 (.load1 (T p203)) p200 true,G p205 (.mov (T p21)) p200 true,G p206 (.arith .neq 3 (T p204) (T p205)) p200 true,G p207 (.pick (T p200) (T p206) (C (.bool false))) p196 false,O p208 (.pick (T p196) (C (.bool true)) (T p207)),O p20 (.mov (T p208))]) (.seq (.region [O p209 (.mov (T p11)),O p210 (.mov (T p21)),O p211 (.idxSl 1 (T p209) (T p210)),O p212 (.load1 (T p211)),O p213 (.mov (T p17)),O p214 (.mov (T p21)),O p215 (.idxSl 1 (T p213) (T p214)),O p216 (.load1 (T p215)),O p217 (.arith .neq 3 (T p212) (T p216))]) (.cond (T p217) (.seq (.region [O p2 (.mov (C (.bool false)))]) .ret) .skip)))))) (.region [O p176 (.mov (T p21)),O p177 (.arith .add 3 (T p176) (I 3 1)),O p21 (.mov (T p177))])))
section
variable [Ov]
variable {tbl:Nat→AFunc} {c:Cx} {S:List SI} {HB:Heap} {fv tv lv:AV} {q1 q2:Pos} {nm:Nat}
theorem above1 {q:Pos} (h:HB.next.idx≤q.idx):Above HB [q]:=fun j hj=>by rw [List.mem_singleton] at hj;subst hj;exact h
theorem fill_law {n i:Nat} {H:Heap} {q:Pos} (h:OwnA H q n (fun j=>if j=i then (i:Int) else (fun j=>if j<i then (j:Int) else 0) j)):OwnA H q n (fun j=>if j<i+1 then (j:Int) else 0):=h.congr fun j hj=>by
  by_cases e:j=i
  · subst e;rw [if_pos rfl,if_pos (by omega)]
  · rw [if_neg e]
    show (if j<i then (j:Int) else 0)=_
    by_cases h2:j<i
    · rw [if_pos h2,if_pos (by omega)]
    · rw [if_neg h2,if_neg (by omega)]
theorem fill2_ok (bI:HB.next.idx≤q1.idx) (hdf:fv.defd=true) (hdt:tv.defd=true) (hdl:lv.defd=true)
    (fin:∀ HV,OwnA HV q1 21 (fun j=>(j:Int))→Grew HB HV→Ru tbl c S [(p3,fv),(p4,tv),(p5,aN nm),(p9,lv),(p11,.slice q1 0 21 21 true)] HV) :
    ∀ kk i,21-i=kk→i≤21→∀ (HY:Heap),OwnA HY q1 21 (fun j=>if j<i then (j:Int) else 0)→Grew HB HY→Ru tbl c (.code (.loop ml2)::.blk 2::S) [(p3,fv),(p4,tv),(p5,aN nm),(p9,lv),(p11,.slice q1 0 21 21 true),(p12,aN i)] HY:=by
  intro kk
  induction kk using Nat.strongRecOn with
  | ind kk ih2 =>
    intro i hkk hi HY oY gY
    refine Ru.loop ?_
    unfold ml2
    repeat first|refine RO.mov ?_|refine RO.lssN ?_|refine RO.nil ?_|refine Ru.region ?_|refine Ru.seq ?_
    refine Ru.cond (fun hlt=>?_) (fun hlt=>?_)
    · repeat first|refine RO.mov ?_|refine Ru.region ?_|refine Ru.seq ?_|refine Ru.block ?_|refine Ru.skip ?_|refine RO.idxSl ?_
      obtain ⟨HZ,hw,uZ,oZ⟩:=oY.set (k:=i) hlt (i:Int)
      refine RO.store (i:=q1) (o:=0+i*1) (v:=aI i) hw ?_
      repeat first|refine RO.mov ?_|refine RO.nil ?_|refine Ru.region ?_|refine RO.inc ?_
      exact Ru.weak (ih2 (21-(i+1)) (by omega) (i+1) rfl (by omega) HZ (fill_law oZ) (uZ.grew gY (above1 bI))) ⟨rfl,rfl,rfl,rfl,rfl,rfl,trivial⟩
    · refine Ru.exitTo ?_
      exact Ru.weak (fin HY (oY.congr fun j hj=>by rw [if_pos (by omega)]) gY) ⟨rfl,rfl,rfl,rfl,rfl,trivial⟩
theorem moved_ok {out:List (Int × Int)} (bI:HB.next.idx≤q1.idx) (hdf:fv.defd=true) (hdt:tv.defd=true) (hdl:lv.defd=true) (hlo:SlP HB out lv) (hol:out.length≤200) (hgo:∀ m∈out,(0≤m.1∧m.1≤20)∧(0≤m.2∧m.2≤20)∧m.1≠m.2)
    (fin:∀ b HV,(b=true↔∃ m∈out,m.1=20)→OwnA HV q1 21 (fun j=>Mv.run out (fun r=>r) (j:Int))→Grew HB HV→Ru tbl c S [(p3,fv),(p4,tv),(p5,aN nm),(p9,lv),(p11,.slice q1 0 21 21 true),(p13,.bool b)] HV) :
    ∀ kk i,out.length-i=kk→i≤out.length→∀ (b:Bool),(b=true↔∃ m∈out.take i,m.1=20)→∀ (HV:Heap),OwnA HV q1 21 (fun j=>Mv.run (out.take i) (fun r=>r) (j:Int))→Grew HB HV→Ru tbl c (.code (.loop ml4)::.blk 4::S) [(p3,fv),(p4,tv),(p5,aN nm),(p9,lv),(p11,.slice q1 0 21 21 true),(p13,.bool b),(p14,aN i)] HV:=by
  have hnl:=hlo.len
  intro kk
  induction kk using Nat.strongRecOn with
  | ind kk ih3 =>
    intro i hkk hi b hb HV oV gV
    refine Ru.loop ?_
    unfold ml4
    repeat first|refine RO.mov ?_|refine RO.lenSl ?_|refine RO.lssN ?_|refine RO.nil ?_|refine Ru.region ?_|refine Ru.seq ?_
    refine Ru.cond (fun hlt=>?_) (fun hlt=>?_)
    · have hdec:out.length-(i+1)<kk:=by omega
      repeat first|refine RO.mov ?_|refine Ru.region ?_|refine Ru.seq ?_|refine Ru.block ?_|refine Ru.skip ?_
      refine RO.idxP (gV.sl hlo) (fun q o z hz hc hc2 _ _=>?_)
      obtain ⟨⟨hz1,hz2⟩,⟨hz3,hz4⟩,hz5⟩:=hgo z (List.mem_of_getElem? hz)
      obtain ⟨⟨t,ht⟩,f,hf⟩:(∃ t:Nat,z.1=Int.ofNat t)∧∃ f:Nat,z.2=Int.ofNat f:=⟨⟨z.1.toNat,(Int.toNat_of_nonneg hz1).symm⟩,z.2.toNat,(Int.toNat_of_nonneg hz3).symm⟩
      have htk:out.take (i+1)=out.take i++[z]:=by rw [List.take_add_one,hz];rfl
      rw [ht] at hc;rw [hf] at hc2
      have et:z.1=(t:Int):=ht
      have ef:z.2=(f:Int):=hf
      have ht20:t≤20:=by omega
      have hf20:f≤20:=by omega
      have htf:t≠f:=by omega
      repeat first|refine RO.mov ?_|refine RO.load1 ?_|refine RO.idxArr ?_
      refine RO.idxP (gV.sl hlo) (fun q' o' z' hz' hc' hc2' _ _=>?_)
      rw [hz] at hz';injection hz' with hz';subst hz'
      rw [ht] at hc';rw [hf] at hc2'
      have hcell:=oV.cell (j:=f) (by omega)
      repeat first|refine RO.mov ?_|refine RO.lssN ?_|refine RO.nil ?_|refine Ru.region ?_|refine Ru.seq ?_|refine RO.gtrN ?_|refine RO.load1 ?_|refine RO.guardT ?_|refine RO.idxArr ?_|refine RO.pickF ?_
      refine RO.byCases (p:=20<t) (fun hx=>absurd hx (by omega)) (fun _=>?_)
      repeat first|refine RO.mov ?_|refine RO.lssN ?_|refine RO.gtrN ?_|refine RO.guardT ?_|refine RO.pickF ?_
      refine RO.byCases (p:=20<f) (fun hx=>absurd hx (by omega)) (fun _=>?_)
      repeat first|refine RO.mov ?_|refine RO.nil ?_|refine RO.eqlN ?_|refine RO.guardT ?_|refine RO.pickF ?_
      refine Ru.cond (p:=t=f) (fun hx=>absurd hx htf) (fun _=>?_)
      repeat first|refine RO.mov ?_|refine Ru.region ?_|refine Ru.seq ?_|refine Ru.skip ?_|refine RO.load1 ?_|refine RO.idxSl ?_
      obtain ⟨HZ,hw,uZ,oZ⟩:=oV.set (k:=t) (by omega) (Mv.run (out.take i) (fun r=>r) (f:Int))
      refine RO.store (i:=q1) (o:=0+t*1) (v:=aI (Mv.run (out.take i) (fun r=>r) (f:Int))) hw ?_
      have oZ':OwnA HZ q1 21 (fun j=>Mv.run (out.take (i+1)) (fun r=>r) (j:Int)):=oZ.congr fun j hj=>by
        rw [htk,Mv.run_snoc,et,ef]
        by_cases e:j=t
        · subst e;simp
        · rw [if_neg e];show _=if (j:Int)=(t:Int) then _ else _;rw [if_neg (by omega)]
      have gZ:=uZ.grew gV (above1 bI)
      have hex:(∃ m∈out.take (i+1),m.1=20)↔(∃ m∈out.take i,m.1=20)∨t=20:=by
        rw [htk]
        constructor
        · rintro ⟨m,hm,e⟩
          rcases List.mem_append.1 hm with hm | hm
          · exact .inl ⟨m,hm,e⟩
          · rw [List.mem_singleton] at hm;subst hm;right;omega
        · rintro (⟨m,hm,e⟩ | e)
          · exact ⟨m,List.mem_append_left _ hm,e⟩
          · exact ⟨z,List.mem_append_right _ (List.mem_singleton.2 rfl),by omega⟩
      repeat first|refine RO.mov ?_|refine RO.nil ?_|refine Ru.region ?_
      refine RO.byBool (fun hbt=>?_) (fun hbf=>?_)
      · repeat first|refine RO.mov ?_|refine RO.nil ?_|refine Ru.region ?_|refine RO.inc ?_|refine RO.guardF ?_|refine RO.pickT ?_
        exact Ru.weak (ih3 (out.length-(i+1)) hdec (i+1) rfl (by omega) true (by rw [hex];exact ⟨fun _=>.inl (hb.1 hbt),fun _=>rfl⟩) HZ oZ' gZ) ⟨rfl,rfl,rfl,rfl,rfl,rfl,rfl,trivial⟩
      · repeat first|refine RO.mov ?_|refine RO.nil ?_|refine Ru.region ?_|refine RO.eqlN ?_|refine RO.inc ?_|refine RO.guardT ?_|refine RO.pickF ?_
        exact Ru.weak (ih3 (out.length-(i+1)) hdec (i+1) rfl (by omega) (decide (t=20)) (by
          rw [hex,decide_eq_true_iff]
          exact ⟨.inr,fun h=>h.elim (fun h=>by have:=hb.2 h;rw [hbf] at this;cases this) id⟩) HZ oZ' gZ) ⟨rfl,rfl,rfl,rfl,rfl,rfl,rfl,trivial⟩
    · have hie:i=out.length:=by omega
      subst hie
      rw [List.take_length] at hb oV
      refine Ru.exitTo ?_
      exact Ru.weak (fin b HV hb oV gV) ⟨rfl,rfl,rfl,rfl,rfl,rfl,trivial⟩
end
end Go.Abs.R
namespace Go.Abs.R
open Go.Abs Go.Abs.R1
section
variable [Ov]
variable {tbl:Nat→AFunc} {c:Cx} {S:List SI} {HB:Heap} {fv tv lv:AV} {q1 q2:Pos} {nm:Nat}
theorem fill6_ok {b:Bool} {g:Nat→Int} (bI:HB.next.idx≤q2.idx) (hq:q1.idx<q2.idx) (hdf:fv.defd=true) (hdt:tv.defd=true) (hdl:lv.defd=true)
    (fin:∀ HV,OwnA HV q2 20 (fun j=>(j:Int))→OwnA HV q1 21 g→Grew HB HV→Ru tbl c S [(p3,fv),(p4,tv),(p5,aN nm),(p9,lv),(p11,.slice q1 0 21 21 true),(p13,.bool b),(p17,.slice q2 0 20 20 true)] HV) :
    ∀ kk i,20-i=kk→i≤20→∀ (HY:Heap),OwnA HY q2 20 (fun j=>if j<i then (j:Int) else 0)→OwnA HY q1 21 g→Grew HB HY→Ru tbl c (.code (.loop ml6)::.blk 6::S) [(p3,fv),(p4,tv),(p5,aN nm),(p9,lv),(p11,.slice q1 0 21 21 true),(p13,.bool b),(p17,.slice q2 0 20 20 true),(p18,aN i)] HY:=by
  intro kk
  induction kk using Nat.strongRecOn with
  | ind kk ih2 =>
    intro i hkk hi HY oY oQ gY
    refine Ru.loop ?_
    unfold ml6
    repeat first|refine RO.mov ?_|refine RO.lssN ?_|refine RO.nil ?_|refine Ru.region ?_|refine Ru.seq ?_
    refine Ru.cond (fun hlt=>?_) (fun hlt=>?_)
    · repeat first|refine RO.mov ?_|refine Ru.region ?_|refine Ru.seq ?_|refine Ru.block ?_|refine Ru.skip ?_|refine RO.idxSl ?_
      obtain ⟨HZ,hw,uZ,oZ⟩:=oY.set (k:=i) hlt (i:Int)
      refine RO.store (i:=q2) (o:=0+i*1) (v:=aI i) hw ?_
      repeat first|refine RO.mov ?_|refine RO.nil ?_|refine Ru.region ?_|refine RO.inc ?_
      exact Ru.weak (ih2 (20-(i+1)) (by omega) (i+1) rfl (by omega) HZ (fill_law oZ) (uZ.own oQ fun j hj hj'=>by rw [List.mem_singleton] at hj hj';subst hj;subst hj';omega) (uZ.grew gY (above1 bI))) ⟨rfl,rfl,rfl,rfl,rfl,rfl,rfl,rfl,trivial⟩
    · refine Ru.exitTo ?_
      exact Ru.weak (fin HY (oY.congr fun j hj=>by rw [if_pos (by omega)]) oQ gY) ⟨rfl,rfl,rfl,rfl,rfl,rfl,rfl,trivial⟩
theorem due_ok {b:Bool} {g:Nat→Int} {acc:List (Int × Int)} (hG:Mv.Good acc) (hal:acc.length≤40) (sF:SlI HB (acc.map (·.2)) fv) (sT:SlI HB (acc.map (·.1)) tv) (bI:HB.next.idx≤q2.idx) (hq:q1.idx<q2.idx) (hdf:fv.defd=true) (hdt:tv.defd=true) (hdl:lv.defd=true)
    (fin:∀ HV,OwnA HV q2 20 (fun j=>Mv.dueOf acc (j:Int))→OwnA HV q1 21 g→Grew HB HV→Ru tbl c S [(p5,aN nm),(p9,lv),(p11,.slice q1 0 21 21 true),(p13,.bool b),(p17,.slice q2 0 20 20 true)] HV) :
    ∀ kk i,acc.length-i=kk→i≤acc.length→∀ (HY:Heap),OwnA HY q2 20 (fun j=>Mv.dueOf (acc.take i) (j:Int))→OwnA HY q1 21 g→Grew HB HY→Ru tbl c (.code (.loop ml8)::.blk 8::S) [(p3,fv),(p4,tv),(p5,aN nm),(p9,lv),(p11,.slice q1 0 21 21 true),(p13,.bool b),(p17,.slice q2 0 20 20 true),(p19,aN i)] HY:=by
  have hl1:(acc.map (·.1)).length=acc.length:=List.length_map ..
  have hl2:(acc.map (·.2)).length=acc.length:=List.length_map ..
  have hnT:=sT.len
  rw [hl1] at hnT
  intro kk
  induction kk using Nat.strongRecOn with
  | ind kk ih2 =>
    intro i hkk hi HY oY oQ gY
    refine Ru.loop ?_
    unfold ml8
    repeat first|refine RO.mov ?_|refine RO.lenSl ?_|refine RO.lssN ?_|refine RO.nil ?_|refine Ru.region ?_|refine Ru.seq ?_
    refine Ru.cond (fun hlt=>?_) (fun hlt=>?_)
    · have hdec:acc.length-(i+1)<kk:=by omega
      repeat first|refine RO.mov ?_|refine Ru.region ?_|refine Ru.seq ?_|refine Ru.block ?_|refine Ru.skip ?_
      have hz:acc[i]?=some acc[i]:=getElem?_pos acc i hlt
      obtain ⟨⟨hz1,hz2⟩,hz3,hz4⟩:=hG.2 _ (List.mem_of_getElem? hz)
      have htk:acc.take (i+1)=acc.take i++[acc[i]]:=by rw [List.take_add_one,hz];rfl
      generalize acc[i]=z at hz hz1 hz2 hz3 hz4 htk
      obtain ⟨t,ht⟩:∃ t:Nat,z.1=Int.ofNat t:=⟨z.1.toNat,(Int.toNat_of_nonneg hz1).symm⟩
      have et:z.1=(t:Int):=ht
      refine RO.idxI (gY.sl sT) (fun q o y hy hc _=>?_)
      rw [List.getElem?_map,hz] at hy;injection hy with hy
      have hc:cellAt HY q o=some (aN t):=by rw [hc,← hy];show some (aI z.1)=_;rw [ht]
      repeat first|refine RO.mov ?_|refine RO.load1 ?_
      refine RO.idxI (gY.sl sF) (fun q' o' y' hy' hc' _=>?_)
      rw [List.getElem?_map,hz] at hy';injection hy' with hy'
      have hc':cellAt HY q' o'=some (aI z.2):=by rw [hc',← hy']
      repeat first|refine RO.load1 ?_|refine RO.idxSl ?_
      obtain ⟨HZ,hw,uZ,oZ⟩:=oY.set (k:=t) (by omega) z.2
      refine RO.store (i:=q2) (o:=0+t*1) (v:=aI z.2) hw ?_
      repeat first|refine RO.mov ?_|refine RO.nil ?_|refine Ru.region ?_|refine RO.inc ?_
      exact Ru.weak (ih2 (acc.length-(i+1)) hdec (i+1) rfl (by omega) HZ (oZ.congr fun j hj=>by
        rw [htk,Mv.dueOf_snoc,et]
        by_cases e:j=t
        · subst e;simp
        · rw [if_neg e];show _=if (j:Int)=(t:Int) then _ else _;rw [if_neg (by omega)]) (uZ.own oQ fun j hj hj'=>by rw [List.mem_singleton] at hj hj';subst hj;subst hj';omega) (uZ.grew gY (above1 bI))) ⟨rfl,rfl,rfl,rfl,rfl,rfl,rfl,rfl,trivial⟩
    · have hie:i=acc.length:=by omega
      subst hie
      rw [List.take_length] at oY
      refine Ru.exitTo ?_
      exact Ru.weak (fin HY oY oQ gY) ⟨rfl,rfl,rfl,rfl,rfl,trivial⟩
end
end Go.Abs.R
namespace Go.Abs.R
open Go.Abs Go.Abs.R1
section
variable [Ov]
variable {tbl:Nat→AFunc} {c:Cx} {S:List SI} {HB:Heap} {fv tv lv:AV} {q1 q2:Pos} {nm:Nat}
theorem round_ok {b rg:Bool} {D:Nat→Nat} {due:Int→Int} (hD:∀ j,j<20→D j<20∧due (j:Int)=(D j:Int)) {HV:Heap} (oD:OwnA HV q2 20 (fun j=>Int.ofNat (D j))) {i:Nat} (hi:i<20) (hdl:lv.defd=true)
    (fin:∀ at',(at'=i↔∃ j,1≤j∧j≤21∧Mv.iter due j (i:Int)=(i:Int))→Ru tbl c S [(p5,aN nm),(p9,lv),(p11,.slice q1 0 21 21 true),(p13,.bool b),(p17,.slice q2 0 20 20 true),(p20,.bool rg),(p21,aN i),(p22,aN at')] HV) :
    ∀ kk k,20-k=kk→k≤20→∀ a:Nat,a<20→Mv.iter due (k+1) (i:Int)=(a:Int)→(∀ j,1≤j→j≤k→Mv.iter due j (i:Int)≠(i:Int))→Ru tbl c (.code (.loop ml12)::.blk 12::S) [(p5,aN nm),(p9,lv),(p11,.slice q1 0 21 21 true),(p13,.bool b),(p17,.slice q2 0 20 20 true),(p20,.bool rg),(p21,aN i),(p22,aN a),(p23,aN k)] HV:=by
  intro kk
  induction kk using Nat.strongRecOn with
  | ind kk ih =>
    intro k hkk hk a ha hit hno
    refine Ru.loop ?_
    unfold ml12
    repeat first|refine RO.mov ?_|refine RO.lssN ?_|refine Ru.region ?_|refine Ru.seq ?_
    refine RO.byCases (fun hlt=>?_) (fun hlt=>?_)
    · repeat first|refine RO.mov ?_|refine RO.nil ?_|refine RO.neqN ?_|refine RO.guardT ?_|refine RO.pickT ?_
      refine Ru.cond (fun hne=>?_) (fun hne=>?_)
      · have hcell:cellAt HV q2 (0+a*1)=some (aN (D a)):=oD.cell ha
        repeat first|refine RO.mov ?_|refine RO.nil ?_|refine Ru.region ?_|refine Ru.seq ?_|refine Ru.block ?_|refine Ru.skip ?_|refine RO.inc ?_|refine RO.load1 ?_|refine RO.idxSl ?_
        refine Ru.weak (ih (20-(k+1)) (by omega) (k+1) rfl (by omega) (D a) (hD a ha).1 (by rw [Mv.iter_succ,hit];exact (hD a ha).2) (fun j h1 h2=>?_)) ⟨rfl,rfl,rfl,rfl,rfl,rfl,rfl,rfl,rfl,trivial⟩
        by_cases e:j=k+1
        · subst e;rw [hit];omega
        · exact hno j h1 (by omega)
      · refine Ru.exitTo ?_
        refine Ru.weak (fin a ⟨fun _=>⟨k+1,by omega,by omega,by rw [hit];omega⟩,fun _=>by omega⟩) ⟨rfl,rfl,rfl,rfl,rfl,rfl,rfl,rfl,trivial⟩
    · repeat first|refine RO.nil ?_|refine Ru.condF ?_|refine RO.guardF ?_|refine RO.pickF ?_
      refine Ru.exitTo ?_
      refine Ru.weak (fin a ⟨fun e=>⟨k+1,by omega,by omega,by rw [hit];omega⟩,fun ⟨j,h1,h2,h3⟩=>?_⟩) ⟨rfl,rfl,rfl,rfl,rfl,rfl,rfl,rfl,trivial⟩
      by_cases e:j=k+1
      · subst e;rw [hit] at h3;omega
      · exact absurd h3 (hno j h1 (by omega))
theorem ring_ok {b:Bool} {D:Nat→Nat} {due:Int→Int} {g:Nat→Int} (hD:∀ j,j<20→D j<20∧due (j:Int)=(D j:Int)) (hg:∀ j,j<20→g j=Int.ofNat (D j)) {HV:Heap} (oD:OwnA HV q2 20 (fun j=>Int.ofNat (D j))) (oQ:OwnA HV q1 21 g) (hdl:lv.defd=true)
    (fin:∀ rg,(rg=true↔∃ i:Nat,i<20∧Mv.ringP due i)→Ru tbl c S [(p5,aN nm),(p9,lv),(p13,.bool b),(p20,.bool rg)] HV) :
    ∀ kk i,20-i=kk→i≤20→∀ rg,(rg=true↔∃ i':Nat,i'<i∧Mv.ringP due i')→Ru tbl c (.code (.loop ml10)::.blk 10::S) [(p5,aN nm),(p9,lv),(p11,.slice q1 0 21 21 true),(p13,.bool b),(p17,.slice q2 0 20 20 true),(p20,.bool rg),(p21,aN i)] HV:=by
  intro kk
  induction kk using Nat.strongRecOn with
  | ind kk ih =>
    intro i hkk hi rg hrg
    have hdec:i<20→20-(i+1)<kk∧i+1≤20:=fun h=>by omega
    refine Ru.loop ?_
    unfold ml10
    repeat first|refine RO.mov ?_|refine RO.lssN ?_|refine RO.nil ?_|refine Ru.region ?_|refine Ru.seq ?_
    refine Ru.cond (fun hlt=>?_) (fun hlt=>?_)
    · have hcell:cellAt HV q2 (0+i*1)=some (aN (D i)):=oD.cell hlt
      have hcq:cellAt HV q1 (0+i*1)=some (aN (D i)):=by rw [oQ.cell (by omega),hg i hlt]
      obtain ⟨hD1,hD2⟩:=hD i hlt
      repeat first|refine RO.mov ?_|refine RO.nil ?_|refine Ru.region ?_|refine Ru.seq ?_|refine Ru.block ?_|refine Ru.skip ?_|refine RO.load1 ?_|refine RO.idxSl ?_
      refine round_ok (b:=b) (rg:=rg) hD oD hlt hdl (fun at' hat=>?_) _ 0 rfl (by omega) (D i) hD1 hD2 (fun j h1 h2=>by omega) |>.weak ⟨rfl,rfl,rfl,rfl,rfl,rfl,rfl,rfl,rfl,trivial⟩
      have hstep:(∃ i':Nat,i'<i+1∧Mv.ringP due i')↔(∃ i':Nat,i'<i∧Mv.ringP due i')∨(at'=i∧D i≠i):=by
        have hr:Mv.ringP due i↔(at'=i∧D i≠i):=by
          unfold Mv.ringP
          rw [hat,hD2,and_comm]
          exact and_congr_right fun _=>by omega
        constructor
        · rintro ⟨i',h1,h2⟩
          by_cases e:i'=i
          · subst e;exact .inr (hr.1 h2)
          · exact .inl ⟨i',by omega,h2⟩
        · rintro (⟨i',h1,h2⟩ | h)
          · exact ⟨i',by omega,h2⟩
          · exact ⟨i,by omega,hr.2 h⟩
      repeat first|refine RO.mov ?_|refine Ru.region ?_|refine Ru.seq ?_
      refine RO.byBool (fun hr=>?_) (fun hr=>?_)
      · repeat first|refine RO.mov ?_|refine RO.nil ?_|refine Ru.region ?_|refine Ru.seq ?_|refine RO.neqN ?_|refine RO.load1 ?_|refine RO.guardF ?_|refine RO.guardU ?_|refine RO.idxSl ?_|refine RO.pickT ?_
        refine Ru.cond (fun h=>absurd rfl h) (fun _=>?_)
        repeat first|refine RO.mov ?_|refine RO.nil ?_|refine Ru.region ?_|refine Ru.skip ?_|refine RO.inc ?_
        exact Ru.weak (ih (20-(i+1)) (hdec hlt).1 (i+1) rfl (hdec hlt).2 true (by rw [hstep];exact ⟨fun _=>.inl (hrg.1 hr),fun _=>rfl⟩)) ⟨rfl,rfl,rfl,rfl,rfl,rfl,rfl,trivial⟩
      · have hno:¬ ∃ i':Nat,i'<i∧Mv.ringP due i':=fun h=>by have:=hrg.2 h;rw [hr] at this;cases this
        repeat first|refine RO.mov ?_|refine RO.eqlN ?_|refine RO.guardT ?_
        refine RO.byCases (fun he=>?_) (fun he=>?_)
        · repeat first|refine RO.mov ?_|refine RO.nil ?_|refine Ru.region ?_|refine Ru.seq ?_|refine RO.neqN ?_|refine RO.load1 ?_|refine RO.guardT ?_|refine RO.idxSl ?_|refine RO.pickT ?_|refine RO.pickF ?_
          refine Ru.cond (fun h=>absurd rfl h) (fun _=>?_)
          repeat first|refine RO.mov ?_|refine RO.nil ?_|refine Ru.region ?_|refine Ru.skip ?_|refine RO.inc ?_
          exact Ru.weak (ih (20-(i+1)) (hdec hlt).1 (i+1) rfl (hdec hlt).2 (decide (D i≠i)) (by
            rw [hstep,decide_eq_true_iff];exact ⟨fun h=>.inr ⟨he,h⟩,fun h=>h.elim (fun h=>absurd h hno) (·.2)⟩)) ⟨rfl,rfl,rfl,rfl,rfl,rfl,rfl,trivial⟩
        · repeat first|refine RO.mov ?_|refine RO.nil ?_|refine Ru.region ?_|refine Ru.seq ?_|refine RO.neqN ?_|refine RO.load1 ?_|refine RO.guardT ?_|refine RO.guardF ?_|refine RO.idxSl ?_|refine RO.pickF ?_
          refine Ru.cond (fun h=>absurd rfl h) (fun _=>?_)
          repeat first|refine RO.mov ?_|refine RO.nil ?_|refine Ru.region ?_|refine Ru.skip ?_|refine RO.inc ?_
          exact Ru.weak (ih (20-(i+1)) (hdec hlt).1 (i+1) rfl (hdec hlt).2 false (by
            rw [hstep];exact ⟨(fun h=>by cases h),fun h=>h.elim (fun h=>absurd h hno) (fun h=>absurd h.1 he)⟩)) ⟨rfl,rfl,rfl,rfl,rfl,rfl,rfl,trivial⟩
    · have hie:i=20:=by omega
      subst hie
      refine Ru.exitTo ?_
      exact Ru.weak (fin rg hrg) ⟨rfl,rfl,rfl,rfl,trivial⟩
end
end Go.Abs.R
namespace Go.Abs.R
open Go.Abs Go.Abs.R1
section
variable [Ov]
variable {tbl:Nat→AFunc}
def busy (acc:List (Int × Int)):List (Int × Int):=acc.filter fun m=>!decide (m.2=m.1)
theorem zip_maps (acc:List (Int × Int)):zipM (acc.map (·.2)) (acc.map (·.1))=acc:=by
  simp only [zipM]
  induction acc with
  | nil=>rfl
  | cons a l ih=>simp [ih]
theorem err_zero {acc:List (Int × Int)} (h:Mv.Good acc):errOf (acc.map (·.2)) (acc.map (·.1)) 20=0:=by
  have h1:∀ z∈acc.map (·.2)++acc.map (·.1),0≤z∧z<20:=fun z hz=>by
    rcases List.mem_append.1 hz with hz | hz
    · obtain ⟨m,hm,rfl⟩:=List.mem_map.1 hz;exact (h.2 m hm).2
    · obtain ⟨m,hm,rfl⟩:=List.mem_map.1 hz;exact (h.2 m hm).1
  unfold errOf
  rw [if_neg (by simp),if_neg,if_neg (show ¬ ¬ (List.map (fun x:Int × Int=>x.1) acc).Nodup from not_not_intro h.1),if_neg fun hc=>by have:=h1 _ hc;omega]
  rintro (hc | ⟨z,hz,hc⟩)
  · omega
  · have:=h1 z hz;omega
set_option maxHeartbeats 1000000 in
theorem regsMoved_ok (T:Tb tbl) {H:Heap} {bs:List (Nat × Nat)} {sb:AV} {K:AV→Heap→Prop} (hb:SlB H bs sb) (hbd:∀ m∈bs,m.1<256∧m.2<256) (hK:∀ H',Grew H H'→K (.bool true) H'):YF tbl (.func 4 [] []) [sb] H K:=by
  have hdb:=hb.defd;have hnb:=hb.len
  refine YF.code T.c4 (by simp) ?_
  repeat first|refine RO.mov ?_|refine RO.nil ?_|refine Ru.region ?_|refine Ru.seq ?_
  refine RO.emptyS (size:=1) fun H1 v1 fp1 o1 g1 a1=>?_
  have hd1:=o1.sl.defd
  refine RO.emptyS (size:=1) fun H2 v2 fp2 o2 g2 a2=>?_
  have hd2:=o2.sl.defd
  repeat first|refine RO.mov ?_|refine RO.nil ?_|refine Ru.region ?_|refine Ru.seq ?_|refine Ru.block ?_
  refine Ru.name2 fun A S hA hS=>?_
  have fin:∀ acc:List (Int × Int),Mv.Good acc→acc.length≤40→∀ (HX:Heap) (fpF fpT:List Pos) (fv tv:AV),OwnI HX fpF 3 (acc.map (·.2)) true fv→OwnI HX fpT 3 (acc.map (·.1)) true tv→Grew H HX→Ru tbl (fcx [.tmp p2] K) S [(p3,fv),(p4,tv),(p5,aN (busy acc).length)] HX:=by
    subst hS
    intro acc hG hal HX fpF fpT fv tv oF oT gX
    have hdf:=oF.sl.defd;have hdt:=oT.sl.defd
    have hl1:(acc.map (·.1)).length=acc.length:=List.length_map ..
    have hl2:(acc.map (·.2)).length=acc.length:=List.length_map ..
    repeat first|refine Ru.region ?_|refine Ru.seq ?_
    refine RO.emptyS (size:=1) fun H3 v3 fp3 o3 g3 a3=>?_
    have hd3:=o3.sl.defd
    repeat first|refine RO.mov ?_
    refine RO.appendU o3 (g3.sl oF.sl) (allOne_ints _) (fun v4 H4 fp4 o4 u4=>?_)
    have hd4:=o4.sl.defd
    have gA:=u4.grew g3 a3
    refine RO.emptyS (size:=1) fun H5 v5 fp5 o5 g5 a5=>?_
    have hd5:=o5.sl.defd
    repeat first|refine RO.mov ?_
    refine RO.appendU o5 ((gA.trans g5).sl oT.sl) (allOne_ints _) (fun v6 H6 fp6 o6 u6=>?_)
    have hd6:=o6.sl.defd
    have g56:=u6.grew g5 a5
    have gB:=gA.trans g56
    have s4:SlI H6 (acc.map (·.2)) v4:=by have:=g56.sl o4.sl;unfold SlI;simpa using this
    have s6:SlI H6 (acc.map (·.1)) v6:=by have:=o6.sl;unfold SlI;simpa using this
    refine RO.call (moves_any T (sp:=20) s4 s6 (by omega) (by omega) fun lv HB hdl h0 _ gm=>?_) (had:=by show (v4.defd&&(v6.defd&&(true&&true)))=true;rw [hd4,hd6];rfl)
    obtain ⟨out,hord0,hol,hlo⟩:=h0 (err_zero hG)
    rw [zip_maps] at hord0
    have hord:Mv.Ord 20 (Mv.leftOf acc) out:=hord0
    rw [err_zero hG]
    have gC:=(gX.trans gB).trans gm
    have sF:=(gB.trans gm).sl oF.sl
    have sT:=(gB.trans gm).sl oT.sl
    have hnl:=hlo.len;have hnT:=sT.len;have hnF:=sF.len
    obtain ⟨r,a,hc1,hc2,_,_,hc3⟩:=Mv.ord_count hord (Mv.left_asc hG) (Mv.left_busy acc) (Mv.left_spare hG)
    have hlb:(Mv.leftOf acc).length=(busy acc).length:=(sortP_perm _).length_eq
    have hbl:(busy acc).length≤40:=Nat.le_trans (List.length_filter_le ..) hal
    repeat first|refine RO.mov ?_|refine RO.lenSl ?_|refine RO.nil ?_|refine Ru.region ?_|refine Ru.seq ?_|refine RO.neqN ?_|refine RO.extract ?_|refine RO.guardT ?_
    refine RO.mulN ?_
    repeat first|refine RO.mov ?_|refine RO.guardT ?_
    refine RO.mulN ?_
    repeat first|refine RO.mov ?_|refine RO.gtrN ?_|refine RO.guardT ?_|refine RO.pickF ?_
    refine RO.byCases (p:=3*(busy acc).length<2*out.length) (fun hx=>absurd hx (by omega)) (fun _=>?_)
    repeat first|refine RO.mov ?_|refine RO.lenSl ?_|refine RO.lssN ?_|refine RO.nil ?_|refine RO.guardT ?_|refine RO.pickF ?_
    refine Ru.cond (p:=out.length<(busy acc).length) (fun hx=>absurd hx (by omega)) (fun _=>?_)
    repeat first|refine Ru.region ?_|refine Ru.seq ?_|refine Ru.skip ?_
    refine RO.mkA fun HI q1 oI gI bI=>?_
    repeat first|refine RO.mov ?_|refine RO.nil ?_|refine Ru.region ?_|refine Ru.seq ?_|refine Ru.block ?_
    have hgo:=Mv.ord_good hord (Mv.left_busy acc) (fun m hm=>⟨(hG.2 m (Mv.left_mem.1 hm).1).1,by have:=(hG.2 m (Mv.left_mem.1 hm).1).2;omega⟩)
    refine Ru.weak (fill2_ok (nm:=(busy acc).length) bI hdf hdt hdl (fun HV oV gV=>?_) _ 0 rfl (by omega) HI (oI.congr fun j _=>by rw [if_neg (by omega)]) gI) ⟨rfl,rfl,rfl,rfl,rfl,rfl,trivial⟩
    repeat first|refine RO.mov ?_|refine RO.nil ?_|refine Ru.region ?_|refine Ru.seq ?_|refine Ru.block ?_
    refine Ru.weak (moved_ok (nm:=(busy acc).length) bI hdf hdt hdl hlo hol hgo (fun b HV oB oV gV=>?_) _ 0 rfl (by omega) false (by simp) HV oV gV) ⟨rfl,rfl,rfl,rfl,rfl,rfl,rfl,trivial⟩
    repeat first|refine Ru.region ?_|refine Ru.seq ?_
    refine RO.mkA fun HJ q2 oJ gJ bJ=>?_
    repeat first|refine RO.mov ?_|refine RO.nil ?_|refine Ru.region ?_|refine Ru.seq ?_|refine Ru.block ?_
    have hq:=(Own.mem oV).2.2
    have hq2:q1.idx<q2.idx:=by omega
    have bJ2:HB.next.idx≤q2.idx:=by have:=gV.nx;omega
    refine Ru.weak (fill6_ok (nm:=(busy acc).length) (b:=b) bJ2 hq2 hdf hdt hdl (fun HW oD oQ gW=>?_) _ 0 rfl (by omega) HJ (oJ.congr fun j _=>by rw [if_neg (by omega)]) (gJ.own oV) (gV.trans gJ)) ⟨rfl,rfl,rfl,rfl,rfl,rfl,rfl,rfl,trivial⟩
    repeat first|refine RO.mov ?_|refine RO.nil ?_|refine Ru.region ?_|refine Ru.seq ?_|refine Ru.block ?_
    refine Ru.weak (due_ok (nm:=(busy acc).length) (b:=b) hG hal sF sT bJ2 hq2 hdf hdt hdl (fun HW oD oQ gW=>?_) _ 0 rfl (by omega) HW oD oQ gW) ⟨rfl,rfl,rfl,rfl,rfl,rfl,rfl,rfl,trivial⟩
    repeat first|refine RO.mov ?_|refine RO.nil ?_|refine Ru.region ?_|refine Ru.seq ?_|refine Ru.block ?_
    have hD:∀ j:Nat,j<20→(Mv.dueOf acc (j:Int)).toNat<20∧Mv.dueOf acc (j:Int)=(((Mv.dueOf acc (j:Int)).toNat:Nat):Int):=fun j hj=>by
      have:=Mv.due_range hG (x:=(j:Int)) (by omega)
      omega
    refine Ru.weak (ring_ok (nm:=(busy acc).length) (b:=b) hD (fun j hj=>by rw [Mv.run_due hG hord (by omega)];exact (hD j hj).2) (oD.congr fun j hj=>(hD j hj).2) oQ hdl (fun rg hr=>?_) _ 0 rfl (by omega) false (by simp)) ⟨rfl,rfl,rfl,rfl,rfl,rfl,rfl,trivial⟩
    have hbr:b=rg:=by rw [Bool.eq_iff_iff,oB,hr];exact Mv.spared_ring hG hord
    subst hbr
    repeat first|refine RO.mov ?_|refine Ru.region ?_|refine Ru.seq ?_
    refine RO.eq (t:=true) ?_ (ht:=by cases b<;>rfl)
    repeat first|refine RO.mov ?_|refine RO.guardT ?_
    refine RO.byBool (fun hbt=>?_) (fun hbf=>?_)
    · repeat first|refine RO.mov ?_|refine RO.guardT ?_|refine RO.guardF ?_|refine RO.pickT ?_
      refine RO.call (known_call T ?_)
      repeat first|refine RO.mov ?_|refine RO.nil ?_|refine RO.pickT ?_
      exact Ru.ret1 (hK HW (gC.trans gW))
    · have hm:out.length=(busy acc).length:=by
        have hno:¬ ∃ m∈out,m.1=20:=fun h=>by have:=oB.2 h;rw [hbf] at this;cases this
        have:¬ 0<r:=fun h=>hno (hc3.1 h)
        omega
      repeat first|refine RO.mov ?_|refine RO.lenSl ?_|refine RO.eqlN ?_|refine RO.guardT ?_|refine RO.pickT ?_|refine RO.pickF ?_
      refine RO.byCases (fun _=>?_) (fun hx=>absurd hm hx)
      repeat first|refine RO.guardT ?_
      refine RO.call (known_call T ?_)
      repeat first|refine RO.mov ?_|refine RO.nil ?_|refine RO.pickT ?_
      exact Ru.ret1 (hK HW (gC.trans gW))
  have loop:∀ kk i,40-i=kk→i≤bs.length→i≤40→∀ (HX:Heap) (fpF fpT:List Pos) (fv tv:AV),OwnI HX fpF 3 ((Mv.built (bs.take i)).map (·.2)) true fv→OwnI HX fpT 3 ((Mv.built (bs.take i)).map (·.1)) true tv→Grew H HX→Above H fpF→Above H fpT→(∀ j∈fpT,j∉fpF)→Ru tbl (fcx [.tmp p2] K) (A::.blk 0::S) [(p0,sb),(p3,fv),(p4,tv),(p5,aN (busy (Mv.built (bs.take i))).length),(p6,aN i)] HX:=by
    subst hA
    intro kk
    induction kk using Nat.strongRecOn with
    | ind kk ih =>
      intro i hkk hi hi40 HX fpF fpT fv tv oF oT gX aF aT hdis
      have hdf:=oF.sl.defd;have hdt:=oT.sl.defd
      obtain ⟨hG,hGl⟩:=Mv.built_good (bs.take i)
      have hal:(Mv.built (bs.take i)).length≤40:=by rw [List.length_take] at hGl;omega
      have hbl:(busy (Mv.built (bs.take i))).length≤40:=Nat.le_trans (List.length_filter_le ..) hal
      refine Ru.loop ?_
      repeat first|refine RO.mov ?_|refine RO.lenSl ?_|refine RO.lssN ?_|refine Ru.region ?_|refine Ru.seq ?_
      refine RO.byCases (fun hlt=>?_) (fun hlt=>?_)
      · repeat first|refine RO.mov ?_|refine RO.lssN ?_|refine RO.nil ?_|refine RO.guardT ?_|refine RO.pickT ?_
        refine Ru.cond (fun hlt2=>?_) (fun hlt2=>?_)
        · repeat first|refine RO.mov ?_|refine Ru.region ?_|refine Ru.seq ?_|refine Ru.block ?_|refine Ru.skip ?_
          refine RO.idxB (gX.sl hb) (fun q o z hz hc hc2=>?_)
          have hz2:=hbd z (List.mem_of_getElem? hz)
          have hst:Mv.built (bs.take (i+1))=Mv.addM (Mv.built (bs.take i)) z:=by rw [List.take_succ,hz,← Mv.built_snoc];rfl
          repeat first|refine RO.load1 ?_|refine RO.idxArr ?_
          refine RO.convN ?_
          refine RO.remN ?_
          repeat first|refine RO.mov ?_
          refine RO.idxB (gX.sl hb) (fun q' o' z' hz' hc' hc2'=>?_)
          rw [hz] at hz';injection hz' with hz';subst hz'
          repeat first|refine RO.load1 ?_|refine RO.idxArr ?_
          refine RO.convN ?_
          refine RO.remN ?_
          repeat first|refine RO.mov ?_|refine RO.nil ?_|refine Ru.region ?_|refine Ru.seq ?_
          refine RO.call (has11_ok T.c11 (x:=((z.2 % 20:Nat):Int)) oT.sl (by simp;omega) ?_) (had:=by show (tv.defd&&true)=true;rw [hdt];rfl)
          repeat first|refine RO.nil ?_|refine RO.un ?_
          refine Ru.condB (fun hm=>?_) (fun hm=>?_)
          · have hm':((z.2 % 20:Nat):Int)∉Mv.keys (Mv.built (bs.take i)):=by
              intro hc;rw [show decide (((z.2 % 20:Nat):Int)∈(Mv.built (bs.take i)).map (·.1))=true from decide_eq_true hc] at hm;cases hm
            have hst2:Mv.built (bs.take (i+1))=Mv.built (bs.take i)++[(((z.2 % 20:Nat):Int),((z.1 % 20:Nat):Int))]:=by rw [hst];unfold Mv.addM;rw [if_neg hm']
            repeat first|refine RO.mov ?_|refine Ru.region ?_|refine Ru.seq ?_
            refine RO.pushI (z:=((z.1 % 20:Nat):Int)) oF (fun w fv' HY fpY oY uY=>?_) (hn:=by rw [List.length_map];omega)
            have hdf':=oY.sl.defd
            repeat first|refine RO.mov ?_
            have oT':=uY.own oT hdis
            refine RO.pushI (z:=((z.2 % 20:Nat):Int)) oT' (fun w2 tv' HZ fpZ oZ uZ=>?_) (hn:=by rw [List.length_map];omega)
            have hdt':=oZ.sl.defd
            have gY:=uY.grew gX aF
            have aY:=uY.above gX aF
            have hap:=uY.apart oT hdis
            have oY':=uZ.own oY fun j hj hj'=>hap j hj' hj
            have gZ:=uZ.grew gY (fun j hj=>aT j hj)
            have aZ:=uZ.above gY (fun j hj=>aT j hj)
            have hap2:=uZ.apart oY fun j hj hj'=>hap j hj' hj
            repeat first|refine RO.mov ?_|refine RO.nil ?_|refine Ru.region ?_|refine Ru.seq ?_|refine RO.neqN ?_
            have go:Ru tbl (fcx [.tmp p2] K) (.code _::.blk 0::S) [(p0,sb),(p3,fv'),(p4,tv'),(p5,aN (busy (Mv.built (bs.take (i+1)))).length),(p6,aN (i+1))] HZ:=ih (40-(i+1)) (by omega) (i+1) rfl (by omega) (by omega) HZ fpY fpZ fv' tv' (by rw [hst2,List.map_append];exact oY') (by rw [hst2,List.map_append];exact oZ) gZ aY aZ (fun j hj hj'=>hap2 j hj' hj)
            refine Ru.cond (fun hne=>?_) (fun hne=>?_)
            · have e:(busy (Mv.built (bs.take (i+1)))).length=(busy (Mv.built (bs.take i))).length+1:=by
                rw [hst2];unfold busy;rw [List.filter_append,List.length_append,List.filter_cons,List.filter_nil,if_pos (by simp;omega)];rfl
              rw [e] at go
              repeat first|refine RO.mov ?_|refine RO.nil ?_|refine Ru.region ?_|refine RO.inc ?_
              exact Ru.weak go ⟨rfl,rfl,rfl,rfl,rfl,trivial⟩
            · have e:(busy (Mv.built (bs.take (i+1)))).length=(busy (Mv.built (bs.take i))).length:=by
                rw [hst2];unfold busy;rw [List.filter_append,List.length_append,List.filter_cons,List.filter_nil,if_neg (by simp;omega)];rfl
              rw [e] at go
              repeat first|refine RO.mov ?_|refine RO.nil ?_|refine Ru.region ?_|refine Ru.skip ?_|refine RO.inc ?_
              exact Ru.weak go ⟨rfl,rfl,rfl,rfl,rfl,trivial⟩
          · have hm':((z.2 % 20:Nat):Int)∈Mv.keys (Mv.built (bs.take i)):=by
              apply Classical.byContradiction
              intro hc;rw [show decide (((z.2 % 20:Nat):Int)∈(Mv.built (bs.take i)).map (·.1))=false from decide_eq_false hc] at hm;cases hm
            have hst2:Mv.built (bs.take (i+1))=Mv.built (bs.take i):=by rw [hst];unfold Mv.addM;rw [if_pos hm']
            repeat first|refine RO.mov ?_|refine RO.nil ?_|refine Ru.region ?_|refine Ru.skip ?_|refine RO.inc ?_
            have go:=ih (40-(i+1)) (by omega) (i+1) rfl (by omega) (by omega) HX fpF fpT fv tv (by rw [hst2];exact oF) (by rw [hst2];exact oT) gX aF aT hdis
            rw [hst2] at go
            exact Ru.weak go ⟨rfl,rfl,rfl,rfl,rfl,trivial⟩
        · refine Ru.exitTo ?_
          exact Ru.weak (fin _ hG hal HX fpF fpT fv tv oF oT gX) ⟨rfl,rfl,rfl,trivial⟩
      · repeat first|refine RO.nil ?_|refine Ru.condF ?_|refine RO.guardF ?_|refine RO.pickF ?_
        refine Ru.exitTo ?_
        exact Ru.weak (fin _ hG hal HX fpF fpT fv tv oF oT gX) ⟨rfl,rfl,rfl,trivial⟩
  have go:=loop _ 0 rfl (by omega) (by omega) H2 fp1 fp2 v1 v2 (g2.own o1) o2 (g1.trans g2) a1 (fun j hj=>by have:=a2 j hj;have:=g1.nx;omega) (fun j hj hj'=>by have:=a2 j hj;have:=o1.below j hj';omega)
  exact Ru.weak go ⟨rfl,rfl,rfl,rfl,rfl,trivial⟩
end
end Go.Abs.R
