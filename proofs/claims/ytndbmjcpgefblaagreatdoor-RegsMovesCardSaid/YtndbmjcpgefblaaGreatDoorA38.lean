/- A part of the proof (an abstract machine, walks): no statement of its own, no conditions. -/
import Derived.Test.YtndbmjcpgefblaaGreatDoorA37
set_option linter.all false
namespace Go.Abs
theorem RO.guardU {tbl:Nat→AFunc} {c:Cx} {s:List SI} {L:Kn} {H:Heap} {d:Option Pos} {l:List AOper} {op:AOp} {g:Pos} {w:Bool} {hd:List Pos} {re:List ARe} (h:RO tbl c l s (setL L d .undef) H) (hg:gvL L (.t g)=.tuple []:=by (conv=>lhs;whnf)<;>rfl):RO tbl c (⟨d,op,some (g,w),hd,re⟩::l) s L H:=fun env hle=>by
  obtain ⟨n,hn⟩:=h _ (hle.set d .undef)
  refine ⟨n+1,?_⟩
  have e:env.get .undef g=.tuple []:=hle.get hg rfl
  simp only [Xo,Go.Abs.ops,guardOk,guardDefd,e,Bool.false_eq_true,if_false,AV.defd,if_true]
  exact hn
end Go.Abs
namespace Go.Abs.R
open Go.Abs Go.Abs.R1
section
variable [Ov]
variable {tbl:Nat→AFunc}
def BestAt (r:List (Int × Int)) (i:Nat) (v:AV):Prop :=
  (v=.int 3 (.negSucc 0)∧∀ j,j<i→¬ Mv.freeAt r j)∨∃ b m,v=aN b∧b<i∧r[b]?=some m∧Mv.freeAt r b∧∀ j o,j<i→r[j]?=some o→Mv.freeAt r j→m.1≤o.1
def LeastAt (r:List (Int × Int)) (i a:Nat):Prop:=a<r.length∧∀ m j o,r[a]?=some m→j<i→r[j]?=some o→m.1≤o.1
theorem pair_at {H:Heap} {us:List (Int × Int)} {b:Pos} {n cap:Nat} {ex:Bool} (h:SlP H us (.slice b 0 n cap ex)) (hn:us.length=n) {j:Nat} (hj:j<us.length):cellAt H b (j*2)=some (aI us[j].1)∧cellAt H b (j*2+1)=some (aI us[j].2)∧readAt H b (j*2) 2=some [aI us[j].1,aI us[j].2]:=by
  have hfl:=flatP_length us
  obtain ⟨i,o,cp,e,e1,_,_,hat,hrd⟩:=h.at (by omega)
  injection e1 with e1 e2
  subst e1;subst e2
  obtain ⟨g1,g2⟩:=flatP_get (getElem?_pos us j hj)
  have h1:=hat (j*2) (by omega)
  have h2:=hat (j*2+1) (by omega)
  rw [Nat.zero_add] at h1 h2
  have e1:(flatP us)[j*2]'(by omega)=aI us[j].1:=by
    rw [getElem?_pos (flatP us) (2*j) (by omega)] at g1;injection g1 with g1
    rw [← g1];congr 1;omega
  have e2:(flatP us)[j*2+1]'(by omega)=aI us[j].2:=by
    rw [getElem?_pos (flatP us) (2*j+1) (by omega)] at g2;injection g2 with g2
    rw [← g2];congr 1;omega
  refine ⟨by rw [h1,e1],by rw [h2,e2],?_⟩
  have h3:=hrd (j*2) 2 (by omega)
  rw [Nat.zero_add] at h3
  rw [h3]
  congr 1
  rw [List.drop_eq_getElem_cons (by omega),List.take_succ_cons,List.drop_eq_getElem_cons (by omega),List.take_succ_cons,List.take_zero,e1,e2]
theorem respare_perm {l r:List (Int × Int)} (h:l.Perm r) (sp f:Int):(Mv.respare sp f l).Perm (Mv.respare sp f r):=h.map _
theorem zfilter_step {fr to:List Int} (hl:fr.length=to.length) {i:Nat} (hi:i<to.length):((zipM fr to).take (i+1)).filter (fun m=>!decide (m.2=m.1))=((zipM fr to).take i).filter (fun m=>!decide (m.2=m.1))++(if fr[i]'(by omega)=to[i] then [] else [(to[i],fr[i]'(by omega))]):=by
  rw [zip_take hl hi,List.filter_append]
  congr 1
  by_cases h:fr[i]'(by omega)=to[i]<;>simp [h]
theorem take_drop_erase {r:List (Int × Int)} {b:Nat}:r.take b++r.drop (b+1)=r.eraseIdx b:=(List.eraseIdx_eq_take_drop_succ r b).symm
theorem BestAt.some_of {r:List (Int × Int)} {i b:Nat} (h:BestAt r i (aN b)):∃ m,b<i∧r[b]?=some m∧Mv.freeAt r b∧∀ j o,j<i→r[j]?=some o→Mv.freeAt r j→m.1≤o.1:=by
  rcases h with ⟨h,_⟩ | ⟨b',m,h,h1,h2,h3,h4⟩
  · cases h
  · injection h with _ h;injection h with h;subst h;exact ⟨m,h1,h2,h3,h4⟩
theorem best_no {r:List (Int × Int)} {i:Nat} {v:AV} (h:BestAt r i v) (hn:¬ Mv.freeAt r i):BestAt r (i+1) v:=by
  rcases h with ⟨rfl,h⟩ | ⟨b,m,rfl,h1,h2,h3,h4⟩
  · exact .inl ⟨rfl,fun j hj=>by
      by_cases e:j=i
      · subst e;exact hn
      · exact h j (by omega)⟩
  · exact .inr ⟨b,m,rfl,by omega,h2,h3,fun j o hj ho hf=>by
      by_cases e:j=i
      · subst e;exact absurd hf hn
      · exact h4 j o (by omega) ho hf⟩
theorem best_new {r:List (Int × Int)} {i:Nat} {m:Int × Int} (h:BestAt r i (.int 3 (.negSucc 0))) (hf:Mv.freeAt r i) (hm:r[i]?=some m):BestAt r (i+1) (aN i):=by
  rcases h with ⟨_,h⟩ | ⟨b,m,h,_⟩
  · exact .inr ⟨i,m,rfl,by omega,hm,hf,fun j o hj ho hfj=>by
      by_cases e:j=i
      · subst e;rw [hm] at ho;injection ho with ho;subst ho;omega
      · exact absurd hfj (h j (by omega))⟩
  · cases h
theorem best_less {r:List (Int × Int)} {i b:Nat} {m mb:Int × Int} (h:BestAt r i (aN b)) (hf:Mv.freeAt r i) (hm:r[i]?=some m) (hb:r[b]?=some mb) (hlt:m.1<mb.1):BestAt r (i+1) (aN i):=by
  obtain ⟨m',h1,h2,h3,h4⟩:=h.some_of
  rw [hb] at h2;injection h2 with h2;subst h2
  exact .inr ⟨i,m,rfl,by omega,hm,hf,fun j o hj ho hfj=>by
      by_cases e:j=i
      · subst e;rw [hm] at ho;injection ho with ho;subst ho;omega
      · have:=h4 j o (by omega) ho hfj;omega⟩
theorem best_keep {r:List (Int × Int)} {i b:Nat} {m mb:Int × Int} (h:BestAt r i (aN b)) (hm:r[i]?=some m) (hb:r[b]?=some mb) (hlt:¬ m.1<mb.1):BestAt r (i+1) (aN b):=by
  obtain ⟨m',h1,h2,h3,h4⟩:=h.some_of
  rw [hb] at h2;injection h2 with h2;subst h2
  exact .inr ⟨b,mb,rfl,by omega,hb,h3,fun j o hj ho hfj=>by
      by_cases e:j=i
      · subst e;rw [hm] at ho;injection ho with ho;subst ho;omega
      · exact h4 j o (by omega) ho hfj⟩
theorem least_less {r:List (Int × Int)} {i a:Nat} {m ma:Int × Int} (h:LeastAt r i a) (hm:r[i]?=some m) (ha:r[a]?=some ma) (hlt:m.1<ma.1):LeastAt r (i+1) i:=by
  obtain ⟨h1,h2⟩:=h
  refine ⟨(List.getElem?_eq_some_iff.1 hm).1,fun m' j o hm' hj ho=>?_⟩
  rw [hm] at hm';injection hm' with hm';subst hm'
  by_cases e:j=i
  · subst e;rw [hm] at ho;injection ho with ho;subst ho;omega
  · have:=h2 ma j o ha (by omega) ho;omega
theorem least_keep {r:List (Int × Int)} {i a:Nat} {m ma:Int × Int} (h:LeastAt r i a) (hm:r[i]?=some m) (ha:r[a]?=some ma) (hlt:¬ m.1<ma.1):LeastAt r (i+1) a:=by
  obtain ⟨h1,h2⟩:=h
  refine ⟨h1,fun m' j o hm' hj ho=>?_⟩
  rw [ha] at hm';injection hm' with hm';subst hm'
  by_cases e:j=i
  · subst e;rw [hm] at ho;injection ho with ho;subst ho;omega
  · exact h2 _ j o ha (by omega) ho
theorem tail_sl {H:Heap} {fp:List Pos} {e:Nat} {r:List (Int × Int)} {full:Bool} {b:Pos} {cap:Nat} {ex:Bool} (h:OwnP H fp e r full (.slice b 0 r.length cap ex)) {k:Nat} (hk:k≤r.length):SlP H (r.drop k) (.slice b (if ex&&decide (cap=k) then 0 else 0+k*2) (r.length-k) (cap-k) ex):=by
  have hl:(r.drop k).length=r.length-k:=List.length_drop ..
  obtain ⟨hbm,hcap,hlt⟩:=Own.mem h
  rcases Own.sl h with ⟨h,_⟩ | ⟨i,o,cp,ex',c',m,e',rw',par,fz,h1,hg,hm,hl',hc,hi,hcap'⟩
  · cases h
  injection h1 with h1 h2 _ h3 h4
  subst h1;subst h2;subst h3;subst h4
  have hfl:=flatP_length r
  have hfl2:=flatP_length (r.drop k)
  unfold SlP
  rw [hl]
  refine .inr ⟨_,_,_,_,c',m,e',rw',par,fz,rfl,hg,?_,by omega,fun j hj=>?_,hi,by omega⟩
  · split<;>omega
  · have hne:r.length-k≠0:=by omega
    have e1:(if ex&&decide (cap=k) then 0 else 0+k*2)=k*2:=by rw [decide_eq_false (by omega)];simp
    rw [e1]
    have:=hc (k*2+j) (by omega)
    rw [Nat.zero_add] at this
    rw [this]
    have h5:(flatP (r.drop k))[j]?=(flatP r)[k*2+j]?:=by
      rw [flatP_at,flatP_at,List.getElem?_drop,show (k*2+j) / 2=k+j / 2 by omega,show (k*2+j) % 2=j % 2 by omega]
    rw [getElem?_pos (flatP (r.drop k)) j hj,getElem?_pos (flatP r) (k*2+j) (by omega)] at h5
    injection h5 with h5
    exact h5.symm
def scanBody:ACode:=(.seq (.seq (.region [O p48 (.mov (T p12)),O p49 (.mov (T p7)),O p50 (.lenSl (T p49)),O p51 (.arith .lss 3 (T p48) (T p50))]) (.cond (T p51) .skip (.exit 4))) (.seq (.block 5 (.seq (.region [O p13 (.mov (C (.bool true)))]) (.seq (.seq (.region [O p14 (.mov (I 3 0))]) (.block 6 (.loop (.seq (.seq (.region [O p54 (.mov (T p14)),O p55 (.mov (T p7)),O p56 (.lenSl (T p55)),O p57 (.arith .lss 3 (T p54) (T p56))]) (.cond (T p57) .skip (.exit 6))) (.seq (.block 7 (.region [O p60 (.mov (T p13)),O p61 (.mov (T p60)),G p62 (.mov (T p14)) p61 true,G p63 (.mov (T p12)) p61 true,G p64 (.arith .eql 3 (T p62) (T p63)) p61 true,G p65 (.mov (T p64)) p61 true,G p66 (.mov (T p7)) p65 false,G p67 (.mov (T p14)) p65 false,G p68 (.idxSl 2 (T p66) (T p67)) p65 false,G p69 (.idxArr 2 1 (T p68) (I 3 1)) p65 false,G p70 (.load1 (T p69)) p65 false,G p71 (.mov (T p7)) p65 false,G p72 (.mov (T p12)) p65 false,G p73 (.idxSl 2 (T p71) (T p72)) p65 false,G p74 (.idxArr 2 1 (T p73) (I 3 0)) p65 false,G p75 (.load1 (T p74)) p65 false,G p76 (.arith .neq 3 (T p70) (T p75)) p65 false,G p77 (.pick (T p65) (C (.bool true)) (T p76)) p61 true,O p78 (.pick (T p61) (T p77) (C (.bool false))),O p13 (.mov (T p78))])) (.region [O p58 (.mov (T p14)),O p59 (.arith .add 3 (T p58) (I 3 1)),O p14 (.mov (T p59))])))))) (.seq (.seq (.region [O p79 (.mov (T p13)),O p80 (.mov (T p79)),G p81 (.mov (T p10)) p80 true,G p82 (.arith .lss 3 (T p81) (I 3 0)) p80 true,G p83 (.mov (T p82)) p80 true,G p84 (.mov (T p7)) p83 false,G p85 (.mov (T p12)) p83 false,G p86 (.idxSl 2 (T p84) (T p85)) p83 false,G p87 (.idxArr 2 1 (T p86) (I 3 0)) p83 false,G p88 (.load1 (T p87)) p83 false,G p89 (.mov (T p7)) p83 false,G p90 (.mov (T p10)) p83 false,G p91 (.idxSl 2 (T p89) (T p90)) p83 false,G p92 (.idxArr 2 1 (T p91) (I 3 0)) p83 false,G p93 (.load1 (T p92)) p83 false,G p94 (.arith .lss 3 (T p88) (T p93)) p83 false,G p95 (.pick (T p83) (C (.bool true)) (T p94)) p80 true,O p96 (.pick (T p80) (T p95) (C (.bool false)))]) (.cond (T p96) (.region [O p97 (.mov (T p12)),O p10 (.mov (T p97))]) .skip)) (.seq (.region [O p98 (.mov (T p7)),O p99 (.mov (T p12)),O p100 (.idxSl 2 (T p98) (T p99)),O p101 (.idxArr 2 1 (T p100) (I 3 0)),O p102 (.load1 (T p101)),O p103 (.mov (T p7)),O p104 (.mov (T p11)),O p105 (.idxSl 2 (T p103) (T p104)),O p106 (.idxArr 2 1 (T p105) (I 3 0)),O p107 (.load1 (T p106)),O p108 (.arith .lss 3 (T p102) (T p107))]) (.cond (T p108) (.region [O p109 (.mov (T p12)),O p11 (.mov (T p109))]) .skip)))))) (.region [O p52 (.mov (T p12)),O p53 (.arith .add 3 (T p52) (I 3 1)),O p12 (.mov (T p53))])))
set_option maxHeartbeats 1000000 in
theorem scan_ok {c:Cx} {s:List SI} {H:Heap} {fpL:List Pos} {r:List (Int × Int)} {full:Bool} {b:Pos} {cap:Nat} {ex:Bool} {sp:Int} {ov:AV} (hr50:r.length≤50) (hrl:0<r.length) (oL:OwnP H fpL 36 r full (.slice b 0 r.length cap ex)) (hdo:ov.defd=true)
    (hend:∀ v a,BestAt r r.length v→LeastAt r r.length a→Ru tbl c s [(p2,aI sp),(p7,.slice b 0 r.length cap ex),(p8,ov),(p10,v),(p11,aN a)] H) :
    Ru tbl c (.code (.loop scanBody)::.blk 4::s) [(p2,aI sp),(p7,.slice b 0 r.length cap ex),(p8,ov),(p10,.int 3 (.negSucc 0)),(p11,aN 0),(p12,aN 0)] H:=by
  have scan:∀ kk i v a,r.length-i=kk→i≤r.length→BestAt r i v→LeastAt r i a→Ru tbl c (.code (.loop scanBody)::.blk 4::s) [(p2,aI sp),(p7,.slice b 0 r.length cap ex),(p8,ov),(p10,v),(p11,aN a),(p12,aN i)] H:=by
    intro kk
    induction kk using Nat.strongRecOn with
    | ind kk ihs =>
      intro i v a hkk hi hB hL
      have hdv:v.defd=true:=by rcases hB with ⟨rfl,_⟩ | ⟨_,_,rfl,_⟩<;>rfl
      have hal:=hL.1
      obtain ⟨ha1,_,_⟩:=pair_at oL.sl rfl hal
      have hra:r[a]?=some r[a]:=getElem?_pos r a hal
      have ha1':cellAt H b (0+a*2+0*1)=some (aI r[a].1):=by rw [Nat.zero_add,Nat.zero_mul,Nat.add_zero];exact ha1
      refine Ru.loop ?_
      repeat first|refine RO.mov ?_|refine RO.lenSl ?_|refine RO.lssN ?_|refine RO.nil ?_|refine Ru.region ?_|refine Ru.seq ?_
      refine Ru.cond (fun hlt=>?_) (fun hlt=>?_)
      · have hri:r[i]?=some r[i]:=getElem?_pos r i hlt
        obtain ⟨hi1,_,_⟩:=pair_at oL.sl rfl hlt
        have hi1':cellAt H b (0+i*2+0*1)=some (aI r[i].1):=by rw [Nat.zero_add,Nat.zero_mul,Nat.add_zero];exact hi1
        repeat first|refine RO.mov ?_|refine RO.nil ?_|refine Ru.region ?_|refine Ru.seq ?_|refine Ru.block ?_|refine Ru.skip ?_
        refine Ru.name fun S6 hS6=>?_
        have free:∀ qq k t,r.length-k=qq→k≤r.length→(t=true↔∀ k' o,k'<k→r[k']?=some o→k'=i∨o.2≠r[i].1)→Ru tbl (c) S6 [(p2,aI sp),(p7,.slice b 0 r.length cap ex),(p8,ov),(p10,v),(p11,aN a),(p12,aN i),(p13,.bool t),(p14,aN k)] H:=by
          subst hS6
          intro qq
          induction qq using Nat.strongRecOn with
          | ind qq ihf =>
            intro k t hqq hk ht
            refine Ru.loop ?_
            repeat first|refine RO.mov ?_|refine RO.lenSl ?_|refine RO.lssN ?_|refine RO.nil ?_|refine Ru.region ?_|refine Ru.seq ?_
            refine Ru.cond (fun hklt=>?_) (fun hklt=>?_)
            · have hrk:r[k]?=some r[k]:=getElem?_pos r k hklt
              obtain ⟨_,hk2,_⟩:=pair_at oL.sl rfl hklt
              have hk2':cellAt H b (0+k*2+1*1)=some (aI r[k].2):=by rw [Nat.zero_add,Nat.mul_one];exact hk2
              have step:∀ t',(t'=true↔(∀ k' o,k'<k→r[k']?=some o→k'=i∨o.2≠r[i].1)∧(k=i∨r[k].2≠r[i].1))→(t'=true↔∀ k' o,k'<k+1→r[k']?=some o→k'=i∨o.2≠r[i].1):=fun t' h=>by
                rw [h]
                constructor
                · rintro ⟨h1,h2⟩ k' o hk' ho
                  by_cases e:k'=k
                  · subst e;rw [hrk] at ho;injection ho with ho;subst ho;exact h2
                  · exact h1 k' o (by omega) ho
                · exact fun h=>⟨fun k' o hk' ho=>h k' o (by omega) ho,h k _ (by omega) hrk⟩
              repeat first|refine RO.mov ?_|refine Ru.region ?_|refine Ru.seq ?_|refine Ru.block ?_|refine Ru.skip ?_
              refine RO.byBool (fun ht1=>?_) (fun ht1=>?_)
              · repeat first|refine RO.mov ?_|refine RO.eqlN ?_|refine RO.guardT ?_
                refine RO.byCases (fun hki=>?_) (fun hki=>?_)
                · repeat first|refine RO.mov ?_|refine RO.nil ?_|refine Ru.region ?_|refine RO.inc ?_|refine RO.guardT ?_|refine RO.guardF ?_|refine RO.pickT ?_
                  exact Ru.weak (ihf (r.length-(k+1)) (by omega) (k+1) true rfl (by omega) (step true ⟨fun _=>⟨ht.1 ht1,.inl hki⟩,fun _=>rfl⟩)) ⟨rfl,rfl,rfl,rfl,rfl,rfl,rfl,rfl,trivial⟩
                · repeat first|refine RO.mov ?_|refine RO.nil ?_|refine Ru.region ?_|refine RO.neq ?_|refine RO.inc ?_|refine RO.load1 ?_|refine RO.guardT ?_|refine RO.idxSl ?_|refine RO.idxArr ?_|refine RO.pickT ?_|refine RO.pickF ?_
                  exact Ru.weak (ihf (r.length-(k+1)) (by omega) (k+1) (decide (r[k].2≠r[i].1)) rfl (by omega) (step _ ⟨fun h=>⟨ht.1 ht1,.inr (of_decide_eq_true h)⟩,fun h=>decide_eq_true (h.2.resolve_left hki)⟩)) ⟨rfl,rfl,rfl,rfl,rfl,rfl,rfl,rfl,trivial⟩
              · repeat first|refine RO.mov ?_|refine RO.nil ?_|refine Ru.region ?_|refine RO.inc ?_|refine RO.guardF ?_|refine RO.guardU ?_|refine RO.pickF ?_
                exact Ru.weak (ihf (r.length-(k+1)) (by omega) (k+1) false rfl (by omega) (step false ⟨fun h=>(by cases h),fun h=>by rw [← ht1];exact ht.2 h.1⟩)) ⟨rfl,rfl,rfl,rfl,rfl,rfl,rfl,rfl,trivial⟩
            · have hkr:k=r.length:=by omega
              have hfree:t=true↔Mv.freeAt r i:=by
                rw [ht]
                constructor
                · intro h k' m o hm ho
                  rw [hri] at hm;injection hm with hm;subst hm
                  exact h k' o (by rw [hkr];exact (List.getElem?_eq_some_iff.1 ho).1) ho
                · exact fun h k' o _ ho=>h k' _ o hri ho
              refine Ru.exitTo ?_
              repeat first|refine RO.mov ?_|refine Ru.region ?_|refine Ru.seq ?_
              refine RO.byBool (fun ht1=>?_) (fun ht1=>?_)
              · have hfi:=hfree.1 ht1
                rcases hB with ⟨rfl,hB⟩ | ⟨bb,mm,rfl,hB1,hB2,hB3,hB4⟩
                · repeat first|refine RO.mov ?_|refine RO.lss ?_|refine RO.nil ?_|refine Ru.region ?_|refine Ru.seq ?_|refine RO.load1 ?_|refine Ru.condT ?_|refine RO.guardT ?_|refine RO.guardF ?_|refine RO.idxSl ?_|refine RO.idxArr ?_|refine RO.pickT ?_
                  refine Ru.cond (fun hl2=>?_) (fun hl2=>?_)
                  · repeat first|refine RO.mov ?_|refine RO.nil ?_|refine Ru.region ?_|refine RO.inc ?_
                    exact Ru.weak (ihs (r.length-(i+1)) (by omega) (i+1) (aN i) i rfl (by omega) (best_new (.inl ⟨rfl,hB⟩) hfi hri) (least_less hL hri hra hl2)) ⟨rfl,rfl,rfl,rfl,rfl,rfl,trivial⟩
                  · repeat first|refine RO.mov ?_|refine RO.nil ?_|refine Ru.region ?_|refine Ru.skip ?_|refine RO.inc ?_
                    exact Ru.weak (ihs (r.length-(i+1)) (by omega) (i+1) (aN i) a rfl (by omega) (best_new (.inl ⟨rfl,hB⟩) hfi hri) (least_keep hL hri hra hl2)) ⟨rfl,rfl,rfl,rfl,rfl,rfl,trivial⟩
                · obtain ⟨hbb,hbe⟩:=List.getElem?_eq_some_iff.1 hB2
                  obtain ⟨hb1,_,_⟩:=pair_at oL.sl rfl hbb
                  have hb1':cellAt H b (0+bb*2+0*1)=some (aI mm.1):=by rw [Nat.zero_add,Nat.zero_mul,Nat.add_zero,hb1,hbe]
                  repeat first|refine RO.mov ?_|refine RO.lssN ?_|refine RO.lss ?_|refine RO.nil ?_|refine RO.load1 ?_|refine RO.guardT ?_|refine RO.idxSl ?_|refine RO.idxArr ?_|refine RO.pickT ?_|refine RO.pickF ?_
                  refine Ru.cond (fun hl1=>?_) (fun hl1=>?_)
                  · repeat first|refine RO.mov ?_|refine RO.lss ?_|refine RO.nil ?_|refine Ru.region ?_|refine Ru.seq ?_|refine RO.load1 ?_|refine RO.idxSl ?_|refine RO.idxArr ?_
                    refine Ru.cond (fun hl2=>?_) (fun hl2=>?_)
                    · repeat first|refine RO.mov ?_|refine RO.nil ?_|refine Ru.region ?_|refine RO.inc ?_
                      exact Ru.weak (ihs (r.length-(i+1)) (by omega) (i+1) (aN i) i rfl (by omega) (best_less (.inr ⟨bb,mm,rfl,hB1,hB2,hB3,hB4⟩) hfi hri hB2 hl1) (least_less hL hri hra hl2)) ⟨rfl,rfl,rfl,rfl,rfl,rfl,trivial⟩
                    · repeat first|refine RO.mov ?_|refine RO.nil ?_|refine Ru.region ?_|refine Ru.skip ?_|refine RO.inc ?_
                      exact Ru.weak (ihs (r.length-(i+1)) (by omega) (i+1) (aN i) a rfl (by omega) (best_less (.inr ⟨bb,mm,rfl,hB1,hB2,hB3,hB4⟩) hfi hri hB2 hl1) (least_keep hL hri hra hl2)) ⟨rfl,rfl,rfl,rfl,rfl,rfl,trivial⟩
                  · repeat first|refine RO.mov ?_|refine RO.lss ?_|refine RO.nil ?_|refine Ru.region ?_|refine Ru.seq ?_|refine Ru.skip ?_|refine RO.load1 ?_|refine RO.idxSl ?_|refine RO.idxArr ?_
                    refine Ru.cond (fun hl2=>?_) (fun hl2=>?_)
                    · repeat first|refine RO.mov ?_|refine RO.nil ?_|refine Ru.region ?_|refine RO.inc ?_
                      exact Ru.weak (ihs (r.length-(i+1)) (by omega) (i+1) (aN bb) i rfl (by omega) (best_keep (.inr ⟨bb,mm,rfl,hB1,hB2,hB3,hB4⟩) hri hB2 hl1) (least_less hL hri hra hl2)) ⟨rfl,rfl,rfl,rfl,rfl,rfl,trivial⟩
                    · repeat first|refine RO.mov ?_|refine RO.nil ?_|refine Ru.region ?_|refine Ru.skip ?_|refine RO.inc ?_
                      exact Ru.weak (ihs (r.length-(i+1)) (by omega) (i+1) (aN bb) a rfl (by omega) (best_keep (.inr ⟨bb,mm,rfl,hB1,hB2,hB3,hB4⟩) hri hB2 hl1) (least_keep hL hri hra hl2)) ⟨rfl,rfl,rfl,rfl,rfl,rfl,trivial⟩
              · have hnf:¬ Mv.freeAt r i:=fun h=>by rw [hfree.2 h] at ht1;cases ht1
                repeat first|refine RO.mov ?_|refine RO.lss ?_|refine RO.nil ?_|refine Ru.region ?_|refine Ru.seq ?_|refine Ru.skip ?_|refine RO.load1 ?_|refine Ru.condF ?_|refine RO.guardF ?_|refine RO.guardU ?_|refine RO.idxSl ?_|refine RO.idxArr ?_|refine RO.pickF ?_
                refine Ru.cond (fun hl2=>?_) (fun hl2=>?_)
                · repeat first|refine RO.mov ?_|refine RO.nil ?_|refine Ru.region ?_|refine RO.inc ?_
                  exact Ru.weak (ihs (r.length-(i+1)) (by omega) (i+1) v i rfl (by omega) (best_no hB hnf) (least_less hL hri hra hl2)) ⟨rfl,rfl,rfl,rfl,rfl,rfl,trivial⟩
                · repeat first|refine RO.mov ?_|refine RO.nil ?_|refine Ru.region ?_|refine Ru.skip ?_|refine RO.inc ?_
                  exact Ru.weak (ihs (r.length-(i+1)) (by omega) (i+1) v a rfl (by omega) (best_no hB hnf) (least_keep hL hri hra hl2)) ⟨rfl,rfl,rfl,rfl,rfl,rfl,trivial⟩
        exact Ru.weak (free _ 0 true rfl (by omega) ⟨fun _ k' o h=>by omega,fun _=>rfl⟩) ⟨rfl,rfl,rfl,rfl,rfl,rfl,rfl,rfl,trivial⟩
      · refine Ru.exitTo ?_
        have hie:i=r.length:=by omega
        subst hie
        exact Ru.weak (hend v a hB hL) ⟨rfl,rfl,rfl,rfl,rfl,trivial⟩
  exact scan _ 0 (.int 3 (.negSucc 0)) 0 rfl (by omega) (.inl ⟨rfl,fun j hj=>by omega⟩) ⟨hrl,fun m j o _ hj=>by omega⟩
end
end Go.Abs.R
