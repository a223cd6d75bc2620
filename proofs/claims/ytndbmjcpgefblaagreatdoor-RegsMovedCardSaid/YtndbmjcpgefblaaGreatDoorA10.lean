/- A part of the proof (an abstract machine, walks): no statement of its own, no conditions. -/
import Derived.Test.YtndbmjcpgefblaaGreatDoorA09
import Derived.RangeFuncIn
set_option linter.all false
namespace Go.Abs
variable [Ov]
variable {P:Program} {Wr:Acc} {ρ:Names} {H H':Heap} {w:World} {nt:Nat} {env:Tree AV} {a:Act} {o:Oper} {ao:AOp} {v:AV}
theorem ok_range (h:Ctx P Wr ρ H w nt env a) {t:TypeId} {x:Operand} (ho:o.op=.range t x) (hc:cOp P nt o=some ao) (he:evalOp ao env H=some (v,H')):Opk P Wr ρ w (execOp a.eval o) v H':=by
  simp only [cOp,ho,Option.bind_eq_bind,Option.bind_eq_some_iff] at hc
  obtain ⟨d,hd,hc⟩:=hc
  split at hc
  · simp only [Option.bind_eq_some_iff,Option.pure_def,Option.some.injEq] at hc
    obtain ⟨ox,h1,rfl⟩:=hc
    have g1:=h.gv h1
    simp only [evalOp] at he
    split at he
    · rename_i s hv
      simp only [Option.some.injEq,Prod.mk.injEq] at he
      obtain ⟨rfl,rfl⟩:=he
      rw [hv] at g1
      obtain ⟨t',ht,hx⟩:=g1.str_inv
      obtain ⟨q1,q2,q3⟩:=h.I.alloc (o:=.strIter s s 0) (ob:=.stringIter t' 0) (0,0) (by simp [InfoR]) (by simp) rfl (by simp only [OR];exact ⟨trivial,trivial,ht,by simp⟩)
      refine Opk.val (c:=.pointer (some ⟨w.heap.size,0,none⟩)) (w':={ w with heap:=w.heap.push (.stringIter t' 0) }) ?_ ⟨_,q1,?_,q2,q3⟩
      · simp only [execOp,ho,Instr.range,Sem.run_bind,run_und hd,Result.andThen_ok,hx,Sem.run_pure,run_newObj]
      · simp only [VR];exact ⟨_,_,Names.add_same ..,by simp⟩
    · cases he
  · simp only [Option.bind_eq_some_iff,Option.pure_def,Option.some.injEq] at hc
    obtain ⟨ox,h1,rfl⟩:=hc
    have g1:=h.gv h1
    simp only [evalOp] at he
    split at he
    · rename_i hv
      simp only [Option.some.injEq,Prod.mk.injEq] at he
      obtain ⟨rfl,rfl⟩:=he
      rw [hv] at g1
      have hx:=g1.nilmap_inv
      obtain ⟨q1,q2,q3⟩:=h.I.alloc (o:=.mapIter none 0 [] 0) (ob:=.mapIter none 0 #[] 0) (0,0) (by simp [InfoR]) (by simp) rfl (by simp only [OR];exact ⟨trivial,by simp [OptR],by trivial,by trivial,by trivial⟩)
      refine Opk.val (c:=.pointer (some ⟨w.heap.size,0,none⟩)) (w':={ w with heap:=w.heap.push (.mapIter none 0 #[] 0) }) ?_ ⟨_,q1,?_,q2,q3⟩
      · simp only [execOp,ho,Instr.range,Sem.run_bind,run_und hd,Result.andThen_ok,hx,Sem.run_pure,run_newObj]
      · simp only [VR];exact ⟨_,_,Names.add_same ..,by simp⟩
    · rename_i m hv
      rw [hv] at g1
      obtain ⟨b,hb,hx⟩:=g1.map_inv
      split at he
      · rename_i es clock hm
        simp only [Option.some.injEq,Prod.mk.injEq] at he
        obtain ⟨rfl,rfl⟩:=he
        obtain ⟨ces,k1,k2⟩:=map_block h.I hm hb
        have hext:Ext ρ (ρ.add H.next w.heap.size 0 (0,0)):=Names.add_ext _ _ _ (h.I.fresh _ (Nat.le_refl _)).2 (fun j c y e' hc=>by have:=h.I.dom j c y e';omega)
        obtain ⟨q1,q2,q3⟩:=h.I.alloc (o:=.mapIter (some m) clock [] clock) (ob:=.mapIter (some b) clock #[] clock) (0,0) (by simp [InfoR]) (by simp) rfl (by simp only [OR];exact ⟨trivial,by simp only [OptR];exact (hext _ _ hb).1,by trivial,by trivial,by trivial⟩)
        refine Opk.val (c:=.pointer (some ⟨w.heap.size,0,none⟩)) (w':={ w with heap:=w.heap.push (.mapIter (some b) clock #[] clock) }) ?_ ⟨_,q1,?_,q2,q3⟩
        · simp only [execOp,ho,Instr.range,Sem.run_bind,run_und hd,Result.andThen_ok,hx,Sem.run_pure,run_newObj,run_getMap k1]
        · simp only [VR];exact ⟨_,_,Names.add_same ..,by simp⟩
      · cases he
    · cases he
  · cases hc
theorem run_getObj' {b:Nat} {ob:Obj} (h:w.heap[b]?=some ob) (hn:∀ c e f,ob≠.cells c e f):(getObj b).run P w=.ok ob w:=by
  cases ob with
  | cells c e f=>exact absurd rfl (hn c e f)
  | _=>simp only [getObj,Sem.run,h]
theorem ok_next (h:Ctx P Wr ρ H w nt env a) {it:Operand} {isString:Bool} (ho:o.op=.next it isString) (hc:cOp P nt o=some ao) (he:evalOp ao env H=some (v,H')):Opk P Wr ρ w (execOp a.eval o) v H':=by
  cases isString with
  | false =>
    simp only [cOp,ho,Bool.false_eq_true,if_false,Option.bind_eq_bind,Option.bind_eq_some_iff,Option.pure_def,Option.some.injEq] at hc
    obtain ⟨ox,h1,rfl⟩:=hc
    simp [evalOp] at he
  | true =>
    simp only [cOp,ho,if_true,Option.bind_eq_bind,Option.bind_eq_some_iff,Option.pure_def,Option.some.injEq] at hc
    obtain ⟨ox,h1,rfl⟩:=hc
    have g1:=h.gv h1
    simp only [evalOp] at he
    split at he
    · rename_i id hv
      rw [hv] at g1
      obtain ⟨b,z,hb,hx⟩:=g1.ptr_inv
      split at he
      · rename_i s rest pos hi
        have hne:H.get id≠.none:=by rw [hi];simp
        obtain ⟨b',z',ob,e',hlt,hob,hor⟩:=h.I.blk hne
        rw [hb] at e';injection e' with e';injection e' with e1 e2;subst e1;subst e2
        rw [hi] at hor
        cases ob<;>simp only [OR] at hor
        rename_i bs p
        obtain ⟨rfl,rfl,hbs,hrest⟩:=hor
        have hget:(getObj b).run P w=.ok (.stringIter bs p) w:=run_getObj' hob (fun _ _ _=>by simp)
        have hsz:bs.size=s.length:=by rw [← hbs,List.length_map,Array.length_toList];rfl
        split at he
        · simp only [Option.some.injEq,Prod.mk.injEq] at he
          obtain ⟨rfl,rfl⟩:=he
          have hover:¬ p<bs.size:=by
            have:=List.drop_eq_nil_iff.1 hrest.symm
            omega
          refine Opk.val (c:=.tuple #[.bool false]) (w':=w) ?_ (Post.same h.I (by simp [VR,VRs]))
          simp only [execOp,ho,Instr.next,hx,Nat.add_zero,Sem.run_bind,hget,Result.andThen_ok,hover,if_false,Sem.run_pure]
        · rename_i c rest'
          split at he
          · rename_i hlt
            simp only [Option.some.injEq,Prod.mk.injEq] at he
            obtain ⟨rfl,rfl⟩:=he
            have hlt:c<128:=Nat.lt_of_lt_of_le (Nat.lt_succ_self c) (Nat.le_of_ble_eq_true hlt)
            have hsp:s[p]?=some c:=by
              have:(s.drop p)[0]?=some c:=by rw [← hrest];rfl
              rw [List.getElem?_drop] at this;simpa using this
            have hp:p<bs.size:=by
              have:=(List.getElem?_eq_some_iff.1 hsp).1;omega
            have hp':p<bs.data.size:=hp
            have hc:(bs.data[p]).toNat=c:=by
              rw [← hbs,List.getElem?_map,Array.getElem?_toList,getElem?_pos bs.data p hp'] at hsp
              simpa using hsp
            have hdec:Utf8.decode bs p=(c,1):=by
              have hg:(bs.get! (p+0)).toNat=c:=by
                rw [Nat.add_zero,ByteArray.get!]
                rw [getElem!_pos bs.data p hp'];exact hc
              simp only [Utf8.decode,hg,show c<0x80 from hlt,if_true]
            have hu:=h.I.update (i:=id) (o':=.strIter s rest' (p+1)) (ob':=.stringIter bs (p+1)) hne (by rw [hi];rfl) hb rfl (by
              simp only [OR]
              refine ⟨trivial,trivial,hbs,?_⟩
              rw [← List.drop_drop,← hrest];rfl) (by simp [InfoR]) (w':={ w with heap:=w.heap.setIfInBounds b (.stringIter bs (p+1)) }) rfl rfl rfl rfl
            rw [hi] at hu
            refine Opk.val (c:=.tuple #[.bool true,goInt p,.int .i32 c]) (w':={ w with heap:=w.heap.setIfInBounds b (.stringIter bs (p+1)) }) ?_ ⟨ρ,Ext.refl ρ,?_,hu.1,hu.2⟩
            · simp only [execOp,ho,Instr.next,hx,Nat.add_zero,Sem.run_bind,hget,Result.andThen_ok,hp,if_true,hdec,run_setObj w hob (fun _ _ _=>by simp),Sem.run_pure]
            · simp only [VR,VRs];exact ⟨trivial,VR.goInt ρ p,by simp [kc],trivial⟩
          · cases he
      · cases he
    · cases he
theorem ok_entry (h:Ctx P Wr ρ H w nt env a) {it:Operand} (ho:o.op=.entry it) (hc:cOp P nt o=some ao) (he:evalOp ao env H=some (v,H')):Opk P Wr ρ w (execOp a.eval o) v H':=by
  simp only [cOp,ho,Option.bind_eq_bind,Option.bind_eq_some_iff,Option.pure_def,Option.some.injEq] at hc
  obtain ⟨ox,h1,rfl⟩:=hc
  have g1:=h.gv h1
  simp only [evalOp] at he
  split at he
  · rename_i id hv
    rw [hv] at g1
    obtain ⟨b,z,hb,hx⟩:=g1.ptr_inv
    split at he
    · rename_i m since seen last hi
      have hne:H.get id≠.none:=by rw [hi];simp
      obtain ⟨b',z',ob,e',hlt,hob,hor⟩:=h.I.blk hne
      rw [hb] at e';injection e' with e';injection e' with e1 e2;subst e1;subst e2
      rw [hi] at hor
      cases ob<;>simp only [OR] at hor
      rename_i m' s' l' t'
      obtain ⟨rfl,hm',rfl,hseen,rfl⟩:=hor
      have hget:(getObj b).run P w=.ok (.mapIter m' s' l' t') w:=run_getObj' hob (fun _ _ _=>by simp)
      cases m' with
      | none=>simp [OptR] at hm'
      | some mb =>
        simp only [OptR] at hm'
        split at he
        · rename_i bn es clock hl hm
          split at he
          · rename_i hcl
            have hcl:=Nat.eq_of_beq_eq_true hcl
            subst hcl
            obtain ⟨ces,k1,k2⟩:=map_block h.I hm hm'
            split at he
            · rename_i i hf
              obtain ⟨_,_,e0,c0,q1,q2,q3,q4⟩:=EntsR.findBorn bn 0 i k2 hf
              split at he
              · rename_i e1 hei
                simp only [Option.some.injEq,Prod.mk.injEq] at he
                obtain ⟨rfl,rfl⟩:=he
                rw [Nat.sub_zero,hei] at q1
                injection q1 with q1;subst q1
                have hback:l'.back?=some bn:=by
                  rw [← hseen] at hl
                  obtain ⟨l⟩:=l'
                  simpa using hl
                have hfind:ces.find? (fun e=>e.born==bn)=some c0:=by
                  obtain ⟨l⟩:=ces
                  simpa using q2
                refine Opk.val (c:=.tuple #[c0.key,c0.val]) (w':=w) ?_ (Post.same h.I (by simp only [VR,VRs];exact ⟨q3,q4,trivial⟩))
                simp [execOp,ho,Instr.entry,hx,hget,hback,run_getMap k1,hfind]
              · cases he
            · cases he
          · cases he
        · cases he
    · cases he
  · cases he
theorem EntsR.filter {p:AEnt→Bool} {q:MapEntry→Bool} (hpq:∀ (e:AEnt) (c:MapEntry),e.born=c.born→p e=q c):∀ {es:List AEnt} {ces:List MapEntry},EntsR ρ es ces→EntsR ρ (es.filter p) (ces.filter q)
  | [],[],_=>by simp [EntsR]
  | e::es,c::ces,h=>by
    simp only [EntsR] at h
    simp only [List.filter_cons,hpq e c h.2.2.1]
    split
    · simp only [EntsR];exact ⟨h.1,h.2.1,h.2.2.1,EntsR.filter hpq h.2.2.2⟩
    · exact EntsR.filter hpq h.2.2.2
  | [],_::_,h=>by simp [EntsR] at h
  | _::_,[],h=>by simp [EntsR] at h
theorem EntsR.get:∀ {es:List AEnt} {ces:List MapEntry},EntsR ρ es ces→∀ (i:Nat) (c:MapEntry),ces[i]?=some c→∃ e:AEnt,es[i]?=some e∧VR ρ e.key c.key∧VR ρ e.val c.val∧e.born=c.born
  | [],[],_,i,c,h=>by simp at h
  | e::es,c::ces,h,0,c',hc=>by simp only [EntsR] at h;simp at hc;subst hc;exact ⟨e,by simp,h.1,h.2.1,h.2.2.1⟩
  | e::es,c::ces,h,i+1,c',hc=>by simp only [EntsR] at h;simp at hc;simpa using EntsR.get h.2.2.2 i c' hc
  | [],_::_,h,_,_,_=>by simp [EntsR] at h
  | _::_,[],h,_,_,_=>by simp [EntsR] at h
theorem EntsR.append:∀ {es:List AEnt} {ces:List MapEntry} {es':List AEnt} {ces':List MapEntry},EntsR ρ es ces→EntsR ρ es' ces'→EntsR ρ (es++es') (ces++ces')
  | [],[],_,_,_,h=>by simpa using h
  | e::es,c::ces,_,_,h,h'=>by simp only [EntsR] at h;simp only [List.cons_append,EntsR];exact ⟨h.1,h.2.1,h.2.2.1,EntsR.append h.2.2.2 h'⟩
  | [],_::_,_,_,h,_=>by simp [EntsR] at h
  | _::_,[],_,_,h,_=>by simp [EntsR] at h
theorem EntsR.all_born (n:Nat):∀ {es:List AEnt} {ces:List MapEntry},EntsR ρ es ces→es.all (fun e=>Nat.ble n e.born)=ces.all (fun e=>decide (e.born ≥ n))
  | [],[],_=>rfl
  | e::es,c::ces,h=>by
    simp only [EntsR] at h
    simp only [List.all_cons,EntsR.all_born n h.2.2.2,h.2.2.1]
    congr 1
    by_cases hc:c.born ≥ n
    · rw [decide_eq_true hc,Nat.ble_eq_true_of_le hc]
    · rw [decide_eq_false hc]
      cases hb:Nat.ble n c.born with
      | false=>rfl
      | true=>exact absurd (Nat.le_of_ble_eq_true hb) hc
  | [],_::_,h=>by simp [EntsR] at h
  | _::_,[],h=>by simp [EntsR] at h
theorem ok_nextMap (h:Ctx P Wr ρ H w nt env a) {it:Opd} (hc:cOp P nt o=some (.nextMap it)) {cs:List (Option AEnt)} {aft:Option AEnt→AV × Heap} (he:nextMapV H (gv env it)=some (cs,aft)) :
    ∃ i c,i<cs.length∧cs[i]?=some c∧Opk P Wr ρ w (execOp a.eval o) (aft c).1 (aft c).2:=by
  obtain ⟨x,ho,hx⟩:∃ x,o.op=.next x false∧cOpd P nt x=some it:=by
    unfold cOp at hc
    simp only [Option.bind_eq_bind,Option.pure_def] at hc
    split at hc
    all_goals (try (exfalso;(repeat' (first | (cases hc;done) | (rw [Option.bind_eq_some_iff] at hc;obtain ⟨_,_,hc⟩:=hc) | split at hc));done))
    rename_i x s ho
    cases s with
    | true =>
      simp only [if_true,Option.bind_eq_some_iff,Option.some.injEq,reduceCtorEq,and_false,exists_false] at hc
    | false =>
      simp only [Bool.false_eq_true,if_false,Option.bind_eq_some_iff,Option.some.injEq,AOp.nextMap.injEq] at hc
      obtain ⟨y,h1,rfl⟩:=hc
      exact ⟨x,ho,h1⟩
  have g1:=h.gv hx
  unfold nextMapV at he
  split at he
  · rename_i id hv
    rw [hv] at g1
    obtain ⟨b,z,hb,hxv⟩:=g1.ptr_inv
    split at he
    ·
      rename_i hi
      simp only [Option.some.injEq,Prod.mk.injEq] at he
      obtain ⟨rfl,rfl⟩:=he
      obtain ⟨b',z',ob,e',hlt,hob,hor⟩:=h.I.blk (i:=id) (by rw [hi];simp)
      rw [hb] at e';injection e' with e';injection e' with e1 e2;subst e1;subst e2
      rw [hi] at hor
      cases ob<;>simp only [OR] at hor
      rename_i m' s' l' t'
      obtain ⟨rfl,h1,_⟩:=hor
      have:m'=none:=by cases m'<;>simp [OptR] at h1;rfl
      subst this
      refine ⟨0,none,by simp,rfl,Opk.val (c:=.tuple #[.bool false]) (w':=w) ?_ (Post.same h.I (by simp [VR,VRs]))⟩
      simp only [execOp,ho,Instr.next,hxv,Nat.add_zero,Sem.run_bind,run_getObj' hob (fun _ _ _=>by simp),Result.andThen_ok,Sem.run_pure]
    · rename_i m since seen last hi
      split at he
      · rename_i es clock hm
        split at he
        · cases he
        rename_i hgone
        simp only [Option.some.injEq,Prod.mk.injEq] at he
        obtain ⟨rfl,rfl⟩:=he
        obtain ⟨b',z',ob,e',hlt,hob,hor⟩:=h.I.blk (i:=id) (by rw [hi];simp)
        rw [hb] at e';injection e' with e';injection e' with e1 e2;subst e1;subst e2
        rw [hi] at hor
        cases ob<;>simp only [OR] at hor
        rename_i m' s' l' t'
        obtain ⟨rfl,h1,rfl,h3,rfl⟩:=hor
        obtain ⟨mb,rfl⟩:∃ mb,m'=some mb:=by cases m' with | none=>simp [OptR] at h1 | some mb=>exact ⟨mb,rfl⟩
        have hmb:ρ m=some (mb,0):=h1
        obtain ⟨ces,k1,k2⟩:=map_block h.I hm hmb
        have hseen:∀ n,l'.contains n=seen.contains n:=fun n=>by rw [← h3,Array.contains_toList]
        have hl:=k2.filter (p:=fun e=>!seen.contains e.born) (q:=fun e=>!l'.contains e.born) (fun e c hec=>by rw [hec,hseen])
        have hold:=hl.filter (p:=fun e=>Nat.blt e.born s') (q:=fun e=>decide (e.born<s')) (fun e c hec=>by
          rw [hec]
          by_cases q:c.born<s'
          · rw [decide_eq_true q];exact Eq.mpr Nat.blt_eq q
          · rw [decide_eq_false q];cases hb:Nat.blt c.born s' with
            | false=>rfl
            | true=>exact absurd (Eq.mp Nat.blt_eq hb) q)
        have hnew:=hl.filter (p:=fun e=>!Nat.blt e.born s') (q:=fun e=>decide (e.born ≥ s')) (fun e c hec=>by
          rw [hec]
          by_cases q:c.born<s'
          · rw [decide_eq_false (by omega),show Nat.blt c.born s'=true from Eq.mpr Nat.blt_eq q];rfl
          · rw [decide_eq_true (by omega)];cases hb:Nat.blt c.born s' with
            | false=>rfl
            | true=>exact absurd (Eq.mp Nat.blt_eq hb) q)
        have hboth:=hold.append hnew
        have hgone':(!l'.isEmpty&&!ces.isEmpty&&ces.all fun e=>decide (e.born ≥ t'))=false:=by
          have e1:l'.isEmpty=seen.isEmpty:=by rw [← h3,Array.isEmpty_toList]
          have e2:ces.isEmpty=es.isEmpty:=by
            have hh:=EntsR.length k2
            rw [← Array.isEmpty_toList]
            cases hces:ces.toList<;>rw [hces] at hh<;>cases es<;>first | rfl | simp at hh
          have e3:=k2.all_born t'
          rw [e1,e2,← Array.all_toList,← e3]
          simpa using hgone
        generalize hoA:(es.filter fun e=>!seen.contains e.born).filter (fun e=>Nat.blt e.born s')=oA at hold hboth ⊢
        generalize hnA:(es.filter fun e=>!seen.contains e.born).filter (fun e=>!Nat.blt e.born s')=nA at hnew hboth ⊢
        generalize hoL:(ces.toList.filter fun e=>!l'.contains e.born).filter (fun e=>decide (e.born<s'))=oL at hold hboth
        generalize hnL:(ces.toList.filter fun e=>!l'.contains e.born).filter (fun e=>decide (e.born ≥ s'))=nL at hnew hboth
        have hemp:oA.isEmpty=oL.isEmpty:=by have hh:=EntsR.length hold;clear hoA hoL hold hboth;cases oA<;>cases oL<;>first | rfl | simp at hh
        have hlen:(oA++nA).length=(oL++nL).length:=EntsR.length hboth
        let CL:List (Option MapEntry):=(if oL.isEmpty then [none] else [])++(oL++nL).map some
        have hCLlen:CL.length=((if oA.isEmpty then [none] else [])++(oA++nA).map some:List (Option AEnt)).length:=by
          simp only [CL,List.length_append,List.length_map,hemp] at hlen ⊢
          split<;>simp<;>omega
        have hpos:0<CL.length:=by
          simp only [CL,List.length_append,List.length_map]
          cases oL with
          | nil=>simp;omega
          | cons a b=>simp;omega
        have hch:∃ (j:Nat) (w1:World),j<CL.length∧(w1=w∨w1=w.drew)∧(choose (Question.mapNext CL.length)).run P w=.ok j w1:=by
          by_cases hf:CL.length≤1
          · exact ⟨0,w,hpos,Or.inl rfl,by simp [choose,Sem.run,Question.forced,hf]⟩
          · exact ⟨_,w.drew,Nat.mod_lt _ hpos,Or.inr rfl,by
              simp only [choose,Sem.run,Question.forced,decide_eq_true_eq,hf,if_false,Question.cut]
              rfl⟩
        obtain ⟨j,w1,hj,hal,hrun⟩:=hch
        have hob1:w1.heap=w.heap:=by rcases hal with rfl | rfl<;>rfl
        have hI1:Inv P Wr ρ H w1:=h.I.heap_eq hob1
        have hK1:Kept Wr w w1:=by rcases hal with rfl | rfl;exact Kept.refl Wr _;exact (Kept.refl Wr _).drew
        have harr:((if (Array.filter (fun e:MapEntry=>decide (e.born<s')) (Array.filter (fun e:MapEntry=>!l'.contains e.born) ces)).isEmpty=true then #[none] else #[]) ++
            Array.map some (Array.filter (fun e:MapEntry=>decide (e.born<s')) (Array.filter (fun e:MapEntry=>!l'.contains e.born) ces)++Array.filter (fun e:MapEntry=>decide (e.born ≥ s')) (Array.filter (fun e:MapEntry=>!l'.contains e.born) ces))).toList=CL:=by
          simp only [CL,Array.toList_append,Array.toList_map,Array.toList_filter,hoL,hnL]
          congr 1
          have:(Array.filter (fun e:MapEntry=>decide (e.born<s')) (Array.filter (fun e:MapEntry=>!l'.contains e.born) ces)).isEmpty=oL.isEmpty:=by
            rw [← hoL,← Array.toList_filter,← Array.toList_filter,Array.isEmpty_toList]
          rw [this]
          split<;>rfl
        generalize harr0:((if (Array.filter (fun e:MapEntry=>decide (e.born<s')) (Array.filter (fun e:MapEntry=>!l'.contains e.born) ces)).isEmpty=true then #[none] else #[]) ++
            Array.map some (Array.filter (fun e:MapEntry=>decide (e.born<s')) (Array.filter (fun e:MapEntry=>!l'.contains e.born) ces)++Array.filter (fun e:MapEntry=>decide (e.born ≥ s')) (Array.filter (fun e:MapEntry=>!l'.contains e.born) ces)))=CA at harr
        have hsize:CA.size=CL.length:=by rw [← harr,Array.length_toList]
        have hexec:(execOp a.eval o).run P w=((match CL[j]? with
            | some (some e)=>(do setObj b (.mapIter (some mb) s' (l'.push e.born) clock);pure (.value (.tuple #[.bool true,e.key,e.val])))
            | some none=>pure (.value (.tuple #[.bool false]))
            | none=>stuck "Next: no such candidate"):Sem Next).run P w1:=by
          simp only [execOp,ho,Instr.next,hxv,Nat.add_zero,Sem.run_bind,run_getObj' hob (fun _ _ _=>by simp),Result.andThen_ok,run_getMap k1,hgone',Bool.false_eq_true,if_false,harr0,hsize,hrun]
          rw [← Array.getElem?_toList,harr]
          cases hcl:CL[j]? with
          | none=>simp only [stuck,Sem.run_bind];rfl
          | some c'=>cases c' with
            | none=>simp
            | some e=>simp only [Sem.run_bind,Sem.run_pure];cases Sem.run P (setObj b (.mapIter (some mb) s' (l'.push e.born) clock)) w1<;>rfl
        have hjlt:=hj
        rw [hCLlen] at hjlt
        cases hcl:CL[j]? with
        | none=>rw [List.getElem?_eq_none_iff] at hcl;omega
        | some c' =>
          rw [hcl] at hexec
          cases c' with
          | none =>
            have hcs:((if oA.isEmpty then [none] else [])++(oA++nA).map some:List (Option AEnt))[j]?=some none:=by
              simp only [CL] at hcl
              by_cases he:oL.isEmpty=true
              · rw [hemp]
                simp only [he,if_true] at hcl ⊢
                cases j with
                | zero=>simp
                | succ j =>
                  simp only [List.singleton_append,List.getElem?_cons_succ,List.getElem?_map,Option.map_eq_some_iff] at hcl
                  obtain ⟨_,_,h⟩:=hcl;cases h
              · have he':oL.isEmpty=false:=by simpa using he
                simp only [he',Bool.false_eq_true,if_false,List.nil_append,List.getElem?_map,Option.map_eq_some_iff] at hcl
                obtain ⟨_,_,h⟩:=hcl;cases h
            refine ⟨j,none,hjlt,hcs,Opk.val (c:=.tuple #[.bool false]) (w':=w1) ?_ ⟨ρ,Ext.refl ρ,by simp [VR,VRs],hI1,hK1⟩⟩
            rw [hexec];simp
          | some e =>
            obtain ⟨ea,hea,v1,v2,v3⟩:∃ ea:AEnt,((if oA.isEmpty then [none] else [])++(oA++nA).map some:List (Option AEnt))[j]?=some (some ea)∧VR ρ ea.key e.key∧VR ρ ea.val e.val∧ea.born=e.born:=by
              simp only [CL] at hcl
              by_cases he:oL.isEmpty=true
              · rw [hemp]
                simp only [he,if_true] at hcl ⊢
                cases j with
                | zero=>simp at hcl
                | succ j =>
                  simp only [List.singleton_append,List.getElem?_cons_succ,List.getElem?_map,Option.map_eq_some_iff] at hcl ⊢
                  obtain ⟨e0,h0,h0'⟩:=hcl
                  injection h0' with h0';subst h0'
                  obtain ⟨ea,q1,q2,q3,q4⟩:=hboth.get j e0 h0
                  exact ⟨ea,⟨ea,q1,rfl⟩,q2,q3,q4⟩
              · rw [hemp]
                have he':oL.isEmpty=false:=by simpa using he
                simp only [he',Bool.false_eq_true,if_false,List.nil_append,List.getElem?_map,Option.map_eq_some_iff] at hcl ⊢
                obtain ⟨e0,h0,h0'⟩:=hcl
                injection h0' with h0';subst h0'
                obtain ⟨ea,q1,q2,q3,q4⟩:=hboth.get j e0 h0
                exact ⟨ea,⟨ea,q1,rfl⟩,q2,q3,q4⟩
            have hob2:w1.heap[b]?=some (.mapIter (some mb) s' l' t'):=by rw [hob1];exact hob
            have hset:=run_setObj (P:=P) w1 hob2 (fun _ _ _=>by simp) (.mapIter (some mb) s' (l'.push e.born) clock)
            have hu:=hI1.update (i:=id) (o':=.mapIter (some m) s' (seen++[ea.born]) clock) (ob':=.mapIter (some mb) s' (l'.push e.born) clock) (w':={ w1 with heap:=w1.heap.setIfInBounds b (.mapIter (some mb) s' (l'.push e.born) clock) })
              (by rw [hi];simp) (by rw [hi];rfl) hb rfl (by simp only [OR];exact ⟨trivial,hmb,trivial,by rw [Array.toList_push,h3,v3],trivial⟩) (by simp [InfoR]) rfl rfl rfl rfl
            rw [hi] at hu
            refine ⟨j,some ea,hjlt,hea,Opk.val (c:=.tuple #[.bool true,e.key,e.val]) (w':=_) ?_ ⟨ρ,Ext.refl ρ,by simp [VR,VRs,v1,v2],hu.1,hK1.trans hu.2⟩⟩
            rw [hexec];simp only [Sem.run_bind,hset,Result.andThen_ok,Sem.run_pure]
      · cases he
    · cases he
  · cases he
end Go.Abs
namespace Go.Abs
variable [Ov]
variable {P:Program} {Wr:Acc} {ρ:Names} {H H':Heap} {w:World} {nt:Nat} {env:Tree AV} {a:Act} {o:Oper} {ao:AOp} {v:AV}
theorem ok_binOp (h:Ctx P Wr ρ H w nt env a) {op:BinOp} {t t':TypeId} {x y:Operand} (ho:o.op=.binOp op t x y t') (hc:cOp P nt o=some ao) (he:evalOp ao env H=some (v,H')):Opk P Wr ρ w (execOp a.eval o) v H':=by
  have hu:∃ d,P.underlying t=some d:=by
    simp only [cOp,ho,Option.bind_eq_bind,und] at hc
    cases hu:P.underlying t with
    | none=>rw [hu] at hc;simp at hc
    | some d=>exact ⟨d,rfl⟩
  obtain ⟨d,hu⟩:=hu
  by_cases hint:∃ k,d=.int k
  · obtain ⟨k,rfl⟩:=hint
    by_cases hs:op=.shl∨op=.shr
    · exact ok_shift h ho hu hs hc he
    · exact ok_arith h ho hu (by simpa [not_or] using hs) hc he
  · by_cases hstr:d=.string
    · subst hstr
      exact ok_strOp h ho hu hc he
    · have hni:∀ k,P.underlying t≠some (.int k):=fun k e=>by rw [hu] at e;injection e with e;exact hint ⟨k,e⟩
      have hns:P.underlying t≠some .string:=fun e=>by rw [hu] at e;injection e with e;exact hstr e
      have key:∃ neg d' ox oy,op=(if neg then .neq else .eql)∧eqD P 16 (isConstO x||isConstO y) t=some d'∧noGuard P d' t=true∧cOpd P nt x=some ox∧cOpd P nt y=some oy∧ao=.eq neg d' ox oy:=by
        simp only [cOp,ho,Option.bind_eq_bind,und,hu,Option.bind_some] at hc
        cases op<;>cases d<;>first | (exact absurd ⟨_,rfl⟩ hint) | (exact absurd rfl hstr) | (simp at hc;done) | skip
        all_goals
          simp only [Option.bind_eq_some_iff] at hc
          obtain ⟨d',hd',hc⟩:=hc
          split at hc
          case isFalse=>cases hc
          rename_i hg
          simp only [Option.bind_eq_some_iff,Option.pure_def,Option.some.injEq] at hc
          obtain ⟨ox,h1,oy,h2,h3⟩:=hc
          first
            | exact ⟨false,d',ox,oy,rfl,hd',hg,h1,h2,h3.symm⟩
            | exact ⟨true,d',ox,oy,rfl,hd',hg,h1,h2,h3.symm⟩
      obtain ⟨neg,d',ox,oy,hop,hd',hg,h1,h2,rfl⟩:=key
      exact ok_eq h ho hop hd' hg h1 h2 hni hns he
theorem ok_builtin (h:Ctx P Wr ρ H w nt env a) {c:Call} {b:Builtin} (ho:o.op=.call c) (hb:c.callee=.builtin b) (hc:cOp P nt o=some ao) (he:evalOp ao env H=some (v,H')):Opk P Wr ρ w (execOp a.eval o) v H':=by
  cases b with
  | len=>exact ok_len h ho hb hc he
  | cap=>exact ok_cap h ho hb hc he
  | append=>exact ok_append h ho hb hc he
  | copy=>exact ok_copy h ho hb hc he
  | delete=>exact ok_delete h ho hb hc he
  | min=>exact ok_minmax (isMax:=false) h ho hb hc he
  | max=>exact ok_minmax (isMax:=true) h ho hb hc he
  | clear =>
    have hc0:=hc
    simp only [cOp,ho,hb,Option.bind_eq_bind,Option.bind_eq_some_iff] at hc0
    obtain ⟨t,ht,d,hd,hc0⟩:=hc0
    split at hc0
    · simp only [Option.bind_eq_some_iff,Option.pure_def,Option.some.injEq] at hc0
      obtain ⟨z,hz,od,_,h3⟩:=hc0
      exact ok_clearSl h ho hb h3.symm hc he
    · simp only [Option.bind_eq_some_iff,Option.pure_def,Option.some.injEq] at hc0
      obtain ⟨od,_,h3⟩:=hc0
      exact ok_clearMap h ho hb h3.symm hc he
    · cases hc0
  | _=>simp [cOp,ho,hb] at hc
theorem ok_op (h:Ctx P Wr ρ H w nt env a) (hc:cOp P nt o=some ao) (he:evalOp ao env H=some (v,H')):Opk P Wr ρ w (execOp a.eval o) v H':=by
  cases ho:o.op with
  | move x=>exact ok_mov h (.inl ho) hc he
  | assign x=>exact ok_mov h (.inr ho) hc he
  | pick c x y=>exact ok_pick h ho hc he
  | alloc e=>exact ok_alloc h ho hc he
  | box e x=>exact ok_box h ho hc he
  | build t parts=>exact ok_build h ho hc he
  | buildSlice t len parts=>exact ok_buildSlice h ho hc he
  | insert t m k x=>exact ok_mapUpd h (.inr ho) hc he
  | load t x=>exact ok_load h ho hc he
  | store t x y=>exact ok_store h ho hc he
  | nilCheck x=>exact ok_nilCheck h ho hc he
  | binOp op t x y t'=>exact ok_binOp h ho hc he
  | unOp op t x=>exact ok_unary h ho hc he
  | convert s d x=>exact ok_convert h ho hc he
  | makeInterface t x=>exact ok_makeInterface h ho hc he
  | makeFunc f x y =>
    cases f with
    | func f=>exact ok_makeFunc h ho hc he
    | _=>simp [cOp,ho] at hc
  | makeMap t r =>
    cases r with
    | none=>exact ok_makeMap h ho hc he
    | some r=>simp [cOp,ho] at hc
  | makeSlice t x y=>exact ok_makeSlice h ho hc he
  | slice t x lo hi mx=>exact ok_slice h ho hc he
  | fieldAddr t x i=>exact ok_fieldAddr h ho hc he
  | field t x i=>exact ok_field h ho hc he
  | indexAddr t x i=>exact ok_indexAddr h ho hc he
  | index t x i=>exact ok_index h ho hc he
  | lookup t m k ok=>exact ok_lookup h ho hc he
  | mapUpdate t m k x=>exact ok_mapUpd h (.inl ho) hc he
  | mapEntry t m k=>exact ok_mapEntry h ho hc he
  | entryStore t m s x=>exact ok_entryStore h ho hc he
  | range t x=>exact ok_range h ho hc he
  | next it s=>exact ok_next h ho hc he
  | entry it=>exact ok_entry h ho hc he
  | typeAssert x xt t ok=>exact ok_typeAssert h ho hc he
  | extract x i=>exact ok_extract h ho hc he
  | call c =>
    cases hb:c.callee with
    | builtin b=>exact ok_builtin h ho hb hc he
    | value f =>
      simp only [cOp,ho,hb,Option.bind_eq_bind,Option.bind_eq_some_iff,Option.pure_def,Option.some.injEq] at hc
      obtain ⟨_,_,_,_,rfl⟩:=hc
      simp [evalOp] at he
    | invoke r m=>simp [cOp,ho,hb] at hc
  | _=>simp [cOp,ho] at hc
end Go.Abs
namespace Go.Abs
variable [Ov]
variable {P:Program} {Wr:Acc} {ρ:Names} {H H':Heap} {w:World} {nt:Nat} {env:Tree AV}
def MarksR (ρ:Names):List Pos→List Deferred→Prop
  | [],[]=>True
  | i::l,d::m=>(∃ r,ρ i=some (r,0)∧d={ target:=.collected r,args:=#[] })∧MarksR ρ l m
  | _,_=>False
theorem MarksR.mono {ρ ρ':Names} (h:Ext ρ ρ'):∀ {l:List Pos} {m:List Deferred},MarksR ρ l m→MarksR ρ' l m
  | [],[],_=>trivial
  | _::_,_::_,k=>⟨by obtain ⟨⟨r,h1,h2⟩,_⟩:=k;exact ⟨r,(h _ _ h1).1,h2⟩,MarksR.mono h k.2⟩
  | [],_::_,k=>by simp [MarksR] at k
  | _::_,[],k=>by simp [MarksR] at k
structure FrR (ρ:Names) (nt:Nat) (fr:Fr) (ro:Option Nat) (a:Act):Prop where
  E:ERel ρ nt fr.env a.tmps
  D:MarksR ρ fr.marks a.defers
  R:OptR ρ fr.rnd ro
theorem FrR.mono {ρ ρ':Names} (h:Ext ρ ρ') {fr:Fr} {ro:Option Nat} {a:Act} (k:FrR ρ nt fr ro a):FrR ρ' nt fr ro a :=
  ⟨k.E.mono h,k.D.mono h,by
    have:=k.R
    revert this
    cases fr.rnd<;>cases ro<;>simp only [OptR]<;>intro q
    · trivial
    · exact q
    · exact q
    · exact (h _ _ q).1⟩
def Landed (k:List Item):AJump→List Item→Prop
  | .none,t=>t=k
  | .exit id,t=>∃ k0,t=.code (.exit id)::k0∧exitTo id k0=exitTo id k
  | .ret,t=>∃ k0,t=.code .ret::k0
def Invoked (f:Value) (args:Array Value):Sem Next:=do
  let d ← Deferred.ofValue f args
  invoke d.target d.args
def atCall (fr:Frame):Prop :=
  match fr.todo with
  | .inRegion _ _::_ | .inRangeFunc _::_=>True
  | _=>False
theorem apply_value {fr:Frame} {cs:List Frame} {s:Sem Next} {w w':World} {v:Value} (h:s.run P w=.ok (.value v) w') :
    (stepG.apply P true fr cs none s w).bare=.go { frame:=fr.finish v,callers:=cs,status:=.running,dying:=none } w':=by
  simp [stepG.apply,h]
theorem apply_skip {fr:Frame} {cs:List Frame} {s:Sem Next} {w w':World} (h:s.run P w=.ok .skip w') :
    (stepG.apply P true fr cs none s w).bare=.go { frame:=fr.finish undef,callers:=cs,status:=.running,dying:=none } w':=by
  simp [stepG.apply,h]
theorem apply_enter {fr:Frame} (hc:atCall fr) {cs:List Frame} {s:Sem Next} {w w':World} {f:FuncId} {args:Array Value} (h:s.run P w=.ok (.enter f args) w') :
    (stepG.apply P true fr cs none s w).bare=.go { frame:=Frame.enter P f args .normal,callers:=fr::cs,status:=.running,dying:=none } w':=by
  obtain ⟨fn,tmps,todo,defers,mode,kind,ro⟩:=fr
  unfold atCall at hc
  simp only at hc
  split at hc<;>first | (exact False.elim hc) | simp [stepG.apply,h]
theorem apply_round {fr:Frame} (hc:atCall fr) {cs:List Frame} {s:Sem Next} {w w':World} {l:Nat} {f:FuncId} {tmps:Array Value} {assign body:Code} (h:s.run P w=.ok (.round l f tmps assign body) w') :
    (stepG.apply P true fr cs none s w).bare=.go { frame:=Frame.round l f tmps assign body .normal,callers:=fr::cs,status:=.running,dying:=none } w':=by
  obtain ⟨fn,tmps,todo,defers,mode,kind,ro⟩:=fr
  unfold atCall at hc
  simp only at hc
  split at hc<;>first | (exact False.elim hc) | simp [stepG.apply,h]
theorem putArgs_get:∀ (l:List AV) (p:Nat) (t:Tree AV) (i:Nat),(putArgs l (Pos.slot p) t).get .undef (Pos.slot i)=if p≤i∧i<p+l.length then l.getD (i-p) .undef else t.get .undef (Pos.slot i)
  | [],p,t,i=>by rw [putArgs,if_neg (by simp only [List.length_nil];omega)]
  | v::l,p,t,i=>by
    rw [putArgs,show (Pos.slot p).succ=Pos.slot (p+1) from rfl,putArgs_get l (p+1),Tree.get_set]
    simp only [List.length_cons]
    by_cases h1:p+1≤i∧i<p+1+l.length
    · rw [if_pos h1,if_pos (by omega),show i-p=(i-(p+1))+1 by omega];simp
    · rw [if_neg h1]
      by_cases h2:i=p
      · subst h2;rw [if_pos rfl,if_pos (by omega)];simp
      · rw [if_neg (fun e=>h2 (Pos.slot_inj e)),if_neg (by omega)]
theorem get_leaf:∀ p:Pos,(Tree.leaf:Tree AV).get .undef p=.undef
  | .xH=>rfl
  | .xO p=>by show (Tree.leaf:Tree AV).get .undef p=.undef;exact get_leaf p
  | .xI p=>by show (Tree.leaf:Tree AV).get .undef p=.undef;exact get_leaf p
theorem putArgs_sound {l:List AV} {args:Array Value} (h:VRs ρ l args.toList) (hn:l.length≤nt):ERel ρ nt (putArgs l .xH .leaf) (args++Array.replicate (nt-args.size) undef):=by
  have hl:l.length=args.size:=by have:=VRs.length h;simpa using this
  refine ⟨by simp;omega,fun t ht=>?_⟩
  have:=putArgs_get l 0 .leaf t
  rw [show Pos.slot 0=.xH from rfl] at this
  rw [this,get_leaf]
  by_cases h1:t<l.length
  · rw [if_pos (by omega)]
    obtain ⟨c,hc,hr⟩:=VRs.get h t l[t] (by simp [h1])
    have h2:t<args.size:=by omega
    have:(args++Array.replicate (nt-args.size) undef).getD t undef=c:=by
      rw [Array.getElem?_toList] at hc
      rw [Array.getD_eq_getD_getElem?,Array.getElem?_append_left h2,hc];rfl
    rw [this];simpa [List.getD,h1] using hr
  · rw [if_neg (by omega)]
    have:(args++Array.replicate (nt-args.size) undef).getD t undef=undef:=by
      rw [Array.getD_eq_getD_getElem?,Array.getElem?_append_right (by omega),Array.getElem?_replicate]
      split<;>rfl
    rw [this];exact VR.undef ρ
theorem putParams_sound:∀ {ps:List Tmp} {vs:List AV} {cs:List Value} {env:Tree AV} {tmps:Array Value},ERel ρ nt env tmps→VRs ρ vs cs→vs.length=ps.length →
    ERel ρ nt (putParams (ps.map Pos.slot) vs env) ((ps.zip cs).foldl (fun tmps (p:Tmp × Value)=>tmps.setIfInBounds p.1 p.2) tmps)
  | [],[],[],env,tmps,h,_,_=>by simpa [putParams] using h
  | p::ps,v::vs,c::cs,env,tmps,h,hv,hl=>by
    simp only [VRs] at hv
    simp only [List.map_cons,putParams,List.zip_cons_cons,List.foldl_cons]
    exact putParams_sound (h.set hv.1) hv.2 (by simpa using hl)
  | [],_::_,_,_,_,_,_,hl=>by simp at hl
  | _::_,[],_,_,_,_,_,hl=>by simp at hl
  | _,[],_::_,_,_,_,hv,_=>by simp [VRs] at hv
  | _,_::_,[],_,_,_,hv,_=>by simp [VRs] at hv
theorem takeMarks_sound:∀ {l:List Pos} {ds:List Deferred} {H H':Heap} {w:World},Inv P Wr ρ H w→MarksR ρ l ds→takeMarks H l=some H'→∀ (fr:Frame) (cs:List Frame),fr.mode=.returning →
    ∃ w',Steps P (lone { fr with defers:=ds } cs w) (lone { fr with defers:=[] } cs w')∧Inv P Wr ρ H' w'∧Kept Wr w w'
  | [],[],H,H',w,hI,_,h,fr,cs,_=>by
    simp only [takeMarks,Option.some.injEq] at h;subst h
    exact ⟨w,Steps.refl _ _,hI,Kept.refl Wr w⟩
  | i::l,d::ds,H,H',w,hI,hM,h,fr,cs,hm=>by
    simp only [MarksR] at hM
    obtain ⟨⟨r,hr,rfl⟩,hM⟩:=hM
    simp only [takeMarks] at h
    split at h
    · rename_i hi
      have hne:H.get i≠.none:=by rw [hi];simp
      obtain ⟨b',x',ob,e',hlt,hob,hor⟩:=hI.blk hne
      rw [hr] at e';injection e' with e';injection e' with e1 e2;subst e1;subst e2
      rw [hi] at hor
      cases ob<;>simp only [OR] at hor
      rename_i cs'
      obtain ⟨_,hcs⟩:=hor
      have hcs:=hcs trivial
      subst hcs
      have hu:=hI.update (i:=i) (o':=.deferred true) (ob':=.deferred none) hne (by rw [hi];rfl) hr rfl (by simp only [OR];exact ⟨trivial,fun h=>by cases h⟩) (by simp [InfoR]) (w':={ w with heap:=w.heap.setIfInBounds r (.deferred none) }) rfl rfl rfl rfl
      rw [hi] at hu
      obtain ⟨w',s1,s2,s3⟩:=takeMarks_sound hu.1 hM h fr cs hm
      have htake:(Instr.takeDeferred r).run P w=.ok [] { w with heap:=w.heap.setIfInBounds r (.deferred none) }:=by
        simp only [Instr.takeDeferred,Sem.run_bind,run_getObj' hob (fun _ _ _=>by simp),Result.andThen_ok,run_setObj w hob (fun _ _ _=>by simp),Sem.run_pure]
      refine ⟨w',.head (step_lone_go (fr':={ fr with defers:=ds }) (cs':=cs) (w':={ w with heap:=w.heap.setIfInBounds r (.deferred none) }) ?_) s1,s2,hu.2.trans s3⟩
      simp [stepG,hm,unwind,Sem.runT_eq,htake]
    · cases h
  | [],_::_,_,_,_,_,hM,_,_,_,_=>by simp [MarksR] at hM
  | _::_,[],_,_,_,_,hM,_,_,_,_=>by simp [MarksR] at hM
def resOne (tmps:Array Value):ResultVar→Sem Value
  | .tmp t=>pure (tmps.getD t undef)
  | .cell a t=>do loadVar t (← asAddr (tmps.getD a undef))
theorem results_eq (fn:Func) (tmps:Array Value):results fn tmps=(do
    let vs ← fn.results.mapM (resOne tmps)
    pure (if h:vs.size=1 then vs[0] else .tuple vs)):=rfl
theorem readRes_list (hI:Inv P Wr ρ H w) {env:Tree AV} {tmps:Array Value} (hE:ERel ρ nt env tmps):∀ {rs:List ResultVar} {ars:List ARes} {l:List AV},rs.mapM (cRes P nt)=some ars→readRes env H ars=some l →
    ∃ vs:List Value,VRs ρ l vs∧(rs.mapM (resOne tmps)).run P w=.ok vs w
  | [],ars,l,h1,h2=>by
    simp only [List.mapM_nil,Option.pure_def,Option.some.injEq] at h1;subst h1
    simp only [readRes,Option.some.injEq] at h2;subst h2
    exact ⟨[],by simp [VRs],by simp⟩
  | r::rs,ars,l,h1,h2=>by
    simp only [List.mapM_cons,Option.bind_eq_bind,Option.bind_eq_some_iff,Option.pure_def,Option.some.injEq] at h1
    obtain ⟨ar,hr,ars',hrs,rfl⟩:=h1
    cases r with
    | tmp t =>
      simp only [cRes] at hr
      split at hr
      · rename_i ht
        injection hr with hr;subst hr
        simp only [readRes,Option.map_eq_some_iff] at h2
        obtain ⟨l',hl',rfl⟩:=h2
        obtain ⟨vs,g1,g2⟩:=readRes_list hI hE hrs hl'
        refine ⟨tmps.getD t undef::vs,?_,?_⟩
        · simp only [VRs];exact ⟨hE.2 t ht,g1⟩
        · simp only [List.mapM_cons,resOne,Sem.run_bind,Sem.run_pure,Result.andThen_ok,g2]
      · cases hr
    | cell ad t =>
      simp only [cRes] at hr
      split at hr
      · rename_i g s hg hs
        split at hr
        · rename_i ht
          injection hr with hr;subst hr
          simp only [readRes] at h2
          split at h2
          · rename_i v r' hv hr'
            injection h2 with h2;subst h2
            obtain ⟨b,hb,c,hc,hvc⟩:=loadV_sound hI (hE.2 ad ht) hg (fun h=>by rw [h];exact hs) (fun h=>by rw [h];rfl) hv
            obtain ⟨vs,g1,g2⟩:=readRes_list hI hE hrs hr'
            refine ⟨c::vs,?_,?_⟩
            · simp only [VRs];exact ⟨hvc,g1⟩
            · simp only [List.mapM_cons,resOne,hb,asAddr,Sem.run_bind,Sem.run_pure,Result.andThen_ok,hc,g2]
          · cases h2
        · cases hr
      · cases hr
theorem readRes_sound (hI:Inv P Wr ρ H w) {env:Tree AV} {tmps:Array Value} {fn:Func} (hE:ERel ρ fn.ntmps env tmps) {ars:List ARes} {l:List AV} (h1:fn.results.toList.mapM (cRes P fn.ntmps)=some ars) (h2:readRes env H ars=some l) :
    ∃ c,(results fn tmps).run P w=.ok c w∧VR ρ (resV l) c:=by
  obtain ⟨vs,g1,g2⟩:=readRes_list hI hE h1 h2
  have hl:=VRs.length g1
  rw [results_eq,Array.mapM_eq_mapM_toList]
  simp only [Sem.run_bind,Sem.run_map,g2,Result.andThen_ok,Sem.run_pure]
  match l,vs,g1,hl with
  | [],[],_,_=>exact ⟨.tuple #[],by simp,by simp [resV,VR,VRs]⟩
  | [v],[c],g1,_=>exact ⟨c,by simp,by simp only [VRs] at g1;exact g1.1⟩
  | v::v2::l,c::c2::vs,g1,_ =>
    refine ⟨.tuple (c::c2::vs).toArray,by simp,?_⟩
    simp only [resV,VR];exact g1
end Go.Abs
