/- A part of the proof (an abstract machine, walks): no statement of its own, no conditions. -/
import Derived.Test.YtndbmjcpgefblaaGreatDoorA06
set_option linter.all false
namespace Go.Abs
variable [Ov]
variable {P:Program} {Wr:Acc} {ρ:Names} {H H':Heap} {w:World} {nt:Nat} {env:Tree AV} {a:Act} {o:Oper} {ao:AOp} {v:AV}
structure Src (P:Program) (w:World) (argTypes:Array TypeId) (e:TypeId) (size:Nat) (x:Value) (n:Nat) (m:List Value):Prop where
  run:∀ (ty:TypeId) (s:Value) (base:Option Addr) (sLen sCap:Nat),s=.slice base sLen sCap→∀ sT,argTypes[0]?=some sT→P.underlying sT=some (.slice e)→szOf P e=some size →
    (sLen+n≤sCap→∀ w',(match base with | some a=>storeCells (a.add (sLen*size)) m | none=>pure ():Sem Unit).run P w=.ok () w' →
      (Builtin.append_ argTypes ty #[s,x]).run P w=.ok (.slice base (sLen+n) sCap) w') ∧
    (¬ sLen+n≤sCap→∀ i,P.info? e=some i→(sLen+n)*i.bytes≤70368744177664→sLen+n≤70368744177664→∀ z,(∀ w,(zeroValue e).run P w=.ok z w)→∀ old:Array Value,(Builtin.firstCells size sLen s).run P w.drew=.ok old w.drew →
      (Builtin.append_ argTypes ty #[s,x]).run P w=.ok (.slice (some ⟨w.heap.size,0,none⟩) (sLen+n) (grownCap w (sLen+n) sCap e))
        (w.drew.alloc (.cells (old++m.toArray++Builtin.zeroCells z.cells (grownCap w (sLen+n) sCap e-(sLen+n))) e)))
theorem growBy_le (n:Nat):∀ (r c:Nat),256≤c→c<2*n→Builtin.growBy n r c≤2*n
  | 0,c,_,h=>by simp only [Builtin.growBy];omega
  | r+1,c,h1,h2=>by
    simp only [Builtin.growBy]
    split
    · omega
    · rename_i hlt
      rcases Nat.lt_or_ge (c+(c+768) / 4) (2*n) with h | h
      · exact growBy_le n r _ (by omega) h
      · have:c+(c+768) / 4≤2*n:=by omega
        have he:c+(c+768) / 4=2*n:=by omega
        cases r with
        | zero=>simp only [Builtin.growBy];omega
        | succ r=>simp only [Builtin.growBy];rw [if_pos (by omega)];omega
theorem nextslicecap_le {need old:Nat} (h:old<need):Builtin.nextslicecap need old≤2*need:=by
  unfold Builtin.nextslicecap
  split
  · omega
  · split
    · omega
    · exact growBy_le need 4 old (by omega) (by omega)
theorem big_ok {need old by_:Nat} (h:old<need) (hb:need*by_≤70368744177664):¬(Builtin.nextslicecap need old*by_ > 2 ^ 48):=by
  have h1:=Nat.mul_le_mul_right by_ (nextslicecap_le h)
  have h2:2*need*by_=2*(need*by_):=by rw [Nat.mul_assoc]
  have e1:(2:Nat) ^ 48=281474976710656:=by decide
  omega
theorem Src.of_cells {argTypes:Array TypeId} {e xT:TypeId} {size n:Nat} {x:Value} {m:List Value} {dx:TypeDesc} (hX:argTypes[1]?=some xT) (hux:P.underlying xT=some dx) (hnz:∀ k,dx≠.int k)
    (hlen:∀ w':World,(Builtin.lenOf x).run P w'=.ok n w') (h1:(Builtin.firstCells size n x).run P w=.ok m.toArray w) (h2:(Builtin.firstCells size n x).run P w.drew=.ok m.toArray w.drew) :
    Src P w argTypes e size x n m:=by
  refine ⟨fun ty s base sLen sCap hs sT hT hu hsz=>⟨fun hcap w' hst=>?_,fun hcap i hi hb1 hb2 z hz old hold=>?_⟩⟩
  · subst hs
    have hz:(match dx with | .int _=>true | _=>false)=false:=by cases dx<;>first | rfl | (exact absurd rfl (hnz _))
    cases base with
    | none =>
      simp only [Sem.run_pure,Result.ok.injEq,true_and] at hst
      subst hst
      simp [Builtin.append_,hT,hX,run_und hu,run_sizeOf hsz,run_und hux,hz,hlen,hcap,h1]
    | some ad =>
      simp only at hst
      simp [Builtin.append_,hT,hX,run_und hu,run_sizeOf hsz,run_und hux,hz,hlen,hcap,h1,hst]
  · subst hs
    have hz':(match dx with | .int _=>true | _=>false)=false:=by cases dx<;>first | rfl | (exact absurd rfl (hnz _))
    have hbig:=big_ok (Nat.lt_of_not_le hcap) hb1
    have hmax:¬(((sLen+n:Nat):Int) > IntKind.i64.max):=by
      have:IntKind.i64.max=9223372036854775807:=by decide
      rw [this];omega
    simp only [Builtin.append_,hT,hX,run_und hu,run_sizeOf hsz,run_und hux,hz',hlen,hcap,Sem.run_bind,Result.andThen_ok,Sem.run_pure,Bool.false_eq_true,if_false,List.getElem?_toArray,List.getElem?_cons_zero,List.getElem?_cons_succ,
      run_typeInfo hi,hmax,false_and,hbig,run_choose,Question.forced,run_askRoom]
    rw [show ({ heap:=w.heap,tape:=w.tape,drawn:=w.drawn+1,os:=w.os,output:=w.output }:World)=w.drew from rfl,hold]
    simp only [Result.andThen_ok,Bool.not_false,if_true,h2,hz,newRow,Sem.run_bind,run_newObj,Sem.run_pure]
    rfl
theorem Src.of_make {argTypes:Array TypeId} {e xT:TypeId} {size n by_:Nat} {k k':IntKind} {z:Value} (hX:argTypes[1]?=some xT) (hux:P.underlying xT=some (.int k))
    (hby:byOf P e=some by_) (hn:n*by_≤70368744177664) (hn2:n≤70368744177664) (hz:∀ w,(zeroValue e).run P w=.ok z w) (hzs:z.cells.size=size) :
    Src P w argTypes e size (.int k' (n:Int)) n ((Array.range (n*z.cells.size)).map (z.cells[· % z.cells.size]!)).toList:=by
  obtain ⟨ti,hti,htb⟩:=byOf_info hby
  have hwr:IntKind.i64.wrap (n:Int)=n:=wrap_i64_fits _ (by omega) (by omega)
  have hnb:¬((n:Int)*(ti.bytes:Int) > 2 ^ 48):=by
    have e1:(2:Int) ^ 48=281474976710656:=by decide
    rw [e1,htb]
    have:((n*by_:Nat):Int)≤281474976710656:=by omega
    push_cast at this;omega
  have hneg:¬((n:Int)<0):=by omega
  have happ:∀ w',(if n*size=0 then pure #[] else do pure (Builtin.zeroCells (← zeroValue e).cells n):Sem (Array Value)).run P w'=.ok ((Array.range (n*z.cells.size)).map (z.cells[· % z.cells.size]!)) w':=by
    intro w'
    by_cases h0:n*size=0
    · rw [if_pos h0,hzs,h0];simp
    · rw [if_neg h0];simp [hz,Builtin.zeroCells]
  refine ⟨fun ty s base sLen sCap hs sT hT hu hsz=>⟨fun hcap w' hst=>?_,fun hcap i hi hb1 hb2 z2 hz2 old hold=>?_⟩⟩
  · subst hs
    simp only [Builtin.append_,hT,hX,run_und hu,run_sizeOf hsz,run_und hux,hcap,Sem.run_bind,Result.andThen_ok,Sem.run_pure,if_true,List.getElem?_toArray,List.getElem?_cons_zero,List.getElem?_cons_succ,
      asInt,asIntOf,hwr,hneg,if_false,run_typeInfo hti,hnb,Int.toNat_natCast,Bool.not_true,Bool.false_eq_true,happ]
    cases base with
    | none =>
      simp only [Sem.run_pure,Result.ok.injEq,true_and] at hst
      subst hst
      rfl
    | some ad =>
      simp only at hst
      simp only [Sem.run_bind,hst,Result.andThen_ok,Sem.run_pure]
  · subst hs
    have hbig:=big_ok (Nat.lt_of_not_le hcap) hb1
    have hmax:¬(((sLen+n:Nat):Int) > IntKind.i64.max):=by
      have:IntKind.i64.max=9223372036854775807:=by decide
      rw [this];omega
    have hii:i=ti:=by rw [hi] at hti;injection hti
    subst hii
    simp only [Builtin.append_,hT,hX,run_und hu,run_sizeOf hsz,run_und hux,hcap,Sem.run_bind,Result.andThen_ok,Sem.run_pure,if_true,List.getElem?_toArray,List.getElem?_cons_zero,List.getElem?_cons_succ,
      asInt,asIntOf,hwr,hneg,if_false,run_typeInfo hti,hnb,Int.toNat_natCast,Bool.not_true,Bool.false_eq_true,hmax,false_and,hbig,run_choose,Question.forced,run_askRoom]
    rw [show ({ heap:=w.heap,tape:=w.tape,drawn:=w.drawn+1,os:=w.os,output:=w.output }:World)=w.drew from rfl,hold]
    simp only [Result.andThen_ok,happ,hz2,newRow,Sem.run_bind,run_newObj,Sem.run_pure]
    rfl
end Go.Abs
namespace Go.Abs
variable [Ov]
variable {P:Program} {Wr:Acc} {ρ:Names} {H H':Heap} {w:World} {nt:Nat} {env:Tree AV} {a:Act} {o:Oper} {ao:AOp} {v:AV}
theorem zeroCells_size (zs:Array Value) (n:Nat):(Builtin.zeroCells zs n).size=n*zs.size:=by simp [Builtin.zeroCells]
theorem slice_cells (hI:Inv P Wr ρ H w) {id:Pos} {off len cp m:Nat} {ad:Addr} {b x:Nat} (hb:ρ id=some (b,x)) (had:cp≠0→ad=⟨b,x+off,none⟩) (hlen:len≤cp)
    {size:Nat} (hm:m=len*size) {l:List AV} (hl:readAt H id off m=some l) :
    ∃ ms:List Value,VRs ρ l ms∧l.length=m∧∀ w':World,w'.heap=w.heap→(loadCells ad m).run P w'=.ok ms.toArray w':=by
  unfold readAt at hl
  split at hl
  · rename_i c n e rw' par fz hi
    obtain ⟨hlm,_,_⟩:=readCells_get m c n off l hl
    rcases Nat.eq_zero_or_pos m with h0 | h0
    · subst h0
      simp only [readCells,Option.some.injEq] at hl
      subst hl
      exact ⟨[],by simp [VRs],rfl,fun w' _=>by simp [loadCells,loadCellsFrom]⟩
    · have hlp:len≠0:=by intro e;subst e;omega
      have:=had (by omega)
      subst this
      obtain ⟨b',x',ob,e',hlt,hob,hor⟩:=hI.blk (i:=id) (by rw [hi];simp)
      rw [hb] at e';injection e' with e';injection e' with e1 e2;subst e1;subst e2
      rw [hi] at hor
      cases ob with
      | cells cs el fr =>
        obtain ⟨q1,q2⟩:=readCells_VRs hor hl
        exact ⟨_,q1,hlm,fun w' hw=>run_loadCells_at w' (by rw [hw];exact hob) (x+off) m (q2 h0)⟩
      | _=>simp [OR] at hor
  · cases hl
theorem source_sound (hI:Inv P Wr ρ H w) {x:AV} {c:Value} (hx:VR ρ x c) {size n:Nat} {l:List AV} (h:source H size x=some (n,l)) :
    ∃ ms:List Value,VRs ρ l ms∧l.length=n*size∧(∀ w':World,(Builtin.lenOf c).run P w'=.ok n w')∧∀ w':World,w'.heap=w.heap→(Builtin.firstCells size n c).run P w'=.ok ms.toArray w':=by
  unfold source at h
  split at h
  · simp only [Option.some.injEq,Prod.mk.injEq] at h
    obtain ⟨rfl,rfl⟩:=h
    have:=hx.nilslice_inv
    subst this
    exact ⟨[],by simp [VRs],by simp,fun w'=>by simp [Builtin.lenOf],fun w' _=>by simp [Builtin.firstCells]⟩
  · rename_i id off len cap ex
    split at h
    · rename_i l' hl
      simp only [Option.some.injEq,Prod.mk.injEq] at h
      obtain ⟨rfl,rfl⟩:=h
      obtain ⟨ad,cp,rfl,q1,q2,q3,b,z,hb,q4,q5⟩:=hx.slice_inv
      obtain ⟨ms,k1,k2,k3⟩:=slice_cells (P:=P) hI hb q4 (by omega) rfl hl
      exact ⟨ms,k1,k2,fun w'=>by simp [Builtin.lenOf],fun w' hw=>by simp only [Builtin.firstCells];exact k3 w' hw⟩
    · cases h
  · rename_i s
    split at h
    · rename_i hs1
      have hs1:=Nat.eq_of_beq_eq_true hs1
      subst hs1
      simp only [Option.some.injEq,Prod.mk.injEq] at h
      obtain ⟨rfl,rfl⟩:=h
      obtain ⟨t,ht,rfl⟩:=hx.str_inv
      have hsz:t.size=s.length:=by rw [← ht,List.length_map,Array.length_toList];rfl
      refine ⟨t.data.toList.map fun b=>.int .u8 b.toNat,?_,by simp,fun w'=>by simp [Builtin.lenOf,hsz],fun w' _=>?_⟩
      · rw [← ht]
        generalize t.data.toList=l
        induction l with
        | nil=>simp [VRs]
        | cons u l ih=>simp only [List.map_cons,VRs];exact ⟨by simp [VR,kc],ih⟩
      · simp only [Builtin.firstCells,Sem.run_pure,Result.ok.injEq,and_true]
        rw [← hsz]
        have:t.extract 0 t.size=t:=by
          apply ByteArray.ext
          rw [ByteArray.data_extract]
          exact Array.extract_size
        rw [this]
        apply Array.toList_inj.1;simp
    · cases h
  · cases h
theorem alloc_eq' (w:World) (A:Array Value) (L:List Value) (e:TypeId) (h:A.toList=L):w.alloc (.cells A e)={ w with heap:=w.heap.push (.cells L.toArray e (0,0)) }:=by
  subst h
  show ({ w with heap:=w.heap.push (.cells A e) }:World)=_
  rw [Array.toArray_toList]
theorem appendV_sound (hI:Inv P Wr ρ H w) {s:AV} {sv:Value} (hs:VR ρ s sv) {argTypes:Array TypeId} {ty sT e size by_ n:Nat} {l:List AV} {m:List Value} {x:Value} (hsrc:Src P w argTypes e size x n m)
    (hl:VRs ρ l m) (hlen:l.length=n*size) (hT:argTypes[0]?=some sT) (hu:P.underlying sT=some (.slice e)) (hsz:szOf P e=some size) (hby:byOf P e=some by_)
    {z:Value} (hz:∀ w,(zeroValue e).run P w=.ok z w) (hzs:z.cells.size=size) (he:appendV e by_ size H s n l=some (v,H')) :
    ∃ c w',(Builtin.append_ argTypes ty #[sv,x]).run P w=.ok c w'∧Post P Wr ρ w v H' c w':=by
  obtain ⟨ti,hti,htb⟩:=byOf_info hby
  have hml:=VRs.length hl
  unfold appendV at he
  split at he
  · cases he
  rename_i hone
  have hone:allOne l=true:=by simpa using hone
  have hdrew:Kept Wr w w.drew:=(Kept.refl Wr w).drew
  split at he
  ·
    have:=hs.nilslice_inv
    subst this
    have hrun:=hsrc.run ty (.slice none 0 0) none 0 0 rfl sT hT hu hsz
    split at he
    · rename_i hn
      have hn:=Nat.eq_of_beq_eq_true hn
      subst hn
      simp only [Option.some.injEq,Prod.mk.injEq] at he
      obtain ⟨rfl,rfl⟩:=he
      exact ⟨_,w,hrun.1 (by omega) w (by simp),Post.same hI (by simp [VR])⟩
    · rename_i hn
      have hn:n≠0:=fun e=>hn (by subst e;rfl)
      split at he
      · rename_i hsm
        simp only [Bool.and_eq_true] at hsm
        simp only [Option.some.injEq,Prod.mk.injEq] at he
        obtain ⟨rfl,rfl⟩:=he
        have hge:=grownCap_ge w (0+n) 0 e
        have h2:=hrun.2 (by omega) ti hti (by rw [Nat.zero_add,htb];exact small_le hsm.1) (by rw [Nat.zero_add];exact small_le hsm.2) z hz #[] (by simp [Builtin.firstCells])
        obtain ⟨q1,q2,q3⟩:=newCells_sound (P:=P) (w:=w.drew) hI.drew hl e (n*size) hlen.symm (Builtin.zeroCells z.cells (grownCap w (0+n) 0 e-(0+n))).toList
        refine ⟨_,_,h2,_,q1,?_,?_,?_⟩
        · simp only [VR]
          refine ⟨by omega,Nat.le_refl _,by omega,(fun h=>by cases h),_,_,Names.add_same ..,fun _=>rfl,fun _=>?_⟩
          rw [Names.add_k]
          simp only [hsz,Option.getD_some,List.length_append,Array.length_toList,zeroCells_size,hzs,← hml,hlen]
          rw [Nat.sub_mul]
          have:=Nat.mul_le_mul_right size hge
          simp only [Nat.zero_add] at this ⊢
          omega
        · rw [alloc_eq' _ _ (m++(Builtin.zeroCells z.cells (grownCap w (0+n) 0 e-(0+n))).toList) _ (by simp)];exact q2
        · rw [alloc_eq' _ _ (m++(Builtin.zeroCells z.cells (grownCap w (0+n) 0 e-(0+n))).toList) _ (by simp)];exact hdrew.trans q3
      · cases he
  · rename_i id off len cap ex
    obtain ⟨ad,cp,rfl,q1,q2,q3,b,x0,hb,q4,q5⟩:=hs.slice_inv
    have hrun:=hsrc.run ty (.slice (some ad) len cp) (some ad) len cp rfl sT hT hu hsz
    simp only at he
    split at he
    · rename_i hneed
      have hneed:=Nat.le_of_ble_eq_true hneed
      split at he
      · rename_i hn
        have hn:=Nat.eq_of_beq_eq_true hn
        subst hn
        simp only [Option.some.injEq,Prod.mk.injEq] at he
        obtain ⟨rfl,rfl⟩:=he
        have hm0:m=[]:=by
          rw [Nat.zero_mul] at hlen
          exact List.length_eq_zero_iff.1 (by omega)
        subst hm0
        refine ⟨_,w,hrun.1 (by omega) w (by simp [storeCells]),Post.same hI ?_⟩
        simp only [VR]
        exact ⟨trivial,hneed,q2,q3,b,x0,hb,q4,q5⟩
      · rename_i hn
        have hn:n≠0:=fun e=>hn (by subst e;rfl)
        split at he
        · rename_i H2 hw
          simp only [Option.some.injEq,Prod.mk.injEq] at he
          obtain ⟨rfl,rfl⟩:=he
          have:=q4 (by omega)
          subst this
          obtain ⟨k1,k2,k3⟩:=writeAt_sound hI hw hb hl
          refine ⟨_,_,hrun.1 (by omega) _ ?_,ρ,Ext.refl ρ,?_,k2,k3⟩
          · simp only [addr_add]
            rw [show x0+off+len*size=x0+(off+len*size) by omega];exact k1
          · simp only [VR]
            exact ⟨trivial,hneed,q2,q3,b,x0,hb,q4,q5⟩
        · cases he
    · rename_i hneed
      have hneed:¬ len+n≤cap:=fun h=>hneed (Nat.ble_eq_true_of_le h)
      split at he
      · cases he
      rename_i hsm
      have hsm:small ((len+n)*by_)=true∧small (len+n)=true:=by simpa using hsm
      split at he
      · rename_i c mm e2 rw2 par fz hi
        split at he
        · cases he
        rename_i old hold
        have hra:readAt H id off (len*size)=some old:=by unfold readAt;rw [hi];exact hold
        obtain ⟨ms,g1,g2,g3⟩:=slice_cells (P:=P) hI hb q4 (by omega) rfl hra
        have hfc:(Builtin.firstCells size len (.slice (some ad) len cp)).run P w.drew=.ok ms.toArray w.drew:=by simp only [Builtin.firstCells];exact g3 _ rfl
        have hall:VRs ρ (old++l) (ms++m):=VRs.append g1 hl
        have halllen:(len+n)*size=(old++l).length:=by rw [List.length_append,g2,hlen,Nat.add_mul]
        have hmsl:=VRs.length hall
        have hgrow:¬ len+n≤cp→∃ rest:List Value,rest.length=(grownCap w (len+n) cp e-(len+n))*size∧len+n≤grownCap w (len+n) cp e ∧
            (Builtin.append_ argTypes ty #[.slice (some ad) len cp,x]).run P w=.ok (.slice (some ⟨w.heap.size,0,none⟩) (len+n) (grownCap w (len+n) cp e)) { w.drew with heap:=w.heap.push (.cells (ms++m++rest).toArray e (0,0)) }:=by
          intro hn
          refine ⟨(Builtin.zeroCells z.cells (grownCap w (len+n) cp e-(len+n))).toList,by rw [Array.length_toList,zeroCells_size,hzs],grownCap_ge ..,?_⟩
          have h2:=hrun.2 hn ti hti (by rw [htb];exact small_le hsm.1) (small_le hsm.2) z hz ms.toArray hfc
          rw [h2,alloc_eq' _ _ (ms++m++(Builtin.zeroCells z.cells (grownCap w (len+n) cp e-(len+n))).toList) _ (by simp)]
          rfl
        split at he
        · rename_i hex
          simp only [Option.some.injEq,Prod.mk.injEq] at he
          obtain ⟨rfl,rfl⟩:=he
          have hcp:=q3 hex
          obtain ⟨rest,r1,r2,r3⟩:=hgrow (by omega)
          obtain ⟨p1,p2,p3⟩:=newCells_sound (P:=P) (w:=w.drew) hI.drew hall e ((len+n)*size) halllen rest
          refine ⟨_,_,r3,_,p1,?_,p2.heap_eq rfl,(hdrew.trans p3).heap_eq rfl rfl rfl rfl⟩
          simp only [VR]
          refine ⟨trivial,Nat.le_refl _,r2,(fun h=>by cases h),_,_,Names.add_same ..,fun _=>rfl,fun _=>?_⟩
          rw [Names.add_k]
          simp only [hsz,Option.getD_some,List.length_append (as:=ms++m),r1,← hmsl,← halllen]
          rw [Nat.sub_mul]
          have:=Nat.mul_le_mul_right size r2
          omega
        · rename_i hex
          have hex:ex=false:=by simpa using hex
          subst hex
          split at he
          case isFalse=>cases he
          rename_i hcond
          simp only [Bool.and_eq_true] at hcond
          obtain ⟨⟨⟨⟨hrw,hlc⟩,hend⟩,hel⟩,hfz⟩:=hcond
          subst hrw
          have hlc:=Nat.eq_of_beq_eq_true hlc
          have hend:=Nat.eq_of_beq_eq_true hend
          have hel:=(Nat.eq_of_beq_eq_true hel).symm
          have hfz:=Nat.le_of_ble_eq_true hfz
          subst hlc;subst hel
          simp only [Option.some.injEq,Prod.mk.injEq] at he
          obtain ⟨rfl,rfl⟩:=he
          have hne:H.get id≠.none:=by rw [hi];simp
          obtain ⟨b',x',ob,e',hlt,hob,hor⟩:=hI.blk hne
          rw [hb] at e';injection e' with e';injection e' with e1 e2';subst e1;subst e2'
          have hinfo:=hI.info id b x0 ob hne hb hob
          rw [hi] at hor hinfo
          cases ob with
          | cells cs el fr =>
            simp only [OR] at hor
            simp only [InfoR,hsz,Option.getD_some] at hinfo
            obtain ⟨o1,o2,o3,o4⟩:=hor
            have hroom:=q5 rfl
            rw [hinfo] at hroom
            simp only at hroom
            by_cases hfit:len+n≤cp
            ·
              have hcp0:cp≠0:=by omega
              have:=q4 hcp0
              subst this
              have hmul:=Nat.mul_le_mul_right size hfit
              rw [Nat.add_mul] at hmul
              have hmn:m.length=n*size:=by omega
              have hst:=run_storeCells_at (P:=P) w hob (x0+off+len*size) m (by omega) (fun j hj1 hj2=>o4 trivial j (by omega) (by omega)) (VRs.oneCells hl hone)
              obtain ⟨f1,f2,f3,f4⟩:=setCells_heap b el fr m w cs (x0+off+len*size) hob
              have hold2:=readCells_get (len*size) c mm off old hold
              obtain ⟨p1,p2,p3⟩:=hI.child (w':=w.setCells b (x0+off+len*size) m) hi hb (c2:=mkCells (old++l)) (n2:=(len+n)*size) (e2:=e) (fz2:=fz-off) (b2:=b) (x2:=x0+off) (ob2:=.cells (wr cs (x0+off+len*size) m) el fr)
                (ρ.k b) (by simp only [InfoR,wr_size,hsz,Option.getD_some];exact hinfo) (fun _=>rfl) (by
                  simp only [OR]
                  refine ⟨o1,by rw [wr_size,Nat.add_mul];omega,fun j hj=>?_,fun _ j hj1 hj2=>o4 trivial j (by omega) (by rw [wr_size] at hj2;exact hj2)⟩
                  have hext:Ext ρ (ρ.add H.next b (x0+off) (ρ.k b)):=Names.add_ext _ _ _ (hI.fresh _ (Nat.le_refl _)).2 (fun _ _ _ _ hc=>by rw [← hc])
                  rw [mkCells_get _ _ (by omega),wr_get _ _ _ _ (by omega)]
                  by_cases hjl:j<len*size
                  · rw [if_neg (by omega)]
                    obtain ⟨y,hy,hyr⟩:=o3 (off+j) (by omega)
                    refine ⟨y,by rw [← hy];congr 1;omega,VR.mono hext _ _ ?_⟩
                    simp only [List.getD]
                    rw [List.getElem?_append_left (by omega),hold2.2.2 j hjl];exact hyr
                  · rw [if_pos (by rw [Nat.add_mul] at hj;omega)]
                    have hjn:j-len*size<l.length:=by rw [Nat.add_mul] at hj;omega
                    obtain ⟨y,hy,hyr⟩:=VRs.get hl (j-len*size) l[j-len*size] (by simp [hjn])
                    refine ⟨y,by rw [← hy];congr 1;omega,VR.mono hext _ _ ?_⟩
                    simp only [List.getD]
                    rw [List.getElem?_append_right (by omega),g2,List.getElem?_eq_getElem hjn];exact hyr) f2 f3 f4
                (.inr ⟨rfl,f1,by rw [Nat.add_mul];omega,cs,_,el,fr,hob,rfl,wr_size ..,fun j hj=>by rw [wr_get _ _ _ _ (by omega),if_neg (by omega)]⟩)
              refine ⟨_,_,hrun.1 hfit _ (by simp only [addr_add];exact hst),_,p1,?_,p2,p3⟩
              simp only [VR]
              refine ⟨trivial,Nat.le_refl _,hfit,(fun h=>by cases h),_,_,Names.add_same ..,fun _=>by simp,fun _=>?_⟩
              rw [Names.add_k,hinfo]
              simp only;omega
            ·
              obtain ⟨rest,r1,r2,r3⟩:=hgrow hfit
              obtain ⟨p1,p2,p3⟩:=hI.drew.child (w':={ w.drew with heap:=w.heap.push (.cells (ms++m++rest).toArray e (0,0)) }) hi hb (c2:=mkCells (old++l)) (n2:=(len+n)*size) (e2:=e) (fz2:=fz-off) (b2:=w.heap.size) (x2:=0)
                (ob2:=.cells (ms++m++rest).toArray e (0,0))
                ((ms++m++rest).length,size) (by simp only [InfoR,hsz,Option.getD_some,List.size_toArray]) (fun h=>by omega) (by
                  simp only [OR]
                  refine ⟨trivial,by rw [List.size_toArray,List.length_append (as:=ms++m),← hmsl];omega,fun j hj=>?_,fun _ j _ _=>by omega⟩
                  have hext:Ext ρ (ρ.add H.next w.heap.size 0 ((ms++m++rest).length,size)):=Names.add_ext _ _ _ (hI.fresh _ (Nat.le_refl _)).2 (fun j' c' y' e' hc=>by have:=hI.dom j' c' y' e';omega)
                  rw [mkCells_get _ _ (by omega)]
                  have hj':j<(old++l).length:=by omega
                  obtain ⟨y,hy,hyr⟩:=VRs.get hall j (old++l)[j] (by simp only [List.getElem?_eq_getElem hj'])
                  refine ⟨y,?_,VR.mono hext _ _ ?_⟩
                  · rw [Nat.zero_add,List.getElem?_toArray,List.getElem?_append_left (by omega)];exact hy
                  · simp only [List.getD]
                    rw [List.getElem?_eq_getElem hj'];exact hyr) rfl rfl rfl (.inl ⟨rfl,rfl⟩)
              refine ⟨_,_,r3,_,p1,?_,p2,hdrew.trans p3⟩
              simp only [VR]
              refine ⟨trivial,Nat.le_refl _,r2,(fun h=>by cases h),_,_,Names.add_same ..,fun _=>rfl,fun _=>?_⟩
              rw [Names.add_k]
              simp only [List.length_append (as:=ms++m),r1,← hmsl,← halllen]
              rw [Nat.sub_mul]
              have:=Nat.mul_le_mul_right size r2
              omega
          | _=>simp [OR] at hor
      · cases he
  · cases he
end Go.Abs
namespace Go.Abs
variable [Ov]
variable {P:Program} {Wr:Acc} {ρ:Names} {H H':Heap} {w:World} {nt:Nat} {env:Tree AV} {a:Act} {o:Oper} {ao:AOp} {v:AV}
theorem ok_append (h:Ctx P Wr ρ H w nt env a) {c:Call} (ho:o.op=.call c) (hb:c.callee=.builtin .append) (hc:cOp P nt o=some ao) (he:evalOp ao env H=some (v,H')):Opk P Wr ρ w (execOp a.eval o) v H':=by
  simp only [cOp,ho,hb,Option.bind_eq_bind,Option.bind_eq_some_iff] at hc
  obtain ⟨t,ht,d,hd,hc⟩:=hc
  obtain ⟨consts,hex⟩:=exec_builtin (P:=P) (a:=a) ho hb w
  split at hc
  · rename_i e
    simp only [Option.bind_eq_some_iff] at hc
    obtain ⟨size,hsz,z,hz,hc⟩:=hc
    split at hc
    · cases hc
    rename_i hzl
    have hzl3:z.cells.length=size∧size≠0∧c.args.size=2:=by simpa [not_or] using hzl
    have hzl:z.cells.length=size∧size≠0:=⟨hzl3.1,hzl3.2.1⟩
    have hn2:=hzl3.2.2
    simp only [Option.bind_eq_some_iff,Option.pure_def,Option.some.injEq] at hc
    obtain ⟨xT,hxT,d2,hd2,by_,hby,os,⟨ys,hys,hys2⟩,ox,⟨yx,hyx,hyx2⟩,rfl⟩:=hc
    obtain ⟨zv,hzr,hzv,hzd⟩:=run_zeroValue hz
    have hzs:zv.cells.size=size:=by
      have:=VRs.length (VR.cells (hzv ρ) hzd)
      simp at this;omega
    have gs:=h.gv hys2
    have gx:=h.gv hyx2
    have hargs:c.args.map a.eval=#[a.eval ys,a.eval yx]:=by
      apply Array.ext_getElem?
      intro i
      match i with
      | 0=>simp [hys]
      | 1=>simp [hyx]
      | i+2=>rw [Array.getElem?_eq_none (by simp [hn2]),Array.getElem?_eq_none (by simp)]
    have hrun:(execOp a.eval o).run P w=((Builtin.append_ c.argTypes o.type #[a.eval ys,a.eval yx]).run P w).andThen fun v w=>.ok (.value v) w:=by
      rw [hex];simp only [builtin,hargs,Sem.run_bind,Sem.run_pure]
    have fin:∀ {n:Nat} {l:List AV} {m:List Value},Src P w c.argTypes e size (a.eval yx) n m→VRs ρ l m→l.length=n*size→appendV e by_ size H (gv env os) n l=some (v,H')→Opk P Wr ρ w (execOp a.eval o) v H':=by
      intro n l m hsrc hl hlen he
      obtain ⟨c',w',k1,k2⟩:=appendV_sound (ty:=o.type) h.I gs hsrc hl hlen ht hd hsz hby hzr hzs he
      exact Opk.val (by rw [hrun,k1];rfl) k2
    simp only [evalOp] at he
    split at he
    · simp only [if_true] at he
      split at he
      · rename_i n hv
        split at he
        · rename_i hs
          simp only [Bool.and_eq_true] at hs
          rw [hv] at gx
          obtain ⟨k',hk',hx⟩:=gx.int_inv
          rw [hx] at fin
          refine fin (Src.of_make hxT hd2 hby (small_le hs.1) (small_le hs.2) hzr hzs) (reps_sound (VR.cells (hzv ρ) hzd) n (by omega)) (by rw [reps_length,hzl.1]) he
        · cases he
      · cases he
    · rename_i hm
      simp only [Bool.false_eq_true,if_false] at he
      split at he
      · rename_i n l hsr
        obtain ⟨ms,k1,k2,k3,k4⟩:=source_sound (P:=P) h.I gx hsr
        exact fin (Src.of_cells hxT hd2 (fun k e=>hm k e) k3 (k4 _ rfl) (k4 _ rfl)) k1 k2 he
      · cases he
  · cases hc
theorem ok_copy (h:Ctx P Wr ρ H w nt env a) {c:Call} (ho:o.op=.call c) (hb:c.callee=.builtin .copy) (hc:cOp P nt o=some ao) (he:evalOp ao env H=some (v,H')):Opk P Wr ρ w (execOp a.eval o) v H':=by
  simp only [cOp,ho,hb,Option.bind_eq_bind,Option.bind_eq_some_iff] at hc
  obtain ⟨t,ht,d,hd,hc⟩:=hc
  obtain ⟨consts,hex⟩:=exec_builtin (P:=P) (a:=a) ho hb w
  split at hc
  · rename_i e
    simp only [Option.bind_eq_some_iff,Option.pure_def,Option.some.injEq] at hc
    obtain ⟨size,hsz,od,⟨yd,hyd,hyd2⟩,os,⟨ys,hys,hys2⟩,rfl⟩:=hc
    have gd:=h.gv hyd2
    have gs:=h.gv hys2
    have hA0:(c.args.map a.eval)[0]?=some (a.eval yd):=by simp [hyd]
    have hA1:(c.args.map a.eval)[1]?=some (a.eval ys):=by simp [hys]
    simp only [evalOp] at he
    split at he
    · rename_i p hv hsr
      obtain ⟨n,l⟩:=p
      simp only [Option.some.injEq,Prod.mk.injEq] at he
      obtain ⟨rfl,rfl⟩:=he
      rw [hv] at gd
      have hx:=gd.nilslice_inv
      obtain ⟨ms,k1,k2,k3,k4⟩:=source_sound (P:=P) h.I gs hsr
      have hf0:(Builtin.firstCells size 0 (a.eval ys)).run P w=.ok #[] w:=by
        have:=k4 w rfl
        revert this
        cases a.eval ys with
        | slice b l c=>cases b<;>simp [Builtin.firstCells,loadCells,loadCellsFrom]
        | string s=>intro _;simp [Builtin.firstCells]
        | _=>simp [Builtin.firstCells]
      refine Opk.val (c:=goInt 0) (w':=w) ?_ (Post.same h.I (VR.goInt ρ 0))
      rw [hex]
      simp [builtin,Builtin.copy_,ht,run_und hd,hA0,hA1,hx,k3,run_sizeOf hsz,hf0]
    · rename_i id off len cap ex n l hv hsr
      rw [hv] at gd
      obtain ⟨ad,cp,hx,q1,q2,q3,b,z,hb',q4,q5⟩:=gd.slice_inv
      obtain ⟨ms,k1,k2,k3,k4⟩:=source_sound (P:=P) h.I gs hsr
      have hfirst:(Builtin.firstCells size (min n len) (a.eval ys)).run P w=.ok (ms.take (min n len*size)).toArray w:=by
        have:=k4 w rfl
        have hml:=VRs.length k1
        revert this
        cases hys':a.eval ys with
        | slice bb ll cc =>
          cases bb with
          | none => simp only [Builtin.firstCells, Sem.run_pure, Result.ok.injEq, and_true]; intro h; have : ms = [] := by simpa using h.symm
                    subst this;simp
          | some ad2 =>
            intro _
            rw [hys'] at gs
            have hsr':=hsr
            unfold source at hsr'
            split at hsr'
            · rename_i hq;rw [hq] at gs;have:=gs.nilslice_inv;cases this
            · rename_i id2 off2 len2 cap2 ex2 hq
              rw [hq] at gs
              obtain ⟨ad3,cp3,e3,r1,r2,r3,b3,z3,hb3,r4,r5⟩:=gs.slice_inv
              simp only [Value.slice.injEq,Option.some.injEq] at e3
              obtain ⟨rfl,rfl,rfl⟩:=e3
              split at hsr'
              · rename_i l' hl'
                simp only [Option.some.injEq,Prod.mk.injEq] at hsr'
                obtain ⟨rfl,rfl⟩:=hsr'
                simp only [Builtin.firstCells]
                unfold readAt at hl'
                split at hl'
                · rename_i c3 n3 e4 rw3 par3 fz3 hi3
                  have hthis:=k4 w rfl
                  rw [hys'] at hthis
                  simp only [Builtin.firstCells] at hthis
                  rcases Nat.eq_zero_or_pos (min n3 0+min ll len*size) with h0 | h0
                  · have:min ll len*size=0:=by omega
                    rw [this];simp [loadCells,loadCellsFrom]
                  · have hm0:min ll len*size≠0:=by omega
                    have hll:ll≠0:=by intro e;subst e;simp at hm0
                    have:=r4 (by omega)
                    subst this
                    obtain ⟨b',x',ob,e',hlt,hob,hor⟩:=h.I.blk (i:=id2) (by rw [hi3];simp)
                    rw [hb3] at e';injection e' with e';injection e' with e1 e2;subst e1;subst e2
                    rw [hi3] at hor
                    cases ob with
                    | cells cs el fr =>
                      obtain ⟨w1,w2⟩:=readCells_VRs hor hl'
                      have hmle:min ll len*size≤ll*size:=Nat.mul_le_mul_right size (Nat.min_le_left _ _)
                      have w2':=w2 (by omega)
                      have e5:=run_loadCells_at (P:=P) w hob (z3+off2) (ll*size) w2'
                      rw [hthis] at e5
                      simp only [Result.ok.injEq,and_true] at e5
                      have e6:ms=List.take (ll*size) (List.drop (z3+off2) cs.toList):=by simpa using e5
                      rw [run_loadCells_at (P:=P) w hob (z3+off2) (min ll len*size) (by omega),e6,List.take_take,Nat.min_eq_left hmle]
                    | _=>simp [OR] at hor
                · cases hl'
              · cases hsr'
            · rename_i hq;rw [hq] at gs;obtain ⟨t,_,e⟩:=gs.str_inv;cases e
            · cases hsr'
        | string s =>
          simp only [Builtin.firstCells,Sem.run_pure,Result.ok.injEq,and_true]
          intro hq
          rw [hys'] at gs
          have hsr':=hsr
          unfold source at hsr'
          split at hsr'
          · rename_i hq';rw [hq'] at gs;have:=gs.nilslice_inv;cases this
          · rename_i hq';rw [hq'] at gs;obtain ⟨_,_,e,_⟩:=gs.slice_inv;cases e
          · split at hsr'
            · rename_i hs1
              have hs1:=Nat.eq_of_beq_eq_true hs1
              subst hs1
              have e6:ms=((s.extract 0 n).data.map fun b=>Value.int .u8 b.toNat).toList:=by rw [hq]
              rw [e6,Nat.mul_one]
              apply Array.toList_inj.1
              simp only [Array.toList_map,ByteArray.data_extract,Array.toList_extract,List.extract_eq_drop_take,List.drop_zero,Nat.sub_zero]
              rw [← List.map_take,List.take_take]
              congr 2;omega
            · cases hsr'
          · cases hsr'
        | _=>simp [Builtin.firstCells]
      split at he
      · rename_i hm
        simp only [Option.some.injEq,Prod.mk.injEq] at he
        obtain ⟨rfl,rfl⟩:=he
        rw [hm] at hfirst
        refine Opk.val (c:=goInt 0) (w':=w) ?_ (Post.same h.I (VR.goInt ρ 0))
        have hm':Nat.min n len=0:=hm
        rw [hex]
        simp [builtin,Builtin.copy_,ht,run_und hd,hA0,hA1,hx,k3,run_sizeOf hsz,hm',hfirst,storeCells]
      · rename_i hm
        split at he
        · rename_i H2 hw
          simp only [Option.some.injEq,Prod.mk.injEq] at he
          obtain ⟨rfl,rfl⟩:=he
          have:=q4 (by omega)
          subst this
          obtain ⟨p1,p2,p3⟩:=writeAt_sound h.I hw hb' (VRs.take (min n len*size) k1)
          refine Opk.val (c:=goInt ((min n len:Nat):Int)) (w':=w.setCells b (z+off) (ms.take (min n len*size))) ?_ ⟨ρ,Ext.refl ρ,VR.goInt ρ _,p2,p3⟩
          rw [hex]
          simp only [builtin,Builtin.copy_,ht,hA0,hA1,Sem.run_bind,run_und hd,Result.andThen_ok,hx,k3,run_sizeOf hsz]
          rw [show Nat.min n len=min n len from rfl,hfirst]
          simp [p1]
        · cases he
    · cases he
  · cases hc
theorem ok_clearSl (h:Ctx P Wr ρ H w nt env a) {c:Call} (ho:o.op=.call c) (hb:c.callee=.builtin .clear) {zs:List AV} {x:Opd} (hao:ao=.clearSl zs x) (hc:cOp P nt o=some ao) (he:evalOp ao env H=some (v,H')):Opk P Wr ρ w (execOp a.eval o) v H':=by
  simp only [cOp,ho,hb,Option.bind_eq_bind,Option.bind_eq_some_iff] at hc
  obtain ⟨t,ht,d,hd,hc⟩:=hc
  obtain ⟨consts,hex⟩:=exec_builtin (P:=P) (a:=a) ho hb w
  split at hc
  · rename_i e
    simp only [Option.bind_eq_some_iff,Option.pure_def,Option.some.injEq] at hc
    obtain ⟨z,hz,od,⟨yd,hyd,hyd2⟩,rfl⟩:=hc
    obtain ⟨zv,hzr,hzv,hzd⟩:=run_zeroValue hz
    have gd:=h.gv hyd2
    have hA0:(c.args.map a.eval)[0]?=some (a.eval yd):=by simp [hyd]
    simp only [evalOp] at he
    split at he
    · rename_i hv
      simp only [Option.some.injEq,Prod.mk.injEq] at he
      obtain ⟨rfl,rfl⟩:=he
      rw [hv] at gd
      have hx:=gd.nilslice_inv
      refine Opk.val (c:=.tuple #[]) (w':=w) ?_ (Post.same h.I (VR.undef ρ))
      rw [hex];simp [builtin,Builtin.clear_,ht,hA0,run_und hd,hx]
    · rename_i id off n cap ex hv
      rw [hv] at gd
      obtain ⟨ad,cp,hx,q1,q2,q3,b,y,hb',q4,q5⟩:=gd.slice_inv
      split at he
      · rename_i hn
        simp only [Option.some.injEq,Prod.mk.injEq] at he
        obtain ⟨rfl,rfl⟩:=he
        subst hn
        refine Opk.val (c:=.tuple #[]) (w':=w) ?_ (Post.same h.I (VR.undef ρ))
        rw [hex];simp [builtin,Builtin.clear_,ht,hA0,run_und hd,hx]
      · rename_i hn
        split at he
        · rename_i H2 hw
          simp only [Option.some.injEq,Prod.mk.injEq] at he
          obtain ⟨rfl,rfl⟩:=he
          have:=q4 (by omega)
          subst this
          by_cases hz0:z.cells.length=0
          ·
            have hnil:z.cells=[]:=List.length_eq_zero_iff.1 hz0
            have hreps:∀ n,reps z.cells n=[]:=by intro n;rw [hnil];induction n with | zero=>rfl | succ n ih=>simp [reps,ih]
            rw [hreps] at hw
            have hzs:zv.cells.size=0:=by have:=VRs.length (VR.cells (hzv ρ) hzd);simp at this;omega
            obtain ⟨p1,p2,p3⟩:=writeAt_sound h.I hw hb' (m:=[]) (by simp [VRs])
            refine Opk.val (c:=.tuple #[]) (w':=w.setCells b (y+off) []) ?_ ⟨ρ,Ext.refl ρ,VR.undef ρ,p2,p3⟩
            rw [hex]
            have hzc:(Builtin.zeroCells zv.cells n).toList=[]:=by
              apply List.length_eq_zero_iff.1;rw [Array.length_toList,zeroCells_size,hzs];omega
            obtain ⟨n',rfl⟩:∃ n',n=n'+1:=⟨n-1,by omega⟩
            simp [builtin,Builtin.clear_,ht,hA0,run_und hd,hx,hzr,hzc,p1]
          · obtain ⟨p1,p2,p3⟩:=writeAt_sound h.I hw hb' (reps_sound (VR.cells (hzv ρ) hzd) n hz0)
            refine Opk.val (c:=.tuple #[]) (w':=w.setCells b (y+off) ((Array.range (n*zv.cells.size)).map (zv.cells[· % zv.cells.size]!)).toList) ?_ ⟨ρ,Ext.refl ρ,VR.undef ρ,p2,p3⟩
            rw [hex]
            have hzc:(Builtin.zeroCells zv.cells n).toList=((Array.range (n*zv.cells.size)).map (zv.cells[· % zv.cells.size]!)).toList:=rfl
            obtain ⟨n',rfl⟩:∃ n',n=n'+1:=⟨n-1,by omega⟩
            simp only [builtin,Builtin.clear_,ht,hA0,Sem.run_bind,run_und hd,Result.andThen_ok,hx,hzr,hzc,p1,Sem.run_pure]
        · cases he
    · cases he
  all_goals (try (cases hc;done))
  · simp only [Option.bind_eq_some_iff,Option.pure_def,Option.some.injEq] at hc
    obtain ⟨_,_,hc⟩:=hc
    rw [hao] at hc;cases hc
end Go.Abs
