/- A part of the proof (an abstract machine, walks): no statement of its own, no conditions. -/
import Derived.Test.YtndbmjcpgefblaaGreatDoorA04
import Derived.Laws.StructEq
set_option linter.all false
namespace Go.Abs
variable [Ov]
variable {P:Program} {Wr:Acc} {ρ:Names} {H H':Heap} {w:World} {nt:Nat} {env:Tree AV} {a:Act} {o:Oper} {ao:AOp} {v:AV}
theorem ok_nilCheck (h:Ctx P Wr ρ H w nt env a) {x:Operand} (ho:o.op=.nilCheck x) (hc:cOp P nt o=some ao) (he:evalOp ao env H=some (v,H')):Opk P Wr ρ w (execOp a.eval o) v H':=by
  simp only [cOp,ho,Option.bind_eq_bind,Option.bind_eq_some_iff,Option.pure_def,Option.some.injEq] at hc
  obtain ⟨ox,h1,rfl⟩:=hc
  simp only [evalOp] at he
  have g1:=h.gv h1
  split at he<;>(try cases he)<;>rename_i hv<;>rw [hv] at g1
  · obtain ⟨b,z,hb,hx⟩:=g1.ptr_inv
    exact Opk.val (by simp [execOp,ho,hx]) (Post.same h.I (hx ▸ g1))
  · obtain ⟨x1,x2,_,_,hx⟩:=g1.func_inv
    exact Opk.val (by simp [execOp,ho,hx]) (Post.same h.I (hx ▸ g1))
  · obtain ⟨b,hb,hx⟩:=g1.yield_inv
    exact Opk.val (by simp [execOp,ho,hx]) (Post.same h.I (hx ▸ g1))
  · obtain ⟨y,_,hx⟩:=g1.iface_inv
    exact Opk.val (by simp [execOp,ho,hx]) (Post.same h.I (hx ▸ g1))
  · obtain ⟨b,hb,hx⟩:=g1.map_inv
    exact Opk.val (by simp [execOp,ho,hx]) (Post.same h.I (hx ▸ g1))
  · obtain ⟨ad,cp,hx,_⟩:=g1.slice_inv
    exact Opk.val (by simp [execOp,ho,hx]) (Post.same h.I (hx ▸ g1))
theorem ck_kc (k:IntKind):ck (kc k)=k:=by cases k<;>rfl
theorem kc_inj {j k:IntKind} (h:kc j=kc k):j=k:=by have:=congrArg ck h;simpa [ck_kc] using this
theorem ieq_iff (a b:Int):ieq a b=(a==b):=by
  cases a with
  | ofNat m=>cases b with
    | ofNat n =>
      show Nat.beq m n=_
      rw [Bool.eq_iff_iff];simp;omega
    | negSucc n=>show false=_;symm;rw [beq_eq_false_iff_ne];intro e;cases e
  | negSucc m=>cases b with
    | ofNat n=>show false=_;symm;rw [beq_eq_false_iff_ne];intro e;cases e
    | negSucc n =>
      show Nat.beq m n=_
      rw [Bool.eq_iff_iff];simp
theorem ilt_iff (a b:Int):ilt a b=decide (a<b):=by
  cases a with
  | ofNat m=>cases b with
    | ofNat n=>show Nat.blt m n=_;rw [Bool.eq_iff_iff];simp [Nat.blt];omega
    | negSucc n=>show false=_;symm;simp only [decide_eq_false_iff_not,Int.ofNat_eq_natCast];omega
  | negSucc m=>cases b with
    | ofNat n=>show true=_;symm;simp only [decide_eq_true_eq,Int.ofNat_eq_natCast];omega
    | negSucc n=>show Nat.blt n m=_;rw [Bool.eq_iff_iff];simp [Nat.blt];omega
theorem wrap_i64_fits (n:Int) (h1:-9223372036854775808≤n) (h2:n<9223372036854775808):IntKind.i64.wrap n=n:=by
  unfold IntKind.wrap IntKind.signed IntKind.bits
  simp only [Bool.true_and,decide_eq_true_eq]
  have e1:(2:Int) ^ 64=18446744073709551616:=by decide
  have e2:(2:Int) ^ (64-1)=9223372036854775808:=by decide
  rw [e1,e2]
  split<;>omega
theorem wrap_u8_fits (n:Int) (h1:0≤n) (h2:n<256):IntKind.u8.wrap n=n:=by
  unfold IntKind.wrap IntKind.signed IntKind.bits
  simp only [Bool.false_and,Bool.false_eq_true,if_false]
  have e1:(2:Int) ^ 8=256:=by decide
  rw [e1];omega
theorem wrapF_eq (k:IntKind) (n:Int):wrapF (kc k) n=k.wrap n:=by
  have hgen:wrapN (kc k) n=k.wrap n:=by rw [wrapN,ck_kc]
  unfold wrapF
  split
  · rename_i m hk
    split
    · rename_i hm
      have hk':k=.i64:=by cases k<;>simp [kc] at hk ⊢
      subst hk'
      have:m<9223372036854775808:=Nat.lt_of_lt_of_le (Nat.lt_succ_self m) (Nat.le_of_ble_eq_true hm)
      exact (wrap_i64_fits _ (by simp only [Int.ofNat_eq_natCast];omega) (by simp only [Int.ofNat_eq_natCast];omega)).symm
    · rw [hk] at hgen;exact hgen
  · rename_i m hk
    split
    · rename_i hm
      have hk':k=.i64:=by cases k<;>simp [kc] at hk ⊢
      subst hk'
      have:m<9223372036854775808:=Nat.lt_of_lt_of_le (Nat.lt_succ_self m) (Nat.le_of_ble_eq_true hm)
      exact (wrap_i64_fits _ (by omega) (by omega)).symm
    · rw [hk] at hgen;exact hgen
  · rename_i m hk
    split
    · rename_i hm
      have hk':k=.u8:=by cases k<;>simp [kc] at hk ⊢
      subst hk'
      have:m<256:=Nat.lt_of_lt_of_le (Nat.lt_succ_self m) (Nat.le_of_ble_eq_true hm)
      exact (wrap_u8_fits _ (by simp only [Int.ofNat_eq_natCast];omega) (by simp only [Int.ofNat_eq_natCast];omega)).symm
    · rw [hk] at hgen;exact hgen
  · exact hgen
theorem beqs_iff:∀ (a b:List Nat),beqs a b=(a==b)
  | [],[]=>rfl
  | [],_::_=>rfl
  | _::_,[]=>rfl
  | a::l,b::m=>by
    rw [beqs,beqs_iff l m]
    rw [Bool.eq_iff_iff];simp
theorem arithV_sound {op:BinOp} {k:IntKind} {x y:Int} {r:AV} (h:arithV op (kc k) x y=some r) (hsh:op≠.shl∧op≠.shr) (t:TypeId) (w:World) :
    ∃ c,(binOp op t (.int k x) (.int k y)).run P w=.ok c w∧VR ρ r c:=by
  cases op<;>simp only [arithV] at h<;>(try cases h)<;>(try (exact absurd rfl hsh.1))<;>(try (exact absurd rfl hsh.2))
  · exact ⟨.int k (k.wrap (x+y)),by simp [binOp,Op.intArith],by simp [VR,wrapF_eq]⟩
  · exact ⟨.int k (k.wrap (x-y)),by simp [binOp,Op.intArith],by simp [VR,wrapF_eq]⟩
  · exact ⟨.int k (k.wrap (x*y)),by simp [binOp,Op.intArith],by simp [VR,wrapF_eq]⟩
  · split at h
    · cases h
    · rename_i hy;injection h with h;subst h
      exact ⟨.int k (k.wrap (x.tdiv y)),by simp [binOp,Op.intDiv,hy],by simp [VR,wrapF_eq]⟩
  · split at h
    · cases h
    · rename_i hy;injection h with h;subst h
      exact ⟨.int k (x.tmod y),by simp [binOp,Op.intDiv,hy],by simp [VR]⟩
  · exact ⟨.int k (k.wrap (BitVec.ofInt k.bits x &&& BitVec.ofInt k.bits y).toNat),by simp [binOp,Op.intBits],by simp only [VR,wrapN];simp [ck_kc]⟩
  · exact ⟨.int k (k.wrap (BitVec.ofInt k.bits x ||| BitVec.ofInt k.bits y).toNat),by simp [binOp,Op.intBits],by simp only [VR,wrapN];simp [ck_kc]⟩
  · exact ⟨.int k (k.wrap (BitVec.ofInt k.bits x ^^^ BitVec.ofInt k.bits y).toNat),by simp [binOp,Op.intBits],by simp only [VR,wrapN];simp [ck_kc]⟩
  · exact ⟨.int k (k.wrap (BitVec.ofInt k.bits x &&& ~~~ BitVec.ofInt k.bits y).toNat),by simp [binOp,Op.intBits],by simp only [VR,wrapN];simp [ck_kc]⟩
  · exact ⟨.bool (x==y),by simp [binOp,Op.intCmp],by simp [VR,ieq_iff]⟩
  · exact ⟨.bool (x != y),by simp [binOp,Op.intCmp],by simp [VR,ieq_iff,bne]⟩
  · exact ⟨.bool (decide (x<y)),by simp [binOp,Op.intCmp],by simp [VR,ilt_iff]⟩
  · exact ⟨.bool (decide (x≤y)),by simp [binOp,Op.intCmp],by simp only [VR,ilt_iff];rw [Bool.eq_iff_iff];simp⟩
  · exact ⟨.bool (decide (y<x)),by simp [binOp,Op.intCmp],by simp [VR,ilt_iff]⟩
  · exact ⟨.bool (decide (y≤x)),by simp [binOp,Op.intCmp],by simp only [VR,ilt_iff];rw [Bool.eq_iff_iff];simp⟩
theorem eqGuard_int (op:BinOp) (t:TypeId) (x y:Operand) (k k':IntKind) (m n:Int) (w:World):(eqGuard op t x y (.int k m) (.int k' n)).run P w=.ok () w:=by
  unfold eqGuard;split<;>simp
theorem ok_arith (h:Ctx P Wr ρ H w nt env a) {op:BinOp} {t t':TypeId} {x y:Operand} {k:IntKind} (ho:o.op=.binOp op t x y t') (hu:P.underlying t=some (.int k)) (hsh:op≠.shl∧op≠.shr)
    (hc:cOp P nt o=some ao) (he:evalOp ao env H=some (v,H')):Opk P Wr ρ w (execOp a.eval o) v H':=by
  have hc':∃ ox oy,cOpd P nt x=some ox∧cOpd P nt y=some oy∧ao=.arith op (kc k) ox oy:=by
    simp only [cOp,ho,und,hu,Option.bind_eq_bind,Option.bind_some] at hc
    cases op<;>simp only [Option.bind_eq_some_iff,Option.pure_def,Option.some.injEq] at hc <;>
      first
        | (exact absurd rfl hsh.1)
        | (exact absurd rfl hsh.2)
        | (obtain ⟨ox,h1,oy,h2,h3⟩:=hc;exact ⟨ox,oy,h1,h2,h3.symm⟩)
  obtain ⟨ox,oy,h1,h2,rfl⟩:=hc'
  simp only [evalOp,Option.map_eq_some_iff,Prod.mk.injEq] at he
  obtain ⟨q,hq,rfl,rfl⟩:=he
  have g1:=h.gv h1
  have g2:=h.gv h2
  unfold arith2 at hq
  split at hq
  · rename_i i m j n e1 e2
    split at hq
    · rename_i hk
      simp only [Bool.and_eq_true] at hk
      have hk1:i=kc k:=Nat.eq_of_beq_eq_true hk.1
      have hk2:j=kc k:=Nat.eq_of_beq_eq_true hk.2
      rw [e1] at g1;rw [e2] at g2
      obtain ⟨k1,hk3,hx⟩:=g1.int_inv
      obtain ⟨k2,hk4,hy⟩:=g2.int_inv
      have:k1=k:=kc_inj (by omega)
      subst this
      have:k2=k1:=kc_inj (by omega)
      subst this
      obtain ⟨c,hr,hv⟩:=arithV_sound (P:=P) (ρ:=ρ) hq hsh t w
      exact Opk.val (c:=c) (w':=w) (by simp [execOp,ho,hx,hy,eqGuard_int,hr]) (Post.same h.I hv)
    · cases hq
  · cases hq
theorem ok_shift (h:Ctx P Wr ρ H w nt env a) {op:BinOp} {t t':TypeId} {x y:Operand} {k:IntKind} (ho:o.op=.binOp op t x y t') (hu:P.underlying t=some (.int k)) (hsh:op=.shl∨op=.shr)
    (hc:cOp P nt o=some ao) (he:evalOp ao env H=some (v,H')):Opk P Wr ρ w (execOp a.eval o) v H':=by
  have hc':∃ ox oy,cOpd P nt x=some ox∧cOpd P nt y=some oy∧ao=.shift op ox oy:=by
    rcases hsh with rfl | rfl<;>simp only [cOp,ho,und,hu,Option.bind_eq_bind,Option.bind_some,Option.bind_eq_some_iff,Option.pure_def,Option.some.injEq] at hc <;>
      (obtain ⟨ox,h1,oy,h2,h3⟩:=hc;exact ⟨ox,oy,h1,h2,h3.symm⟩)
  obtain ⟨ox,oy,h1,h2,rfl⟩:=hc'
  simp only [evalOp,Option.map_eq_some_iff,Prod.mk.injEq] at he
  obtain ⟨q,hq,rfl,rfl⟩:=he
  have g1:=h.gv h1
  have g2:=h.gv h2
  unfold shiftV at hq
  split at hq
  · rename_i i m j n e1 e2
    rw [e1] at g1;rw [e2] at g2
    obtain ⟨k1,hk3,hx⟩:=g1.int_inv
    obtain ⟨k2,hk4,hy⟩:=g2.int_inv
    subst hk3
    rcases hsh with rfl | rfl
    · simp only [Option.some.injEq] at hq;subst hq
      refine Opk.val (c:=.int k1 (k1.wrap (m*2 ^ (min n k1.bits)))) (w':=w) ?_ (Post.same h.I (by simp [VR,wrapF_eq,ck_kc]))
      simp [execOp,ho,hx,hy,eqGuard_int,binOp,Op.shift]
      omega
    · simp only [Option.some.injEq] at hq;subst hq
      refine Opk.val (c:=.int k1 (m.fdiv (2 ^ (min n k1.bits)))) (w':=w) ?_ (Post.same h.I (by simp [VR,ck_kc]))
      simp [execOp,ho,hx,hy,eqGuard_int,binOp,Op.shift]
      omega
  · cases hq
end Go.Abs
namespace Go.Abs
variable [Ov]
variable {P:Program} {Wr:Acc} {ρ:Names} {H H':Heap} {w:World} {nt:Nat} {env:Tree AV} {a:Act} {o:Oper} {ao:AOp} {v:AV}
theorem u8_inj {x y:UInt8} (h:x.toNat=y.toNat):x=y:=UInt8.toNat_inj.1 h
theorem map_toNat_inj:∀ {l m:List UInt8},l.map UInt8.toNat=m.map UInt8.toNat→l=m
  | [],[],_=>rfl
  | [],_::_,h=>by simp at h
  | _::_,[],h=>by simp at h
  | a::l,b::m,h=>by
    simp only [List.map_cons,List.cons.injEq] at h
    rw [u8_inj h.1,map_toNat_inj h.2]
theorem bytes_eq (s t:ByteArray):(s.toList==t.toList)=beqs (s.data.toList.map UInt8.toNat) (t.data.toList.map UInt8.toNat):=by
  rw [ByteArray.toList_eq,ByteArray.toList_eq,beqs_iff,Bool.eq_iff_iff]
  simp only [beq_iff_eq]
  exact ⟨fun h=>by rw [h],map_toNat_inj⟩
theorem bytes_lt:∀ (l m:List UInt8),Op.bytesLess l m=lts (l.map UInt8.toNat) (m.map UInt8.toNat)
  | [],[]=>rfl
  | _::_,[]=>rfl
  | [],_::_=>rfl
  | a::l,b::m=>by
    simp only [Op.bytesLess,List.map_cons,lts,bytes_lt l m]
    have e1:decide (a<b)=Nat.blt a.toNat b.toNat:=by
      rw [Bool.eq_iff_iff];simp [Nat.blt,UInt8.lt_iff_toNat_lt];omega
    have e2:(a==b)=Nat.beq a.toNat b.toNat:=by
      rw [Bool.eq_iff_iff];simp only [beq_iff_eq,Nat.beq_eq];exact ⟨fun h=>by rw [h],u8_inj⟩
    rw [e1,e2]
theorem lts_total:∀ (l m:List Nat),(lts l m||beqs l m)=!lts m l
  | [],[]=>rfl
  | _::_,[]=>rfl
  | [],_::_=>rfl
  | a::l,b::m=>by
    simp only [lts,beqs]
    have:=lts_total l m
    rcases Nat.lt_trichotomy a b with h | h | h
    · have e1:Nat.blt a b=true:=by simp [Nat.blt];omega
      have e2:Nat.blt b a=false:=by rw [Bool.eq_false_iff];simp [Nat.blt];omega
      have e3:Nat.beq b a=false:=by rw [Bool.eq_false_iff];simp;omega
      simp [e1,e2,e3]
    · subst h
      have e1:Nat.blt a a=false:=by rw [Bool.eq_false_iff];simp [Nat.blt]
      have e3:Nat.beq a a=true:=by simp
      simp [e1,e3,this]
    · have e1:Nat.blt a b=false:=by rw [Bool.eq_false_iff];simp [Nat.blt];omega
      have e2:Nat.blt b a=true:=by simp [Nat.blt];omega
      have e3:Nat.beq a b=false:=by rw [Bool.eq_false_iff];simp;omega
      simp [e1,e2,e3]
theorem append_bytes (s t:ByteArray):(s++t).data.toList=s.data.toList++t.data.toList:=by
  have:(s++t).data=s.data++t.data:=ByteArray.data_append
  rw [this];simp
theorem eqGuard_str (op:BinOp) (t:TypeId) (x y:Operand) (m n:ByteArray) (w:World):(eqGuard op t x y (.string m) (.string n)).run P w=.ok () w:=by
  unfold eqGuard;split<;>simp
theorem ok_strOp (h:Ctx P Wr ρ H w nt env a) {op:BinOp} {t t':TypeId} {x y:Operand} (ho:o.op=.binOp op t x y t') (hu:P.underlying t=some .string)
    (hc:cOp P nt o=some ao) (he:evalOp ao env H=some (v,H')):Opk P Wr ρ w (execOp a.eval o) v H':=by
  have hc':∃ ox oy,cOpd P nt x=some ox∧cOpd P nt y=some oy∧ao=.strOp op ox oy:=by
    cases op<;>simp only [cOp,ho,und,hu,Option.bind_eq_bind,Option.bind_some,Option.bind_eq_some_iff,Option.pure_def,Option.some.injEq] at hc <;>
      (obtain ⟨ox,h1,oy,h2,h3⟩:=hc;exact ⟨ox,oy,h1,h2,h3.symm⟩)
  obtain ⟨ox,oy,h1,h2,rfl⟩:=hc'
  simp only [evalOp,Option.map_eq_some_iff,Prod.mk.injEq] at he
  obtain ⟨q,hq,rfl,rfl⟩:=he
  have g1:=h.gv h1
  have g2:=h.gv h2
  unfold strV at hq
  split at hq
  · rename_i l m e1 e2
    rw [e1] at g1;rw [e2] at g2
    obtain ⟨s,hs,hx⟩:=g1.str_inv
    obtain ⟨t2,ht,hy⟩:=g2.str_inv
    have hlt:Op.bytesLess s.toList t2.toList=lts l m:=by rw [ByteArray.toList_eq,ByteArray.toList_eq,bytes_lt,hs,ht]
    have heq:(s.toList==t2.toList)=beqs l m:=by rw [bytes_eq,hs,ht]
    have key:∃ c,(Op.stringOp op s t2).run P w=.ok c w∧VR ρ q c:=by
      have hs1:s.size=l.length:=by rw [← hs,List.length_map,Array.length_toList];rfl
      have hs2:t2.size=m.length:=by rw [← ht,List.length_map,Array.length_toList];rfl
      cases op<;>simp only at hq<;>(try cases hq)
      · split at hq
        · rename_i hb
          injection hq with hq;subst hq
          refine ⟨.string (s++t2),?_,?_⟩
          · simp only [Op.stringOp]
            rw [if_neg]
            · rfl
            · have:IntKind.i64.max=9223372036854775807:=by decide
              rw [this];omega
          · simp only [VR];rw [append_bytes,List.map_append,hs,ht]
        · cases hq
      · exact ⟨_,rfl,by simp only [VR];exact heq.symm⟩
      · exact ⟨_,rfl,by simp only [VR];rw [heq]⟩
      · exact ⟨_,rfl,by simp only [VR];exact hlt.symm⟩
      · exact ⟨_,rfl,by simp only [VR];rw [hlt,heq,lts_total]⟩
      · exact ⟨_,rfl,by simp only [VR];rw [hlt,heq,lts_total];simp⟩
      · exact ⟨_,rfl,by simp only [VR];rw [hlt]⟩
    obtain ⟨c,hr,hv⟩:=key
    exact Opk.val (c:=c) (w':=w) (by simp [execOp,ho,hx,hy,eqGuard_str,binOp,hr]) (Post.same h.I hv)
  · cases hq
theorem ok_unary (h:Ctx P Wr ρ H w nt env a) {op:UnOp} {t:TypeId} {x:Operand} (ho:o.op=.unOp op t x) (hc:cOp P nt o=some ao) (he:evalOp ao env H=some (v,H')):Opk P Wr ρ w (execOp a.eval o) v H':=by
  simp only [cOp,ho,Option.bind_eq_bind,Option.bind_eq_some_iff,Option.pure_def,Option.some.injEq] at hc
  obtain ⟨ox,h1,rfl⟩:=hc
  simp only [evalOp,Option.map_eq_some_iff,Prod.mk.injEq] at he
  obtain ⟨q,hq,rfl,rfl⟩:=he
  have g1:=h.gv h1
  unfold unV at hq
  split at hq
  · rename_i k n e1
    rw [e1] at g1
    obtain ⟨k1,hk,hx⟩:=g1.int_inv
    subst hk
    injection hq with hq;subst hq
    exact Opk.val (c:=.int k1 (k1.wrap (0-n))) (w':=w) (by simp [execOp,ho,hx,Op.unary,Op.intArith]) (Post.same h.I (by simp [VR,wrapF_eq]))
  · rename_i k n e1
    rw [e1] at g1
    obtain ⟨k1,hk,hx⟩:=g1.int_inv
    subst hk
    simp only [arithV,ck_kc,Option.some.injEq] at hq;subst hq
    refine Opk.val (c:=.int k1 (k1.wrap (BitVec.ofInt k1.bits (if k1.signed then -1 else k1.max) ^^^ BitVec.ofInt k1.bits n).toNat)) (w':=w) (by simp [execOp,ho,hx,Op.unary,Op.intBits]) (Post.same h.I ?_)
    simp only [VR,wrapN];simp [ck_kc]
  · rename_i b e1
    rw [e1] at g1
    have hx:=g1.bool_inv
    injection hq with hq;subst hq
    exact Opk.val (c:=.bool (!b)) (w':=w) (by simp [execOp,ho,hx,Op.unary]) (Post.same h.I (by simp [VR]))
  · cases hq
theorem ok_makeInterface (h:Ctx P Wr ρ H w nt env a) {t:TypeId} {x:Operand} (ho:o.op=.makeInterface t x) (hc:cOp P nt o=some ao) (he:evalOp ao env H=some (v,H')):Opk P Wr ρ w (execOp a.eval o) v H':=by
  simp only [cOp,ho,Option.bind_eq_bind,Option.bind_eq_some_iff] at hc
  obtain ⟨d,hd,hc⟩:=hc
  have key:(∀ m,d≠.interface m)∧∃ ox,cOpd P nt x=some ox∧ao=.mkIface t ox:=by
    cases d<;>simp only [if_true,Bool.false_eq_true,if_false,Option.bind_eq_some_iff,Option.pure_def,Option.some.injEq] at hc <;>
      first
        | (cases hc;done)
        | (obtain ⟨ox,h1,h2⟩:=hc;exact ⟨(fun m e=>by cases e),ox,h1,h2.symm⟩)
  obtain ⟨hni,ox,h1,rfl⟩:=key
  simp only [evalOp,Option.some.injEq,Prod.mk.injEq] at he
  obtain ⟨rfl,rfl⟩:=he
  refine Opk.val (c:=.iface t (a.eval x)) (w':=w) ?_ (Post.same h.I (by simp only [VR];exact ⟨trivial,h.gv h1⟩))
  simp only [execOp,ho,Instr.makeInterface,Sem.run_bind,run_und hd,Result.andThen_ok]
  cases d<;>first | (exact absurd rfl (hni _)) | rfl
theorem ok_makeFunc (h:Ctx P Wr ρ H w nt env a) {f:FuncId} {x y:Array Operand} (ho:o.op=.makeFunc (.func f) x y) (hc:cOp P nt o=some ao) (he:evalOp ao env H=some (v,H')):Opk P Wr ρ w (execOp a.eval o) v H':=by
  simp only [cOp,ho,cOpds,Option.bind_eq_bind,Option.bind_eq_some_iff,Option.pure_def,Option.some.injEq] at hc
  obtain ⟨l,h1,m,h2,rfl⟩:=hc
  simp only [evalOp,Option.some.injEq,Prod.mk.injEq] at he
  obtain ⟨rfl,rfl⟩:=he
  refine Opk.val (c:=.func (.func f) (x.map a.eval) (y.map a.eval)) (w':=w) (by simp [execOp,ho,Instr.makeFunc]) (Post.same h.I ?_)
  simp only [VR,Array.toList_map]
  exact ⟨trivial,gvs_sound h.E h.I h1,gvs_sound h.E h.I h2⟩
theorem ok_makeMap (h:Ctx P Wr ρ H w nt env a) {t:TypeId} (ho:o.op=.makeMap t none) (hc:cOp P nt o=some ao) (he:evalOp ao env H=some (v,H')):Opk P Wr ρ w (execOp a.eval o) v H':=by
  simp only [cOp,ho,Option.pure_def,Option.some.injEq] at hc
  subst hc
  simp only [evalOp,Option.some.injEq,Prod.mk.injEq] at he
  obtain ⟨rfl,rfl⟩:=he
  obtain ⟨g1,g2,g3⟩:=h.I.alloc (o:=.map [] 0) (ob:=.map #[] 0) (0,0) (by simp [InfoR]) (by simp) rfl (by simp [OR,EntsR,MapOk.empty])
  exact Opk.val (c:=.map (some w.heap.size)) (w':={ w with heap:=w.heap.push (.map #[] 0) }) (by simp [execOp,ho,Instr.makeMap]) ⟨_,g1,by simp only [VR];exact Names.add_same ..,g2,g3⟩
theorem partOf_sound {l:List AV} {cs:Array Value} (hl:VRs ρ l cs.toList) {t:TypeId} {g:Bool} {off s:Nat} (hg:aggOf P t=some g) (hs:szOf P t=some s) {q:AV} (hq:partOf g l off s=some q) :
    ∃ c,(part t cs off).run P w=.ok c w∧VR ρ q c:=by
  unfold partOf at hq
  cases g with
  | true =>
    simp only [if_true,Option.some.injEq] at hq;subst hq
    refine ⟨.agg (cs.extract off (off+s)),by simp [part,run_isAgg hg,run_sizeOf hs],?_⟩
    simp only [VR]
    have:(cs.extract off (off+s)).toList=(cs.toList.drop off).take s:=by
      rw [Array.toList_extract,List.extract_eq_drop_take];simp
    rw [this]
    exact VRs.take s (VRs.drop off hl)
  | false =>
    simp only [Bool.false_eq_true,if_false,List.head?_drop] at hq
    obtain ⟨c,h1,h2⟩:=VRs.get hl off q hq
    exact ⟨c,by simp at h1;simp [part,run_isAgg hg,h1],h2⟩
theorem ok_field (h:Ctx P Wr ρ H w nt env a) {t:TypeId} {x:Operand} {i:Nat} (ho:o.op=.field t x i) (hc:cOp P nt o=some ao) (he:evalOp ao env H=some (v,H')):Opk P Wr ρ w (execOp a.eval o) v H':=by
  simp only [cOp,ho,Option.bind_eq_bind,Option.bind_eq_some_iff] at hc
  obtain ⟨d,hd,hc⟩:=hc
  split at hc
  · rename_i fs
    simp only [Option.bind_eq_some_iff,Option.pure_def,Option.some.injEq] at hc
    obtain ⟨f,hf,g,hg,s,hs,ox,h1,rfl⟩:=hc
    simp only [evalOp] at he
    have g1:=h.gv h1
    split at he
    · rename_i l hv
      simp only [Option.map_eq_some_iff,Prod.mk.injEq] at he
      obtain ⟨q,hq,rfl,rfl⟩:=he
      rw [hv] at g1
      obtain ⟨cs,hcs,hx⟩:=g1.agg_inv
      obtain ⟨c,hr,hvr⟩:=partOf_sound (P:=P) (w:=w) hcs hg hs hq
      exact Opk.val (c:=c) (w':=w) (by simp [execOp,ho,Instr.field,run_und hd,hf,hx,asAgg,hr]) (Post.same h.I hvr)
    · cases he
  · cases hc
theorem ok_fieldAddr (h:Ctx P Wr ρ H w nt env a) {t:TypeId} {x:Operand} {i:Nat} (ho:o.op=.fieldAddr t x i) (hc:cOp P nt o=some ao) (he:evalOp ao env H=some (v,H')):Opk P Wr ρ w (execOp a.eval o) v H':=by
  simp only [cOp,ho,Option.bind_eq_bind,Option.bind_eq_some_iff] at hc
  obtain ⟨d,hd,hc⟩:=hc
  split at hc
  · rename_i fs
    simp only [Option.bind_eq_some_iff] at hc
    obtain ⟨f,hf,s,hs,hc⟩:=hc
    split at hc
    · cases hc
    · rename_i hs0
      simp only [Option.bind_eq_some_iff,Option.pure_def,Option.some.injEq] at hc
      obtain ⟨ox,h1,rfl⟩:=hc
      simp only [evalOp] at he
      have g1:=h.gv h1
      split at he
      · rename_i id off hv
        simp only [Option.some.injEq,Prod.mk.injEq] at he
        obtain ⟨rfl,rfl⟩:=he
        rw [hv] at g1
        obtain ⟨b,z,hb,hx⟩:=g1.ptr_inv
        refine Opk.val (c:=.pointer (some ⟨b,z+off+f.offset,none⟩)) (w':=w) ?_ (Post.same h.I (by simp only [VR];exact ⟨b,z,hb,by simp [Nat.add_assoc]⟩))
        simp [execOp,ho,Instr.fieldAt,run_und hd,hf,hx,Instr.sureAddr,fieldPlace,run_sizeOf hs,hs0,addr_add]
      · cases he
  · cases hc
theorem ok_extract (h:Ctx P Wr ρ H w nt env a) {x:Operand} {i:Nat} (ho:o.op=.extract x i) (hc:cOp P nt o=some ao) (he:evalOp ao env H=some (v,H')):Opk P Wr ρ w (execOp a.eval o) v H':=by
  simp only [cOp,ho,Option.bind_eq_bind,Option.bind_eq_some_iff,Option.pure_def,Option.some.injEq] at hc
  obtain ⟨ox,h1,rfl⟩:=hc
  simp only [evalOp] at he
  have g1:=h.gv h1
  split at he
  · rename_i l hv
    simp only [Option.map_eq_some_iff,Prod.mk.injEq] at he
    obtain ⟨q,hq,rfl,rfl⟩:=he
    rw [hv] at g1
    obtain ⟨cs,hcs,hx⟩:=g1.tuple_inv
    have hq':∀ (l:List AV) (i:Nat),nthV l i=l[i]?:=by
      intro l;induction l with
      | nil=>intro i;simp [nthV]
      | cons y l ih=>intro i;cases i with
        | zero=>simp [nthV]
        | succ i=>simp [nthV,ih]
    rw [hq'] at hq
    obtain ⟨c,e1,e2⟩:=VRs.get hcs i q hq
    exact Opk.val (c:=c) (w':=w) (by simp at e1;simp [execOp,ho,hx,Instr.extract,e1]) (Post.same h.I e2)
  · cases he
end Go.Abs
namespace Go.Abs
variable [Ov]
variable {P:Program} {Wr:Acc} {ρ:Names} {H H':Heap} {w:World} {nt:Nat} {env:Tree AV} {a:Act} {o:Oper} {ao:AOp} {v:AV}
theorem ok_indexAddr (h:Ctx P Wr ρ H w nt env a) {t:TypeId} {x i:Operand} (ho:o.op=.indexAddr t x i) (hc:cOp P nt o=some ao) (he:evalOp ao env H=some (v,H')):Opk P Wr ρ w (execOp a.eval o) v H':=by
  simp only [cOp,ho,Option.bind_eq_bind,Option.bind_eq_some_iff] at hc
  obtain ⟨d,hd,hc⟩:=hc
  split at hc
  · rename_i n e
    simp only [Option.bind_eq_some_iff,Option.pure_def,Option.some.injEq] at hc
    obtain ⟨s,hs,ox,h1,oi,h2,rfl⟩:=hc
    simp only [evalOp] at he
    have g1:=h.gv h1
    have g2:=h.gv h2
    split at he
    · rename_i id off k j hv hj
      split at he
      · rename_i hlt
        simp only [Option.some.injEq,Prod.mk.injEq] at he
        obtain ⟨rfl,rfl⟩:=he
        rw [hv] at g1;rw [hj] at g2
        obtain ⟨b,z,hb,hx⟩:=g1.ptr_inv
        obtain ⟨k',_,hi⟩:=g2.int_inv
        have hlt':j<n:=by simpa [Nat.blt,Nat.succ_le_iff] using hlt
        refine Opk.val (c:=.pointer (some ⟨b,z+off+j*s,none⟩)) (w':=w) ?_ (Post.same h.I (by simp only [VR];exact ⟨b,z,hb,by simp [Nat.add_assoc]⟩))
        simp [execOp,ho,Instr.indexAt,hi,asIntOf,run_und hd,hx,Instr.sureAddr,run_sizeOf hs,addr_add]
        omega
      · cases he
    · cases he
  · rename_i e
    simp only [Option.bind_eq_some_iff,Option.pure_def,Option.some.injEq] at hc
    obtain ⟨s,hs,ox,h1,oi,h2,rfl⟩:=hc
    simp only [evalOp] at he
    have g1:=h.gv h1
    have g2:=h.gv h2
    split at he
    · rename_i id off len cap ex k j hv hj
      split at he
      · rename_i hlt
        simp only [Option.some.injEq,Prod.mk.injEq] at he
        obtain ⟨rfl,rfl⟩:=he
        rw [hv] at g1;rw [hj] at g2
        obtain ⟨ad,cp,hx,q1,q2,q3,b,z,hb,q4,q5⟩:=g1.slice_inv
        obtain ⟨k',_,hi⟩:=g2.int_inv
        have hlt':j<len:=by simpa [Nat.blt,Nat.succ_le_iff] using hlt
        have:=q4 (by omega)
        subst this
        refine Opk.val (c:=.pointer (some ⟨b,z+off+j*s,none⟩)) (w':=w) ?_ (Post.same h.I (by simp only [VR];exact ⟨b,z,hb,by simp [Nat.add_assoc]⟩))
        simp [execOp,ho,Instr.indexAt,hi,asIntOf,run_und hd,hx,run_sizeOf hs,addr_add]
        omega
      · cases he
    · cases he
  · cases hc
theorem nthN_eq:∀ (l:List Nat) (i:Nat),nthN l i=l[i]?
  | [],i=>by simp [nthN]
  | a::l,0=>by simp [nthN]
  | a::l,i+1=>by simp [nthN,nthN_eq l i]
theorem ok_index (h:Ctx P Wr ρ H w nt env a) {t:TypeId} {x i:Operand} (ho:o.op=.index t x i) (hc:cOp P nt o=some ao) (he:evalOp ao env H=some (v,H')):Opk P Wr ρ w (execOp a.eval o) v H':=by
  simp only [cOp,ho,Option.bind_eq_bind,Option.bind_eq_some_iff] at hc
  obtain ⟨d,hd,hc⟩:=hc
  split at hc
  · rename_i n e
    simp only [Option.bind_eq_some_iff,Option.pure_def,Option.some.injEq] at hc
    obtain ⟨g,hg,s,hs,ox,h1,oi,h2,rfl⟩:=hc
    simp only [evalOp] at he
    have g1:=h.gv h1
    have g2:=h.gv h2
    split at he
    · rename_i l k j hv hj
      split at he
      · rename_i hlt
        simp only [Option.map_eq_some_iff,Prod.mk.injEq] at he
        obtain ⟨q,hq,rfl,rfl⟩:=he
        rw [hv] at g1;rw [hj] at g2
        obtain ⟨cs,hcs,hx⟩:=g1.agg_inv
        obtain ⟨k',_,hi⟩:=g2.int_inv
        have hlt':j<n:=by simpa [Nat.blt,Nat.succ_le_iff] using hlt
        obtain ⟨c,hr,hvr⟩:=partOf_sound (P:=P) (w:=w) hcs hg hs hq
        refine Opk.val (c:=c) (w':=w) ?_ (Post.same h.I hvr)
        simp [execOp,ho,Instr.index,hi,asIntOf,run_und hd,hx,run_sizeOf hs,hlt',hr]
      · cases he
    · cases he
  · simp only [Option.bind_eq_some_iff,Option.pure_def,Option.some.injEq] at hc
    obtain ⟨ox,h1,oi,h2,rfl⟩:=hc
    simp only [evalOp] at he
    have g1:=h.gv h1
    have g2:=h.gv h2
    split at he
    · rename_i s k j hv hj
      simp only [Option.map_eq_some_iff,Prod.mk.injEq] at he
      obtain ⟨q,⟨n,hn,rfl⟩,rfl,rfl⟩:=he
      rw [hv] at g1;rw [hj] at g2
      obtain ⟨t',ht,hx⟩:=g1.str_inv
      obtain ⟨k',_,hi⟩:=g2.int_inv
      rw [nthN_eq,← ht,List.getElem?_map,Option.map_eq_some_iff] at hn
      obtain ⟨u,hu,hn⟩:=hn
      have hu':t'[j]?=some u:=by
        have:j<t'.size:=by
          have:=List.getElem?_eq_some_iff.1 hu
          obtain ⟨q1,_⟩:=this
          simpa using q1
        rw [getElem?_pos t' j this]
        have e:=List.getElem?_eq_some_iff.1 hu
        obtain ⟨q1,q2⟩:=e
        rw [← q2];rfl
      refine Opk.val (c:=.int .u8 u.toNat) (w':=w) ?_ (Post.same h.I (by simp [VR,kc,← hn]))
      simp [execOp,ho,Instr.index,hi,asIntOf,run_und hd,hx,hu']
    · cases he
  · cases hc
theorem bound_sound {x:AV} {c:Value} (hx:VR ρ x c) {y y' n:Nat} (h:bound x y=some n) (hy:y≤y') (code:Go.BoundsCode) (w:World):(Instr.sliceBound c y' code).run P w=.ok n w∧n≤y:=by
  unfold bound at h
  split at h
  · rename_i k i
    split at h
    · rename_i hle
      injection h with h;subst h
      obtain ⟨k',_,rfl⟩:=hx.int_inv
      have hle':i≤y:=Nat.le_of_ble_eq_true hle
      refine ⟨?_,hle'⟩
      simp [Instr.sliceBound,asIntOf]
      omega
    · cases h
  · cases h
theorem some_ite {α:Type} (c:Prop) [Decidable c] (x y:α):(if c then some x else some y)=some (if c then x else y):=by split<;>rfl
theorem bounds_sound (h:Ctx P Wr ρ H w nt env a) {lo hi mx:Option Operand} {olo ohi omx:Option Opd} (h1:cOpdO P nt lo=some olo) (h2:cOpdO P nt hi=some ohi) (h3:cOpdO P nt mx=some omx)
    {len cap cap' m hh l:Nat} (e1:boundO env omx cap cap=some m) (e2:boundO env ohi len m=some hh) (e3:boundO env olo 0 hh=some l) (hcc:cap≤cap') (hlen:mx.isSome=true→hi.isSome=true) (hle:mx=none→hi=none→len≤cap) (isSlice:Bool) :
    (Instr.sliceBounds isSlice len cap' (lo.map a.eval) (hi.map a.eval) (mx.map a.eval)).run P w=.ok (l,hh,if mx.isSome then m else cap') w∧l≤hh∧(hh≤m)∧m≤cap∧(mx=none→m=cap):=by
  have hO:∀ {x:Option Operand} {ox:Option Opd},cOpdO P nt x=some ox→(x=none∧ox=none)∨∃ y oy,x=some y∧ox=some oy∧VR ρ (gv env oy) (a.eval y):=by
    intro x ox hx
    cases x with
    | none=>simp only [cOpdO,Option.some.injEq] at hx;exact .inl ⟨rfl,hx.symm⟩
    | some y =>
      simp only [cOpdO,Option.map_eq_some_iff] at hx
      obtain ⟨oy,hy,rfl⟩:=hx
      exact .inr ⟨y,oy,rfl,rfl,h.gv hy⟩
  have hm:∃ m',(match mx.map a.eval with
      | some v=>Instr.sliceBound v cap' (if isSlice then .slice3Acap else .slice3Alen)
      | none=>pure cap':Sem Nat).run P w=.ok m' w∧(m'=if mx.isSome then m else cap')∧m≤cap∧m≤m'∧(mx=none→m=cap):=by
    rcases hO h3 with ⟨rfl,rfl⟩ | ⟨y,oy,rfl,rfl,hv⟩
    · simp only [boundO,Option.some.injEq] at e1;subst e1
      exact ⟨cap',by simp,by simp,Nat.le_refl _,hcc,fun _=>rfl⟩
    · simp only [boundO] at e1
      obtain ⟨g1,g2⟩:=bound_sound (P:=P) hv e1 hcc (if isSlice then .slice3Acap else .slice3Alen) w
      exact ⟨m,by simpa using g1,by simp,g2,Nat.le_refl _,by simp⟩
  obtain ⟨m',hm1,hm2,hm3,hm4,hm5⟩:=hm
  have hh':∃ code,hh≤m∧((match hi.map a.eval,mx.map a.eval with
      | some v,some _=>Instr.sliceBound v m' .slice3B
      | some v,none=>Instr.sliceBound v m' code
      | none,none=>pure len
      | none,some _=>stuck "Slice: max without high":Sem Nat).run P w=.ok hh w)∧code=(if isSlice then .sliceAcap else .sliceAlen):=by
    refine ⟨if isSlice then .sliceAcap else .sliceAlen,?_⟩
    rcases hO h2 with ⟨rfl,rfl⟩ | ⟨y,oy,rfl,rfl,hv⟩
    · simp only [boundO,Option.some.injEq] at e2;subst e2
      cases mx with
      | none=>refine ⟨?_,by simp,rfl⟩;rw [hm5 rfl];exact hle rfl rfl
      | some y=>simp at hlen
    · simp only [boundO] at e2
      cases mx with
      | none =>
        obtain ⟨g1,g2⟩:=bound_sound (P:=P) hv e2 hm4 (if isSlice then .sliceAcap else .sliceAlen) w
        exact ⟨g2,by simpa using g1,rfl⟩
      | some z =>
        obtain ⟨g1,g2⟩:=bound_sound (P:=P) hv e2 hm4 .slice3B w
        exact ⟨g2,by simpa using g1,rfl⟩
  obtain ⟨code,q1,q2,rfl⟩:=hh'
  have hl':l≤hh∧(match lo.map a.eval with
      | some v=>Instr.sliceBound v hh (if mx.isSome then .slice3C else .sliceB)
      | none=>pure 0:Sem Nat).run P w=.ok l w:=by
    rcases hO h1 with ⟨rfl,rfl⟩ | ⟨y,oy,rfl,rfl,hv⟩
    · simp only [boundO,Option.some.injEq] at e3;subst e3
      exact ⟨by omega,by simp⟩
    · simp only [boundO] at e3
      obtain ⟨g1,g2⟩:=bound_sound (P:=P) hv e3 (Nat.le_refl _) (if mx.isSome then .slice3C else .sliceB) w
      exact ⟨g2,by simpa using g1⟩
  refine ⟨?_,hl'.1,q1,hm3,hm5⟩
  rw [← hm2]
  obtain ⟨_,q3⟩:=hl'
  clear h h1 h2 h3 e1 e2 e3 hO hm3 hm4 hm5 hle hcc
  cases mx<;>cases hi<;>cases lo<;>simp_all [Instr.sliceBounds]
theorem elemIs_sound (hI:Inv P Wr ρ H w) {id:Pos} {b z e s:Nat} (hb:ρ id=some (b,z)) (h:elemIs H id e=true) (hs:szOf P e=some s):(ρ.k b).2=s:=by
  unfold elemIs at h
  split at h
  · rename_i c n e' rw' par fz hi
    have he:=Nat.eq_of_beq_eq_true h
    subst he
    have hne:H.get id≠.none:=by rw [hi];simp
    obtain ⟨b',z',ob,e1,_,hob,hor⟩:=hI.blk hne
    rw [hb] at e1;injection e1 with e1;injection e1 with e1 e2;subst e1;subst e2
    have:=hI.info id b z ob hne hb hob
    rw [hi] at this hor
    cases ob<;>simp only [OR] at hor
    simp only [InfoR] at this
    rw [this];simp [hs]
  · cases h
theorem ok_slice (h:Ctx P Wr ρ H w nt env a) {t:TypeId} {x:Operand} {lo hi mx:Option Operand} (ho:o.op=.slice t x lo hi mx) (hc:cOp P nt o=some ao) (he:evalOp ao env H=some (v,H')):Opk P Wr ρ w (execOp a.eval o) v H':=by
  simp only [cOp,ho,Option.bind_eq_bind,Option.bind_eq_some_iff] at hc
  obtain ⟨d,hd,hc⟩:=hc
  split at hc
  · rename_i n e
    split at hc
    · cases hc
    rename_i hmh
    simp only [Option.bind_eq_some_iff,Option.pure_def,Option.some.injEq] at hc
    obtain ⟨s,hs,ox,h1,olo,h2,ohi,h3,omx,h4,rfl⟩:=hc
    simp only [evalOp] at he
    have g1:=h.gv h1
    split at he
    · rename_i id off hv
      simp only [Option.bind_eq_bind,Option.bind_eq_some_iff,Option.some.injEq,Prod.mk.injEq] at he
      obtain ⟨m,e1,hh,e2,l,e3,rfl,rfl⟩:=he
      rw [hv] at g1
      obtain ⟨b,z,hb,hx⟩:=g1.ptr_inv
      obtain ⟨k1,k2,k3,k4,k5⟩:=bounds_sound h h2 h3 h4 e1 e2 e3 (Nat.le_refl n) (fun h=>by cases hi<;>simp_all) (fun _ _=>Nat.le_refl _) false
      have hmm:(if mx.isSome then m else n)=m:=by cases mx with
        | none=>simp [k5 rfl]
        | some y=>simp
      rw [hmm] at k1
      refine Opk.val (c:=.slice (some (if m=l then ⟨b,z+off,none⟩ else (⟨b,z+off,none⟩:Addr).add (l*s))) (hh-l) (m-l)) (w':=w) ?_ (Post.same h.I ?_)
      · simp only [execOp,ho,Instr.sliceAt,Sem.run_bind,run_und hd,Result.andThen_ok,hx,Instr.sureAddr,Sem.run_pure,k1,run_sizeOf hs]
      · simp only [VR]
        refine ⟨trivial,by omega,Nat.le_refl _,fun _=>trivial,b,z,hb,fun hne=>?_,fun h=>by cases h⟩
        rw [if_neg (by omega),if_neg (by omega),addr_add,Nat.add_assoc]
    · cases he
  · rename_i e
    split at hc
    · cases hc
    rename_i hmh
    simp only [Option.bind_eq_some_iff] at hc
    obtain ⟨s,hs,hc⟩:=hc
    split at hc
    · cases hc
    simp only [Option.bind_eq_some_iff,Option.pure_def,Option.some.injEq] at hc
    obtain ⟨ox,h1,olo,h2,ohi,h3,omx,h4,rfl⟩:=hc
    simp only [evalOp] at he
    have g1:=h.gv h1
    have hmx:mx.isSome=true→hi.isSome=true:=fun h=>by cases hi<;>simp_all
    split at he
    · rename_i hv
      simp only [Option.bind_eq_bind,Option.bind_eq_some_iff,Option.some.injEq,Prod.mk.injEq] at he
      obtain ⟨m,e1,hh,e2,l,e3,rfl,rfl⟩:=he
      rw [hv] at g1
      have hx:=g1.nilslice_inv
      obtain ⟨k1,k2,k3,k4,k5⟩:=bounds_sound h h2 h3 h4 e1 e2 e3 (Nat.le_refl 0) hmx (fun _ _=>Nat.le_refl _) true
      have hm0:m=0:=by omega
      have hh0:hh=0:=by omega
      have hl0:l=0:=by omega
      subst hm0;subst hh0;subst hl0
      refine Opk.val (c:=.slice none 0 0) (w':=w) ?_ (Post.same h.I (by simp [VR]))
      simp only [execOp,ho,Instr.sliceAt,Sem.run_bind,run_und hd,Result.andThen_ok,hx,Instr.slice,k1,run_sizeOf hs]
      cases mx<;>simp
    · rename_i id off len cap ex hv
      simp only [Option.bind_eq_bind,Option.bind_eq_some_iff,Option.some.injEq,Prod.mk.injEq] at he
      obtain ⟨m,e1,hh,e2,l,e3,he⟩:=he
      split at he
      case isFalse=>cases he
      rename_i hel
      simp only [Option.some.injEq,Prod.mk.injEq] at he
      obtain ⟨rfl,rfl⟩:=he
      rw [hv] at g1
      obtain ⟨ad,cp,hx,q1,q2,q3,b,z,hb,q4,q5⟩:=g1.slice_inv
      obtain ⟨k1,k2,k3,k4,k5⟩:=bounds_sound h h2 h3 h4 e1 e2 e3 q2 hmx (fun _ _=>q1) true
      refine Opk.val (c:=.slice (some (if (if mx.isSome then m else cp)=l then ad else ad.add (l*s))) (hh-l) ((if mx.isSome then m else cp)-l)) (w':=w) ?_ (Post.same h.I ?_)
      · simp only [execOp,ho,Instr.sliceAt,Sem.run_bind,run_und hd,Result.andThen_ok,hx,Instr.slice,k1,run_sizeOf hs]
        simp only [Option.map_some]
        rw [some_ite]
        simp
      · simp only [VR]
        cases mx with
        | none =>
          have:=k5 rfl
          subst this
          simp only [cOpdO,Option.some.injEq] at h4;subst h4
          refine ⟨trivial,by omega,by simp;omega,fun hex=>?_,b,z,hb,fun hne=>?_,fun hex=>?_⟩
          rotate_left 2
          · simp only [Option.isSome_none,Bool.or_false,Bool.false_eq_true,if_false] at hex hel ⊢
            subst hex
            have h6:=q5 rfl
            simp only [Bool.false_or,Bool.or_eq_true,Nat.beq_eq_true_eq,Bool.false_and,Bool.false_eq_true,if_false] at hel ⊢
            rcases hel with h0 | h0
            · have h0:l=0:=by cases hol:olo with | none=>rw [hol] at e3;simpa [boundO] using e3.symm | some q=>rw [hol] at h0;simp at h0
              subst h0;simpa using h6
            · have hs2:=elemIs_sound h.I hb h0 hs
              rw [hs2] at h6 ⊢
              have:l*s+(cp-l)*s=cp*s:=by rw [← Nat.add_mul];congr 1;omega
              omega
          · simp at hex ⊢;rw [q3 hex]
          · simp only [Option.isSome_none,Bool.false_eq_true,if_false] at hne ⊢
            have hc1:=q4 (by omega)
            subst hc1
            rw [if_neg (by omega),if_neg (by
              intro hcc
              simp only [Bool.and_eq_true,decide_eq_true_eq] at hcc
              have:=q3 hcc.1
              omega),addr_add,Nat.add_assoc]
        | some y =>
          simp only [cOpdO,Option.map_eq_some_iff] at h4
          obtain ⟨oy,_,rfl⟩:=h4
          refine ⟨trivial,by omega,by simp,fun _=>by simp,b,z,hb,fun hne=>?_,fun h=>by simp at h⟩
          simp only [Option.isSome_some,if_true] at hne ⊢
          have hc1:=q4 (by omega)
          subst hc1
          rw [if_neg (by omega),if_neg (by
              intro hcc
              simp only [Bool.and_eq_true,decide_eq_true_eq] at hcc
              omega),addr_add,Nat.add_assoc]
    · cases he
  · split at hc
    · cases hc
    rename_i hmx
    simp only [Option.bind_eq_some_iff,Option.pure_def,Option.some.injEq] at hc
    obtain ⟨ox,h1,olo,h2,ohi,h3,rfl⟩:=hc
    have hmx0:mx=none:=by cases mx<;>simp_all
    subst hmx0
    simp only [evalOp] at he
    have g1:=h.gv h1
    split at he
    · rename_i s hv
      simp only [Option.bind_eq_bind,Option.bind_eq_some_iff,Option.some.injEq,Prod.mk.injEq] at he
      obtain ⟨hh,e2,l,e3,rfl,rfl⟩:=he
      rw [hv] at g1
      obtain ⟨t',ht,hx⟩:=g1.str_inv
      have hsz:t'.size=s.length:=by rw [← ht,List.length_map,Array.length_toList];rfl
      obtain ⟨k1,k2,k3,k4,k5⟩:=bounds_sound (mx:=none) (omx:=none) h h2 h3 rfl (m:=s.length) (cap:=s.length) (cap':=s.length) rfl e2 e3 (Nat.le_refl _) (by simp) (fun _ _=>Nat.le_refl _) false
      refine Opk.val (c:=.string (t'.extract l hh)) (w':=w) ?_ (Post.same h.I ?_)
      · simp only [execOp,ho,Instr.sliceAt,Sem.run_bind,run_und hd,Result.andThen_ok,hx,Instr.slice,Option.map_none,Option.isSome_none,Bool.false_eq_true,if_false]
        simp only [Option.map_none] at k1
        rw [hsz]
        simp [k1]
      · simp only [VR]
        rw [show (t'.extract l hh).data.toList=(t'.data.toList.drop l).take (hh-l) by
          rw [ByteArray.data_extract,Array.toList_extract,List.extract_eq_drop_take]]
        rw [List.map_take,List.map_drop,ht]
    · cases he
  · cases hc
end Go.Abs
