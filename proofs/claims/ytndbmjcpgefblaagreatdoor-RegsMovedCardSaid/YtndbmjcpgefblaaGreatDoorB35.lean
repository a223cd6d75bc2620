/- A part of the proof (an abstract machine, walks): no statement of its own, no conditions. -/
import Derived.Test.YtndbmjcpgefblaaGreatDoorB33
import Derived.Test.YtndbmjcpgefblaaGreatDoorB34
set_option linter.all false
namespace Go.Abs.R
open Go.Abs Go.Abs.R1
variable {tbl:Nat→AFunc}
theorem sub_one {k:Nat} (h:1≤k) (hk:k<1000000):arithV .sub 3 (.ofNat k) (.ofNat 1)=some (aN (k-1)):=by
  simp only [arithV]
  rw [show (Int.ofNat k-Int.ofNat 1:Int)=Int.ofNat (k-1) from by first | omega | (simp;omega) | (simp;done),wrapF_int (by first | omega | (simp;done) | (simp;omega)) (by first | omega | (simp;done) | (simp;omega))]
theorem int_at {H:Heap} {us:List Int} {b:Pos} {n cap:Nat} {ex:Bool} (h:SlI H us (.slice b 0 n cap ex)) (hn:us.length=n) {j:Nat} (hj:j<us.length):cellAt H b j=some (aI us[j]):=by
  obtain ⟨i,o,cp,e,e1,_,_,hat,_⟩:=h.at (by omega)
  injection e1 with e1 e2
  subst e1;subst e2
  have:=hat j (by simpa using hj)
  rw [Nat.zero_add] at this
  rw [this];simp
theorem compact_ok (c23:tbl 23=f23) {H:Heap} {fp:List Pos} {s:List Int} {sv:AV} {K:AV→Heap→Prop} (ho:OwnI H fp 3 s true sv) (hl:s.length≤1000)
    (hK:∀ v' H' fp' m,lenOf v'=some m→v'.defd=true→(m<s.length↔∃ j,j+1<s.length∧s[j]?=s[j+1]?)→Upd fp fp' H H'→K v' H'):YF tbl (.func 23 [] []) [sv] H K:=by
  have hd:=ho.sl.defd;have hlen:=ho.sl.len
  refine YF.code c23 (by simp) ?_
  repeat first|refine RO.mov ?_|refine RO.lenSl ?_|refine RO.lssN ?_|refine RO.nil ?_|refine Ru.region ?_|refine Ru.seq ?_
  refine Ru.cond (fun h=>?_) (fun h=>?_)
  · repeat first|refine RO.mov ?_|refine RO.nil ?_|refine Ru.region ?_|refine Ru.seq ?_
    refine Ru.ret1 (hK sv H fp _ hlen hd ⟨fun h=>by omega,fun ⟨j,hj,_⟩=>by omega⟩ (Upd.refl _ _))
  obtain ⟨b,cap,ex,rfl⟩:=Own.shape ho (by omega)
  obtain ⟨hbm,hcap,hblt⟩:=Own.mem ho
  repeat first|refine RO.mov ?_|refine RO.nil ?_|refine Ru.region ?_|refine Ru.seq ?_|refine Ru.block ?_|refine Ru.skip ?_
  refine Ru.name fun S hS=>?_
  have loop:∀ kk k,s.length-k=kk→1≤k→k≤s.length→(∀ j,j+1<k→s[j]?≠s[j+1]?)→Ru tbl (fcx [.tmp p2] K) S [(p0,.slice b 0 s.length cap ex),(p3,aN k)] H:=by
    subst hS
    intro kk
    induction kk using Nat.strongRecOn with
    | ind kk ih =>
      intro k hkk h1k hk hI
      refine Ru.loop ?_
      repeat first|refine RO.mov ?_|refine RO.lenSl ?_|refine RO.lssN ?_|refine RO.nil ?_|refine Ru.region ?_|refine Ru.seq ?_
      refine Ru.cond (fun h=>?_) (fun h=>?_)
      · repeat first|refine RO.mov ?_|refine Ru.region ?_|refine Ru.seq ?_|refine Ru.block ?_|refine Ru.skip ?_
        refine RO.idxSl ?_
        refine RO.load1 ?_ (hc:=(by rw [Nat.zero_add,Nat.mul_one];exact int_at ho.sl rfl h))
        repeat first|refine RO.mov ?_
        refine RO.arith (v:=aN (k-1)) ?_ (hv:=sub_one h1k (by omega))
        refine RO.idxSl ?_
        refine RO.load1 ?_ (hc:=(by rw [Nat.zero_add,Nat.mul_one];exact int_at ho.sl rfl (j:=k-1) (by omega)))
        repeat first|refine RO.nil ?_|refine RO.eql ?_
        refine Ru.cond (fun he=>?_) (fun he=>?_)
        ·
          have hex:∃ j,j+1<s.length∧s[j]?=s[j+1]?:=⟨k-1,by omega,by
            rw [show k-1+1=k by omega,getElem?_pos s (k-1) (by omega),getElem?_pos s k h,he]⟩
          have hel:=Own.elem ho
          repeat first|refine RO.mov ?_|refine Ru.region ?_|refine Ru.seq ?_
          refine RO.sliceV (m:=cap) (b:=s.length) (a:=k) rfl rfl rfl (by show bound (aN k) s.length=_;exact bound_of (by omega)) (by rw [hel];simp) (v:=.slice b k (s.length-k) (cap-k) ex) (by
            have e1:(if ex&&decide (cap=k) then 0 else 0+k*1)=k:=by rw [decide_eq_false (by omega)];simp
            rw [e1];simp) ?_
          repeat first|refine RO.mov ?_|refine RO.nil ?_|refine Ru.region ?_|refine Ru.seq ?_|refine Ru.block ?_
          refine Ru.name fun S2 hS2=>?_
          have loop2:∀ qq k2 kx us H2 fp2,(s.length-k)-k2=qq→1≤k2→k2≤s.length-k→k≤kx→kx+1≤k+k2→us.length=s.length→OwnI H2 fp2 3 us true (.slice b 0 us.length cap ex)→Upd fp fp2 H H2→Ru tbl (fcx [.tmp p2] K) S2 [(p0,.slice b 0 s.length cap ex),(p3,aN kx),(p4,.slice b k (s.length-k) (cap-k) ex),(p5,aN k2)] H2:=by
            subst hS2
            intro qq
            induction qq using Nat.strongRecOn with
            | ind qq ih2 =>
              intro k2 kx us H2 fp2 hqq h1 h2 h3 h4 hus o2 u2
              refine Ru.loop ?_
              repeat first|refine RO.mov ?_|refine RO.lenSl ?_|refine RO.lssN ?_|refine RO.nil ?_|refine Ru.region ?_|refine Ru.seq ?_
              refine Ru.cond (fun hc2=>?_) (fun hc2=>?_)
              · have hx1:cellAt H2 b (k+k2*1)=some (aI (us[k+k2]'(by omega))):=by rw [Nat.mul_one];exact int_at o2.sl rfl (by omega)
                have hx2:cellAt H2 b (k+(k2-1)*1)=some (aI (us[k+(k2-1)]'(by omega))):=by rw [Nat.mul_one];exact int_at o2.sl rfl (by omega)
                repeat first|refine RO.mov ?_|refine Ru.region ?_|refine Ru.seq ?_|refine Ru.block ?_|refine Ru.skip ?_
                refine RO.idxSl ?_
                refine RO.load1 ?_ (hc:=hx1)
                repeat first|refine RO.mov ?_
                refine RO.arith (v:=aN (k2-1)) ?_ (hv:=sub_one h1 (by omega))
                refine RO.idxSl ?_
                refine RO.load1 ?_ (hc:=hx2)
                repeat first|refine RO.nil ?_|refine RO.neq ?_
                refine Ru.cond (fun hne=>?_) (fun hne=>?_)
                · repeat first|refine RO.mov ?_|refine Ru.region ?_|refine Ru.seq ?_
                  refine RO.idxSl ?_
                  refine RO.load1 ?_ (hc:=hx1)
                  refine RO.idxSl ?_
                  obtain ⟨H3,g1,g2,g3⟩:=OwnI.set o2 (k:=kx) (by omega) (us[k+k2]'(by omega))
                  refine RO.store (i:=b) (o:=0+kx*1) (v:=aI (us[k+k2]'(by omega))) (by rw [Nat.zero_add];exact g1) ?_
                  repeat first|refine RO.mov ?_|refine RO.nil ?_|refine Ru.region ?_|refine RO.inc ?_
                  exact Ru.weak (ih2 (s.length-k-(k2+1)) (by omega) (k2+1) (kx+1) (us.set kx (us[k+k2]'(by omega))) H3 [b] rfl (by omega) (by omega) (by omega) (by omega) (by rw [List.length_set];exact hus) (by rw [List.length_set];exact g3) (u2.trans g2)) ⟨rfl,rfl,rfl,rfl,trivial⟩
                · repeat first|refine RO.mov ?_|refine RO.nil ?_|refine Ru.region ?_|refine Ru.skip ?_|refine RO.inc ?_
                  exact Ru.weak (ih2 (s.length-k-(k2+1)) (by omega) (k2+1) kx us H2 fp2 rfl (by omega) (by omega) (by omega) (by omega) hus o2 u2) ⟨rfl,rfl,rfl,rfl,trivial⟩
              · have hel2:=Own.elem o2
                refine Ru.exitTo ?_
                repeat first|refine RO.mov ?_|refine Ru.region ?_|refine Ru.seq ?_
                refine RO.sliceV (m:=cap) (b:=s.length) (a:=kx) rfl rfl rfl (by show bound (aN kx) s.length=_;exact bound_of (by omega)) (by rw [hel2];simp) (v:=.slice b kx (s.length-kx) (cap-kx) ex) (by
                  have e1:(if ex&&decide (cap=kx) then 0 else 0+kx*1)=kx:=by rw [decide_eq_false (by omega)];simp
                  rw [e1];simp) ?_
                have hrl:∀ n,(reps [aI 0] n).length=n:=fun n=>by induction n with
                  | zero=>rfl
                  | succ n ih=>simp only [reps,List.length_append,ih,List.length_cons,List.length_nil];omega
                have hra:∀ n,allOne (reps [aI 0] n)=true:=fun n=>by induction n with
                  | zero=>rfl
                  | succ n ih=>simp only [reps,List.cons_append,List.nil_append,allOne,ih];rfl
                obtain ⟨H4,us4,_,w1,w2,_⟩:=Own.wr o2 (o:=kx) (ws:=reps [aI 0] (s.length-kx)) (by rw [hrl];omega) (hra _)
                refine RO.clearSl (n:=s.length-kx) rfl (by omega) w1 ?_
                repeat first|refine RO.mov ?_|refine RO.nil ?_|refine Ru.region ?_|refine Ru.seq ?_
                refine RO.sliceV (m:=cap) (b:=kx) (a:=0) rfl rfl (by show bound (aN kx) cap=_;exact bound_of (by omega)) rfl (by simp) (v:=.slice b 0 kx cap ex) (by simp) ?_
                repeat first|refine RO.mov ?_|refine RO.nil ?_
                exact Ru.ret1 (hK _ H4 [b] kx rfl rfl ⟨fun _=>hex,fun _=>by omega⟩ (u2.trans w2))
          exact Ru.weak (loop2 _ 1 k s H fp rfl (by omega) (by omega) (by omega) (by omega) rfl ho (Upd.refl _ _)) ⟨rfl,rfl,rfl,rfl,trivial⟩
        · repeat first|refine RO.mov ?_|refine RO.nil ?_|refine Ru.region ?_|refine Ru.skip ?_|refine RO.inc ?_
          refine Ru.weak (ih (s.length-(k+1)) (by omega) (k+1) rfl (by omega) (by omega) fun j hj=>?_) ⟨rfl,rfl,trivial⟩
          by_cases hjk:j+1=k
          · intro e
            rw [hjk,getElem?_pos s k h,getElem?_pos s j (by omega)] at e
            injection e with e
            have:k-1=j:=by omega
            subst this
            exact he e.symm
          · exact hI j (by omega)
      · refine Ru.exitTo ?_
        repeat first|refine RO.mov ?_|refine RO.nil ?_|refine Ru.region ?_|refine Ru.seq ?_
        refine Ru.ret1 (hK _ H fp s.length rfl rfl ⟨fun h=>by omega,fun ⟨j,hj,e⟩=>?_⟩ (Upd.refl _ _))
        exact absurd e (hI j (by omega))
  exact Ru.weak (loop _ 1 rfl (by omega) (by omega) fun j hj=>by omega) ⟨rfl,rfl,trivial⟩
end Go.Abs.R
