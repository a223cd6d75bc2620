/- A part of the proof (an abstract machine, walks): no statement of its own, no conditions. -/
import Derived.Test.YtndbmjcpgefblaaGreatDoorA23
set_option linter.all false
namespace Go.Abs
variable {tbl:Nat→AFunc}
structure Unif (tbl:Nat→AFunc) (n:Nat):Prop where
  exec:∀ {c fr H} {K:Nat→AJump→Fr→Heap→Prop},(∀ m m' j fr H,m≤m'→K m j fr H→K m' j fr H)→exec False allAsk tbl n c fr H (fun j fr H=>∃ m,K m j fr H)→∃ m,exec False allAsk tbl n c fr H (K m)
  ops:∀ {l fr H} {K:Nat→Fr→Heap→Prop},(∀ m m' fr H,m≤m'→K m fr H→K m' fr H)→Go.Abs.ops False allAsk tbl n l fr H (fun fr H=>∃ m,K m fr H)→∃ m,Go.Abs.ops False allAsk tbl n l fr H (K m)
  call:∀ {f args H} {K:Nat→AV→Heap→Prop},(∀ m m' v H,m≤m'→K m v H→K m' v H)→callV False allAsk tbl n f args H (fun v H=>∃ m,K m v H)→∃ m,callV False allAsk tbl n f args H (K m)
theorem unif_exec {n:Nat} (h:Unif tbl n) {c:ACode} {fr:Fr} {H:Heap} {K:Nat→AJump→Fr→Heap→Prop} (hk:∀ m m' j fr H,m≤m'→K m j fr H→K m' j fr H) (he:exec False allAsk tbl (n+1) c fr H (fun j fr H=>∃ m,K m j fr H)):∃ m,exec False allAsk tbl (n+1) c fr H (K m):=by
  have mo:=mono tbl n
  cases c with
  | skip=>simp only [exec] at he ⊢;exact he
  | region l=>simp only [exec] at he ⊢;exact h.ops (fun m m' fr H=>hk m m' .none fr H) he
  | seq a b =>
    simp only [exec] at he ⊢
    refine h.exec (K:=fun m j fr H=>match j with
      | .none=>exec False allAsk tbl n b fr H (K m)
      | j=>K m j fr H) (fun m m' j fr H hm hj=>?_) (mo.exec (Nat.le_refl _) (fun j fr H hj=>?_) he)
    · cases j with
      | none=>exact mo.exec (Nat.le_refl _) (fun j fr H=>hk m m' j fr H hm) hj
      | exit i=>exact hk _ _ _ _ _ hm hj
      | ret=>exact hk _ _ _ _ _ hm hj
    · cases j with
      | none=>exact h.exec hk hj
      | exit i=>exact hj
      | ret=>exact hj
  | cond c a b =>
    simp only [exec] at he ⊢
    split at he
    · exact h.exec hk he
    · exact h.exec hk he
    · exact he.elim
  | block id b =>
    simp only [exec] at he ⊢
    refine h.exec (K:=fun m j fr H=>match j with
      | .exit i=>if Nat.beq i id then K m .none fr H else K m (.exit i) fr H
      | j=>K m j fr H) (fun m m' j fr H hm hj=>?_) (mo.exec (Nat.le_refl _) (fun j fr H hj=>?_) he)
    · cases j with
      | none=>exact hk _ _ _ _ _ hm hj
      | exit i=>simp only at hj ⊢;split at hj<;>rename_i hi<;>simp only [hi,if_true,if_false,Bool.false_eq_true]<;>exact hk _ _ _ _ _ hm hj
      | ret=>exact hk _ _ _ _ _ hm hj
    · cases j with
      | none=>exact hj
      | exit i =>
        simp only at hj ⊢
        split at hj<;>rename_i hi<;>simp only [hi,if_true,if_false,Bool.false_eq_true]<;>exact hj
      | ret=>exact hj
  | loop b =>
    simp only [exec] at he ⊢
    refine h.exec (K:=fun m j fr H=>match j with
      | .none=>exec False allAsk tbl n (.loop b) fr H (K m)
      | j=>K m j fr H) (fun m m' j fr H hm hj=>?_) (mo.exec (Nat.le_refl _) (fun j fr H hj=>?_) he)
    · cases j with
      | none=>exact mo.exec (Nat.le_refl _) (fun j fr H=>hk m m' j fr H hm) hj
      | exit i=>exact hk _ _ _ _ _ hm hj
      | ret=>exact hk _ _ _ _ _ hm hj
    · cases j with
      | none=>exact h.exec hk hj
      | exit i=>exact hj
      | ret=>exact hj
  | rangeFunc f ps as bd =>
    simp only [exec] at he ⊢
    have go : ∀ (K : AJump → Fr → Heap → Prop) (K' : AJump → Fr → Heap → Prop) (_ : ∀ j fr H, K j fr H → K' j fr H) (fr : Fr) (l : Pos) (H' : Heap), (match H'.get l with
          | .loop st pend fn env ps as bd d =>
            match st with
            | .busy=>False
            | _=>K pend fr (H'.set l (.loop .exhausted pend fn env ps as bd d))
          | _=>False)→(match H'.get l with
          | .loop st pend fn env ps as bd d =>
            match st with
            | .busy=>False
            | _=>K' pend fr (H'.set l (.loop .exhausted pend fn env ps as bd d))
          | _=>False):=by
      intro K K' hKK fr l H' hq
      cases ho:H'.get l with
      | loop st pend fn env ps as bd d =>
        rw [ho] at hq
        cases st<;>first | exact hq.elim | exact hKK _ _ _ hq
      | _=>rw [ho] at hq;exact hq.elim
    have go2 : ∀ (fr : Fr) (l : Pos) (H' : Heap), (match H'.get l with
          | .loop st pend fn env ps as bd d =>
            match st with
            | .busy=>False
            | _=>∃ m,K m pend fr (H'.set l (.loop .exhausted pend fn env ps as bd d))
          | _=>False)→∃ m,(match H'.get l with
          | .loop st pend fn env ps as bd d =>
            match st with
            | .busy=>False
            | _=>K m pend fr (H'.set l (.loop .exhausted pend fn env ps as bd d))
          | _=>False):=by
      intro fr l H' hq
      cases ho:H'.get l with
      | loop st pend fn env ps as bd d =>
        rw [ho] at hq
        cases st<;>first | exact hq.elim | exact hq
      | _=>rw [ho] at hq;exact hq.elim
    cases hr:fr.rnd with
    | none =>
      rw [hr] at he
      simp only at he ⊢
      exact h.call (fun m m' v H' hm=>go _ _ (fun j fr H=>hk m m' j fr H hm) _ _ _) (mo.call (Nat.le_refl _) (fun v H' hq=>go2 _ _ _ hq) he)
    | some l =>
      rw [hr] at he
      simp only at he ⊢
      split at he
      · exact h.call (fun m m' v H' hm=>go _ _ (fun j fr H=>hk m m' j fr H hm) _ _ _) (mo.call (Nat.le_refl _) (fun v H' hq=>go2 _ _ _ hq) he)
      · exact he.elim
  | exit id=>simp only [exec] at he ⊢;exact he
  | ret=>simp only [exec] at he ⊢;exact he
  | over t =>
    simp only [exec] at he ⊢
    split at he
    · split at he
      · exact he
      · exact he.elim
    · exact he.elim
theorem fin_unif {Q:Nat→Nat→Prop} (hm:∀ i m m',m≤m'→Q i m→Q i m'):∀ n,(∀ i,i<n→∃ m,Q i m)→∃ m,∀ i,i<n→Q i m
  | 0,_=>⟨0,fun i h=>by omega⟩
  | n+1,h=>by
    obtain ⟨a,ha⟩:=fin_unif hm n fun i hi=>h i (by omega)
    obtain ⟨b,hb⟩:=h n (by omega)
    refine ⟨max a b,fun i hi=>?_⟩
    by_cases e:i=n
    · subst e;exact hm _ _ _ (Nat.le_max_right ..) hb
    · exact hm _ _ _ (Nat.le_max_left ..) (ha i (by omega))
theorem unif_ops {n:Nat} (h:Unif tbl n) {l:List AOper} {fr:Fr} {H:Heap} {K:Nat→Fr→Heap→Prop} (hk:∀ m m' fr H,m≤m'→K m fr H→K m' fr H) (he:Go.Abs.ops False allAsk tbl (n+1) l fr H (fun fr H=>∃ m,K m fr H)):∃ m,Go.Abs.ops False allAsk tbl (n+1) l fr H (K m):=by
  have mo:=mono tbl n
  cases l with
  | nil=>simp only [Go.Abs.ops] at he ⊢;exact he
  | cons o l =>
    simp only [Go.Abs.ops] at he ⊢
    have aftm:∀ (m m':Nat) (s:List (Pos × AObj)) (v:AV) (H:Heap),m≤m'→(if recheck (setDst fr.env o.dst v) (showAll H s) o.re=true then Go.Abs.ops False allAsk tbl n l { fr with env:=setDst fr.env o.dst v } (showAll H s) (K m) else False)→(if recheck (setDst fr.env o.dst v) (showAll H s) o.re=true then Go.Abs.ops False allAsk tbl n l { fr with env:=setDst fr.env o.dst v } (showAll H s) (K m') else False):=by
      intro m m' s v H hm hq
      split at hq
      · rename_i hc;rw [if_pos hc];exact mo.ops (Nat.le_refl _) (fun fr H=>hk m m' fr H hm) hq
      · exact hq.elim
    have aft2:∀ (s:List (Pos × AObj)) (v:AV) (H:Heap),(if recheck (setDst fr.env o.dst v) (showAll H s) o.re=true then Go.Abs.ops False allAsk tbl n l { fr with env:=setDst fr.env o.dst v } (showAll H s) (fun fr H=>∃ m,K m fr H) else False)→∃ m,(if recheck (setDst fr.env o.dst v) (showAll H s) o.re=true then Go.Abs.ops False allAsk tbl n l { fr with env:=setDst fr.env o.dst v } (showAll H s) (K m) else False):=by
      intro s v H hq
      split at hq
      · rename_i hc
        obtain ⟨m,hm⟩:=h.ops hk hq
        exact ⟨m,by rw [if_pos hc];exact hm⟩
      · exact hq.elim
    split at he
    · rename_i hg
      simp only [if_pos hg]
      split at he
      · rename_i f args
        exact h.call (fun m m' v H' hm=>aftm m m' _ v H' hm) (mo.call (Nat.le_refl _) (fun v H' hq=>aft2 _ v H' hq) he)
      · split at he
        · rename_i cs aft _
          refine fin_unif (Q:=fun i m=>match cs[i]? with
            | some c=>if recheck (setDst fr.env o.dst (aft c).1) (showAll (aft c).2 (hideAll fr.env H o.hide).2) o.re=true then Go.Abs.ops False allAsk tbl n l { fr with env:=setDst fr.env o.dst (aft c).1 } (showAll (aft c).2 (hideAll fr.env H o.hide).2) (K m) else False
            | none=>False) (fun i m m' hm hq=>?_) cs.length fun i hi=>?_
          · split at hq
            · exact aftm _ _ _ _ _ hm hq
            · exact hq.elim
          · have:=he i hi
            simp only at this
            split at this
            · rename_i x hx
              obtain ⟨m,hm⟩:=aft2 _ _ _ this
              exact ⟨m,by simp only [hx];exact hm⟩
            · exact this.elim
        · exact he.elim
      · split at he
        · exact aft2 _ _ _ he
        · exact he.elim
    · rename_i hg
      simp only [if_neg hg]
      split at he
      · rename_i hd;simp only [if_pos hd];exact h.ops hk he
      · exact he.elim
def endY (l:Pos) (K:AV→Heap→Prop) (j:AJump) (H:Heap):Prop :=
  match H.get l with
  | .loop _ _ fn env ps as bd d=>match j with
    | .none=>K (.bool true) (H.set l (.loop .ready .none fn env ps as bd d))
    | j=>K (.bool false) (H.set l (.loop .done j fn env ps as bd d))
  | _=>False
theorem unif_call {n:Nat} (h:Unif tbl n) {f:AV} {args:List AV} {H:Heap} {K:Nat→AV→Heap→Prop} (hk:∀ m m' v H,m≤m'→K m v H→K m' v H) (he:callV False allAsk tbl (n+1) f args H (fun v H=>∃ m,K m v H)):∃ m,callV False allAsk tbl (n+1) f args H (K m):=by
  have mo:=mono tbl n
  cases f<;>(try (simp only [callV] at he;done))
  · rename_i f first captured
    simp only [callV] at he ⊢
    split at he
    · exact he.elim
    · exact he.elim
    · split at he
      · exact he
      · exact he.elim
    · split at he
      · rename_i nt results body _ hle
        simp only [if_pos hle]
        have fin:∀ (K:AV→Heap→Prop) (K':AV→Heap→Prop) (_:∀ v H,K v H→K' v H) (fr:Fr) (H:Heap),(match takeMarks H fr.marks with
            | some H=>match readRes fr.env H results with
              | some l=>K (resV l) H
              | none=>False
            | none=>False)→(match takeMarks H fr.marks with
            | some H=>match readRes fr.env H results with
              | some l=>K' (resV l) H
              | none=>False
            | none=>False):=by
          intro K K' hKK fr H hq
          split at hq
          · split at hq
            · exact hKK _ _ hq
            · exact hq.elim
          · exact hq.elim
        have fin2:∀ (fr:Fr) (H:Heap),(match takeMarks H fr.marks with
            | some H=>match readRes fr.env H results with
              | some l=>∃ m,K m (resV l) H
              | none=>False
            | none=>False)→∃ m,(match takeMarks H fr.marks with
            | some H=>match readRes fr.env H results with
              | some l=>K m (resV l) H
              | none=>False
            | none=>False):=by
          intro fr H hq
          split at hq
          · split at hq
            · exact hq
            · exact hq.elim
          · exact hq.elim
        refine h.exec (K:=fun m j fr H=>match j with
          | .exit _=>False
          | _=>match takeMarks H fr.marks with
            | some H=>match readRes fr.env H results with
              | some l=>K m (resV l) H
              | none=>False
            | none=>False) (fun m m' j fr H hm hj=>?_) (mo.exec (Nat.le_refl _) (fun j fr H hj=>?_) he)
        · cases j with
          | exit i=>exact hj.elim
          | none=>exact fin _ _ (fun v H=>hk m m' v H hm) _ _ hj
          | ret=>exact fin _ _ (fun v H=>hk m m' v H hm) _ _ hj
        · cases j with
          | exit i=>exact hj.elim
          | none=>exact fin2 _ _ hj
          | ret=>exact fin2 _ _ hj
      · exact he.elim
  · rename_i l
    simp only [callV] at he ⊢
    split at he
    · split at he
      · split at he
        · rename_i hl
          simp only [if_pos hl]
          refine h.exec (K:=fun m j fr H=>match j,H.get l with
              | .none,.loop .ready pend fn env ps as bd' d =>
                exec False allAsk tbl n _ fr (H.set l (.loop .busy pend fn env ps as bd' d)) fun j _ H =>
                  match H.get l with
                  | .loop _ _ fn env ps as bd d =>
                    match j with
                    | .none=>K m (.bool true) (H.set l (.loop .ready .none fn env ps as bd d))
                    | j=>K m (.bool false) (H.set l (.loop .done j fn env ps as bd d))
                  | _=>False
              | _,_=>False) (fun m m' j fr H hm hj=>?_) (mo.exec (Nat.le_refl _) (fun j fr H hj=>?_) he)
          · split at hj
            · refine mo.exec (Nat.le_refl _) (fun j _ H hq=>?_) hj
              cases ho:H.get l with
              | loop st pend fn env ps as bd d =>
                rw [ho] at hq
                cases j<;>exact hk _ _ _ _ hm hq
              | _=>rw [ho] at hq;exact hq.elim
            · exact hj.elim
          · split at hj
            · have hj2:=mo.exec (Nat.le_refl _) (K':=fun j _ H=>∃ m,endY l (K m) j H) (fun j _ H hq=>(by
                unfold endY
                cases ho:H.get l with
                | loop st pend fn env ps as bd d =>
                  rw [ho] at hq
                  cases j<;>exact hq
                | _=>rw [ho] at hq;exact hq.elim)) hj
              obtain ⟨m,hm⟩:=h.exec (K:=fun m j _ H=>endY l (K m) j H) (fun m m' j _ H hm hq=>by
                unfold endY at hq ⊢
                cases ho:H.get l with
                | loop st pend fn env ps as bd d =>
                  rw [ho] at hq
                  cases j<;>exact hk _ _ _ _ hm hq
                | _=>rw [ho] at hq;exact hq.elim) hj2
              rename_i hgl
              refine ⟨m,?_⟩
              simp only [hgl]
              refine mo.exec (Nat.le_refl _) (fun j _ H hq=>?_) hm
              unfold endY at hq
              cases ho:H.get l with
              | loop st pend fn env ps as bd d =>
                rw [ho] at hq
                cases j<;>exact hq
              | _=>rw [ho] at hq;exact hq.elim
            · exact hj.elim
        · exact he.elim
      · exact he.elim
    · exact he.elim
theorem unif (tbl:Nat→AFunc):∀ n,Unif tbl n
  | 0=>⟨fun _ he=>by simp only [exec] at he,fun _ he=>by simp only [Go.Abs.ops] at he,fun _ he=>by simp only [callV] at he⟩
  | n+1=>by
    have h:=unif tbl n
    exact ⟨unif_exec h,unif_ops h,unif_call h⟩
end Go.Abs
namespace Go.Abs
variable {tbl:Nat→AFunc}
abbrev Kn:=List (Pos × AV)
def lk:Kn→Pos→AV
  | [],_=>.junk
  | (q,v)::l,p=>match Pos.beq q p with
    | true=>v
    | false=>lk l p
def Le (L:Kn) (env:Tree AV):Prop:=∀ p v,lk L p=v→v=.junk∨env.get .undef p=v
def gvL (L:Kn):Opd→AV
  | .t p=>lk L p
  | .c v=>v
def setL (L:Kn) (d:Option Pos) (v:AV):Kn :=
  match d with
  | some p=>(p,v)::L
  | none=>L
theorem Le.get {L:Kn} {env:Tree AV} (h:Le L env) {p:Pos} {v:AV} (hx:lk L p=v) (hv:v.defd=true):env.get .undef p=v:=by
  rcases h p v hx with e | e
  · rw [e] at hv;cases hv
  · exact e
theorem Le.gv {L:Kn} {env:Tree AV} (h:Le L env) {x:Opd} {v:AV} (hx:gvL L x=v) (hv:v.defd=true):gv env x=v:=by
  cases x with
  | t p=>exact h.get hx hv
  | c w=>exact hx
theorem Le.set {L:Kn} {env:Tree AV} (h:Le L env) (d:Option Pos) (v:AV):Le (setL L d v) (setDst env d v):=by
  cases d with
  | none=>exact h
  | some p =>
    intro q w hw
    simp only [setL,setDst,lk] at hw ⊢
    rw [Tree.get_set]
    cases hb:Pos.beq p q with
    | true =>
      rw [hb] at hw
      rw [if_pos (Pos.beq_iff.1 hb).symm];exact .inr hw
    | false =>
      rw [hb] at hw
      rw [if_neg fun e=>by rw [e,Pos.beq_iff.2 rfl] at hb;cases hb]
      exact h q w hw
def LeL:Kn→Kn→Prop
  | [],_=>True
  | (p,v)::l,m=>lk m p=v∧LeL l m
theorem LeL.get:∀ {l m:Kn},LeL l m→∀ p v,lk l p=v→v=.junk∨lk m p=v
  | [],_,_,p,v,h=>.inl h.symm
  | (q,w)::l,m,h,p,v,hv=>by
    simp only [lk] at hv
    cases hb:Pos.beq q p with
    | true =>
      rw [hb] at hv
      rw [← Pos.beq_iff.1 hb];exact .inr (h.1.trans hv)
    | false =>
      rw [hb] at hv
      exact LeL.get h.2 p v hv
theorem Le.weak {L M:Kn} {env:Tree AV} (h:LeL L M) (hm:Le M env):Le L env:=fun p v hv=>by
  rcases h.get p v hv with e | e
  · exact .inl e
  · exact hm p v e
inductive SI where
  | code (c:ACode)
  | blk (id:Nat)
structure Cx where
  K:AJump→Fr→Heap→Prop
  M:List Pos
  R:Option Pos
def Kof (tbl:Nat→AFunc) (K:AJump→Fr→Heap→Prop):List SI→AJump→Fr→Heap→Prop
  | [],j,fr,H=>K j fr H
  | .code c::s,j,fr,H=>match j with
    | .none=>∃ n,Xc tbl n c fr H (Kof tbl K s)
    | j=>Kof tbl K s j fr H
  | .blk id::s,j,fr,H=>match j with
    | .exit i=>if Nat.beq i id then Kof tbl K s .none fr H else Kof tbl K s (.exit i) fr H
    | j=>Kof tbl K s j fr H
def RJ (tbl:Nat→AFunc) (c:Cx) (j:AJump) (s:List SI) (L:Kn) (H:Heap):Prop:=∀ env,Le L env→Kof tbl c.K s j ⟨env,c.M,c.R⟩ H
def Ru (tbl:Nat→AFunc) (c:Cx) (s:List SI) (L:Kn) (H:Heap):Prop:=RJ tbl c .none s L H
def RO (tbl:Nat→AFunc) (c:Cx) (l:List AOper) (s:List SI) (L:Kn) (H:Heap):Prop:=∀ env,Le L env→∃ n,Xo tbl n l ⟨env,c.M,c.R⟩ H (Kof tbl c.K s .none)
def YF (tbl:Nat→AFunc) (f:AV) (args:List AV) (H:Heap) (K:AV→Heap→Prop):Prop:=∃ n,Xf tbl n f args H K
variable {c:Cx} {s:List SI} {L:Kn} {H:Heap}
theorem Ru.weak {M:Kn} (h:Ru tbl c s L H) (hl:LeL L M):Ru tbl c s M H:=fun env hle=>h env (hle.weak hl)
theorem RO.weak {l:List AOper} {M:Kn} (h:RO tbl c l s L H) (hl:LeL L M):RO tbl c l s M H:=fun env hle=>h env (hle.weak hl)
theorem RJ.weak {j:AJump} {M:Kn} (h:RJ tbl c j s L H) (hl:LeL L M):RJ tbl c j s M H:=fun env hle=>h env (hle.weak hl)
theorem YF.mono {f:AV} {args:List AV} {K K':AV→Heap→Prop} (h:YF tbl f args H K) (hk:∀ v H,K v H→K' v H):YF tbl f args H K':=by
  obtain ⟨n,h⟩:=h
  exact ⟨n,h.mono (Nat.le_refl _) hk⟩
theorem two {n:Nat} {a:ACode} {s:List SI} {b:ACode} {fr:Fr} {K:AJump→Fr→Heap→Prop} (h:Xc tbl n a fr H (Kof tbl K (.code b::s))) :
    ∃ k,Xc tbl k a fr H fun j fr H=>match j with | .none=>Xc tbl k b fr H (Kof tbl K s) | j=>Kof tbl K s j fr H:=by
  obtain ⟨m,hm⟩:=(unif tbl n).exec (K:=fun m j fr H=>match j with | .none=>Xc tbl m b fr H (Kof tbl K s) | j=>Kof tbl K s j fr H) (fun m m' j fr H hmm hj=>by
      cases j with
      | none=>exact hj.mono hmm fun _ _ _ h=>h
      | exit i=>exact hj
      | ret=>exact hj) ((mono tbl n).exec (Nat.le_refl _) (fun j fr H hj=>by
      cases j with
      | none=>exact hj
      | exit i=>exact ⟨0,hj⟩
      | ret=>exact ⟨0,hj⟩) h)
  refine ⟨max n m,(show Xc tbl n a fr H _ from hm).mono (Nat.le_max_left ..) fun j fr H hj=>?_⟩
  cases j with
  | none=>exact (show Xc tbl m b fr H _ from hj).mono (Nat.le_max_right ..) fun _ _ _ h=>h
  | exit i=>exact hj
  | ret=>exact hj
theorem Ru.seq {a b:ACode} (h:Ru tbl c (.code a::.code b::s) L H):Ru tbl c (.code (.seq a b)::s) L H:=fun env hle=>by
  obtain ⟨n,hn⟩:=h env hle
  obtain ⟨k,hk⟩:=two hn
  exact ⟨k+1,Xc.seq hk⟩
theorem Ru.loop {b:ACode} (h:Ru tbl c (.code b::.code (.loop b)::s) L H):Ru tbl c (.code (.loop b)::s) L H:=fun env hle=>by
  obtain ⟨n,hn⟩:=h env hle
  obtain ⟨k,hk⟩:=two hn
  exact ⟨k+1,Xc.loop hk⟩
theorem Ru.region {l:List AOper} (h:RO tbl c l s L H):Ru tbl c (.code (.region l)::s) L H:=fun env hle=>by
  obtain ⟨n,hn⟩:=h env hle
  exact ⟨n+1,Xc.region hn⟩
theorem Ru.skip (h:Ru tbl c s L H):Ru tbl c (.code .skip::s) L H:=fun env hle=>⟨1,Xc.skip (h env hle)⟩
theorem Ru.block {id:Nat} {b:ACode} (h:Ru tbl c (.code b::.blk id::s) L H):Ru tbl c (.code (.block id b)::s) L H:=fun env hle=>by
  obtain ⟨n,hn⟩:=h env hle
  exact ⟨n+1,Xc.block (hn.mono (Nat.le_refl _) fun j fr H hj=>by cases j<;>exact hj)⟩
theorem Ru.condT {x:Opd} {a b:ACode} (h:Ru tbl c (.code a::s) L H) (hx:gvL L x=.bool true:=by (conv=>lhs;whnf)<;>rfl):Ru tbl c (.code (.cond x a b)::s) L H:=fun env hle=>by
  obtain ⟨n,hn⟩:=h env hle
  exact ⟨n+1,Xc.condT (hle.gv hx rfl) hn⟩
theorem Ru.condF {x:Opd} {a b:ACode} (h:Ru tbl c (.code b::s) L H) (hx:gvL L x=.bool false:=by (conv=>lhs;whnf)<;>rfl):Ru tbl c (.code (.cond x a b)::s) L H:=fun env hle=>by
  obtain ⟨n,hn⟩:=h env hle
  exact ⟨n+1,Xc.condF (hle.gv hx rfl) hn⟩
theorem Ru.condB {x:Opd} {a b:ACode} {t:Bool} (h1:t=true→Ru tbl c (.code a::s) L H) (h2:t=false→Ru tbl c (.code b::s) L H) (hx:gvL L x=.bool t:=by (conv=>lhs;whnf)<;>rfl):Ru tbl c (.code (.cond x a b)::s) L H:=by
  cases t with
  | true=>exact Ru.condT (h1 rfl) hx
  | false=>exact Ru.condF (h2 rfl) hx
theorem Ru.cond {x:Opd} {a b:ACode} {p:Prop} [Decidable p] (h1:p→Ru tbl c (.code a::s) L H) (h2:¬ p→Ru tbl c (.code b::s) L H) (hx:gvL L x=.bool (decide p):=by (conv=>lhs;whnf)<;>rfl):Ru tbl c (.code (.cond x a b)::s) L H :=
  Ru.condB (fun h=>h1 (of_decide_eq_true h)) (fun h=>h2 (of_decide_eq_false h)) hx
theorem Ru.exit {id:Nat} (h:RJ tbl c (.exit id) s L H):Ru tbl c (.code (.exit id)::s) L H:=fun env hle=>⟨1,Xc.exit (h env hle)⟩
theorem Ru.ret (h:RJ tbl c .ret s L H):Ru tbl c (.code .ret::s) L H:=fun env hle=>⟨1,Xc.ret (h env hle)⟩
theorem Ru.blk {id:Nat} (h:Ru tbl c s L H):Ru tbl c (.blk id::s) L H:=h
theorem RJ.code {a:ACode} {i:Nat} (h:RJ tbl c (.exit i) s L H):RJ tbl c (.exit i) (.code a::s) L H:=h
theorem RJ.here {i:Nat} (h:Ru tbl c s L H):RJ tbl c (.exit i) (.blk i::s) L H:=fun env hle=>by
  simp only [Kof,Nat.beq_refl,if_true];exact h env hle
theorem RJ.past {i id:Nat} (hi:Nat.beq i id=false) (h:RJ tbl c (.exit i) s L H):RJ tbl c (.exit i) (.blk id::s) L H:=fun env hle=>by
  simp only [Kof,hi,Bool.false_eq_true,if_false];exact h env hle
theorem RJ.retC {a:ACode} (h:RJ tbl c .ret s L H):RJ tbl c .ret (.code a::s) L H:=h
theorem RJ.retB {id:Nat} (h:RJ tbl c .ret s L H):RJ tbl c .ret (.blk id::s) L H:=h
def retS:List SI→List SI
  | []=>[]
  | _::s=>retS s
theorem RJ.retAll:∀ {s:List SI},RJ tbl c .ret [] L H→RJ tbl c .ret s L H
  | [],h=>h
  | .code _::_,h=>RJ.retC (RJ.retAll h)
  | .blk _::_,h=>RJ.retB (RJ.retAll h)
def exitS (i:Nat):List SI→Option (List SI)
  | []=>none
  | .code _::s=>exitS i s
  | .blk id::s=>if Nat.beq i id then some s else exitS i s
theorem RJ.exitAll {i:Nat}:∀ {s t:List SI},exitS i s=some t→Ru tbl c t L H→RJ tbl c (.exit i) s L H
  | [],_,h,_=>by cases h
  | .code _::s,t,h,k=>RJ.code (RJ.exitAll h k)
  | .blk id::s,t,h,k=>by
    simp only [exitS] at h
    split at h
    · rename_i e;rw [← Nat.eq_of_beq_eq_true e];injection h with h;subst h;exact RJ.here k
    · rename_i e;exact RJ.past (by simpa only [Bool.not_eq_true] using e) (RJ.exitAll h k)
theorem Ru.exitTo {i:Nat} {t:List SI} (k:Ru tbl c t L H) (h:exitS i s=some t:=by rfl):Ru tbl c (.code (.exit i)::s) L H:=Ru.exit (RJ.exitAll h k)
theorem RO.nil (h:Ru tbl c s L H):RO tbl c [] s L H:=fun env hle=>⟨1,Xo.nil (h env hle)⟩
theorem RO.op {d:Option Pos} {op:AOp} {l:List AOper} {v:AV} {H':Heap} (he:∀ env,Le L env→evalOp op env H=some (v,H')) (h:RO tbl c l s (setL L d v) H'):RO tbl c (⟨d,op,none,[],[]⟩::l) s L H:=fun env hle=>by
  obtain ⟨n,hn⟩:=h _ (hle.set d v)
  exact ⟨n+1,Xo.op (he env hle) hn⟩
theorem RO.call {d:Option Pos} {f:Opd} {args:List Opd} {l:List AOper} {fv:AV} {av:List AV} (h:YF tbl fv av H fun v H'=>RO tbl c l s (setL L d v) H') (hf:gvL L f=fv:=by (conv=>lhs;whnf)<;>rfl) (hfd:fv.defd=true:=by first | rfl | assumption) (ha:args.map (gvL L)=av:=by rfl) (had:av.all AV.defd=true:=by first | rfl | assumption):RO tbl c (⟨d,.call f args,none,[],[]⟩::l) s L H:=fun env hle=>by
  obtain ⟨n,hn⟩:=h
  have hae:args.map (gv env)=av:=by
    subst ha
    refine List.map_congr_left fun x hx=>?_
    exact hle.gv rfl (List.all_eq_true.1 had _ (List.mem_map_of_mem hx))
  obtain ⟨m,hm⟩:=(unif tbl n).call (K:=fun m v H'=>Xo tbl m l ⟨setDst env d v,c.M,c.R⟩ H' (Kof tbl c.K s .none)) (fun m m' v H hm h=>h.mono hm fun _ _ h=>h) ((mono tbl n).call (Nat.le_refl _) (fun v H' hv=>hv _ (hle.set d v)) hn)
  refine ⟨max n m+1,Xo.call ?_⟩
  rw [hle.gv hf hfd,hae]
  exact (show Xf tbl n fv av H _ from hm).mono (Nat.le_max_left ..) fun v H' h=>(show Xo tbl m l _ H' _ from h).mono (Nat.le_max_right ..) fun _ _ h=>h
theorem RO.next {d:Option Pos} {it:Opd} {l:List AOper} {iv:AV} {cs:List (Option AEnt)} {aft:Option AEnt→AV × Heap} (hi:gvL L it=iv) (hid:iv.defd=true) (he:nextMapV H iv=some (cs,aft)) (h:∀ x∈cs,RO tbl c l s (setL L d (aft x).1) (aft x).2):RO tbl c (⟨d,.nextMap it,none,[],[]⟩::l) s L H:=fun env hle=>by
  have key:∃ m,∀ i,i<cs.length→∀ x,cs[i]?=some x→Xo tbl m l ⟨setDst env d (aft x).1,c.M,c.R⟩ (aft x).2 (Kof tbl c.K s .none):=by
    refine fin_unif (Q:=fun i m=>∀ x,cs[i]?=some x→Xo tbl m l ⟨setDst env d (aft x).1,c.M,c.R⟩ (aft x).2 (Kof tbl c.K s .none)) (fun i m m' hm hq x hx=>(hq x hx).mono hm fun _ _ h=>h) cs.length fun i hi=>?_
    obtain ⟨m,hm⟩:=h cs[i] (List.getElem_mem hi) _ (hle.set d _)
    refine ⟨m,fun x hx=>?_⟩
    rw [getElem?_pos cs i hi] at hx;injection hx with hx;subst hx;exact hm
  obtain ⟨m,hm⟩:=key
  refine ⟨m+1,Xo.next (by rw [hle.gv hi hid];exact he) fun x hx=>?_⟩
  obtain ⟨i,hi,e⟩:=List.getElem_of_mem hx
  exact hm i hi x (by rw [getElem?_pos cs i hi,e])
def retK (rs:List ARes) (K:AV→Heap→Prop) (j:AJump) (fr:Fr) (H:Heap):Prop :=
  match j with
  | .exit _=>False
  | _=>match takeMarks H fr.marks with
    | some H=>match readRes fr.env H rs with
      | some l=>K (resV l) H
      | none=>False
    | none=>False
abbrev fcx (rs:List ARes) (K:AV→Heap→Prop):Cx:=⟨retK rs K,[],none⟩
theorem putArgs_at:∀ (l:List AV) (p q:Pos) (t:Tree AV),(putArgs l p t).get .undef q=if p.idx≤q.idx∧q.idx<p.idx+l.length then l.getD (q.idx-p.idx) .undef else t.get .undef q
  | [],p,q,t=>by simp only [putArgs,List.length_nil];rw [if_neg (by omega)]
  | v::l,p,q,t=>by
    simp only [putArgs]
    rw [putArgs_at l p.succ q (t.set .undef p v),Pos.idx_succ,Tree.get_set]
    simp only [List.length_cons]
    by_cases h1:p.idx+1≤q.idx∧q.idx<p.idx+1+l.length
    · rw [if_pos h1,if_pos (by omega)]
      rw [show q.idx-p.idx=(q.idx-(p.idx+1))+1 by omega];simp
    · rw [if_neg h1]
      by_cases h2:q=p
      · subst h2;rw [if_pos rfl,if_pos (by omega)];simp
      · rw [if_neg h2,if_neg]
        intro h3
        exact h2 (Pos.idx_inj (by omega))
theorem tree_leaf_get:∀ (p:Pos),(Tree.leaf:Tree AV).get .undef p=.undef
  | .xH=>rfl
  | .xO p=>tree_leaf_get p
  | .xI p=>tree_leaf_get p
def argL:List AV→Nat→Kn
  | [],_=>[]
  | v::l,k=>(Pos.slot k,v)::argL l (k+1)
theorem Le.argL:∀ (l:List AV) (k:Nat) (env:Tree AV),(∀ i (h:i<l.length),env.get .undef (Pos.slot (k+i))=l[i])→Le (argL l k) env
  | [],_,_,_=>fun p v h=>.inl h.symm
  | w::l,k,env,h=>fun p v hv=>by
    simp only [Go.Abs.argL,lk] at hv
    cases hb:Pos.beq (Pos.slot k) p with
    | true =>
      rw [hb] at hv
      rw [← Pos.beq_iff.1 hb,← hv];exact .inr (h 0 (by simp))
    | false =>
      rw [hb] at hv
      exact Le.argL l (k+1) env (fun i hi=>by
        have:=h (i+1) (by simpa using hi)
        rw [show k+1+i=k+(i+1) by omega]
        simpa using this) p v hv
theorem Le.args (l:List AV):Le (Go.Abs.argL l 0) (putArgs l .xH .leaf):=Le.argL l 0 _ fun i hi=>by
  rw [putArgs_at,Pos.idx_slot,Nat.zero_add,if_pos (by simp only [Pos.idx];omega)]
  simp only [Pos.idx,Nat.add_sub_cancel,List.getD_eq_getElem?_getD,hi,getElem?_pos,Option.getD_some]
theorem YF.code {f nt:Nat} {rs:List ARes} {body:ACode} {fs as cs:List AV} {K:AV→Heap→Prop} (hf:tbl f=.code nt rs body) (hl:(fs++as++cs).length≤nt) (h:Ru tbl (fcx rs K) [.code body] (argL (fs++as++cs) 0) H):YF tbl (.func f fs cs) as H K:=by
  obtain ⟨n,hn⟩:=h _ (Le.args (fs++as++cs))
  refine ⟨n+1,?_⟩
  simp only [Xf,callV,hf]
  rw [if_pos (Nat.ble_eq_true_of_le hl)]
  refine Xc.mono (Nat.le_refl _) (fun j fr H hj=>?_) hn
  cases j with
  | exit i=>exact hj
  | none=>exact hj
  | ret=>exact hj
theorem YF.prim {f:Nat} {g:List AV→Heap→Option (AV × Heap)} {fs as cs:List AV} {v:AV} {H':Heap} {K:AV→Heap→Prop} (hf:tbl f=.prim g) (hg:g (fs++as++cs) H=some (v,H')) (h:K v H'):YF tbl (.func f fs cs) as H K:=by
  refine ⟨1,?_⟩
  simp only [Xf,callV,hf,hg]
  exact h
def ResL (L:Kn):List ARes→List AV→Prop
  | [],[]=>True
  | .tmp p::rs,v::vs=>lk L p=v∧v.defd=true∧ResL L rs vs
  | _,_=>False
theorem ResL.sound {env:Tree AV} (hle:Le L env):∀ {rs:List ARes} {vs:List AV},ResL L rs vs→readRes env H rs=some vs
  | [],[],_=>rfl
  | .tmp p::rs,v::vs,h=>by
    simp only [readRes,ResL.sound hle h.2.2,Option.map_some,hle.get h.1 h.2.1]
  | [],_::_,h=>h.elim
  | .tmp _::_,[],h=>h.elim
  | .cell ..::_,[],h=>h.elim
  | .cell ..::_,_::_,h=>h.elim
theorem RJ.fin {j:AJump} {rs:List ARes} {K:AV→Heap→Prop} {vs:List AV} (hj:j=.none∨j=.ret) (hr:ResL L rs vs) (h:K (resV vs) H):RJ tbl (fcx rs K) j [] L H:=fun env hle=>by
  have:=hr.sound (H:=H) hle
  rcases hj with rfl | rfl<;>simp only [Kof,retK,takeMarks,this]<;>exact h
theorem Ru.fin {rs:List ARes} {K:AV→Heap→Prop} {vs:List AV} (hr:ResL L rs vs) (h:K (resV vs) H):Ru tbl (fcx rs K) [] L H:=RJ.fin (.inl rfl) hr h
theorem Ru.retF {rs:List ARes} {K:AV→Heap→Prop} {vs:List AV} {s:List SI} (hr:ResL L rs vs) (h:K (resV vs) H):Ru tbl (fcx rs K) (.code .ret::s) L H:=Ru.ret (RJ.retAll (RJ.fin (.inr rfl) hr h))
theorem Ru.ret1 {p:Pos} {K:AV→Heap→Prop} {v:AV} {s:List SI} (h:K v H) (hr:lk L p=v:=by (conv=>lhs;whnf)<;>rfl) (hd:v.defd=true:=by first | rfl | assumption):Ru tbl (fcx [.tmp p] K) (.code .ret::s) L H:=Ru.retF (vs:=[v]) ⟨hr,hd,trivial⟩ h
theorem Ru.ret2 {p q:Pos} {K:AV→Heap→Prop} {v w:AV} {s:List SI} (h:K (.tuple [v,w]) H) (hr:lk L p=v:=by (conv=>lhs;whnf)<;>rfl) (hd:v.defd=true:=by first | rfl | assumption) (hr2:lk L q=w:=by (conv=>lhs;whnf)<;>rfl) (hd2:w.defd=true:=by first | rfl | assumption):Ru tbl (fcx [.tmp p,.tmp q] K) (.code .ret::s) L H:=Ru.retF (vs:=[v,w]) ⟨hr,hd,hr2,hd2,trivial⟩ h
end Go.Abs
