/- A part of the proof (an abstract machine, walks): no statement of its own, no conditions. -/
import Derived.Test.YtndbmjcpgefblaaGreatDoorA15
set_option linter.all false
namespace Go.Abs.K
theorem jumpK_eq (j:AJump) (x:Prop) (y:Nat→Prop) (z:Prop):jumpK j x y z=(match j with | .none=>x | .exit i=>y i | .ret=>z):=by cases j<;>rfl
theorem isBoolK_eq (v:AV) (t f:Prop):isBoolK v t f=(match v with | .bool true=>t | .bool false=>f | _=>False):=by
  unfold isBoolK
  cases v<;>(try rfl)
  rename_i b
  show ite' b t f=_
  cases b<;>rfl
theorem setDstK_eq (env:Tree AV) (d:Option Pos) (v:AV) (k:Tree AV→Prop):setDstK env d v k=k (setDst env d v):=by
  cases d with
  | none=>rfl
  | some p=>exact setK_eq _ _ _ _ _
theorem recheckK_eq (env:Tree AV) (H:Heap) (l:List ARe) (x:Prop):recheckK env H l x=if recheck env H l=true then x else False:=by
  cases l with
  | nil=>simp [recheckK,recheck]
  | cons a l=>exact ite'_eq _ _ _
theorem guardK_eq (env:Tree AV) (g:Option (Pos × Bool)) (x y:Prop):guardK env g x y=if guardOk env g=true then x else if guardDefd env g=true then y else False:=by
  cases g with
  | none=>simp [guardK,guardOk]
  | some g =>
    show ite' (guardOk env (some g)) x (ite' (guardDefd env (some g)) y False)=_
    rw [ite'_eq,ite'_eq]
theorem putArgsK_eq:∀ (l:List AV) (p:Pos) (t:Tree AV) (k:Tree AV→Prop),putArgsK l p t k=k (putArgs l p t)
  | [],_,_,_=>rfl
  | v::l,p,t,k=>by
    show setK .undef p v t (fun t=>succK p fun p=>putArgsK l p t k)=_
    rw [setK_eq,succK_eq,putArgsK_eq l];rfl
theorem readResK_eq (env:Tree AV) (H:Heap):∀ (l:List ARes) (k:List AV→Prop),readResK env H l k=optK (readRes env H l) k
  | [],_=>rfl
  | .tmp p::l,k=>by
    show getK .undef p env (fun v=>readResK env H l fun l=>k (v::l))=_
    rw [getK_eq,readResK_eq env H l]
    simp only [readRes]
    cases readRes env H l<;>rfl
  | .cell p g n::l,k=>by
    show getK .undef p env (fun a=>optK (loadV H a n g) fun v=>forceV v fun v=>readResK env H l fun l=>k (v::l))=_
    rw [getK_eq]
    simp only [readRes]
    cases loadV H (env.get .undef p) n g with
    | none=>rfl
    | some v =>
      rw [optK_some,forceV_eq,readResK_eq env H l]
      cases readRes env H l<;>rfl
theorem resK_eq (l:List AV) (k:AV→Prop):resK l k=k (resV l):=by
  match l with
  | []=>rfl
  | [v]=>rfl
  | v::w::l=>rfl
theorem marksK_eq (H:Heap) (l:List Pos) (k:Heap→Prop):marksK H l k=optK (takeMarks H l) k:=by cases l<;>rfl
def ofLoop (o:AObj) (k:LK):Prop :=
  match o with
  | .loop st pend fn env ps as bd d=>k st pend fn env ps as bd d
  | _=>False
theorem loopK_eq (H:Heap) (i:Pos) (k:LK):loopK H i k=ofLoop (H.get i) k:=by
  unfold loopK;rw [hgetK_eq];cases H.get i<;>rfl
variable {tbl:Tree AFunc}
structure Same (tbl:Tree AFunc) (n:Nat):Prop where
  exec:∀ c fr H K,(runs tbl n).exec c fr H K=Go.Abs.exec False allAsk (tbl.getN .none) n c fr H K
  ops:∀ l fr H K,(runs tbl n).ops l fr H K=Go.Abs.ops False allAsk (tbl.getN .none) n l fr H K
  call:∀ f args H K,(runs tbl n).call f args H K=callV False allAsk (tbl.getN .none) n f args H K
theorem seqC_eq {n : Nat} (h : Same tbl n) (b : ACode) (K : Cont) : seqC (runs tbl n) b K = fun j fr H => match j with
      | .none=>Go.Abs.exec False allAsk (tbl.getN .none) n b fr H K
      | j=>K j fr H:=by
  funext j fr H
  unfold seqC
  rw [jumpK_eq,h.exec]
  cases j<;>rfl
theorem exec_same {n:Nat} (h:Same tbl n) (c:ACode) (fr:Fr) (H:Heap) (K:Cont):(runs tbl (n+1)).exec c fr H K=Go.Abs.exec False allAsk (tbl.getN .none) (n+1) c fr H K:=by
  cases c with
  | skip=>simp only [Go.Abs.exec];rfl
  | region l =>
    show (runs tbl n).ops l fr H (K .none)=_
    rw [h.ops];simp only [Go.Abs.exec]
  | seq a b =>
    show (runs tbl n).exec a fr H (seqC (runs tbl n) b K)=_
    rw [h.exec,seqC_eq h];simp only [Go.Abs.exec];rfl
  | cond c a b =>
    show gvK fr.env c (fun v=>isBoolK v ((runs tbl n).exec a fr H K) ((runs tbl n).exec b fr H K))=_
    rw [gvK_eq,isBoolK_eq,h.exec,h.exec];simp only [Go.Abs.exec];rfl
  | block id b =>
    show (runs tbl n).exec b fr H (blockC id K)=_
    rw [h.exec];simp only [Go.Abs.exec]
    congr 1
    funext j fr H
    unfold blockC
    rw [jumpK_eq]
    cases j with
    | none=>rfl
    | exit i=>exact ite'_eq _ _ _
    | ret=>rfl
  | loop b =>
    show (runs tbl n).exec b fr H (seqC (runs tbl n) (.loop b) K)=_
    rw [h.exec,seqC_eq h];simp only [Go.Abs.exec];rfl
  | rangeFunc f ps as bd =>
    have go : ∀ (fr : Fr) (H : Heap) (d : Pos) (env : Tree AV), rfGo (runs tbl n) env ps as bd (gv fr.env f) K fr H d = callV False allAsk (tbl.getN .none) n (gv fr.env f) [.yield H.next] (H.new (.loop .ready .none 0 env ps as bd d)) fun _ H' =>
          match H'.get H.next with
          | .loop st pend fn env ps as bd d =>
            match st with
            | .busy=>False
            | _=>K pend fr (H'.set H.next (.loop .exhausted pend fn env ps as bd d))
          | _=>False:=by
      intro fr H d env
      unfold rfGo
      rw [hnewK_eq,h.call]
      congr 1
      funext v H'
      rw [loopK_eq]
      cases H'.get H.next<;>(try rfl)
      rename_i st pend fn env ps as bd d
      unfold ofLoop rfEnd
      simp only [hsetK_eq]
      cases st<;>rfl
    show gvK fr.env f (fun fv=>Option.rec (motive:=fun _=>Prop) (hnewK H (.deferred false) fun m H=>rfGo (runs tbl n) fr.env ps as bd fv K ⟨fr.env,m::fr.marks,fr.rnd⟩ H m)
      (fun l=>loopK H l fun _ _ _ _ _ _ _ d=>rfGo (runs tbl n) fr.env ps as bd fv K fr H d) fr.rnd)=_
    rw [gvK_eq]
    simp only [Go.Abs.exec]
    cases hr:fr.rnd with
    | none =>
      show hnewK H (.deferred false) _=_
      rw [hnewK_eq]
      exact go ⟨fr.env,H.next::fr.marks,none⟩ (H.new (.deferred false)) H.next fr.env
    | some l =>
      show loopK H l _=_
      rw [loopK_eq]
      simp only
      cases H.get l<;>(try rfl)
      exact go fr H _ fr.env
  | exit id=>simp only [Go.Abs.exec];rfl
  | ret=>simp only [Go.Abs.exec];rfl
  | over t =>
    show getNK .none tbl t (fun g=>AFunc.rec (motive:=fun _=>Prop) False (fun _ _ _=>False) (fun _=>False) (overK fr H K) g)=_
    rw [getNK_eq]
    simp only [Go.Abs.exec]
    cases tbl.getN .none t<;>(try rfl)
    rename_i g
    show overK fr H K g=_
    unfold overK
    show optK (g fr.env H) _=_
    simp only
    cases g fr.env H<;>rfl
theorem ops_same {n:Nat} (h:Same tbl n) (l:List AOper) (fr:Fr) (H:Heap) (K:Fr→Heap→Prop):(runs tbl (n+1)).ops l fr H K=Go.Abs.ops False allAsk (tbl.getN .none) (n+1) l fr H K:=by
  cases l with
  | nil=>simp only [Go.Abs.ops];rfl
  | cons o l =>
    show guardK fr.env o.guard (runHid (runs tbl n) o.op fr.env H o.hide (after (runs tbl n) l K o.dst o.re fr.env fr.marks fr.rnd)) (setDstK fr.env o.dst .undef fun env=>(runs tbl n).ops l ⟨env,fr.marks,fr.rnd⟩ H K)=_
    rw [guardK_eq,setDstK_eq,h.ops]
    simp only [Go.Abs.ops]
    congr 1
    have haft:∀ (s:List (Pos × AObj)) (v:AV) (H:Heap),after (runs tbl n) l K o.dst o.re fr.env fr.marks fr.rnd v (showAll H s)=if recheck (setDst fr.env o.dst v) (showAll H s) o.re=true then Go.Abs.ops False allAsk (tbl.getN .none) n l { fr with env:=setDst fr.env o.dst v } (showAll H s) K else False:=by
      intro s v H
      unfold after
      rw [setDstK_eq,recheckK_eq,h.ops]
    have hh:runHid (runs tbl n) o.op fr.env H o.hide (after (runs tbl n) l K o.dst o.re fr.env fr.marks fr.rnd)=opRun o.op (runs tbl n) fr.env (hideAll fr.env H o.hide).1 fun v H'=>after (runs tbl n) l K o.dst o.re fr.env fr.marks fr.rnd v (showAll H' (hideAll fr.env H o.hide).2):=by
      cases o.hide<;>rfl
    rw [hh]
    have hk:(fun v H'=>after (runs tbl n) l K o.dst o.re fr.env fr.marks fr.rnd v (showAll H' (hideAll fr.env H o.hide).2))=fun v H'=>if recheck (setDst fr.env o.dst v) (showAll H' (hideAll fr.env H o.hide).2) o.re=true then Go.Abs.ops False allAsk (tbl.getN .none) n l { fr with env:=setDst fr.env o.dst v } (showAll H' (hideAll fr.env H o.hide).2) K else False:=by
      funext v H';exact haft _ v H'
    rw [hk]
    split
    · rename_i f args hop
      rw [hop,opRun_call,h.call]
    · rename_i it hop
      rw [hop,opRun_next];rfl
    · rename_i hn1 hn2
      rw [opRun_eq _ _ _ _ _ (by cases hop:o.op<;>first | rfl | exact absurd hop (hn1 _ _)) (fun it e=>hn2 it e)]
      cases evalOp o.op fr.env (hideAll fr.env H o.hide).1<;>rfl
theorem call_same {n:Nat} (h:Same tbl n) (f:AV) (args:List AV) (H:Heap) (K:KV):(runs tbl (n+1)).call f args H K=callV False allAsk (tbl.getN .none) (n+1) f args H K:=by
  cases f<;>(try (simp only [callV];rfl))
  · rename_i f first captured
    show getNK .none tbl f (fun g=>forceL (first++args++captured) fun all=>AFunc.rec (motive:=fun _=>Prop) False (callCode (runs tbl n) H K all) (callPrim H K all) (fun _=>False) g)=_
    rw [getNK_eq,forceL_eq]
    simp only [callV]
    cases tbl.getN .none f<;>(try rfl)
    · rename_i nt rs body
      show callCode (runs tbl n) H K (first++args++captured) nt rs body=_
      unfold callCode
      rw [ite'_eq,lenK_eq,putArgsK_eq,h.exec]
      simp only
      congr 2
      funext j fr H
      have hfin : callFin rs K fr H = (match takeMarks H fr.marks with
              | some H=>match readRes fr.env H rs with
                | some l=>K (resV l) H
                | none=>False
              | none=>False):=by
        show marksK H fr.marks (fun H=>readResK fr.env H rs fun l=>resK l fun v=>K v H)=_
        rw [marksK_eq]
        cases takeMarks H fr.marks with
        | none=>rfl
        | some H2 =>
          rw [optK_some,readResK_eq]
          simp only
          cases readRes fr.env H2 rs with
          | none=>rfl
          | some l=>rw [optK_some,resK_eq]
      unfold callEnd
      rw [jumpK_eq,hfin]
      cases j<;>rfl
    · rename_i g
      show callPrim H K (first++args++captured) g=_
      unfold callPrim
      simp only
      cases g (first++args++captured) H with
      | none=>rfl
      | some p=>exact forceV_eq p.1 fun v=>K v p.2
  · rename_i l
    show callYield (runs tbl n) args H K l=_
    unfold callYield
    rw [loopK_eq]
    simp only [callV]
    cases H.get l<;>(try rfl)
    rename_i st pend fn env ps as bd d
    show stateK st (ite' (Nat.beq (lenK args) (lenK ps)) ((runs tbl n).exec as ⟨putParams ps args env,[],some l⟩ H (yAssigned (runs tbl n) l bd K)) False) False False=_
    cases st<;>(try rfl)
    show ite' (Nat.beq (lenK args) (lenK ps)) ((runs tbl n).exec as ⟨putParams ps args env,[],some l⟩ H (yAssigned (runs tbl n) l bd K)) False=_
    rw [ite'_eq,lenK_eq,lenK_eq,h.exec]
    simp only
    have hc : yAssigned (runs tbl n) l bd K = fun j fr H => match j, H.get l with
              | .none,.loop .ready pend fn env ps as bd' d =>
                Go.Abs.exec False allAsk (tbl.getN .none) n bd fr (H.set l (.loop .busy pend fn env ps as bd' d)) fun j _ H =>
                  match H.get l with
                  | .loop _ _ fn env ps as bd d =>
                    match j with
                    | .none=>K (.bool true) (H.set l (.loop .ready .none fn env ps as bd d))
                    | j=>K (.bool false) (H.set l (.loop .done j fn env ps as bd d))
                  | _=>False
              | _,_=>False:=by
      funext j fr H
      unfold yAssigned
      rw [jumpK_eq]
      cases j with
      | none =>
        simp only
        unfold yBody
        rw [loopK_eq]
        cases H.get l<;>(try rfl)
        rename_i st pend fn env ps as bd' d
        show stateK st _ False False=_
        cases st<;>(try rfl)
        show hsetK H l (.loop .busy pend fn env ps as bd' d) (fun H=>(runs tbl n).exec bd fr H (yEnd l K))=_
        rw [hsetK_eq,h.exec]
        simp only
        congr 1
        funext j fr' H
        unfold yEnd
        rw [loopK_eq]
        cases H.get l<;>(try rfl)
        unfold ofLoop
        simp only
        rw [jumpK_eq]
        cases j<;>simp only [hsetK_eq]
      | exit i=>cases H.get l<;>rfl
      | ret=>cases H.get l<;>rfl
    rw [hc]
    by_cases hl:args.length=ps.length
    · rw [if_pos (by rw [hl];exact Nat.beq_refl _),if_pos hl];rfl
    · rw [if_neg (fun e=>hl (Nat.eq_of_beq_eq_true e)),if_neg hl]
theorem runs_same (tbl:Tree AFunc):∀ n,Same tbl n
  | 0=>⟨fun c fr H K=>by simp only [Go.Abs.exec];rfl,fun l fr H K=>by simp only [Go.Abs.ops];rfl,fun f args H K=>by simp only [callV];rfl⟩
  | n+1=>⟨exec_same (runs_same tbl n),ops_same (runs_same tbl n),call_same (runs_same tbl n)⟩
end Go.Abs.K
namespace Go.Abs
variable {tbl:Nat→AFunc}
structure Mono (tbl:Nat→AFunc) (n:Nat):Prop where
  exec:∀ {c fr H K K' m},n≤m→(∀ j fr H,K j fr H→K' j fr H)→exec False allAsk tbl n c fr H K→exec False allAsk tbl m c fr H K'
  ops:∀ {l fr H K K' m},n≤m→(∀ fr H,K fr H→K' fr H)→Go.Abs.ops False allAsk tbl n l fr H K→Go.Abs.ops False allAsk tbl m l fr H K'
  call:∀ {f args H K K' m},n≤m→(∀ v H,K v H→K' v H)→callV False allAsk tbl n f args H K→callV False allAsk tbl m f args H K'
theorem mono_exec {n:Nat} (h:Mono tbl n) {c:ACode} {fr:Fr} {H:Heap} {K K':AJump→Fr→Heap→Prop} {m:Nat} (hm:n≤m) (hk:∀ j fr H,K j fr H→K' j fr H) (he:exec False allAsk tbl (n+1) c fr H K):exec False allAsk tbl (m+1) c fr H K':=by
  cases c with
  | skip=>simp only [exec] at he ⊢;exact hk _ _ _ he
  | region l=>simp only [exec] at he ⊢;exact h.ops hm (hk _) he
  | seq a b =>
    simp only [exec] at he ⊢
    refine h.exec hm (fun j fr H hj=>?_) he
    cases j with
    | none=>exact h.exec hm hk hj
    | exit i=>exact hk _ _ _ hj
    | ret=>exact hk _ _ _ hj
  | cond c a b =>
    simp only [exec] at he ⊢
    split at he
    · exact h.exec hm hk he
    · exact h.exec hm hk he
    · exact he.elim
  | block id b =>
    simp only [exec] at he ⊢
    refine h.exec hm (fun j fr H hj=>?_) he
    cases j with
    | none=>exact hk _ _ _ hj
    | exit i=>simp only at hj ⊢;split at hj<;>rename_i hi<;>simp only [hi,if_true,if_false,Bool.false_eq_true]<;>exact hk _ _ _ hj
    | ret=>exact hk _ _ _ hj
  | loop b =>
    simp only [exec] at he ⊢
    refine h.exec hm (fun j fr H hj=>?_) he
    cases j with
    | none=>exact h.exec hm hk hj
    | exit i=>exact hk _ _ _ hj
    | ret=>exact hk _ _ _ hj
  | rangeFunc f ps as bd =>
    simp only [exec] at he ⊢
    have go : ∀ (fr : Fr) (l : Pos) (v : AV) (H' : Heap), (match H'.get l with
          | .loop st pend fn env ps as bd d =>
            match st with
            | .busy=>False
            | _=>K pend fr (H'.set l (.loop .exhausted pend fn env ps as bd d))
          | _=>False)→(match H'.get l with
          | .loop st pend fn env ps as bd d =>
            match st with
            | .busy=>False
            | _=>K' pend fr (H'.set l (.loop .exhausted pend fn env ps as bd d))
          | _=>False):=by
      intro fr l v H' hq
      cases ho:H'.get l with
      | loop st pend fn env ps as bd d =>
        rw [ho] at hq
        cases st<;>first | exact hq.elim | exact hk _ _ _ hq
      | _=>rw [ho] at hq;exact hq.elim
    cases hr:fr.rnd with
    | none =>
      rw [hr] at he
      exact h.call hm (fun v H' hq=>go _ _ v H' hq) he
    | some l =>
      rw [hr] at he
      simp only at he ⊢
      split at he
      · exact h.call hm (fun v H' hq=>go _ _ v H' hq) he
      · exact he.elim
  | exit id=>simp only [exec] at he ⊢;exact hk _ _ _ he
  | ret=>simp only [exec] at he ⊢;exact hk _ _ _ he
  | over t =>
    simp only [exec] at he ⊢
    split at he
    · split at he
      · exact hk _ _ _ he
      · exact he.elim
    · exact he.elim
theorem mono_ops {n:Nat} (h:Mono tbl n) {l:List AOper} {fr:Fr} {H:Heap} {K K':Fr→Heap→Prop} {m:Nat} (hm:n≤m) (hk:∀ fr H,K fr H→K' fr H) (he:Go.Abs.ops False allAsk tbl (n+1) l fr H K):Go.Abs.ops False allAsk tbl (m+1) l fr H K':=by
  cases l with
  | nil=>simp only [Go.Abs.ops] at he ⊢;exact hk _ _ he
  | cons o l =>
    simp only [Go.Abs.ops] at he ⊢
    have aft:∀ (v:AV) (H:Heap),(if recheck (setDst fr.env o.dst v) (showAll H (hideAll fr.env H o.hide).2) o.re=true then Go.Abs.ops False allAsk tbl n l { fr with env:=setDst fr.env o.dst v } (showAll H (hideAll fr.env H o.hide).2) K else False)→(if recheck (setDst fr.env o.dst v) (showAll H (hideAll fr.env H o.hide).2) o.re=true then Go.Abs.ops False allAsk tbl m l { fr with env:=setDst fr.env o.dst v } (showAll H (hideAll fr.env H o.hide).2) K' else False):=by
      intro v H hq
      split at hq
      · rename_i hc;rw [if_pos hc];exact h.ops hm hk hq
      · exact hq.elim
    have aft2:∀ (s:List (Pos × AObj)) (v:AV) (H:Heap),(if recheck (setDst fr.env o.dst v) (showAll H s) o.re=true then Go.Abs.ops False allAsk tbl n l { fr with env:=setDst fr.env o.dst v } (showAll H s) K else False)→(if recheck (setDst fr.env o.dst v) (showAll H s) o.re=true then Go.Abs.ops False allAsk tbl m l { fr with env:=setDst fr.env o.dst v } (showAll H s) K' else False):=by
      intro s v H hq
      split at hq
      · rename_i hc;rw [if_pos hc];exact h.ops hm hk hq
      · exact hq.elim
    split at he
    · rename_i hg
      rw [if_pos hg]
      split at he
      · exact h.call hm (fun v H' hq=>aft2 _ v H' hq) he
      · split at he
        · intro i hi
          have:=he i hi
          simp only at this ⊢
          split at this
          · exact aft2 _ _ _ this
          · exact this.elim
        · exact he.elim
      · split at he
        · exact aft2 _ _ _ he
        · exact he.elim
    · rename_i hg
      rw [if_neg hg]
      split at he
      · rename_i hd;rw [if_pos hd];exact h.ops hm hk he
      · exact he.elim
theorem mono_call {n:Nat} (h:Mono tbl n) {f:AV} {args:List AV} {H:Heap} {K K':AV→Heap→Prop} {m:Nat} (hm:n≤m) (hk:∀ v H,K v H→K' v H) (he:callV False allAsk tbl (n+1) f args H K):callV False allAsk tbl (m+1) f args H K':=by
  cases f<;>(try (simp only [callV] at he;done))
  · rename_i f first captured
    simp only [callV] at he ⊢
    split at he
    · exact he.elim
    · exact he.elim
    · split at he
      · exact hk _ _ he
      · exact he.elim
    · split at he
      · rename_i hle
        rw [if_pos hle]
        refine h.exec hm (fun j fr H hj=>?_) he
        cases j with
        | exit i=>exact hj.elim
        | none =>
          simp only at hj ⊢
          split at hj
          · split at hj
            · exact hk _ _ hj
            · exact hj.elim
          · exact hj.elim
        | ret =>
          simp only at hj ⊢
          split at hj
          · split at hj
            · exact hk _ _ hj
            · exact hj.elim
          · exact hj.elim
      · exact he.elim
  · rename_i l
    simp only [callV] at he ⊢
    split at he
    · split at he
      · split at he
        · rename_i hl
          rw [if_pos hl]
          refine h.exec hm (fun j fr H hj=>?_) he
          split at hj
          · refine h.exec hm (fun j fr H hj=>?_) hj
            split at hj
            · split at hj
              · exact hk _ _ hj
              · cases j<;>first | exact hk _ _ hj | skip
                all_goals first | exact hk _ _ hj | (rename_i hno;exact absurd rfl hno)
            · exact hj.elim
          · exact hj.elim
        · exact he.elim
      · exact he.elim
    · exact he.elim
theorem mono (tbl:Nat→AFunc):∀ n,Mono tbl n
  | 0=>⟨fun _ _ he=>by simp only [exec] at he,fun _ _ he=>by simp only [Go.Abs.ops] at he,fun _ _ he=>by simp only [callV] at he⟩
  | n+1=>by
    have h:=mono tbl n
    refine ⟨fun hm hk he=>?_,fun hm hk he=>?_,fun hm hk he=>?_⟩
    all_goals
      rename_i m
      cases m with
      | zero=>omega
      | succ m=>first | exact mono_exec h (by omega) hk he | exact mono_ops h (by omega) hk he | exact mono_call h (by omega) hk he
end Go.Abs
namespace Go.Abs
variable [Ov]
variable {tbl:Nat→AFunc}
abbrev Xc (tbl:Nat→AFunc) (n:Nat) (c:ACode) (fr:Fr) (H:Heap) (K:AJump→Fr→Heap→Prop):Prop:=exec False allAsk tbl n c fr H K
abbrev Xo (tbl:Nat→AFunc) (n:Nat) (l:List AOper) (fr:Fr) (H:Heap) (K:Fr→Heap→Prop):Prop:=Go.Abs.ops False allAsk tbl n l fr H K
abbrev Xf (tbl:Nat→AFunc) (n:Nat) (f:AV) (args:List AV) (H:Heap) (K:AV→Heap→Prop):Prop:=callV False allAsk tbl n f args H K
theorem Xo.nil {n:Nat} {fr:Fr} {H:Heap} {K:Fr→Heap→Prop} (h:K fr H):Xo tbl (n+1) [] fr H K:=by simp only [Xo,Go.Abs.ops];exact h
theorem Xo.op {n:Nat} {d:Option Pos} {op:AOp} {l:List AOper} {env:Tree AV} {marks:List Pos} {rnd:Option Pos} {H H':Heap} {v:AV} {K:Fr→Heap→Prop} (he:evalOp op env H=some (v,H')) (h:Xo tbl n l ⟨setDst env d v,marks,rnd⟩ H' K) :
    Xo tbl (n+1) (⟨d,op,none,[],[]⟩::l) ⟨env,marks,rnd⟩ H K:=by
  simp only [Xo,Go.Abs.ops,guardOk,hideAll,showAll,recheck,if_true]
  split
  · simp [evalOp] at he
  · simp [evalOp] at he
  · rw [he];exact h
theorem Xo.next {n:Nat} {d:Option Pos} {it:Opd} {l:List AOper} {env:Tree AV} {marks:List Pos} {rnd:Option Pos} {H:Heap} {cs:List (Option AEnt)} {aft:Option AEnt→AV × Heap} {K:Fr→Heap→Prop} (he:nextMapV H (gv env it)=some (cs,aft))
    (h:∀ c∈cs,Xo tbl n l ⟨setDst env d (aft c).1,marks,rnd⟩ (aft c).2 K):Xo tbl (n+1) (⟨d,.nextMap it,none,[],[]⟩::l) ⟨env,marks,rnd⟩ H K:=by
  simp only [Xo,Go.Abs.ops,guardOk,hideAll,showAll,recheck,if_true,he]
  intro i hi
  rw [getElem?_pos cs i hi]
  exact h _ (List.getElem_mem hi)
theorem Xo.call {n:Nat} {d:Option Pos} {f:Opd} {args:List Opd} {l:List AOper} {env:Tree AV} {marks:List Pos} {rnd:Option Pos} {H:Heap} {K:Fr→Heap→Prop} (h:Xf tbl n (gv env f) (args.map (gv env)) H fun v H'=>Xo tbl n l ⟨setDst env d v,marks,rnd⟩ H' K) :
    Xo tbl (n+1) (⟨d,.call f args,none,[],[]⟩::l) ⟨env,marks,rnd⟩ H K:=by
  simp only [Xo,Go.Abs.ops,guardOk,hideAll,showAll,recheck,if_true]
  exact h
theorem Xc.region {n:Nat} {l:List AOper} {fr:Fr} {H:Heap} {K:AJump→Fr→Heap→Prop} (h:Xo tbl n l fr H (K .none)):Xc tbl (n+1) (.region l) fr H K:=by simp only [Xc,exec];exact h
theorem Xc.seq {n : Nat} {a b : ACode} {fr : Fr} {H : Heap} {K : AJump → Fr → Heap → Prop} (h : Xc tbl n a fr H fun j fr H => match j with
      | .none=>Xc tbl n b fr H K
      | j=>K j fr H):Xc tbl (n+1) (.seq a b) fr H K:=by simp only [Xc,exec];exact h
theorem Xc.mono {n m:Nat} (h:n≤m) {c:ACode} {fr:Fr} {H:Heap} {K K':AJump→Fr→Heap→Prop} (hk:∀ j fr H,K j fr H→K' j fr H) (he:Xc tbl n c fr H K):Xc tbl m c fr H K':=(Go.Abs.mono tbl n).exec h hk he
theorem Xo.mono {n m:Nat} (h:n≤m) {l:List AOper} {fr:Fr} {H:Heap} {K K':Fr→Heap→Prop} (hk:∀ fr H,K fr H→K' fr H) (he:Xo tbl n l fr H K):Xo tbl m l fr H K':=(Go.Abs.mono tbl n).ops h hk he
theorem Xf.mono {n m:Nat} (h:n≤m) {f:AV} {args:List AV} {H:Heap} {K K':AV→Heap→Prop} (hk:∀ v H,K v H→K' v H) (he:Xf tbl n f args H K):Xf tbl m f args H K':=(Go.Abs.mono tbl n).call h hk he
theorem Xc.loop {n : Nat} {b : ACode} {fr : Fr} {H : Heap} {K : AJump → Fr → Heap → Prop} (h : Xc tbl n b fr H fun j fr H => match j with
      | .none=>Xc tbl n (.loop b) fr H K
      | j=>K j fr H):Xc tbl (n+1) (.loop b) fr H K:=by simp only [Xc,exec];exact h
theorem Xc.condT {n:Nat} {c:Opd} {a b:ACode} {fr:Fr} {H:Heap} {K:AJump→Fr→Heap→Prop} (hc:gv fr.env c=.bool true) (h:Xc tbl n a fr H K):Xc tbl (n+1) (.cond c a b) fr H K:=by simp only [Xc,exec,hc];exact h
theorem Xc.condF {n:Nat} {c:Opd} {a b:ACode} {fr:Fr} {H:Heap} {K:AJump→Fr→Heap→Prop} (hc:gv fr.env c=.bool false) (h:Xc tbl n b fr H K):Xc tbl (n+1) (.cond c a b) fr H K:=by simp only [Xc,exec,hc];exact h
theorem Xc.block {n : Nat} {id : Nat} {b : ACode} {fr : Fr} {H : Heap} {K : AJump → Fr → Heap → Prop} (h : Xc tbl n b fr H fun j fr H => match j with
      | .exit i=>if Nat.beq i id then K .none fr H else K (.exit i) fr H
      | j=>K j fr H):Xc tbl (n+1) (.block id b) fr H K:=by simp only [Xc,exec];exact h
theorem Xc.skip {n:Nat} {fr:Fr} {H:Heap} {K:AJump→Fr→Heap→Prop} (h:K .none fr H):Xc tbl (n+1) .skip fr H K:=by simp only [Xc,exec];exact h
theorem Xc.exit {n id:Nat} {fr:Fr} {H:Heap} {K:AJump→Fr→Heap→Prop} (h:K (.exit id) fr H):Xc tbl (n+1) (.exit id) fr H K:=by simp only [Xc,exec];exact h
theorem Xc.ret {n:Nat} {fr:Fr} {H:Heap} {K:AJump→Fr→Heap→Prop} (h:K .ret fr H):Xc tbl (n+1) .ret fr H K:=by simp only [Xc,exec];exact h
theorem Xc.seq' {n m : Nat} {a b : ACode} {fr : Fr} {H : Heap} {K : AJump → Fr → Heap → Prop} {k : Nat} (hn : n ≤ k) (hm : m ≤ k) (h : Xc tbl n a fr H fun j fr H => match j with
      | .none=>Xc tbl m b fr H K
      | j=>K j fr H):Xc tbl (k+1) (.seq a b) fr H K:=by
  refine Xc.seq (h.mono hn fun j fr H hj=>?_)
  cases j with
  | none=>exact hj.mono hm fun _ _ _ h=>h
  | exit i=>exact hj
  | ret=>exact hj
def mapLoop (bid cid:Nat) (it tup ok et ex kv:Pos) (body:ACode):ACode :=
  .block bid (.loop (.seq (.region [⟨some tup,.nextMap (.t it),none,[],[]⟩,⟨some ok,.extract (.t tup) 0,none,[],[]⟩])
    (.seq (.cond (.t ok) .skip (.exit bid)) (.block cid (.seq (.region [⟨some et,.entryMap (.t it),none,[],[]⟩,⟨some ex,.extract (.t et) 0,none,[],[]⟩,⟨some kv,.mov (.t ex),none,[],[]⟩]) body)))))
theorem findBorn_mem:∀ {es:List AEnt} {e:AEnt} (i0:Nat),e∈es→(es.map (·.born)).Nodup→∃ i,findBorn e.born es i0=some (i0+i)∧es[i]?=some e
  | [],_,_,h,_=>by cases h
  | a::es,e,i0,h,hn=>by
    rw [List.map_cons,List.nodup_cons] at hn
    rcases List.mem_cons.1 h with h | h
    · subst h;exact ⟨0,by simp [findBorn,Nat.beq_refl],by simp⟩
    · have hne:¬ a.born=e.born:=fun he=>hn.1 (by rw [he];exact List.mem_map_of_mem h)
      obtain ⟨i,h1,h2⟩:=findBorn_mem (i0+1) h hn.2
      refine ⟨i+1,?_,by simpa using h2⟩
      have:Nat.beq a.born e.born=false:=by
        cases hb:Nat.beq a.born e.born with
        | false=>rfl
        | true=>exact absurd (Nat.eq_of_beq_eq_true hb) hne
      simp only [findBorn,this,Bool.false_eq_true,if_false,h1]
      congr 1;omega
def unseen (es:List AEnt) (seen:List Nat):List AEnt:=es.filter fun e=>!seen.contains e.born
theorem unseen_next {es:List AEnt} {seen:List Nat} {e:AEnt} (he:e∈unseen es seen):(unseen es (seen++[e.born])).length<(unseen es seen).length:=by
  have h1:unseen es (seen++[e.born])=(unseen es seen).filter fun x=>!(x.born==e.born):=by
    simp only [unseen,List.filter_filter]
    congr 1
    funext x
    simp only [List.contains_append,Bool.not_or,List.contains_cons,List.contains_nil,Bool.or_false]
    rw [Bool.and_comm]
  rw [h1]
  refine List.length_filter_lt_length_iff_exists.2 ⟨e,he,by simp⟩
theorem nextMapV_eq {H:Heap} {id m:Pos} {es:List AEnt} {clock:Nat} {seen:List Nat} (hi:H.get id=.mapIter (some m) clock seen clock) (hm:H.get m=.map es clock) (hlt:∀ e∈es,e.born<clock) :
    ∃ aft,nextMapV H (.ptr id 0)=some ((if (unseen es seen).isEmpty then [none] else [])++(unseen es seen).map some,aft)∧aft none=(.tuple [.bool false],H) ∧
      ∀ e,aft (some e)=(.tuple [.bool true,e.key,e.val],H.set id (.mapIter (some m) clock (seen++[e.born]) clock)):=by
  have hall:¬ ((!seen.isEmpty&&!es.isEmpty&&es.all fun e=>Nat.ble clock e.born)=true):=by
    intro h
    simp only [Bool.and_eq_true,List.all_eq_true] at h
    cases es with
    | nil=>simp at h
    | cons a es =>
      have:=Nat.le_of_ble_eq_true (h.2 a (List.mem_cons_self ..))
      have:=hlt a (List.mem_cons_self ..)
      omega
  have h1:(unseen es seen).filter (fun e=>Nat.blt e.born clock)=unseen es seen:=List.filter_eq_self.2 fun e he=>Eq.mpr Nat.blt_eq (hlt e (List.mem_filter.1 he).1)
  have h2:(unseen es seen).filter (fun e=>!Nat.blt e.born clock)=[]:=List.filter_eq_nil_iff.2 fun e he=>by
    have:Nat.blt e.born clock=true:=Eq.mpr Nat.blt_eq (hlt e (List.mem_filter.1 he).1)
    simp [this]
  refine ⟨fun c => match c with
          | some e=>(.tuple [.bool true,e.key,e.val],H.set id (.mapIter (some m) clock (seen++[e.born]) clock))
          | none=>(.tuple [.bool false],H),?_,rfl,fun e=>rfl⟩
  simp only [nextMapV,hi,hm]
  rw [if_neg hall]
  show some ((if ((unseen es seen).filter (fun e=>Nat.blt e.born clock)).isEmpty then [none] else [])++((unseen es seen).filter (fun e=>Nat.blt e.born clock)++(unseen es seen).filter (fun e=>!Nat.blt e.born clock)).map some,_)=_
  rw [h1,h2,List.append_nil]
  refine congrArg some (Prod.ext rfl ?_)
  funext c
  cases c<;>rfl
theorem mapLoop_ok {bid cid:Nat} {it tup ok et ex kv:Pos} {body:ACode} (hbc:bid≠cid) (d1:it≠tup) (d2:it≠ok) (d3:tup≠ok) (d5:et≠ex) {es:List AEnt} {clock:Nat} {id m:Pos} (hb:(es.map (·.born)).Nodup) (hlt:∀ e∈es,e.born<clock)
    {marks:List Pos} {rnd:Option Pos} {K:AJump→Fr→Heap→Prop} (I:List Nat→Tree AV→Heap→Prop)
    (hit:∀ seen env H,I seen env H→env.get .undef it=.ptr id 0∧H.get id=.mapIter (some m) clock seen clock∧H.get m=.map es clock) (fb:Nat)
    (step:∀ seen env H e,I seen env H→e∈es→e.born∉seen →
      Xc tbl fb body ⟨((((env.set .undef tup (.tuple [.bool true,e.key,e.val])).set .undef ok (.bool true)).set .undef et (.tuple [e.key,e.val])).set .undef ex e.key).set .undef kv e.key,marks,rnd⟩ (H.set id (.mapIter (some m) clock (seen++[e.born]) clock))
        fun j fr H'=>j=.none∧fr.marks=marks∧fr.rnd=rnd∧I (seen++[e.born]) fr.env H')
    (fin:∀ seen env H,I seen env H→(∀ e∈es,e.born∈seen)→K .none ⟨(env.set .undef tup (.tuple [.bool false])).set .undef ok (.bool false),marks,rnd⟩ H) :
    ∀ (k:Nat) seen env H,I seen env H→(unseen es seen).length≤k→Xc tbl (fb+15+k) (mapLoop bid cid it tup ok et ex kv body) ⟨env,marks,rnd⟩ H K:=by
  have main:∀ (k:Nat) seen env H,I seen env H→(unseen es seen).length≤k→Xc tbl (fb+14+k) (.loop (.seq (.region [⟨some tup,.nextMap (.t it),none,[],[]⟩,⟨some ok,.extract (.t tup) 0,none,[],[]⟩])
    (.seq (.cond (.t ok) .skip (.exit bid)) (.block cid (.seq (.region [⟨some et,.entryMap (.t it),none,[],[]⟩,⟨some ex,.extract (.t et) 0,none,[],[]⟩,⟨some kv,.mov (.t ex),none,[],[]⟩]) body))))) ⟨env,marks,rnd⟩ H
      fun j fr H=>j=.exit bid∧K .none fr H:=by
    intro k
    induction k with
    | zero =>
      intro seen env H hI hk
      obtain ⟨h1,h2,h3⟩:=hit seen env H hI
      obtain ⟨aft,a1,a2,a3⟩:=nextMapV_eq h2 h3 hlt
      have hnil:unseen es seen=[]:=List.eq_nil_of_length_eq_zero (by omega)
      rw [hnil] at a1
      refine Xc.loop (n:=fb+13) ?_
      refine Xc.seq (n:=fb+12) (Xc.region (n:=fb+11) (Xo.next (n:=fb+10) (by rw [show gv env (.t it)=env.get .undef it from rfl,h1];exact a1) ?_))
      intro c hc
      simp only [List.isEmpty_nil,if_true,List.map_nil,List.append_nil,List.mem_singleton] at hc
      subst hc
      rw [a2]
      refine Xo.op (n:=fb+9) (v:=.bool false) (H':=H) (by simp [evalOp,gv,setDst,Tree.get_set,nthV]) (Xo.nil (n:=fb+8) ?_)
      refine Xc.seq (n:=fb+11) (Xc.condF (n:=fb+10) (by simp [gv,setDst,Tree.get_set]) (Xc.exit (n:=fb+9) ?_))
      refine ⟨by trivial,fin seen env H hI fun e he=>?_⟩
      apply Classical.byContradiction
      intro hne
      have:e∈unseen es seen:=List.mem_filter.2 ⟨he,by simpa using hne⟩
      rw [hnil] at this;cases this
    | succ k ih =>
      intro seen env H hI hk
      obtain ⟨h1,h2,h3⟩:=hit seen env H hI
      obtain ⟨aft,a1,a2,a3⟩:=nextMapV_eq h2 h3 hlt
      refine Xc.loop (n:=fb+14+k) ?_
      refine Xc.mono (n:=fb+14) (K:=fun j fr H=>match j with
        | .none=>exec False allAsk tbl (fb+14+k) (.loop (.seq (.region [⟨some tup,.nextMap (.t it),none,[],[]⟩,⟨some ok,.extract (.t tup) 0,none,[],[]⟩])
            (.seq (.cond (.t ok) .skip (.exit bid)) (.block cid (.seq (.region [⟨some et,.entryMap (.t it),none,[],[]⟩,⟨some ex,.extract (.t et) 0,none,[],[]⟩,⟨some kv,.mov (.t ex),none,[],[]⟩]) body))))) fr H fun j fr H=>j=.exit bid∧K .none fr H
        | j=>j=.exit bid∧K .none fr H) (by omega) (fun _ _ _ h=>h) ?_
      refine Xc.seq (n:=fb+13) (Xc.region (n:=fb+12) (Xo.next (n:=fb+11) (by rw [show gv env (.t it)=env.get .undef it from rfl,h1];exact a1) ?_))
      intro c hc
      cases c with
      | none =>
        have hnil:unseen es seen=[]:=by
          cases hu:unseen es seen with
          | nil=>rfl
          | cons a l=>rw [hu] at hc;simp at hc
        rw [a2]
        refine Xo.op (n:=fb+10) (v:=.bool false) (H':=H) (by simp [evalOp,gv,setDst,Tree.get_set,nthV]) (Xo.nil (n:=fb+9) ?_)
        refine Xc.seq (n:=fb+12) (Xc.condF (n:=fb+11) (by simp [gv,setDst,Tree.get_set]) (Xc.exit (n:=fb+10) ?_))
        refine ⟨by trivial,fin seen env H hI fun e he=>?_⟩
        apply Classical.byContradiction
        intro hne
        have:e∈unseen es seen:=List.mem_filter.2 ⟨he,by simpa using hne⟩
        rw [hnil] at this;cases this
      | some e =>
        have hmem:e∈unseen es seen:=by
          rw [List.mem_append] at hc
          rcases hc with hc | hc
          · split at hc<;>simp at hc
          · rw [List.mem_map] at hc
            obtain ⟨x,hx,e'⟩:=hc
            injection e' with e';subst e';exact hx
        have hes:e∈es:=(List.mem_filter.1 hmem).1
        have hns:e.born∉seen:=by have:=(List.mem_filter.1 hmem).2;simpa using this
        rw [a3]
        refine Xo.op (n:=fb+10) (v:=.bool true) (H':=H.set id (.mapIter (some m) clock (seen++[e.born]) clock)) (by simp [evalOp,gv,setDst,Tree.get_set,nthV]) (Xo.nil (n:=fb+9) ?_)
        refine Xc.seq (n:=fb+12) (Xc.condT (n:=fb+11) (by simp [gv,setDst,Tree.get_set]) (Xc.skip (n:=fb+10) ?_))
        refine Xc.block (n:=fb+11) ?_
        obtain ⟨i,hfi,hge⟩:=findBorn_mem 0 hes hb
        rw [Nat.zero_add] at hfi
        have him:id≠m:=fun e=>by rw [e,h3] at h2;cases h2
        have hg1:(H.set id (.mapIter (some m) clock (seen++[e.born]) clock)).get id=.mapIter (some m) clock (seen++[e.born]) clock:=by rw [Heap.get_set,if_pos rfl]
        have hg2:(H.set id (.mapIter (some m) clock (seen++[e.born]) clock)).get m=.map es clock:=by rw [Heap.get_set,if_neg (fun h=>him h.symm)];exact h3
        refine Xc.seq (n:=fb+10) (Xc.region (n:=fb+9) ?_)
        refine Xo.op (n:=fb+8) (v:=.tuple [e.key,e.val]) (H':=H.set id (.mapIter (some m) clock (seen++[e.born]) clock)) ?_ ?_
        · simp only [evalOp,gv,setDst,Tree.get_set,if_neg d2,if_neg d1,h1,hg1,hg2,List.getLast?_append,List.getLast?_singleton,Option.some_or,Nat.beq_refl,if_true,hfi,hge]
        refine Xo.op (n:=fb+7) (v:=e.key) (H':=H.set id (.mapIter (some m) clock (seen++[e.born]) clock)) (by simp [evalOp,gv,setDst,Tree.get_set,nthV]) ?_
        refine Xo.op (n:=fb+6) (v:=e.key) (H':=H.set id (.mapIter (some m) clock (seen++[e.born]) clock)) (by simp [evalOp,gv,setDst,Tree.get_set]) (Xo.nil (n:=fb+5) ?_)
        refine Xc.mono (n:=fb) (m:=fb+10) (by omega) ?_ (step seen env H e hI hes hns)
        rintro j fr H' ⟨rfl,q1,q2,q3⟩
        have hfr:fr=⟨fr.env,marks,rnd⟩:=by cases fr;simp only at q1 q2;subst q1;subst q2;rfl
        rw [hfr]
        refine ih (seen++[e.born]) fr.env H' q3 ?_
        have:=unseen_next hmem
        omega
  intro k seen env H hI hk
  rw [show fb+15+k=fb+14+k+1 by omega]
  unfold mapLoop
  refine Xc.block (n:=fb+14+k) (Xc.mono (Nat.le_refl _) ?_ (main k seen env H hI hk))
  rintro j fr H ⟨rfl,h⟩
  simp only [Nat.beq_refl,if_true]
  exact h
end Go.Abs
