/- A part of the proof (an abstract machine, walks): no statement of its own, no conditions. -/
import Derived.Test.YtndbmjcpgefblaaGreatDoorA10
set_option linter.all false
namespace Go.Abs
variable [Ov]
variable {P:Program}
abbrev allAsk:Nat→(Nat→Prop)→Prop:=fun n k=>∀ i,i<n→k i
def Comes' (P:Program) (Wr:Acc) (ρ:Names) (w:World) (s:Sem Next) (fr:Frame) (cs:List Frame) (K:AV→Heap→Prop):Prop :=
  ∃ v H' c w' fr1 cs1 w1,K v H'∧Post P Wr ρ w v H' c w' ∧
    (stepG.apply P true fr cs none s w).bare=.go { frame:=fr1,callers:=cs1,status:=.running,dying:=none } w1∧Steps P (lone fr1 cs1 w1) (lone (fr.finish c) cs w')
def PrimOk (P:Program) (f:FuncId) (g:List AV→Heap→Option (AV × Heap)):Prop :=
  ∀ {Wr:Acc} {ρ:Names} {H H':Heap} {w:World} {args:List AV} {v:AV} {argv:Array Value},g args H=some (v,H')→VRs ρ args argv.toList→Inv P Wr ρ H w→∀ (fr:Frame) (cs:List Frame),atCall fr →
    Comes' P Wr ρ w (callFunc f argv) fr cs fun v' H''=>v'=v∧H''=H'
def CallOk (P:Program) (tbl:Nat→AFunc) (n:Nat):Prop :=
  ∀ {Wr:Acc} {ρ:Names} {H:Heap} {w:World} {fa:AV} {args:List AV} {K:AV→Heap→Prop} {fv:Value} {argv:Array Value},callV False allAsk tbl n fa args H K→VR ρ fa fv→VRs ρ args argv.toList→Inv P Wr ρ H w →
    ∀ (fr:Frame) (cs:List Frame),atCall fr→Comes' P Wr ρ w (Invoked fv argv) fr cs K
def Ends (P:Program) (Wr:Acc) (ρ:Names) (nt:Nat) (w:World) (b:Frame) (k:List Item) (cs:List Frame) (m:Machine) (K:AJump→Fr→Heap→Prop):Prop :=
  ∃ j fr' H' ρ' a' w' t,K j fr' H'∧Ext ρ ρ'∧FrR ρ' nt fr' b.roundOf a'∧Inv P Wr ρ' H' w'∧Kept Wr w w'∧Landed k j t∧Steps P m (lone (b.atR a' t) cs w')
def OverOk (P:Program) (t:Nat) (g:Tree AV→Heap→Option (Tree AV × Heap)):Prop :=
  ∀ {Wr:Acc} {ρ:Names} {H H':Heap} {w:World} {nt:Nat} {fr:Fr} {c1 c2:Code} {x y:ACode} {env':Tree AV} {b:Frame} {a:Act},cCode P nt c1=some x→cCode P nt c2=some y→Ov.code t=.seq x y→g fr.env H=some (env',H')→FrR ρ nt fr b.roundOf a→Inv P Wr ρ H w →
    ∀ (k:List Item) (cs:List Frame),Ends P Wr ρ nt w b k cs (lone (b.atR a (.code (.seq c1 c2)::k)) cs w) fun j fr1 H1=>j=.none∧fr1={ fr with env:=env' }∧H1=H'
structure TblOk (P:Program) (tbl:Nat→AFunc):Prop where
  code:∀ f nt rs body,tbl f=.code nt rs body→∃ fn,P.funcs[f]?=some fn∧cFunc P fn=some (.code nt rs body)∧(fn.name== "runtime.NumGoroutine")=false
  prim:∀ f g,tbl f=.prim g→PrimOk P f g
  over:∀ t g,tbl t=.over g→OverOk P t g
def ExecOk (P:Program) (tbl:Nat→AFunc) (n:Nat):Prop :=
  ∀ {Wr:Acc} {ρ:Names} {H:Heap} {w:World} {nt:Nat} {fr:Fr} {c:ACode} {cc:Code} {K:AJump→Fr→Heap→Prop} {b:Frame} {a:Act},cCode P nt cc=some c→exec False allAsk tbl n c fr H K→FrR ρ nt fr b.roundOf a→Inv P Wr ρ H w →
    ∀ (k:List Item) (cs:List Frame),Ends P Wr ρ nt w b k cs (lone (b.atR a (.code cc::k)) cs w) K
def OpsR (P:Program) (nt:Nat) (ops:Array Oper):List Nat→List AOper→Prop
  | [],[]=>True
  | i::is,x::l=>(∃ o,ops[i]?=some o∧cOper P nt ops o=some x)∧OpsR P nt ops is l
  | _,_=>False
def OpsOk (P:Program) (tbl:Nat→AFunc) (n:Nat):Prop :=
  ∀ {Wr:Acc} {ρ:Names} {H:Heap} {w:World} {nt:Nat} {fr:Fr} {l:List AOper} {is:List Nat} {ops:Array Oper} {K:Fr→Heap→Prop} {b:Frame} {a:Act},OpsR P nt ops is l→Go.Abs.ops False allAsk tbl n l fr H K→FrR ρ nt fr b.roundOf a→Inv P Wr ρ H w →
    ∀ (k:List Item) (cs:List Frame),Ends P Wr ρ nt w b k cs (lone (b.atR a (.inRegion ops is::k)) cs w) fun j fr H=>(match j with | .none=>True | _=>False)∧K fr H
theorem Ends.of_steps {Wr:Acc} {ρ:Names} {nt:Nat} {w:World} {b:Frame} {k:List Item} {cs:List Frame} {m m':Machine} {K:AJump→Fr→Heap→Prop} (h:Steps P m m') (h':Ends P Wr ρ nt w b k cs m' K):Ends P Wr ρ nt w b k cs m K:=by
  obtain ⟨j,fr',H',ρ',a',w',t,h1,h2,h3,h4,h5,h6,h7⟩:=h'
  exact ⟨j,fr',H',ρ',a',w',t,h1,h2,h3,h4,h5,h6,h.trans h7⟩
theorem Ends.later {Wr:Acc} {ρ ρ1:Names} {nt:Nat} {w w1:World} {b:Frame} {k:List Item} {cs:List Frame} {m:Machine} {K:AJump→Fr→Heap→Prop} (he:Ext ρ ρ1) (hk:Kept Wr w w1) (h':Ends P Wr ρ1 nt w1 b k cs m K):Ends P Wr ρ nt w b k cs m K:=by
  obtain ⟨j,fr',H',ρ',a',w',t,h1,h2,h3,h4,h5,h6,h7⟩:=h'
  exact ⟨j,fr',H',ρ',a',w',t,h1,he.trans h2,h3,h4,hk.trans h5,h6,h7⟩
theorem Ends.mono {Wr:Acc} {ρ:Names} {nt:Nat} {w:World} {b:Frame} {k:List Item} {cs:List Frame} {m:Machine} {K K':AJump→Fr→Heap→Prop} (h':Ends P Wr ρ nt w b k cs m K) (hk:∀ j fr H,K j fr H→K' j fr H):Ends P Wr ρ nt w b k cs m K':=by
  obtain ⟨j,fr',H',ρ',a',w',t,h1,h2⟩:=h'
  exact ⟨j,fr',H',ρ',a',w',t,hk _ _ _ h1,h2⟩
theorem FrR.put {ρ:Names} {nt:Nat} {fr:Fr} {ro:Option Nat} {a:Act} (h:FrR ρ nt fr ro a) {v:AV} {c:Value} (hv:VR ρ v c) (d:Option Tmp):FrR ρ nt { fr with env:=setDst fr.env (d.map Pos.slot) v } ro (a.put d c):=by
  cases d with
  | none=>exact ⟨h.E,h.D,h.R⟩
  | some d=>exact ⟨h.E.set hv,h.D,h.R⟩
theorem cOper_inv {nt:Nat} {ops:Array Oper} {o:Oper} {x:AOper} (h:cOper P nt ops o=some x) :
    x.dst=o.dst.map Pos.slot∧x.hide=[]∧x.re=[]∧x.op=(if ((cOp P nt o).getD .stop).isCall&&!isVCall o.op then .stop else (cOp P nt o).getD .stop) ∧
      ((o.guard=none∧x.guard=none)∨∃ j want g d,o.guard=some (j,want)∧ops[j]?=some g∧g.dst=some d∧d<nt∧x.guard=some (Pos.slot d,want)):=by
  unfold cOper at h
  simp only at h
  split at h
  · rename_i d g hd hg
    injection h with h
    subst h
    refine ⟨?_,rfl,rfl,rfl,?_⟩
    · unfold cDst at hd
      split at hd
      · rename_i d0 ho
        split at hd
        · simp only [Option.some.injEq] at hd;rw [← hd,ho];rfl
        · cases hd
      · rename_i ho
        simp only [Option.some.injEq] at hd;rw [← hd,ho];rfl
    · unfold cGuard at hg
      split at hg
      · rename_i ho
        simp only [Option.some.injEq] at hg;exact .inl ⟨ho,hg.symm⟩
      · rename_i j want ho
        split at hg
        · rename_i d0 hd0
          rw [Option.bind_eq_some_iff] at hd0
          obtain ⟨g',hg',hd0⟩:=hd0
          split at hg
          · rename_i hlt
            simp only [Option.some.injEq] at hg
            exact .inr ⟨j,want,g',d0,ho,hg',hd0,hlt,hg.symm⟩
          · cases hg
        · cases hg
  · cases h
theorem guardOk_defd {env:Tree AV} {g:Option (Pos × Bool)} (h:guardOk env g=true):guardDefd env g=true:=by
  cases g with
  | none=>rfl
  | some g =>
    obtain ⟨p,b⟩:=g
    simp only [guardOk] at h
    simp only [guardDefd]
    split at h
    · rename_i he;rw [he];rfl
    · cases h
theorem guard_sound {ρ:Names} {nt:Nat} {fr:Fr} {ro:Option Nat} {a:Act} (h:FrR ρ nt fr ro a) {ops:Array Oper} {o:Oper} {x:AOper} (hx:cOper P nt ops o=some x) (hdf:guardDefd fr.env x.guard=true):Region.wanted o (yielded ops a.tmps)=guardOk fr.env x.guard:=by
  obtain ⟨_,_,_,_,hg⟩:=cOper_inv hx
  rcases hg with ⟨h1,h2⟩ | ⟨j,want,g,d,h1,h2,h3,h4,h5⟩
  · rw [h2];simp [Region.wanted,h1,guardOk]
  · rw [h5] at hdf ⊢
    simp only [guardDefd] at hdf
    have hv:=h.E.2 d h4
    have hs:d<a.tmps.size:=by rw [h.E.1];exact h4
    have hy:a.tmps[d]?=some (a.tmps.getD d undef):=by rw [Array.getD_eq_getD_getElem?,getElem?_pos a.tmps d hs];rfl
    simp only [Region.wanted,h1,yielded,h2,h3,Option.bind_some,hy,guardOk]
    cases he:fr.env.get .undef (Pos.slot d) with
    | bool q =>
      rw [he] at hv
      rw [hv.bool_inv]
      cases q<;>cases want<;>rfl
    | junk=>rw [he] at hdf;simp [AV.defd] at hdf
    | _ =>
      rw [he] at hv
      cases ht:a.tmps.getD d undef<;>rw [ht] at hv<;>first | rfl | (simp [VR] at hv;done)
end Go.Abs
namespace Go.Abs
variable [Ov]
variable {P:Program}
theorem Ends.ops_end {Wr:Acc} {ρ:Names} {H:Heap} {w:World} {nt:Nat} {fr:Fr} {K:AJump→Fr→Heap→Prop} {b:Frame} {a:Act} (hF:FrR ρ nt fr b.roundOf a) (hI:Inv P Wr ρ H w) (h:K .none fr H) (k:List Item) (cs:List Frame) :
    Ends P Wr ρ nt w b k cs (lone (b.atR a k) cs w) K :=
  ⟨.none,fr,H,ρ,a,w,k,h,Ext.refl ρ,hF,hI,Kept.refl Wr w,rfl,Steps.refl _ _⟩
theorem op_call {nt:Nat} {o:Oper} {f:Opd} {args:List Opd} (hv:isVCall o.op=true) (hc:cOp P nt o=some (.call f args)):∃ c g,o.op=.call c∧c.callee=.value g∧cOpd P nt g=some f∧cOpds P nt c.args=some args:=by
  unfold isVCall at hv
  split at hv
  · rename_i c ho
    split at hv
    · rename_i g hg
      simp only [cOp,ho,hg,Option.bind_eq_bind,Option.bind_eq_some_iff,Option.pure_def,Option.some.injEq] at hc
      obtain ⟨f',h1,args',h2,h3⟩:=hc
      injection h3 with e1 e2
      subst e1;subst e2
      exact ⟨c,g,ho,hg,h1,h2⟩
    · cases hv
  · cases hv
theorem no_defer {nt:Nat} {o:Oper} {x:AOp} (hc:cOp P nt o=some x):∀ c,o.op≠.defer c:=by
  intro c e
  simp [cOp,e] at hc
theorem ops_step {tbl:Nat→AFunc} {n:Nat} (hcall:CallOk P tbl n) (hops:OpsOk P tbl n):OpsOk P tbl (n+1):=by
  intro Wr ρ H w nt fr l is ops K b a hR he hF hI k cs
  cases l with
  | nil =>
    cases is with
    | cons i is=>simp [OpsR] at hR
    | nil =>
      simp only [Go.Abs.ops] at he
      exact .of_steps (.one stepR_region_end) (.ops_end hF hI ⟨trivial,he⟩ k cs)
  | cons x l =>
    cases is with
    | nil=>simp [OpsR] at hR
    | cons i is =>
      simp only [OpsR] at hR
      obtain ⟨⟨o,hio,hx⟩,hR⟩:=hR
      obtain ⟨xd,xh,xr,xo,_⟩:=cOper_inv hx
      have hg:=guard_sound hF hx
      have after:∀ {ρ':Names} {H':Heap} {w':World} {v:AV} {c:Value},Ext ρ ρ'→VR ρ' v c→Inv P Wr ρ' H' w'→Kept Wr w w' →
          Steps P (lone (b.atR a (.inRegion ops (i::is)::k)) cs w) (lone (b.atR (a.put o.dst c) (.inRegion ops is::k)) cs w') →
          Go.Abs.ops False allAsk tbl n l { fr with env:=setDst fr.env x.dst v } H' K →
          Ends P Wr ρ nt w b k cs (lone (b.atR a (.inRegion ops (i::is)::k)) cs w) fun j fr H=>(match j with | .none=>True | _=>False)∧K fr H:=by
        intro ρ' H' w' v c hext hv hI' hK hs he'
        have hF':=(hF.mono hext).put hv o.dst
        rw [← xd] at hF'
        exact .later hext hK (.of_steps hs (hops hR he' hF' hI' k cs))
      have hfin:∀ c,(b.atR a (.inRegion ops (i::is)::k)).finish c=b.atR (a.put o.dst c) (.inRegion ops is::k):=by
        intro c;rw [Frame.finish_atR,hio];rfl
      simp only [Go.Abs.ops,xh,xr,hideAll,showAll,recheck,if_true] at he
      cases hgo:guardOk fr.env x.guard with
      | false =>
        rw [hgo] at he hg
        simp only [Bool.false_eq_true,if_false] at he
        split at he
        case isFalse=>exact he.elim
        rename_i hdf
        have hg:=hg hdf
        have hst:=stepR_op_skip (P:=P) (b:=b) (a:=a) (k:=k) (cs:=cs) (w:=w) (ops:=ops) (i:=i) (rest:=is) (by simp [hio,hg])
        rw [hio] at hst
        exact after (Ext.refl ρ) (VR.undef ρ) hI (Kept.refl Wr w) (.one hst) he
      | true =>
        have hg:=hg (guardOk_defd hgo)
        rw [hgo] at he hg
        simp only [if_true] at he
        have hstep:=stepGR_op (P:=P) (b:=b) (a:=a) (k:=k) (cs:=cs) (w:=w) (rest:=is) hio hg
        have plain:∀ {v:AV} {H':Heap},evalOp x.op fr.env H=some (v,H')→Go.Abs.ops False allAsk tbl n l { fr with env:=setDst fr.env x.dst v } H' K →
            Ends P Wr ρ nt w b k cs (lone (b.atR a (.inRegion ops (i::is)::k)) cs w) fun j fr H=>(match j with | .none=>True | _=>False)∧K fr H:=by
          intro v H' hev he'
          have hcop:cOp P nt o=some x.op:=by
            rw [xo] at hev
            rw [xo]
            split at hev
            · simp [evalOp] at hev
            · rename_i hn
              rw [if_neg hn]
              cases hc:cOp P nt o with
              | none=>rw [hc] at hev;simp [evalOp] at hev
              | some q=>rfl
          rw [Oper.semAt_eq _ _ _ (no_defer hcop)] at hstep
          obtain ⟨c,w',hrun,ρ',hext,hv,hI',hK⟩:=ok_op (Ctx.mk hF.E hI) hcop hev
          refine after hext hv hI' hK (.one (step_lone_go ?_)) he'
          rw [hstep,← hfin]
          rcases hrun with hr | ⟨hr,rfl⟩
          · exact apply_value hr
          · exact apply_skip hr
        split at he
        ·
          rename_i f args hop
          have hcall':cOp P nt o=some (.call f args)∧isVCall o.op=true:=by
            rw [xo] at hop
            split at hop
            · cases hop
            · rename_i hn
              rw [hop] at hn
              simp only [AOp.isCall,Bool.true_and,Bool.not_eq_true',Bool.not_eq_false] at hn
              refine ⟨?_,hn⟩
              cases hc:cOp P nt o with
              | none=>rw [hc] at hop;cases hop
              | some q=>rw [hc] at hop;simp only [Option.getD_some] at hop;rw [hop]
          obtain ⟨c,g,ho,hg',h1,h2⟩:=op_call hcall'.2 hcall'.1
          rw [Oper.semAt_eq _ _ _ (no_defer hcall'.1)] at hstep
          have hsem:execOp a.eval o=Invoked (a.eval g) (c.args.map a.eval):=by
            simp only [execOp,ho,resolve,hg',Invoked]
          rw [hsem] at hstep
          have hargs:VRs ρ (args.map (gv fr.env)) (c.args.map a.eval).toList:=by
            rw [Array.toList_map];exact gvs_sound hF.E hI h2
          obtain ⟨v,H',c',w',fr1,cs1,w1,hK,⟨ρ',hext,hv,hI',hKept⟩,hb,hs⟩:=hcall he (gv_sound h1 hF.E hI) hargs hI (b.atR a (.inRegion ops (i::is)::k)) cs (by simp [atCall,Frame.atR])
          refine after hext hv hI' hKept ?_ hK
          rw [← hfin]
          exact .head (step_lone_go (by rw [hstep];exact hb)) hs
        ·
          rename_i it hop
          have hcop:cOp P nt o=some (.nextMap it):=by
            rw [xo] at hop
            split at hop
            · cases hop
            · cases hc:cOp P nt o with
              | none=>rw [hc] at hop;cases hop
              | some q=>rw [hc] at hop;simp only [Option.getD_some] at hop;rw [hop]
          split at he
          · rename_i cands aft hn
            obtain ⟨j,cd,hj,hcd,c,w',hrun,ρ',hext,hv,hI',hK⟩:=ok_nextMap (Ctx.mk hF.E hI) hcop hn
            have he:=he j hj
            simp only [hcd] at he
            rw [Oper.semAt_eq _ _ _ (no_defer hcop)] at hstep
            refine after hext hv hI' hK (.one (step_lone_go ?_)) he
            rw [hstep,← hfin]
            rcases hrun with hr | ⟨hr,rfl⟩
            · exact apply_value hr
            · exact apply_skip hr
          · exact he.elim
        · split at he
          · rename_i v H' hev
            exact plain hev he
          · exact he.elim
end Go.Abs
namespace Go.Abs
variable [Ov]
variable {P:Program}
def DrawOk (P:Program) (tbl:Nat→AFunc) (n:Nat):Prop :=
  ∀ {Wr:Acc} {ρ:Names} {H:Heap} {w:World} {nt:Nat} {fr:Fr} {l:List AOper} {id:Nat} {ops:Array Oper} {K:Fr→Heap→Prop} {b:Frame} {a:Act},cRegion P nt ops true=some l→Go.Abs.ops False allAsk tbl n l fr H K→FrR ρ nt fr b.roundOf a→Inv P Wr ρ H w →
    ∀ (k:List Item) (cs:List Frame),Ends P Wr ρ nt w b k cs (lone (b.atR a (.code (.region id ops true)::k)) cs w) fun j fr H=>(match j with | .none=>True | _=>False)∧K fr H
theorem Landed.pass {x:Item} (hx:∀ id k,exitTo id (x::k)=exitTo id k) {k:List Item} {j:AJump} {t:List Item} (hj:match j with | .none=>False | _=>True) (h:Landed (x::k) j t):Landed k j t:=by
  cases j with
  | none=>exact hj.elim
  | exit id=>obtain ⟨k0,h1,h2⟩:=h;exact ⟨k0,h1,h2.trans (hx id k)⟩
  | ret=>exact h
theorem region_R {nt:Nat} {ops:Array Oper} {l:List AOper} (h:cRegion P nt ops false=some l):OpsR P nt ops (List.range ops.size) l:=by
  simp only [cRegion,Option.bind_eq_bind,Option.bind_eq_some_iff,Bool.not_false,if_true,Option.pure_def,Option.some.injEq] at h
  obtain ⟨l',h,rfl⟩:=h
  have key:∀ (pre rest:List Oper) (l:List AOper),ops.toList=pre++rest→rest.mapM (cOper P nt ops)=some l→OpsR P nt ops (List.range' pre.length rest.length) l:=by
    intro pre rest
    induction rest generalizing pre with
    | nil=>intro l _ h;simp at h;subst h;simp [OpsR]
    | cons o rest ih =>
      intro l hp h
      simp only [List.mapM_cons,Option.bind_eq_bind,Option.bind_eq_some_iff,Option.pure_def,Option.some.injEq] at h
      obtain ⟨x,hx,l',hl',rfl⟩:=h
      simp only [List.length_cons,List.range'_succ,OpsR]
      refine ⟨⟨o,?_,hx⟩,?_⟩
      · rw [← Array.getElem?_toList,hp];simp
      · have:=ih (pre++[o]) l' (by rw [hp];simp) hl'
        simpa using this
  have:=key [] ops.toList l' rfl h
  rw [List.range_eq_range']
  simpa using this
section
variable {b:Frame} {a:Act} {k:List Item} {cs:List Frame} {w:World}
theorem stepR_scope {c:Code}:step P (lone (b.atR a (.code (.scope c)::k)) cs w)=.next (lone (b.atR a (.code c::.inScope c::k)) cs w) :=
  step_lone_go (by simp [stepG,stepG.exec,Frame.atR])
theorem stepR_inScope {c:Code}:step P (lone (b.atR a (.inScope c::k)) cs w)=.next (lone (b.atR a k) cs w) :=
  step_lone_go (by simp [stepG,stepG.exec,Frame.atR])
end
theorem loop_block {Wr:Acc} {ρ:Names} {H:Heap} {w:World} (hI:Inv P Wr ρ H w) {l:Pos} {st:AState} {pend:AJump} {fn:Nat} {env:Tree AV} {ps:List Pos} {as bd:ACode} {d:Pos} (hl:H.get l=.loop st pend fn env ps as bd d) {b:Nat} {x:Nat} (hb:ρ l=some (b,x)) :
    ∃ r,x=0∧w.heap[b]?=some (.loop r)∧StR st r.state∧PendR pend r.pending∧ρ d=some (r.defers,0)∧r.params.toList.map Pos.slot=ps ∧
      ∃ nt,ERel ρ nt env r.tmps∧(∀ p∈r.params.toList,p<nt)∧cCode P nt r.assign=some as∧cCode P nt r.body=some bd:=by
  obtain ⟨b',x',ob,e,hlt,hob,hor⟩:=hI.blk (i:=l) (by rw [hl];simp)
  rw [hb] at e;injection e with e;injection e with e1 e2;subst e1;subst e2
  rw [hl] at hor
  cases ob<;>simp only [OR] at hor
  exact ⟨_,hor.1,hob,hor.2⟩
theorem run_getLoop {b:Nat} {r:Loop} {w:World} (h:w.heap[b]?=some (.loop r)):(Instr.getLoop b).run P w=.ok r w:=by
  simp only [Instr.getLoop,Sem.run_bind,run_getObj' h (fun _ _ _=>by simp),Result.andThen_ok,Sem.run_pure]
theorem loop_set {Wr:Acc} {ρ:Names} {H:Heap} {w:World} (hI:Inv P Wr ρ H w) {l:Pos} {st:AState} {pend:AJump} {fn:Nat} {env:Tree AV} {ps:List Pos} {as bd:ACode} {d:Pos} (hl:H.get l=.loop st pend fn env ps as bd d) {b:Nat} (hb:ρ l=some (b,0)) {r:Loop} (hr:w.heap[b]?=some (.loop r))
    {st':AState} {pend':AJump} {s':LoopState} {p':Option Code} (h1:StR st' s') (h2:PendR pend' p') (fn':Nat) :
    (setObj b (.loop { r with state:=s',pending:=p' })).run P w=.ok () { w with heap:=w.heap.setIfInBounds b (.loop { r with state:=s',pending:=p' }) } ∧
      Inv P Wr ρ (H.set l (.loop st' pend' fn' env ps as bd d)) { w with heap:=w.heap.setIfInBounds b (.loop { r with state:=s',pending:=p' }) }∧Kept Wr w { w with heap:=w.heap.setIfInBounds b (.loop { r with state:=s',pending:=p' }) }:=by
  obtain ⟨r',_,hr',g1,g2,g3,g4,g5⟩:=loop_block hI hl hb
  rw [hr] at hr';injection hr' with hr';injection hr' with hr';subst hr'
  have hne:H.get l≠.none:=by rw [hl];simp
  have hu:=hI.update (i:=l) (o':=.loop st' pend' fn' env ps as bd d) (ob':=.loop { r with state:=s',pending:=p' }) hne (by rw [hl];rfl) hb rfl (by simp only [OR];exact ⟨trivial,h1,h2,g3,g4,g5⟩) (by simp [InfoR])
    (w':={ w with heap:=w.heap.setIfInBounds b (.loop { r with state:=s',pending:=p' }) }) rfl rfl rfl rfl
  rw [hl] at hu
  exact ⟨run_setObj w hr (fun _ _ _=>by simp) _,hu.1,hu.2⟩
end Go.Abs
namespace Go.Abs
variable [Ov]
variable {P:Program}
theorem exec_rangeFunc {tbl:Nat→AFunc} {n:Nat} (hcall:CallOk P tbl n) {Wr:Acc} {ρ:Names} {H:Heap} {w:World} {nt:Nat} {fr:Fr} {f:Operand} {of:Opd} {ps:Array Tmp} {as bd:Code} {oas obd:ACode} {K:AJump→Fr→Heap→Prop} {b:Frame} {a:Act}
    (hf:cOpd P nt f=some of) (has:cCode P nt as=some oas) (hbd:cCode P nt bd=some obd) (hps:∀ p∈ps.toList,p<nt)
    (he:exec False allAsk tbl (n+1) (.rangeFunc of (ps.toList.map Pos.slot) oas obd) fr H K) (hF:FrR ρ nt fr b.roundOf a) (hI:Inv P Wr ρ H w) (k:List Item) (cs:List Frame) :
    Ends P Wr ρ nt w b k cs (lone (b.atR a (.code (.rangeFunc f ps as bd)::k)) cs w) K:=by
  have main:∀ {ρ1:Names} {H1:Heap} {w1:World} {fr1:Fr} {mark:List Deferred} {d:Pos} {bd':Nat},Ext ρ ρ1→Kept Wr w w1→Inv P Wr ρ1 H1 w1→FrR ρ1 nt fr1 b.roundOf { a with defers:=mark++a.defers }→ρ1 d=some (bd',0)→fr1.env=fr.env →
      (Instr.enterLoop b.fn a.tmps ps as bd b.roundOf).run P w=.ok (w1.heap.size,mark) { w1 with heap:=w1.heap.push (.loop { state:=.ready,pending:=none,fn:=b.fn,tmps:=a.tmps,params:=ps,assign:=as,body:=bd,defers:=bd' }) } →
      (callV False allAsk tbl n (gv fr1.env of) [.yield H1.next] (H1.new (.loop .ready .none 0 fr1.env (ps.toList.map Pos.slot) oas obd d)) fun _ H' =>
          match H'.get H1.next with
          | .loop st pend fn env ps as bd d =>
            match st with
            | .busy=>False
            | _=>K pend fr1 (H'.set H1.next (.loop .exhausted pend fn env ps as bd d))
          | _=>False) →
      Ends P Wr ρ nt w b k cs (lone (b.atR a (.code (.rangeFunc f ps as bd)::k)) cs w) K:=by
    intro ρ1 H1 w1 fr1 mark d bd' hext hK1 hI1 hF1 hd henv hent hcv
    have hdom:∀ j c y,ρ1 j=some (c,y)→c=w1.heap.size→ρ1.k w1.heap.size=(0,0):=fun j c y e hc=>by have:=hI1.dom j c y e;omega
    have hext2:Ext ρ1 (ρ1.add H1.next w1.heap.size 0 (0,0)):=Names.add_ext _ _ _ (hI1.fresh _ (Nat.le_refl _)).2 hdom
    obtain ⟨q1,q2,q3⟩:=hI1.alloc (o:=.loop .ready .none 0 fr1.env (ps.toList.map Pos.slot) oas obd d)
      (ob:=.loop { state:=.ready,pending:=none,fn:=b.fn,tmps:=a.tmps,params:=ps,assign:=as,body:=bd,defers:=bd' }) (0,0) (by simp [InfoR]) (by simp) rfl (by
        simp only [OR]
        exact ⟨trivial,by simp [StR],by simp [PendR],(hext2 _ _ hd).1,by trivial,nt,by rw [henv];exact (hF.E.mono hext).mono hext2,hps,has,hbd⟩)
    have hfv:VR (ρ1.add H1.next w1.heap.size 0 (0,0)) (gv fr1.env of) (a.eval f):=gv_sound (a:={ a with defers:=mark++a.defers }) hf (hF1.E.mono q1) q2
    obtain ⟨v,H',c,w',fr2,cs2,w2,hK,⟨ρ',hext3,hv,hI',hKept⟩,hb,hs⟩:=hcall hcv hfv (args:=[.yield H1.next]) (argv:=#[.func (.yield w1.heap.size) #[] #[]]) (by simp only [VRs,VR];exact ⟨⟨Names.add_same ..,by trivial,by trivial⟩,trivial⟩) q2
      (b.atR { a with defers:=mark++a.defers } (.inRangeFunc w1.heap.size::k)) cs (by simp [atCall,Frame.atR])
    rw [finish_atR_inRangeFunc] at hs
    split at hK
    · rename_i st pend fn env ps' as' bd2 d' hl
      have hname:=(hext3 _ _ (Names.add_same ρ1 H1.next w1.heap.size 0 (0,0))).1
      obtain ⟨r,_,hr,g1,g2,_⟩:=loop_block hI' hl hname
      have hnb:st≠.busy∧K pend fr1 (H'.set H1.next (.loop .exhausted pend fn env ps' as' bd2 d')):=by
        cases st<;>first | exact hK.elim | exact ⟨by simp,hK⟩
      obtain ⟨s1,s2,s3⟩:=loop_set hI' hl hname hr (st':=.exhausted) (s':=.exhausted) (pend':=pend) (p':=r.pending) (by simp [StR]) g2 fn
      have hend:(Instr.endLoop w1.heap.size).run P w'=.ok r.pending { w' with heap:=w'.heap.setIfInBounds w1.heap.size (.loop { r with state:=.exhausted,pending:=r.pending }) }:=by
        have hst:(r.state==.busy)=false:=by
          cases hs:r.state<;>rw [hs] at g1<;>cases st<;>simp_all [StR]
        simp only [Instr.endLoop,Sem.run_bind,run_getLoop hr,Result.andThen_ok,hst,Bool.false_eq_true,if_false,Sem.run_pure]
        have:(setObj w1.heap.size (.loop { r with state:=.exhausted })).run P w'=_:=s1
        rw [this];rfl
      have hstep1:step P (lone (b.atR a (.code (.rangeFunc f ps as bd)::k)) cs w)=.next (lone fr2 cs2 w2):=by
        refine step_lone_go ?_
        rw [← hb]
        have hev:=Frame.eval_atR b { a with defers:=mark++a.defers } (.inRangeFunc w1.heap.size::k)
        simp only [Frame.atR] at hev
        have hev2:(({ a with defers:=mark++a.defers }:Act)).eval=a.eval:=by funext x;cases x<;>rfl
        rw [hev2] at hev
        have hinv:(do let d ← resolve a.eval { callee:=.value f,args:=#[.const (.func (.yield w1.heap.size) #[] #[])],argTypes:=#[] } 0;invoke d.target d.args)=Invoked (a.eval f) #[.func (.yield w1.heap.size) #[] #[]]:=by
          simp [Invoked,resolve,Act.eval]
        simp only [stepG,stepG.exec,Frame.atR,Sem.runT_eq,hent,GStep.bare_after,hev,hinv]
      have hland:Landed k pend ((r.pending.map Item.code).toList++k):=by
        cases hp:r.pending with
        | none=>rw [hp] at g2;cases pend<;>simp_all [PendR,Landed]
        | some cc =>
          rw [hp] at g2
          cases pend with
          | none=>simp [PendR] at g2
          | exit id=>cases cc<;>simp only [PendR] at g2;subst g2;exact ⟨k,rfl,rfl⟩
          | ret=>cases cc<;>simp only [PendR] at g2;exact ⟨k,rfl⟩
      refine ⟨pend,fr1,_,ρ',{ a with defers:=mark++a.defers },_,_,hnb.2,hext.trans (q1.trans hext3),(hF1.mono q1).mono hext3,s2,hK1.trans (q3.trans (hKept.trans s3)),hland,.head hstep1 (hs.trans (.one (stepR_endRangeFunc hend)))⟩
    · exact hK.elim
  simp only [exec] at he
  cases hr:b.roundOf with
  | none =>
    have hrnd:fr.rnd=none:=by have:=hF.R;rw [hr] at this;cases h:fr.rnd<;>rw [h] at this<;>simp_all [OptR]
    rw [hrnd] at he
    simp only at he
    have hext:Ext ρ (ρ.add H.next w.heap.size 0 (0,0)):=Names.add_ext _ _ _ (hI.fresh _ (Nat.le_refl _)).2 (fun j c y e hc=>by have:=hI.dom j c y e;omega)
    obtain ⟨q1,q2,q3⟩:=hI.alloc (o:=.deferred false) (ob:=.deferred (some [])) (0,0) (by simp [InfoR]) (by simp) rfl (by simp [OR])
    refine main (fr1:=⟨fr.env,H.next::fr.marks,none⟩) (mark:=[{ target:=.collected w.heap.size,args:=#[] }]) (d:=H.next) (bd':=w.heap.size) q1 q3 q2 ⟨hF.E.mono q1,?_,?_⟩ (Names.add_same ..) rfl ?_ he
    · simp only [List.cons_append,List.nil_append,MarksR]
      refine ⟨?_,hF.D.mono q1⟩
      exact ⟨w.heap.size,Names.add_same ..,rfl⟩
    · simp only [hr,OptR]
    · simp only [hr,Instr.enterLoop,Sem.run_bind,run_newObj,Result.andThen_ok,Sem.run_pure]
  | some l =>
    obtain ⟨lp,hrnd⟩:∃ lp,fr.rnd=some lp:=by have:=hF.R;rw [hr] at this;cases h:fr.rnd with | none=>rw [h] at this;simp [OptR] at this | some lp=>exact ⟨lp,rfl⟩
    have hlp:ρ lp=some (l,0):=by have:=hF.R;rw [hr,hrnd] at this;exact this
    rw [hrnd] at he
    simp only at he
    split at he
    · rename_i st pend fn env ps' as' bd2 d' hl
      obtain ⟨r,_,hrr,_,_,g3,_⟩:=loop_block hI hl hlp
      refine main (mark:=[]) (d:=d') (bd':=r.defers) (Ext.refl ρ) (Kept.refl Wr w) hI (by simpa using hF) g3 rfl ?_ he
      simp [Instr.enterLoop,hr,run_getLoop hrr]
    · exact he.elim
theorem Steps.behind {m m1 m':Machine} (h:Steps P m m') (hs:step P m=.next m1) (hne:m'≠m):Steps P m1 m':=by
  obtain ⟨n,hn⟩:=h
  cases n with
  | zero=>simp only [runN,Stepped.next.injEq] at hn;exact absurd hn.symm hne
  | succ n=>simp only [runN,hs] at hn;exact ⟨n,hn⟩
theorem exec_step {tbl:Nat→AFunc} (ht:TblOk P tbl) {n:Nat} (hexec:ExecOk P tbl n) (hops:OpsOk P tbl n) (hdraw:DrawOk P tbl n) (hcall:CallOk P tbl n):ExecOk P tbl (n+1):=by
  intro Wr ρ H w nt fr c cc K b a hc he hF hI k cs
  induction cc generalizing k c with
  | skip =>
    simp only [cCode,Option.some.injEq] at hc;subst hc
    simp only [exec] at he
    exact .of_steps (.one stepR_skip) (.ops_end hF hI he k cs)
  | label l =>
    simp only [cCode,Option.some.injEq] at hc;subst hc
    simp only [exec] at he
    exact .of_steps (.one stepR_label) (.ops_end hF hI he k cs)
  | region id ops draw =>
    simp only [cCode,Option.map_eq_some_iff] at hc
    obtain ⟨l,hl,rfl⟩:=hc
    simp only [exec] at he
    cases draw with
    | false =>
      refine .of_steps (.one stepR_region) ((hops (region_R hl) he hF hI k cs).mono ?_)
      rintro j fr H ⟨h1,h2⟩
      cases j<;>first | exact h2 | exact h1.elim
    | true =>
      refine (hdraw hl he hF hI k cs).mono ?_
      rintro j fr H ⟨h1,h2⟩
      cases j<;>first | exact h2 | exact h1.elim
  | seq x y ihx ihy =>
    simp only [cCode] at hc
    split at hc
    · rename_i ax ay hx hy
      injection hc with hc
      split at hc
      ·
        rename_i t hot
        subst hc
        simp only [exec] at he
        split at he
        · rename_i g hg
          split at he
          · rename_i env' H' hge
            refine (ht.over t g hg hx hy (Ov.law _ _ hot).symm hge hF hI k cs).mono ?_
            rintro j fr1 H1 ⟨rfl,rfl,rfl⟩
            exact he
          · exact he.elim
        · exact he.elim
      subst hc
      simp only [exec] at he
      obtain ⟨j,fr',H',ρ',a',w',t,h1,h2,h3,h4,h5,h6,h7⟩:=hexec hx he hF hI (.code y::k) cs
      refine .of_steps (.one stepR_seq) (.of_steps h7 ?_)
      cases j with
      | none =>
        rw [show t=.code y::k from h6]
        exact .later h2 h5 (hexec hy h1 h3 h4 k cs)
      | exit id=>exact ⟨.exit id,fr',H',ρ',a',w',t,h1,h2,h3,h4,h5,h6.pass (fun _ _=>rfl) trivial,Steps.refl _ _⟩
      | ret=>exact ⟨.ret,fr',H',ρ',a',w',t,h1,h2,h3,h4,h5,h6.pass (fun _ _=>rfl) trivial,Steps.refl _ _⟩
    · cases hc
  | cond c0 x y ihx ihy =>
    simp only [cCode] at hc
    split at hc
    · rename_i oc ax ay h0 hx hy
      injection hc with hc;subst hc
      simp only [exec] at he
      have hv:=gv_sound h0 hF.E hI
      split at he
      · rename_i h;rw [h] at hv
        exact .of_steps (.one (stepR_cond hv.bool_inv)) (hexec hx he hF hI k cs)
      · rename_i h;rw [h] at hv
        exact .of_steps (.one (stepR_cond hv.bool_inv)) (hexec hy he hF hI k cs)
      · exact he.elim
    · cases hc
  | block id x ih =>
    simp only [cCode,Option.map_eq_some_iff] at hc
    obtain ⟨ax,hx,rfl⟩:=hc
    simp only [exec] at he
    obtain ⟨j,fr',H',ρ',a',w',t,h1,h2,h3,h4,h5,h6,h7⟩:=hexec hx he hF hI (.inBlock id::k) cs
    refine .of_steps (.one stepR_block) (.of_steps h7 ?_)
    cases j with
    | none =>
      rw [show t=.inBlock id::k from h6]
      exact .of_steps (.one stepR_inBlock) ⟨.none,fr',H',ρ',a',w',k,h1,h2,h3,h4,h5,rfl,Steps.refl _ _⟩
    | exit i =>
      obtain ⟨k0,rfl,hk0⟩:=h6
      simp only at h1
      split at h1
      · rename_i hi
        have hi:=Nat.eq_of_beq_eq_true hi
        subst hi
        have:exitTo i k0=some k:=by rw [hk0];simp [exitTo]
        exact .of_steps (.one (stepR_exit this)) ⟨.none,fr',H',ρ',a',w',k,h1,h2,h3,h4,h5,rfl,Steps.refl _ _⟩
      · rename_i hi
        have hne:(id==i)=false:=by
          have:¬ id=i:=fun e=>hi (by subst e;exact Nat.beq_refl _)
          simpa using this
        exact ⟨.exit i,fr',H',ρ',a',w',_,h1,h2,h3,h4,h5,⟨k0,rfl,by rw [hk0];simp [exitTo,hne]⟩,Steps.refl _ _⟩
    | ret=>exact ⟨.ret,fr',H',ρ',a',w',t,h1,h2,h3,h4,h5,h6,Steps.refl _ _⟩
  | loop x ih =>
    have hc0:=hc
    simp only [cCode,Option.map_eq_some_iff] at hc
    obtain ⟨ax,hx,rfl⟩:=hc
    simp only [exec] at he
    obtain ⟨j,fr',H',ρ',a',w',t,h1,h2,h3,h4,h5,h6,h7⟩:=hexec hx he hF hI (.inLoop x::k) cs
    refine .of_steps (.one stepR_loop) (.of_steps h7 ?_)
    cases j with
    | none =>
      rw [show t=.inLoop x::k from h6]
      obtain ⟨j2,fr2,H2,ρ2,a2,w2,t2,e1,e2,e3,e4,e5,e6,e7⟩:=hexec hc0 h1 h3 h4 k cs
      have hs:=Steps.behind e7 stepR_loop (by
        intro e
        have:t2=.code (.loop x)::k:=congrArg (fun m:Machine=>(m.gs.getD 0 (default:Goroutine)).frame.todo) e
        cases j2 with
        | none=>have h:=e6;rw [show t2=k from h] at this;have:=congrArg List.length this;simp at this
        | exit id=>obtain ⟨k0,h,_⟩:=e6;rw [h] at this;cases this
        | ret=>obtain ⟨k0,h⟩:=e6;rw [h] at this;cases this)
      exact ⟨j2,fr2,H2,ρ2,a2,w2,t2,e1,h2.trans e2,e3,e4,h5.trans e5,e6,.head stepR_inLoop hs⟩
    | exit id=>exact ⟨.exit id,fr',H',ρ',a',w',t,h1,h2,h3,h4,h5,h6.pass (fun _ _=>rfl) trivial,Steps.refl _ _⟩
    | ret=>exact ⟨.ret,fr',H',ρ',a',w',t,h1,h2,h3,h4,h5,h6.pass (fun _ _=>rfl) trivial,Steps.refl _ _⟩
  | scope x ih =>
    simp only [cCode] at hc
    obtain ⟨j,fr',H',ρ',a',w',t,h1,h2,h3,h4,h5,h6,h7⟩:=ih hc he (.inScope x::k)
    refine .of_steps (.one stepR_scope) (.of_steps h7 ?_)
    cases j with
    | none =>
      rw [show t=.inScope x::k from h6]
      exact .of_steps (.one stepR_inScope) ⟨.none,fr',H',ρ',a',w',k,h1,h2,h3,h4,h5,rfl,Steps.refl _ _⟩
    | exit id=>exact ⟨.exit id,fr',H',ρ',a',w',t,h1,h2,h3,h4,h5,h6.pass (fun _ _=>rfl) trivial,Steps.refl _ _⟩
    | ret=>exact ⟨.ret,fr',H',ρ',a',w',t,h1,h2,h3,h4,h5,h6.pass (fun _ _=>rfl) trivial,Steps.refl _ _⟩
  | rangeFunc f ps as bd =>
    simp only [cCode] at hc
    split at hc
    · rename_i of oas obd h0 has hbd
      split at hc
      · rename_i hps
        injection hc with hc;subst hc
        exact exec_rangeFunc hcall h0 has hbd (fun p hp=>by have:=List.all_eq_true.1 hps p hp;simpa using this) he hF hI k cs
      · cases hc
    · cases hc
  | exit id =>
    simp only [cCode,Option.some.injEq] at hc;subst hc
    simp only [exec] at he
    exact ⟨.exit id,fr,H,ρ,a,w,_,he,Ext.refl ρ,hF,hI,Kept.refl Wr w,⟨k,rfl,rfl⟩,Steps.refl _ _⟩
  | ret =>
    simp only [cCode,Option.some.injEq] at hc;subst hc
    simp only [exec] at he
    exact ⟨.ret,fr,H,ρ,a,w,_,he,Ext.refl ρ,hF,hI,Kept.refl Wr w,⟨k,rfl⟩,Steps.refl _ _⟩
  | goto l=>simp [cCode] at hc
  | refuse why=>simp [cCode] at hc
end Go.Abs
namespace Go.Abs
variable [Ov]
variable {P:Program}
theorem call_step {tbl:Nat→AFunc} (ht:TblOk P tbl) {n:Nat} (hexec:ExecOk P tbl n):CallOk P tbl (n+1):=by
  intro Wr ρ H w fa args K fv argv he hf ha hI fr cs hat
  simp only [callV] at he
  split at he
  ·
    rename_i f first captured
    obtain ⟨x,y,hx,hy,rfl⟩:=hf.func_inv
    have hall:VRs ρ (first++args++captured) ((x++argv++y).toList):=by
      simp only [Array.toList_append]
      exact VRs.append (VRs.append hx ha) hy
    have hinv:Invoked (.func (.func f) x y) argv=callFunc f (x++argv++y):=by simp [Invoked,Deferred.ofValue,invoke]
    rw [hinv]
    split at he
    · exact he.elim
    · exact he.elim
    · rename_i g hg
      split at he
      · rename_i v H' hgv
        obtain ⟨v',H'',c,w',fr1,cs1,w1,⟨rfl,rfl⟩,hp,hb,hs⟩:=ht.prim f g hg hgv hall hI fr cs hat
        exact ⟨_,_,c,w',fr1,cs1,w1,he,hp,hb,hs⟩
      · exact he.elim
    · rename_i nt rs body hg
      obtain ⟨fn,hfn,hcf,hname⟩:=ht.code f nt rs body hg
      split at he
      case isFalse=>exact he.elim
      rename_i hle
      have hle:=Nat.le_of_ble_eq_true hle
      simp only [cFunc,Option.bind_eq_bind,Option.bind_eq_some_iff,Option.pure_def,Option.some.injEq,AFunc.code.injEq] at hcf
      obtain ⟨cc,hcc,body',hbody,rs',hrs,e1,e2,e3⟩:=hcf
      subst e1;subst e2;subst e3
      have hrun:(callFunc f (x++argv++y)).run P w=.ok (.enter f (x++argv++y)) w:=by
        simp only [callFunc,Sem.run_bind,run_program,Result.andThen_ok,hfn,hname,hcc,Option.isNone_some,Bool.false_eq_true,if_false,Sem.run_pure]
      let b:Frame:={ (default:Frame) with fn:=f,kind:=.normal }
      let a:Act:={ tmps:=(x++argv++y)++Array.replicate (fn.ntmps-(x++argv++y).size) undef,defers:=[] }
      have henter:Frame.enter P f (x++argv++y) .normal=b.atR a [.code cc]:=by
        simp only [Frame.enter,Frame.atR,hfn,hcc,b,a,Option.map_some,Option.getD_some,Option.bind_some]
        rfl
      have hF:FrR ρ fn.ntmps ⟨putArgs (first++args++captured) .xH .leaf,[],none⟩ b.roundOf a:=⟨putArgs_sound hall hle,trivial,trivial⟩
      obtain ⟨j,fr',H',ρ',a',w',t,h1,h2,h3,h4,h5,h6,h7⟩:=hexec hbody he hF hI [] (fr::cs)
      have hret:∃ fe:Frame,fe={ b.atR a' fe.todo with mode:=.returning }∧step P (lone (b.atR a' t) (fr::cs) w')=.next (lone fe (fr::cs) w'):=by
        cases j with
        | none=>rw [show t=[] from h6];exact ⟨_,rfl,stepR_end rfl⟩
        | exit id=>exact h1.elim
        | ret=>obtain ⟨k0,rfl⟩:=h6;exact ⟨_,rfl,stepR_ret rfl⟩
      obtain ⟨fe,hfe,hst⟩:=hret
      have h1' : (match takeMarks H' fr'.marks with
            | some H=>match readRes fr'.env H rs' with
              | some l=>K (resV l) H
              | none=>False
            | none=>False):=by
        cases j with
        | none=>exact h1
        | exit id=>exact h1.elim
        | ret=>exact h1
      split at h1'
      · rename_i H2 hm
        split at h1'
        · rename_i l hl
          have hfed:fe={ fe with defers:=a'.defers }:=by rw [hfe];rfl
          obtain ⟨w2,s1,s2,s3⟩:=takeMarks_sound h4 h3.D hm fe (fr::cs) (by rw [hfe])
          rw [← hfed] at s1
          obtain ⟨c,hc,hv⟩:=readRes_sound s2 h3.E hrs hl
          refine ⟨resV l,H2,c,w2,_,_,_,h1',⟨ρ',h2,hv,s2,h5.trans s3⟩,apply_enter hat hrun,?_⟩
          rw [henter]
          refine h7.trans (.head hst (s1.trans (.one ?_)))
          refine step_leave_returned ⟨by rw [hfe],rfl,by rw [hfe];rfl,fn,by rw [hfe];exact hfn,?_⟩
          rw [hfe];exact hc
        · exact h1'.elim
      · exact h1'.elim
  ·
    rename_i l
    obtain ⟨bl,hbl,rfl⟩:=hf.yield_inv
    have hinv:Invoked (.func (.yield bl) #[] #[]) argv=Instr.yield bl argv:=by simp [Invoked,Deferred.ofValue,invoke]
    rw [hinv]
    split at he
    · rename_i st pend fnn env ps as bd d hl
      obtain ⟨r,_,hr,g1,g2,g3,g4,nt,g5,g6,g7,g8⟩:=loop_block hI hl hbl
      split at he
      · split at he
        case isFalse=>exact he.elim
        rename_i hlen
        have hsz:argv.size=r.params.size:=by
          have e1:=VRs.length ha
          rw [← g4] at hlen
          simp at e1 hlen;omega
        have hrun:(Instr.yield bl argv).run P w=.ok (.round bl r.fn ((r.params.zip argv).foldl (fun tmps (t,a)=>tmps.setIfInBounds t a) r.tmps) r.assign r.body) w:=by
          simp only [Instr.yield,Sem.run_bind,run_getLoop hr,Result.andThen_ok,hsz,ne_eq,not_true_eq_false,if_false,Sem.run_pure]
        let b:Frame:={ (default:Frame) with fn:=r.fn,kind:=.normal,roundOf:=some bl }
        let a:Act:={ tmps:=(r.params.zip argv).foldl (fun tmps (t,a)=>tmps.setIfInBounds t a) r.tmps,defers:=[] }
        have hround:Frame.round bl r.fn a.tmps r.assign r.body .normal=b.atR a [.code r.assign,.beginRound,.code r.body]:=rfl
        have hE:ERel ρ nt (putParams ps args env) a.tmps:=by
          have:=putParams_sound (ps:=r.params.toList) g5 ha (by rw [hlen,← g4,List.length_map])
          rw [g4] at this
          have e2:a.tmps=(r.params.toList.zip argv.toList).foldl (fun tmps (p:Tmp × Value)=>tmps.setIfInBounds p.1 p.2) r.tmps:=by
            show (r.params.zip argv).foldl _ _=_
            rw [← Array.foldl_toList,Array.toList_zip]
          rw [e2];exact this
        have hF:FrR ρ nt ⟨putParams ps args env,[],some l⟩ b.roundOf a:=⟨hE,trivial,hbl⟩
        obtain ⟨j,fr1,H1,ρ1,a1,w1,t,h1,h2,h3,h4,h5,h6,h7⟩:=hexec g7 he hF hI [.beginRound,.code r.body] (fr::cs)
        split at h1
        · rename_i pend1 fn1 env1 ps1 as1 bd1 d1 hl1
          rw [show t=[.beginRound,.code r.body] from h6] at h7
          have hbl1:=(h2 _ _ hbl).1
          obtain ⟨r1,_,hr1,q1,q2,q3,q4,nt1,q5,q6,q7,q8⟩:=loop_block h4 hl1 hbl1
          obtain ⟨s1,s2,s3⟩:=loop_set h4 hl1 hbl1 hr1 (st':=.busy) (s':=.busy) (pend':=pend1) (p':=r1.pending) (by simp [StR]) q2 fn1
          have hready:r1.state=.ready:=by cases hs:r1.state<;>rw [hs] at q1<;>simp_all [StR]
          have hbegin:(Instr.beginRound bl).run P w1=.ok () { w1 with heap:=w1.heap.setIfInBounds bl (.loop { r1 with state:=.busy,pending:=r1.pending }) }:=by
            simp only [Instr.beginRound,Sem.run_bind,run_getLoop hr1,Result.andThen_ok]
            have:(setObj bl (.loop { r1 with state:=.busy })).run P w1=_:=s1
            rw [this]
            simp only [Result.andThen_ok,hready,Sem.run_pure]
          obtain ⟨j2,fr2,H2,ρ2,a2,w2,t2,e1,e2,e3,e4,e5,e6,e7⟩:=hexec g8 h1 h3 s2 [] (fr::cs)
          have hstart:Steps P (lone (Frame.round bl r.fn a.tmps r.assign r.body .normal) (fr::cs) w) (lone (b.atR a2 t2) (fr::cs) w2):=by
            rw [hround]
            exact h7.trans (.head (stepR_beginRound rfl hbegin) e7)
          split at e1
          · rename_i st2 pend2 fn2 env2 ps2 as2 bd2 d2 hl2
            have hbl2:=(e2 _ _ hbl1).1
            obtain ⟨r2,_,hr2,z1,z2,z3,z4,z5⟩:=loop_block e4 hl2 hbl2
            have fin:∀ (j:AJump) (jc:Option Code) (st':AState) (s':LoopState),StR st' s'→PendR j jc→s'=(if jc.isNone then .ready else .done) →
                K (.bool jc.isNone) (H2.set l (.loop st' j fn2 env2 ps2 as2 bd2 d2)) →
                (∀ {v:Value} {w':World},(Instr.endRound bl jc).run P w2=.ok v w'→step P (lone (b.atR a2 t2) (fr::cs) w2)=.next (lone (fr.finish v) cs w')) →
                Comes' P Wr ρ w (Instr.yield bl argv) fr cs K:=by
              intro j jc st' s' y1 y2 y3 y4 y5
              obtain ⟨u1,u2,u3⟩:=loop_set e4 hl2 hbl2 hr2 (st':=st') (s':=s') (pend':=j) (p':=jc) y1 y2 fn2
              have hend:(Instr.endRound bl jc).run P w2=.ok (.bool jc.isNone) { w2 with heap:=w2.heap.setIfInBounds bl (.loop { r2 with state:=s',pending:=jc }) }:=by
                simp only [Instr.endRound,Sem.run_bind,run_getLoop hr2,Result.andThen_ok,← y3,u1,Sem.run_pure]
              exact ⟨_,_,.bool jc.isNone,_,_,_,_,y4,⟨ρ2,h2.trans e2,by simp [VR],u2,h5.trans (s3.trans (e5.trans u3))⟩,apply_round hat hrun,hstart.trans (.one (y5 hend))⟩
            cases j2 with
            | none =>
              have ht2:t2=[]:=e6
              subst ht2
              exact fin .none none .ready .ready (by simp [StR]) (by simp [PendR]) rfl e1 (fun h=>stepR_round_end rfl rfl h)
            | exit id =>
              obtain ⟨k0,rfl,hk0⟩:=e6
              exact fin (.exit id) (some (.exit id)) .done .done (by simp [StR]) (by simp [PendR]) rfl e1 (fun h=>stepR_round_exit rfl rfl hk0 h)
            | ret =>
              obtain ⟨k0,rfl⟩:=e6
              exact fin .ret (some .ret) .done .done (by simp [StR]) (by simp [PendR]) rfl e1 (fun h=>stepR_round_ret rfl rfl h)
          · exact e1.elim
        · exact h1.elim
      · exact he.elim
    · exact he.elim
  · exact he.elim
end Go.Abs
