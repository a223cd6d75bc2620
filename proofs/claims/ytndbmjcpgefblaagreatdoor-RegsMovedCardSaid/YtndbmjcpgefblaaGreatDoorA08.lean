/- A part of the proof (an abstract machine, walks): no statement of its own, no conditions. -/
import Derived.Test.YtndbmjcpgefblaaGreatDoorA07
import Derived.Laws.StructEq
import Derived.ChangeKeysEq
set_option linter.all false
namespace Go.Abs
variable [Ov]
variable {P:Program} {Wr:Acc} {ρ:Names} {H H':Heap} {w:World} {nt:Nat} {env:Tree AV} {a:Act} {o:Oper} {ao:AOp} {v:AV}
def EqSound (P:Program) (ρ:Names) (f:Nat):Prop:=∀ {const:Bool} {t:TypeId} {d:EqD},eqD P f const t=some d→∀ {g:Nat} {x y:AV} {r:Bool},eqv g d x y=some r →
  ∀ {xv yv:Value},VR ρ x xv→VR ρ y yv→∀ (n:Nat) (w:World),f≤n→(Op.equalIn n t xv yv).run P w=.ok r w
theorem eqFields_sound {f:Nat} (ih:EqSound P ρ f) {xs ys:List AV} {xc yc:Array Value} (hx:VRs ρ xs xc.toList) (hy:VRs ρ ys yc.toList) (n:Nat) (w:World) (hn:f≤n) :
    ∀ (fs:List Field) (l:List (Nat × Nat × Bool × EqD)) (g:Nat) (r:Bool),
    (fs.mapM fun (g:Field)=>if g.name="_" then none else match eqD P f false g.type,szOf P g.type,aggOf P g.type with
        | some d,some s,some a=>some (g.offset,s,a,d)
        | _,_,_=>none)=some l→eqv.go g xs ys l=some r→(Op.eqFields n xc yc fs).run P w=.ok r w
  | [],l,g,r,h1,h2=>by
    simp only [List.mapM_nil,Option.pure_def,Option.some.injEq] at h1;subst h1
    unfold eqv.go at h2
    simp only [Option.some.injEq] at h2;subst h2
    simp [Op.eqFields]
  | fd::fs,l,g,r,h1,h2=>by
    simp only [List.mapM_cons,Option.bind_eq_bind,Option.bind_eq_some_iff,Option.pure_def,Option.some.injEq] at h1
    obtain ⟨p,hp,l',hl',rfl⟩:=h1
    split at hp
    · cases hp
    rename_i hname
    split at hp
    · rename_i d s a hd hs ha
      injection hp with hp;subst hp
      cases g with
      | zero=>simp [eqv.go] at h2
      | succ g =>
        simp only [eqv.go] at h2
        split at h2
        · rename_i x y hx' hy'
          obtain ⟨cx,rx,vx⟩:=partOf_sound (P:=P) (w:=w) hx ha hs hx'
          obtain ⟨cy,ry,vy⟩:=partOf_sound (P:=P) (w:=w) hy ha hs hy'
          simp only [Op.eqFields,hname,ne_eq,not_false_eq_true,if_true,Sem.run_bind,rx,ry,Result.andThen_ok]
          split at h2
          · rename_i he
            rw [ih hd he vx vy n w hn]
            simp only [Result.andThen_ok,Bool.not_true,Bool.false_eq_true,if_false]
            exact eqFields_sound ih hx hy n w hn fs l' g r hl' h2
          · rename_i he
            injection h2 with h2;subst h2
            rw [ih hd he vx vy n w hn]
            simp
          · cases h2
        · cases h2
    · cases hp
theorem eqItems_sound {f:Nat} (ih:EqSound P ρ f) {xs ys:List AV} {xc yc:Array Value} (hx:VRs ρ xs xc.toList) (hy:VRs ρ ys yc.toList) (n:Nat) (w:World) (hn:f≤n) {e:TypeId} {s:Nat} {a:Bool} {d:EqD}
    (hd:eqD P f false e=some d) (hs:szOf P e=some s) (ha:aggOf P e=some a) :
    ∀ (is:List Nat) (g:Nat) (r:Bool),eqv.go g xs ys (is.map fun i=>(i*s,s,a,d))=some r→(Op.eqItems n e s xc yc is).run P w=.ok r w
  | [],g,r,h2=>by
    simp only [List.map_nil] at h2
    unfold eqv.go at h2
    simp only [Option.some.injEq] at h2;subst h2
    simp [Op.eqItems]
  | i::is,g,r,h2=>by
    cases g with
    | zero=>simp [eqv.go] at h2
    | succ g =>
      simp only [List.map_cons,eqv.go] at h2
      split at h2
      · rename_i x y hx' hy'
        obtain ⟨cx,rx,vx⟩:=partOf_sound (P:=P) (w:=w) hx ha hs hx'
        obtain ⟨cy,ry,vy⟩:=partOf_sound (P:=P) (w:=w) hy ha hs hy'
        simp only [Op.eqItems,Sem.run_bind,rx,ry,Result.andThen_ok]
        split at h2
        · rename_i he
          rw [ih hd he vx vy n w hn]
          simp only [Result.andThen_ok,Bool.not_true,Bool.false_eq_true,if_false]
          exact eqItems_sound ih hx hy n w hn hd hs ha is g r h2
        · rename_i he
          injection h2 with h2;subst h2
          rw [ih hd he vx vy n w hn]
          simp
        · cases h2
      · cases h2
theorem bytes_beq (s t:ByteArray):(s==t)=beqs (s.data.toList.map UInt8.toNat) (t.data.toList.map UInt8.toNat):=by
  rw [beq_toListBytes,bytes_eq]
set_option maxHeartbeats 1000000 in
theorem eqv_sound (ρ:Names) (f:Nat):EqSound P ρ f:=by
  induction f with
  | zero=>intro const t d h;simp [eqD] at h
  | succ f ih =>
    intro const t d h g x y r he xv yv hx hy n w hn
    cases n with
    | zero=>omega
    | succ n =>
    have hn':f≤n:=by omega
    unfold eqD at h
    split at h
    all_goals (rename_i hu)
    · injection h with h;subst h
      unfold eqv at he
      split at he<;>(try (rename_i hq;cases hq;done))<;>(try (cases he;done))
      injection he with he
      rw [hx.bool_inv,hy.bool_inv,← he]
      exact run_equalIn_bool' w n t _ _ hu
    · injection h with h;subst h
      unfold eqv at he
      split at he<;>(try (rename_i hq;cases hq;done))<;>(try (cases he;done))
      split at he
      · rename_i hk
        injection he with he
        obtain ⟨k1,h1,rfl⟩:=hx.int_inv
        obtain ⟨k2,h2,rfl⟩:=hy.int_inv
        have:=kc_inj (h1.symm.trans (hk.trans h2))
        subst this
        rw [← he,ieq_iff]
        exact run_equalIn_int w n t _ _ _ _ hu
      · cases he
    · injection h with h;subst h
      unfold eqv at he
      split at he<;>(try (rename_i hq;cases hq;done))<;>(try (cases he;done))
      injection he with he
      obtain ⟨t1,h1,rfl⟩:=hx.str_inv
      obtain ⟨t2,h2,rfl⟩:=hy.str_inv
      subst h1;subst h2
      rw [← he,← bytes_eq]
      exact run_equalIn_string w n t _ _ hu
    · split at h
      · rename_i s0 hs0
        injection h with h;subst h
        unfold eqv at he
        split at he<;>(try (rename_i hq;cases hq;done))<;>(try (cases he;done))
        · injection he with he;subst he
          rw [hx.nilptr_inv,hy.nilptr_inv]
          simp [Op.equalIn,run_und hu]
        · injection he with he;subst he
          obtain ⟨b,z,h1,h2⟩:=hy.ptr_inv
          rw [hx.nilptr_inv,h2]
          simp [Op.equalIn,run_und hu]
        · injection he with he;subst he
          obtain ⟨b,z,h1,h2⟩:=hx.ptr_inv
          rw [hy.nilptr_inv,h2]
          simp [Op.equalIn,run_und hu]
        · rename_i _ i _ j _
          split at he
          · rename_i hb
            have hb:=Pos.beq_iff.1 hb
            subst hb
            injection he with he
            obtain ⟨b,z,h1,rfl⟩:=hx.ptr_inv
            obtain ⟨b',z',h1',rfl⟩:=hy.ptr_inv
            rw [h1] at h1';injection h1' with h1';injection h1' with e1 e2
            subst e1;subst e2
            simp only [Op.equalIn,Sem.run_bind,run_und hu,Result.andThen_ok,run_sizeOf hs0]
            rw [← he]
            have:((⟨b,z+i,none⟩:Addr)==⟨b,z+j,none⟩)=Nat.beq i j:=by
              rw [Bool.eq_iff_iff,beq_iff_eq,Addr.mk.injEq]
              constructor
              · intro h;have:i=j:=by omega
                subst this;exact Nat.beq_refl _
              · intro h;have:=Nat.eq_of_beq_eq_true h;subst this;simp
            simp [sameAddr,this]
          · cases he
      · cases h
    · injection h with h;subst h
      unfold eqv at he
      split at he<;>(try (rename_i hq;cases hq;done))<;>(try (cases he;done))
      all_goals injection he with he;subst he
      · rw [hx.nilslice_inv,hy.nilslice_inv]
        simp [Op.equalIn,run_und hu]
      · obtain ⟨ad,cp,h1,_⟩:=hy.slice_inv
        rw [hx.nilslice_inv,h1]
        simp [Op.equalIn,run_und hu]
      · obtain ⟨ad,cp,h1,_⟩:=hx.slice_inv
        rw [hy.nilslice_inv,h1]
        simp [Op.equalIn,run_und hu]
    · injection h with h;subst h
      unfold eqv at he
      split at he<;>(try (rename_i hq;cases hq;done))<;>(try (cases he;done))
      all_goals injection he with he;subst he
      · rw [hx.nilmap_inv,hy.nilmap_inv]
        simp [Op.equalIn,run_und hu]
      · obtain ⟨b,_,h1⟩:=hy.map_inv
        rw [hx.nilmap_inv,h1]
        simp [Op.equalIn,run_und hu]
      · obtain ⟨b,_,h1⟩:=hx.map_inv
        rw [hy.nilmap_inv,h1]
        simp [Op.equalIn,run_und hu]
    · injection h with h;subst h
      unfold eqv at he
      split at he<;>(try (rename_i hq;cases hq;done))<;>(try (cases he;done))
      all_goals injection he with he;subst he
      · rw [hx.nilFunc_inv,hy.nilFunc_inv]
        simp [Op.equalIn,run_und hu]
      · obtain ⟨p,q,_,_,h1⟩:=hy.func_inv
        rw [hx.nilFunc_inv,h1]
        simp [Op.equalIn,run_und hu]
      · obtain ⟨p,q,_,_,h1⟩:=hx.func_inv
        rw [hy.nilFunc_inv,h1]
        simp [Op.equalIn,run_und hu]
      · obtain ⟨p,q,h1⟩:=hy.yield_inv
        rw [hx.nilFunc_inv,h1]
        simp [Op.equalIn,run_und hu]
      · obtain ⟨p,q,h1⟩:=hx.yield_inv
        rw [hy.nilFunc_inv,h1]
        simp [Op.equalIn,run_und hu]
    · injection h with h;subst h
      unfold eqv at he
      split at he<;>(try (rename_i hq;cases hq;done))<;>(try (cases he;done))
      · split at he
        · injection he with he;subst he
          rw [hx.nilIface_inv,hy.nilIface_inv]
          simp [Op.equalIn,run_und hu]
        · cases he
      · injection he with he;subst he
        obtain ⟨p,_,h1⟩:=hy.iface_inv
        rw [hx.nilIface_inv,h1]
        simp [Op.equalIn,run_und hu]
      · injection he with he;subst he
        obtain ⟨p,_,h1⟩:=hx.iface_inv
        rw [hy.nilIface_inv,h1]
        simp [Op.equalIn,run_und hu]
      · rename_i t1 _ t2 _ _
        split at he
        · cases he
        · rename_i hne
          injection he with he;subst he
          obtain ⟨p,_,rfl⟩:=hx.iface_inv
          obtain ⟨q,_,rfl⟩:=hy.iface_inv
          have:¬ t1=t2:=fun e=>hne (by subst e;exact Nat.beq_refl _)
          simp only [Op.equalIn,Sem.run_bind,run_und hu,Result.andThen_ok,ne_eq,this,not_false_eq_true,if_true,Sem.run_pure]
    · split at h
      · cases h
      rename_i hst
      rw [Option.map_eq_some_iff] at h
      obtain ⟨l,hl,rfl⟩:=h
      unfold eqv at he
      split at he<;>(try (rename_i hq;cases hq;done))<;>(try (cases he;done))
      rename_i heq
      cases heq
      obtain ⟨xc,hxc,rfl⟩:=hx.agg_inv
      obtain ⟨yc,hyc,rfl⟩:=hy.agg_inv
      have hfo:=congrArg (fun (o:Option TypeDesc)=>match o with | some (.struct fs)=>fs | _=>#[]) hu
      change P.fieldsOf t=_ at hfo
      rw [run_equalIn_struct w n t xc yc (by rw [hu,hfo]) (by simpa using hst),hfo]
      exact eqFields_sound ih hxc hyc n w hn' _ _ _ _ hl he
    · split at h
      · rename_i d s a hd hs ha
        injection h with h;subst h
        unfold eqv at he
        split at he<;>(try (rename_i hq;cases hq;done))<;>(try (cases he;done))
        rename_i heq
        cases heq
        obtain ⟨xc,hxc,rfl⟩:=hx.agg_inv
        obtain ⟨yc,hyc,rfl⟩:=hy.agg_inv
        obtain ⟨ti,hti,hts⟩:=szOf_info hs
        rw [run_equalIn_array w n xc yc hu hti]
        have hcs:=congrArg (fun (o:Option TypeInfo)=>(o.map (·.size)).getD 0) hti
        change P.cellsOf _=_ at hcs
        rw [hcs,show (Option.map (fun i:TypeInfo=>i.size) (some ti)).getD 0=s from hts]
        exact eqItems_sound ih hxc hyc n w hn' hd hs ha _ _ _ he
      · cases h
    · cases h
end Go.Abs
namespace Go.Abs
variable [Ov]
variable {P:Program} {Wr:Acc} {ρ:Names} {H H':Heap} {w:World} {nt:Nat} {env:Tree AV} {a:Act} {o:Oper} {ao:AOp} {v:AV}
def KeySound (P:Program) (ρ:Names) (em:Bool) (f:Nat):Prop:=∀ {const:Bool} {t:TypeId} {d:EqD},eqD P f const t=some d→∀ {g:Nat} {x:AV},shapeV g d x=true →
  ∀ {xv:Value},VR ρ x xv→∀ (n:Nat) (w:World),f≤n→(Instr.checkKey em n t xv).run P w=.ok () w
theorem keyFields_sound {em:Bool} {f:Nat} (ih:KeySound P ρ em f) {xs:List AV} {xc:Array Value} (hx:VRs ρ xs xc.toList) (n:Nat) (w:World) (hn:f≤n) :
    ∀ (fs:List Field) (l:List (Nat × Nat × Bool × EqD)) (g:Nat),
    (fs.mapM fun (g:Field)=>if g.name="_" then none else match eqD P f false g.type,szOf P g.type,aggOf P g.type with
        | some d,some s,some a=>some (g.offset,s,a,d)
        | _,_,_=>none)=some l→shapeV.go g xs l=true →
    (forIn fs PUnit.unit fun (f:Field) r=>(if f.name≠"_" then (do (Instr.checkKey em n f.type (← part f.type xc f.offset));pure (ForInStep.yield PUnit.unit)) else pure (ForInStep.yield PUnit.unit):Sem (ForInStep PUnit))).run P w=.ok PUnit.unit w
  | [],l,g,h1,h2=>by simp
  | fd::fs,l,g,h1,h2=>by
    simp only [List.mapM_cons,Option.bind_eq_bind,Option.bind_eq_some_iff,Option.pure_def,Option.some.injEq] at h1
    obtain ⟨p,hp,l',hl',rfl⟩:=h1
    split at hp
    · cases hp
    rename_i hname
    split at hp
    · rename_i d s a hd hs ha
      injection hp with hp;subst hp
      cases g with
      | zero=>simp [shapeV.go] at h2
      | succ g =>
        simp only [shapeV.go] at h2
        split at h2
        · rename_i x hx'
          simp only [Bool.and_eq_true] at h2
          obtain ⟨cx,rx,vx⟩:=partOf_sound (P:=P) (w:=w) hx ha hs hx'
          have h3:=ih hd h2.1 vx n w hn
          have h4:=keyFields_sound ih hx n w hn fs l' g hl' h2.2
          simp only [List.forIn_cons,Sem.run_bind,ne_eq,hname,not_false_eq_true,if_true,rx,h3,Result.andThen_ok,Sem.run_pure] at h4 ⊢
          exact h4
        · cases h2
    · cases hp
theorem keyItems_sound {em:Bool} {f:Nat} (ih:KeySound P ρ em f) {xs:List AV} {xc:Array Value} (hx:VRs ρ xs xc.toList) (n:Nat) (w:World) (hn:f≤n) {e:TypeId} {s:Nat} {a:Bool} {d:EqD}
    (hd:eqD P f false e=some d) (hs:szOf P e=some s) (ha:aggOf P e=some a) :
    ∀ (is:List Nat) (g:Nat),shapeV.go g xs (is.map fun i=>(i*s,s,a,d))=true →
    (forIn is PUnit.unit fun (i:Nat) r=>(do (Instr.checkKey em n e (← part e xc (i*(← sizeOf e)))) ;pure (ForInStep.yield PUnit.unit):Sem (ForInStep PUnit))).run P w=.ok PUnit.unit w
  | [],g,h2=>by simp
  | i::is,g,h2=>by
    cases g with
    | zero=>simp [shapeV.go] at h2
    | succ g =>
      simp only [List.map_cons,shapeV.go] at h2
      split at h2
      · rename_i x hx'
        simp only [Bool.and_eq_true] at h2
        obtain ⟨cx,rx,vx⟩:=partOf_sound (P:=P) (w:=w) hx ha hs hx'
        have h3:=ih hd h2.1 vx n w hn
        have h4:=keyItems_sound ih hx n w hn hd hs ha is g h2.2
        simp only [List.forIn_cons,Sem.run_bind,run_sizeOf hs,rx,h3,Result.andThen_ok,Sem.run_pure] at h4 ⊢
        exact h4
      · cases h2
theorem shapeV_sound (ρ:Names) (em:Bool) (f:Nat):KeySound P ρ em f:=by
  induction f with
  | zero=>intro const t d h;simp [eqD] at h
  | succ f ih =>
    intro const t d h g x he xv hx n w hn
    cases n with
    | zero=>omega
    | succ n =>
    have hn':f≤n:=by omega
    unfold eqD at h
    split at h
    all_goals (rename_i hu)
    · simp [Instr.checkKey,run_und hu]
    · simp [Instr.checkKey,run_und hu]
    · simp [Instr.checkKey,run_und hu]
    · simp [Instr.checkKey,run_und hu]
    · simp [Instr.checkKey,run_und hu]
    · simp [Instr.checkKey,run_und hu]
    · simp [Instr.checkKey,run_und hu]
    · injection h with h;subst h
      unfold shapeV at he
      cases x<;>cases he
    · split at h
      · cases h
      rw [Option.map_eq_some_iff] at h
      obtain ⟨l,hl,rfl⟩:=h
      unfold shapeV at he
      split at he<;>(try (rename_i hq;cases hq;done))<;>(try (cases he;done))
      rename_i heq
      cases heq
      obtain ⟨xc,hxc,rfl⟩:=hx.agg_inv
      have h4:=keyFields_sound ih hxc n w hn' _ _ _ hl he
      simp only [Instr.checkKey,Sem.run_bind,run_und hu,Result.andThen_ok,← Array.forIn_toList]
      rw [h4];rfl
    · split at h
      · rename_i d s a hd hs ha
        injection h with h;subst h
        unfold shapeV at he
        split at he<;>(try (rename_i hq;cases hq;done))<;>(try (cases he;done))
        rename_i heq
        cases heq
        obtain ⟨xc,hxc,rfl⟩:=hx.agg_inv
        have h4:=keyItems_sound ih hxc n w hn' hd hs ha _ _ he
        simp only [Instr.checkKey,Sem.run_bind,run_und hu,Result.andThen_ok]
        simp only [Std.Legacy.Range.forIn_eq_forIn_range',Std.Legacy.Range.size,Nat.sub_zero,Nat.add_one_sub_one,Nat.div_one]
        rw [List.range_eq_range'] at h4
        rw [h4];rfl
      · cases h
    · cases h
theorem keyD_sound {t:TypeId} {d:EqD} (h:keyD P t=some d):∃ kd,P.underlying t=some kd∧eqD P 16 false t=some d ∧
    ((kd=.bool∧d=.bool)∨(∃ k,kd=.int k∧d=.int)∨(kd=.string∧d=.str)∨∃ l,d=.parts l):=by
  unfold keyD at h
  split at h
  all_goals (try (cases h;done))
  all_goals (rename_i hu;refine ⟨_,hu,h,?_⟩)
  all_goals unfold eqD at h;simp only [hu] at h
  · injection h with h;exact .inr (.inl ⟨_,rfl,h.symm⟩)
  · injection h with h;exact .inr (.inr (.inl ⟨rfl,h.symm⟩))
  · injection h with h;exact .inl ⟨rfl,h.symm⟩
  · split at h
    · cases h
    · rw [Option.map_eq_some_iff] at h
      obtain ⟨l,_,h⟩:=h
      exact .inr (.inr (.inr ⟨l,h.symm⟩))
  · split at h
    · injection h with h;exact .inr (.inr (.inr ⟨_,h.symm⟩))
    · cases h
theorem checkKey_plain {t:TypeId} {kd:TypeDesc} (hu:P.underlying t=some kd) (hk:kd=.bool∨(∃ k,kd=.int k)∨kd=.string) (em:Bool) (n:Nat) (x:Value) (w:World):(Instr.checkKey em (n+1) t x).run P w=.ok () w:=by
  rcases hk with rfl | ⟨k,rfl⟩ | rfl<;>simp [Instr.checkKey,run_und hu]
theorem keyOk_sound {t:TypeId} {d:EqD} (h:keyD P t=some d) {k:AV} (hk:keyOk d k=true) {kv:Value} (hv:VR ρ k kv) (em:Bool) (w:World):(Instr.checkKey em 10000 t kv).run P w=.ok () w:=by
  obtain ⟨kd,hu,he,hd⟩:=keyD_sound h
  rcases hd with ⟨rfl,rfl⟩ | ⟨k',rfl,rfl⟩ | ⟨rfl,rfl⟩ | ⟨l,rfl⟩
  · exact checkKey_plain hu (.inl rfl) em 9999 kv w
  · exact checkKey_plain hu (.inr (.inl ⟨_,rfl⟩)) em 9999 kv w
  · exact checkKey_plain hu (.inr (.inr rfl)) em 9999 kv w
  · exact shapeV_sound ρ em 16 he hk hv 10000 w (by omega)
def FR (ρ:Names) (n:Nat):Option (Nat × AV)→Option (Nat × Value)→Prop
  | none,none=>True
  | some (i,v),some (j,c)=>i=j∧VR ρ v c∧i<n
  | _,_=>False
theorem findAsking_sound {t:TypeId} {d:EqD} (h:eqD P 16 false t=some d) {k:AV} {kv:Value} (hk:VR ρ k kv) (w:World):∀ (es:List AEnt) (ces:List MapEntry) (i:Nat) (r:Option (Nat × AV)),
    EntsR ρ es ces→findKey d k es i=some r→∃ r',(Instr.findAsking t kv ces i).run P w=.ok r' w∧FR ρ (i+es.length) r r'
  | [],[],i,r,_,h2=>by
    simp only [findKey,Option.some.injEq] at h2;subst h2
    exact ⟨none,by simp [Instr.findAsking],trivial⟩
  | e::es,c::ces,i,r,h1,h2=>by
    simp only [EntsR] at h1
    simp only [findKey] at h2
    split at h2
    · rename_i he
      injection h2 with h2;subst h2
      have:=eqv_sound ρ 16 h he hk h1.1 10000 w (by omega)
      refine ⟨some (i,c.val),?_,rfl,h1.2.1,by simp⟩
      simp only [Instr.findAsking,Op.equal,Op.maxDepth,Sem.run_bind,this,Result.andThen_ok,if_true,Sem.run_pure]
    · rename_i he
      have:=eqv_sound ρ 16 h he hk h1.1 10000 w (by omega)
      obtain ⟨r',g1,g2⟩:=findAsking_sound h hk w es ces (i+1) r h1.2.2.2 h2
      refine ⟨r',?_,by rw [List.length_cons,show i+(es.length+1)=i+1+es.length by omega];exact g2⟩
      simp only [Instr.findAsking,Op.equal,Op.maxDepth,Sem.run_bind,this,Result.andThen_ok,Bool.false_eq_true,if_false,g1]
    · cases h2
  | [],_::_,_,_,h1,_=>by simp [EntsR] at h1
  | _::_,[],_,_,h1,_=>by simp [EntsR] at h1
theorem sameNow_equal {t:TypeId} {kd:TypeDesc} (hu:P.underlying t=some kd) {x y:Value} {b:Bool} (h:Instr.sameNow kd x y=some b) (n:Nat) (w:World):(Op.equalIn (n+1) t x y).run P w=.ok b w:=by
  unfold Instr.sameNow at h
  split at h
  · split at h
    · rename_i hk
      injection h with h;subst hk;subst h
      simp [Op.equalIn,run_und hu]
    · cases h
  · injection h with h;subst h
    simp [Op.equalIn,run_und hu]
  · injection h with h;subst h
    simp [Op.equalIn,run_und hu]
  · cases h
theorem findNow_sound {t:TypeId} {kd:TypeDesc} (hu:P.underlying t=some kd) {d:EqD} (h:eqD P 16 false t=some d) {k:AV} {kv:Value} (hk:VR ρ k kv) (w:World):∀ (es:List AEnt) (ces:List MapEntry) (i:Nat) (r:Option (Nat × AV)) (r':Option (Nat × Value)),
    EntsR ρ es ces→findKey d k es i=some r→Instr.findNow kd kv ces i=some r'→FR ρ (i+es.length) r r'
  | [],[],i,r,r',_,h2,h3=>by
    simp only [findKey,Option.some.injEq] at h2;subst h2
    simp only [Instr.findNow,Option.some.injEq] at h3;subst h3
    trivial
  | e::es,c::ces,i,r,r',h1,h2,h3=>by
    simp only [EntsR] at h1
    simp only [findKey] at h2
    simp only [Instr.findNow] at h3
    have agree:∀ b b',eqv 64 d k e.key=some b→Instr.sameNow kd kv c.key=some b'→b=b':=by
      intro b b' g1 g2
      have e1:=eqv_sound ρ 16 h g1 hk h1.1 10000 w (by omega)
      have e2:=sameNow_equal hu g2 9999 w
      have e3:=e1.symm.trans e2
      injection e3
    split at h2
    · rename_i he
      injection h2 with h2;subst h2
      split at h3
      · injection h3 with h3;subst h3
        exact ⟨rfl,h1.2.1,by simp⟩
      · rename_i hs;have:=agree _ _ he hs;cases this
      · cases h3
    · rename_i he
      split at h3
      · rename_i hs;have:=agree _ _ he hs;cases this
      · have:=findNow_sound hu h hk w es ces (i+1) r r' h1.2.2.2 h2 h3
        rw [List.length_cons,show i+(es.length+1)=i+1+es.length by omega];exact this
      · cases h3
    · cases h2
  | [],_::_,_,_,_,h1,_,_=>by simp [EntsR] at h1
  | _::_,[],_,_,_,h1,_,_=>by simp [EntsR] at h1
theorem findKey_sound {t:TypeId} {d:EqD} (h:keyD P t=some d) {k:AV} {kv:Value} (hk:VR ρ k kv) (w:World) {es:List AEnt} {ces:List MapEntry} (he:EntsR ρ es ces) {r:Option (Nat × AV)} (hf:findKey d k es 0=some r) :
    ∃ r',(Instr.findKey t kv ces).run P w=.ok r' w∧FR ρ es.length r r':=by
  obtain ⟨kd,hu,hq,_⟩:=keyD_sound h
  cases hn:Instr.findNow kd kv ces 0 with
  | some r' =>
    have:=findNow_sound hu hq hk w es ces 0 r r' he hf hn
    rw [Nat.zero_add] at this
    exact ⟨r',by simp [Instr.findKey,run_und hu,hn],this⟩
  | none =>
    obtain ⟨r',g1,g2⟩:=findAsking_sound hq hk w es ces 0 r he hf
    rw [Nat.zero_add] at g2
    exact ⟨r',by simp [Instr.findKey,run_und hu,hn,g1],g2⟩
theorem beqs_inj {s t:ByteArray} (h:beqs (s.data.toList.map UInt8.toNat) (t.data.toList.map UInt8.toNat)=true):s=t:=by
  rw [beqs_iff] at h
  exact ByteArray.ext (Array.toList_inj.1 (map_toNat_inj (eq_of_beq h)))
theorem flat1_sound {a b:AV} (h:flat1 a b=true) {x y:Value} (hx:VR ρ a x) (hy:VR ρ b y):x=y:=by
  unfold flat1 at h
  split at h
  · rw [hx.bool_inv,hy.bool_inv,eq_of_beq h]
  · simp only [Bool.and_eq_true] at h
    obtain ⟨k1,h1,rfl⟩:=hx.int_inv
    obtain ⟨k2,h2,rfl⟩:=hy.int_inv
    have:=Nat.eq_of_beq_eq_true h.1
    have:=kc_inj (h1.symm.trans (this.trans h2))
    have h3:=h.2
    rw [ieq_iff] at h3
    rw [this,eq_of_beq h3]
  · obtain ⟨t1,h1,rfl⟩:=hx.str_inv
    obtain ⟨t2,h2,rfl⟩:=hy.str_inv
    subst h1;subst h2
    rw [beqs_inj h]
  · cases h
theorem flats_sound:∀ {l m:List AV},flats l m=true→∀ {x y:List Value},VRs ρ l x→VRs ρ m y→x=y
  | [],[],_,[],[],_,_=>rfl
  | a::l,b::m,h,c::x,d::y,h1,h2=>by
    simp only [flats,Bool.and_eq_true] at h
    simp only [VRs] at h1 h2
    rw [flat1_sound h.1 h1.1 h2.1,flats_sound h.2 h1.2 h2.2]
  | [],_::_,h,_,_,_,_=>by simp [flats] at h
  | _::_,[],h,_,_,_,_=>by simp [flats] at h
  | [],[],_,_::_,_,h,_=>by simp [VRs] at h
  | [],[],_,[],_::_,_,h=>by simp [VRs] at h
  | _::_,_::_,_,[],_,h,_=>by simp [VRs] at h
  | _::_,_::_,_,_::_,[],_,h=>by simp [VRs] at h
theorem found_key {t:TypeId} {d:EqD} (h:keyD P t=some d) {k:AV} {kv:Value} (hk:VR ρ k kv):∀ {es:List AEnt} {ces:List MapEntry} (i0 i:Nat) (v:AV),EntsR ρ es ces→findKey d k es i0=some (some (i0+i,v))→sameKey d k es i=true →
    ∃ c,ces[i]?=some c∧c.key=kv
  | [],[],i0,i,v,_,hf,_=>by simp [findKey] at hf
  | e::es,c::ces,i0,i,v,h1,hf,hs=>by
    simp only [EntsR] at h1
    simp only [findKey] at hf
    cases i with
    | zero =>
      refine ⟨c,rfl,?_⟩
      split at hf
      · rename_i he
        obtain ⟨kd,hu,hq,hd⟩:=keyD_sound h
        rcases hd with ⟨rfl,rfl⟩ | ⟨k',rfl,rfl⟩ | ⟨rfl,rfl⟩ | ⟨l,rfl⟩
        · unfold eqv at he
          split at he<;>(try (rename_i hq _;cases hq;done))<;>(try (cases he;done))
          rename_i heq
          have h11:=h1.1
          rw [heq] at h11
          injection he with he
          rw [h11.bool_inv,hk.bool_inv,eq_of_beq he]
        · unfold eqv at he
          split at he<;>(try (rename_i hq _;cases hq;done))<;>(try (cases he;done))
          rename_i heq
          have h11:=h1.1
          rw [heq] at h11
          split at he
          · rename_i hkk
            injection he with he
            rw [ieq_iff] at he
            obtain ⟨k1,e1,rfl⟩:=hk.int_inv
            obtain ⟨k2,e2,e3⟩:=h11.int_inv
            have:=kc_inj (e1.symm.trans (hkk.trans e2))
            rw [e3,this,eq_of_beq he]
          · cases he
        · unfold eqv at he
          split at he<;>(try (rename_i hq _;cases hq;done))<;>(try (cases he;done))
          rename_i heq
          have h11:=h1.1
          rw [heq] at h11
          injection he with he
          obtain ⟨t1,e1,rfl⟩:=hk.str_inv
          obtain ⟨t2,e2,e3⟩:=h11.str_inv
          subst e1;subst e2
          rw [e3,beqs_inj he]
        · simp only [sameKey] at hs
          split at hs
          · rename_i l' m' hkk hke
            have h11:=h1.1
            rw [hke] at h11
            obtain ⟨x,hx,e1⟩:=hk.agg_inv
            obtain ⟨y,hy,e2⟩:=h11.agg_inv
            have:=flats_sound hs hx hy
            rw [e1,e2,Array.toList_inj.1 this]
          · cases hs
          · rename_i h2 _;exact (h2 _ rfl).elim
      ·
        exfalso
        have:∀ (es:List AEnt) (j i:Nat) (v:AV),findKey d k es j=some (some (i,v))→j≤i:=by
          intro es
          induction es with
          | nil=>intro j i v h;simp [findKey] at h
          | cons e es ih =>
            intro j i v h
            simp only [findKey] at h
            split at h
            · simp only [Option.some.injEq,Prod.mk.injEq] at h;omega
            · have:=ih _ _ _ h;omega
            · cases h
        have:=this _ _ _ _ hf
        omega
      · cases hf
    | succ i =>
      split at hf
      · simp only [Option.some.injEq,Prod.mk.injEq] at hf;omega
      · obtain ⟨c',g1,g2⟩:=found_key h hk (i0+1) i v h1.2.2.2 (by rw [hf];simp;omega) hs
        exact ⟨c',by simpa using g1,g2⟩
      · cases hf
  | [],_::_,_,_,_,h1,_,_=>by simp [EntsR] at h1
  | _::_,[],_,_,_,h1,_,_=>by simp [EntsR] at h1
end Go.Abs
namespace Go.Abs
variable [Ov]
variable {P:Program} {Wr:Acc} {ρ:Names} {H H':Heap} {w:World} {nt:Nat} {env:Tree AV} {a:Act} {o:Oper} {ao:AOp} {v:AV}
def _root_.Go.Value.odd:Value→Bool
  | .int .. | .float .. | .complex .. | .string ..=>false
  | _=>true
def AV.odd:AV→Bool
  | .int .. | .str .. | .junk=>false
  | _=>true
theorem VR.odd {x:AV} {c:Value} (h:VR ρ x c) (k:x.odd=true):c.odd=true:=by
  cases x<;>cases c<;>first | (simp [VR] at h;done) | rfl | (simp [AV.odd] at k;done)
theorem binOp_eql {x y:Value} (hx:x.odd=true) (t:TypeId):binOp .eql t x y=(do pure (.bool (← Op.equal t x y))):=by
  cases x<;>first | (simp [Value.odd] at hx;done) | (cases y<;>rfl)
theorem binOp_neq {x y:Value} (hx:x.odd=true) (t:TypeId):binOp .neq t x y=(do pure (.bool (!(← Op.equal t x y)))):=by
  cases x<;>first | (simp [Value.odd] at hx;done) | (cases y<;>rfl)
theorem eqv_odd {g:Nat} {d:EqD} {x y:AV} {r:Bool} (h:eqv g d x y=some r) (h1:d≠.int) (h2:d≠.str):x.odd=true:=by
  unfold eqv at h
  split at h<;>first | rfl | (exact absurd rfl h1) | (exact absurd rfl h2) | (cases h;done)
theorem eqv_defd {g:Nat} {d:EqD} {x y:AV} {r:Bool} (h:eqv g d x y=some r):x.defd=true∧y.defd=true:=by
  unfold eqv at h
  split at h<;>first | exact ⟨rfl,rfl⟩ | (cases h;done)
theorem eqD_kind {f:Nat} {c:Bool} {t:TypeId} {d:EqD} (h:eqD P f c t=some d):(d=.int→∃ k,P.underlying t=some (.int k))∧(d=.str→P.underlying t=some .string) ∧
    (∀ c' e,d=.iface c' e→c'=c∧∃ ms,P.underlying t=some (.interface ms)∧e=ms.isEmpty):=by
  cases f with
  | zero=>simp [eqD] at h
  | succ f =>
    unfold eqD at h
    split at h
    all_goals (try (cases h;done))
    all_goals (rename_i hu)
    all_goals (try (injection h with h;subst h))
    all_goals (try (refine ⟨fun e=>?_,fun e=>?_,fun c' e' e=>?_⟩))
    all_goals (try (first | (cases e;done) | exact ⟨_,hu⟩ | exact hu))
    · split at h
      · injection h with h;subst h;cases e
      · cases h
    · split at h
      · injection h with h;subst h;cases e
      · cases h
    · split at h
      · injection h with h;subst h;cases e
      · cases h
    · injection e with e1 e2;exact ⟨e1.symm,_,hu,e2.symm⟩
    · split at h
      · cases h
      · rw [Option.map_eq_some_iff] at h;obtain ⟨_,_,h⟩:=h;subst h;cases e
    · split at h
      · cases h
      · rw [Option.map_eq_some_iff] at h;obtain ⟨_,_,h⟩:=h;subst h;cases e
    · split at h
      · cases h
      · rw [Option.map_eq_some_iff] at h;obtain ⟨_,_,h⟩:=h;subst h;cases e
    · split at h
      · injection h with h;subst h;cases e
      · cases h
    · split at h
      · injection h with h;subst h;cases e
      · cases h
    · split at h
      · injection h with h;subst h;cases e
      · cases h
theorem eqGuardIn_nil {t:TypeId} {ms:Array (String × TypeId)} (h:P.underlying t=some (.interface ms)) (n:Nat) (w:World):(Op.eqGuardIn (n+1) t .nilIface .nilIface).run P w=.ok (!ms.isEmpty) w:=by
  simp only [Op.eqGuardIn,Sem.run_bind,run_und h,Result.andThen_ok,Sem.run_pure]
theorem eqGuard_sound {op:BinOp} {t:TypeId} {x y:Operand} {ax ay:AV} {xv yv:Value} (hx:VR ρ ax xv) (hy:VR ρ ay yv) {g f:Nat} {d:EqD} {r:Bool} (hd:eqD P f (isConstO x||isConstO y) t=some d) (hg:noGuard P d t=true)
    (he:eqv g d ax ay=some r) (w:World):(eqGuard op t x y xv yv).run P w=.ok () w:=by
  have h0:op=.eql∨op=.neq∨(eqGuard op t x y xv yv).run P w=.ok () w:=by
    cases op<;>first | exact .inl rfl | exact .inr (.inl rfl) | exact .inr (.inr (by simp [eqGuard]))
  have h1:op=.eql∨op=.neq→(eqGuard op t x y xv yv)=eqGuard .eql t x y xv yv:=by rintro (rfl | rfl)<;>rfl
  have key:(eqGuard .eql t x y xv yv).run P w=.ok () w:=by
    unfold eqGuard
    simp only [Bool.not_true,Bool.false_eq_true,if_false,pure_bind]
    split
    ·
      have h1:ax=.nilIface:=by have hq:=(eqv_defd he).1;cases ax<;>first | rfl | (simp [AV.defd] at hq;done) | (simp [VR] at hx)
      have h2:ay=.nilIface:=by have hq:=(eqv_defd he).2;cases ay<;>first | rfl | (simp [AV.defd] at hq;done) | (simp [VR] at hy)
      subst h1;subst h2
      unfold eqv at he
      split at he<;>(try (rename_i hq;cases hq;done))<;>(try (rename_i hq _;cases hq;done))<;>(try (cases he;done))
      split at he
      · rename_i hce
        obtain ⟨e1,ms,e2,e3⟩:=(eqD_kind hd).2.2 _ _ rfl
        subst e1
        have hin:ms.isEmpty=true→(Op.eqGuardIn Op.maxDepth t .nilIface .nilIface).run P w=.ok false w:=fun hem=>by
          have:=eqGuardIn_nil e2 9999 w
          rw [hem] at this;exact this
        rw [e3] at hce
        clear h0 h1 hd hg he hx hy
        cases x<;>cases y<;>simp [isConstO] at hce ⊢<;>simp [hin (by simpa using hce)]
      · cases he
    · obtain ⟨l1,h1⟩:∃ l,ax=.agg l:=by have hq:=(eqv_defd he).1;cases ax<;>first | exact ⟨_,rfl⟩ | (simp [AV.defd] at hq;done) | (simp [VR] at hx)
      subst h1
      have:P.eqGuardType P.depth t=false:=by
        cases d with
        | parts l=>simpa [noGuard] using hg
        | _=>exfalso;clear h0 h1 hd hg hx hy;cases g<;>simp [eqv] at he
      simp [this]
    · simp
  rcases h0 with h | h | h
  · rw [h1 (.inl h)];exact key
  · rw [h1 (.inr h)];exact key
  · exact h
theorem ok_eq (h:Ctx P Wr ρ H w nt env a) {op:BinOp} {t:TypeId} {x y:Operand} {p:TypeId} (ho:o.op=.binOp op t x y p) {neg:Bool} {d:EqD} {ox oy:Opd} (hop:op=if neg then .neq else .eql) (hd:eqD P 16 (isConstO x||isConstO y) t=some d)
    (hg:noGuard P d t=true) (h1:cOpd P nt x=some ox) (h2:cOpd P nt y=some oy) (hni:∀ k,P.underlying t≠some (.int k)) (hns:P.underlying t≠some .string) (he:evalOp (.eq neg d ox oy) env H=some (v,H')) :
    Opk P Wr ρ w (execOp a.eval o) v H':=by
  have g1:=h.gv h1
  have g2:=h.gv h2
  simp only [evalOp,Option.map_eq_some_iff,Prod.mk.injEq] at he
  obtain ⟨q,⟨r,hr,rfl⟩,rfl,rfl⟩:=he
  have hk:=eqD_kind hd
  have hodd:=VR.odd g1 (eqv_odd hr (fun e=>by obtain ⟨k,hk⟩:=hk.1 e;exact hni k hk) (fun e=>hns (hk.2.1 e)))
  have heq:=eqv_sound ρ 16 hd hr g1 g2 10000 w (by omega)
  have hgd:=eqGuard_sound (op:=op) (P:=P) g1 g2 hd hg hr w
  refine Opk.val (c:=.bool (r != neg)) (w':=w) ?_ (Post.same h.I (by simp [VR]))
  simp only [execOp,ho,Sem.run_bind,hgd,Result.andThen_ok]
  cases neg
  · simp only [Bool.false_eq_true,if_false] at hop
    subst hop
    rw [binOp_eql hodd]
    simp only [Op.equal,Op.maxDepth,Sem.run_bind,heq,Result.andThen_ok,Sem.run_pure,Bool.bne_false]
  · simp only [if_true] at hop
    subst hop
    rw [binOp_neq hodd]
    simp only [Op.equal,Op.maxDepth,Sem.run_bind,heq,Result.andThen_ok,Sem.run_pure,Bool.bne_true]
theorem EntsR.setVal {k v:AV} {kv vv:Value} (hk:VR ρ k kv) (hv:VR ρ v vv):∀ {es:List AEnt} {ces:List MapEntry} (i:Nat),EntsR ρ es ces→EntsR ρ (setVal v k es i) (ces.modify i fun e=>{ e with key:=kv,val:=vv })
  | [],[],i,_=>by cases i<;>simp [Go.Abs.setVal,EntsR]
  | e::es,c::ces,0,h=>by simp only [EntsR] at h;simp only [Go.Abs.setVal,List.modify_zero_cons,EntsR];exact ⟨hk,hv,h.2.2.1,h.2.2.2⟩
  | e::es,c::ces,i+1,h=>by simp only [EntsR] at h;simp only [Go.Abs.setVal,List.modify_succ_cons,EntsR];exact ⟨h.1,h.2.1,h.2.2.1,EntsR.setVal hk hv i h.2.2.2⟩
  | [],_::_,_,h=>by simp [EntsR] at h
  | _::_,[],_,h=>by simp [EntsR] at h
theorem EntsR.modVal {v:AV} {vv:Value} (hv:VR ρ v vv):∀ {es:List AEnt} {ces:List MapEntry} (i:Nat),EntsR ρ es ces→EntsR ρ (es.modify i fun e=>{ e with val:=v }) (ces.modify i fun e=>{ e with val:=vv })
  | [],[],i,_=>by cases i<;>simp [EntsR]
  | e::es,c::ces,0,h=>by simp only [EntsR] at h;simp only [List.modify_zero_cons,EntsR];exact ⟨h.1,hv,h.2.2.1,h.2.2.2⟩
  | e::es,c::ces,i+1,h=>by simp only [EntsR] at h;simp only [List.modify_succ_cons,EntsR];exact ⟨h.1,h.2.1,h.2.2.1,EntsR.modVal hv i h.2.2.2⟩
  | [],_::_,_,h=>by simp [EntsR] at h
  | _::_,[],_,h=>by simp [EntsR] at h
theorem EntsR.push {k v:AV} {kv vv:Value} (n:Nat) (hk:VR ρ k kv) (hv:VR ρ v vv):∀ {es:List AEnt} {ces:List MapEntry},EntsR ρ es ces→EntsR ρ (es++[⟨k,v,n⟩]) (ces++[{ key:=kv,val:=vv,born:=n }])
  | [],[],_=>by simp [EntsR,hk,hv]
  | e::es,c::ces,h=>by simp only [EntsR] at h;simp only [List.cons_append,EntsR];exact ⟨h.1,h.2.1,h.2.2.1,EntsR.push n hk hv h.2.2.2⟩
  | [],_::_,h=>by simp [EntsR] at h
  | _::_,[],h=>by simp [EntsR] at h
theorem EntsR.erase:∀ {es:List AEnt} {ces:List MapEntry} (i:Nat),EntsR ρ es ces→EntsR ρ (eraseAt es i) (ces.eraseIdx i)
  | [],[],i,_=>by cases i<;>simp [eraseAt,EntsR]
  | e::es,c::ces,0,h=>by simp only [EntsR] at h;simp only [eraseAt,List.eraseIdx_cons_zero];exact h.2.2.2
  | e::es,c::ces,i+1,h=>by simp only [EntsR] at h;simp only [eraseAt,List.eraseIdx_cons_succ,EntsR];exact ⟨h.1,h.2.1,h.2.2.1,EntsR.erase i h.2.2.2⟩
  | [],_::_,_,h=>by simp [EntsR] at h
  | _::_,[],_,h=>by simp [EntsR] at h
theorem EntsR.bornAt:∀ {es:List AEnt} {ces:List MapEntry} (i:Nat),i<es.length→EntsR ρ es ces→∃ c,ces[i]?=some c∧c.born=bornAt es i
  | [],_,i,hi,_=>by simp at hi
  | e::es,c::ces,0,_,h=>by simp only [EntsR] at h;exact ⟨c,rfl,h.2.2.1.symm⟩
  | e::es,c::ces,i+1,hi,h=>by simp only [EntsR] at h;exact EntsR.bornAt (es:=es) i (by simpa using hi) h.2.2.2
  | _::_,[],_,_,h=>by simp [EntsR] at h
theorem EntsR.findBorn (b:Nat):∀ {es:List AEnt} {ces:List MapEntry} (i0 i:Nat),EntsR ρ es ces→findBorn b es i0=some i→i0≤i∧ces.findIdx? (fun e=>(e.born:Int)==(b:Int))=some (i-i0)∧∃ e c,es[i-i0]?=some e∧ces.find? (fun e=>e.born==b)=some c∧VR ρ e.key c.key∧VR ρ e.val c.val
  | [],_,_,_,_,h=>by simp [Go.Abs.findBorn] at h
  | e::es,c::ces,i0,i,h,hf=>by
    simp only [EntsR] at h
    simp only [Go.Abs.findBorn] at hf
    split at hf
    · rename_i hb
      have hb:=Nat.eq_of_beq_eq_true hb
      injection hf with hf;subst hf
      have hc:c.born=b:=by rw [← h.2.2.1];exact hb
      refine ⟨Nat.le_refl _,by simp [List.findIdx?_cons,hc],e,c,by simp,by simp [hc],h.1,h.2.1⟩
    · rename_i hb
      have hb:¬ e.born=b:=fun q=>hb (by rw [q];exact Nat.beq_refl _)
      have hc:¬ c.born=b:=by rw [← h.2.2.1];exact hb
      have hc':¬ (c.born:Int)=(b:Int):=by omega
      obtain ⟨g1,g2,e',c',g3,g4,g5⟩:=EntsR.findBorn b (i0+1) i h.2.2.2 hf
      refine ⟨by omega,?_,e',c',?_,?_,g5⟩
      · have hcb:((c.born:Int)==(b:Int))=false:=by simpa using hc'
        rw [List.findIdx?_cons,hcb,g2]
        simp only [Bool.false_eq_true,if_false,Option.map_some,Option.some.injEq];omega
      · rw [show i-i0=(i-(i0+1))+1 by omega];simpa using g3
      · have hcb:(c.born==b)=false:=by simpa using hc
        rw [List.find?_cons,hcb];exact g4
  | _::_,[],_,_,h,_=>by simp [EntsR] at h
theorem run_setObj {b:Nat} (w:World) {ob:Obj} (h:w.heap[b]?=some ob) (hn:∀ c e f,ob≠.cells c e f) (o:Obj):(setObj b o).run P w=.ok () { w with heap:=w.heap.setIfInBounds b o }:=by
  have hl:b<w.heap.size:=by
    rcases Nat.lt_or_ge b w.heap.size with hl | hl
    · exact hl
    · simp [Array.getElem?_eq_none hl] at h
  cases ob with
  | cells c e f=>exact absurd rfl (hn c e f)
  | _=>simp only [setObj,Sem.run,h]
theorem map_set (hI:Inv P Wr ρ H w) {id:Pos} {es:List AEnt} {clock:Nat} (hm:H.get id=.map es clock) {b:Nat} (hb:ρ id=some (b,0)) {es':List AEnt} {ces':Array MapEntry} (he:EntsR ρ es' ces'.toList) (c':Nat) (hok:MapOk ces' c')
    {w1:World} (e1:w1.heap=w.heap) (e2:w1.os=w.os) (e3:w1.tape=w.tape) (e4:w1.output=w.output) :
    ∃ w',(setObj b (.map ces' c')).run P w1=.ok () w'∧Inv P Wr ρ (H.set id (.map es' c')) w'∧Kept Wr w w':=by
  have hne:H.get id≠.none:=by rw [hm];simp
  obtain ⟨ces,hces,_⟩:=map_block hI hm hb
  refine ⟨_,run_setObj w1 (by rw [e1];exact hces) (fun _ _ _=>by simp) _,?_⟩
  have:=hI.update (i:=id) (o':=.map es' c') (ob':=.map ces' c') hne (by rw [hm];rfl) hb rfl (by simp only [OR];exact ⟨trivial,trivial,hok,he⟩) (by simp [InfoR])
    (w':={ w1 with heap:=w1.heap.setIfInBounds b (.map ces' c') }) (by simp only [e1]) e2 e3 e4
  rw [hm] at this
  exact this
theorem keyThatStays_same (k:Value) (w:World):∃ w',(Instr.keyThatStays k k).run P w=.ok k w'∧w'.heap=w.heap∧w'.os=w.os∧w'.tape=w.tape∧w'.output=w.output:=by
  unfold Instr.keyThatStays
  split
  · exact ⟨w,by simp,rfl,rfl,rfl,rfl⟩
  · cases hq:(Question.extern "map.whichKeyStays" 2).forced
    · exact ⟨w.drew,by simp [hq],rfl,rfl,rfl,rfl⟩
    · exact ⟨w,by simp [hq],rfl,rfl,rfl,rfl⟩
end Go.Abs
