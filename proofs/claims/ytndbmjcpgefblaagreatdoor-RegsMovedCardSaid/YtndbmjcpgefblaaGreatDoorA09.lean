/- A part of the proof (an abstract machine, walks): no statement of its own, no conditions. -/
import Derived.Test.YtndbmjcpgefblaaGreatDoorA08
import Derived.Laws.RangeString
set_option linter.all false
namespace Go.Abs
variable [Ov]
variable {P:Program} {Wr:Acc} {ρ:Names} {H H':Heap} {w:World} {nt:Nat} {env:Tree AV} {a:Act} {v:AV}
theorem Inv.congr (h:Inv P Wr ρ H w) {H2:Heap} (hn:H2.next=H.next) (hg:∀ j,H2.get j=H.get j):Inv P Wr ρ H2 w :=
  ⟨fun i hi=>by rw [hg] at hi ⊢;exact h.obj i hi,fun i j b x y hij hi hj=>by rw [hg] at hi hj;rw [hg,hg];exact h.sep i j b x y hij hi hj,
    fun i j hi=>by rw [hg] at hi ⊢;rw [hn];exact h.par i j hi,fun i b x hi hf=>by rw [hg] at hi hf;exact h.wr i b x hi hf,fun i hi=>by rw [hn] at hi;rw [hg];exact h.fresh i hi,
    h.new,h.glob,fun i b x ob hi=>by rw [hg] at hi ⊢;exact h.info i b x ob hi,h.dom,fun i b x hi=>by rw [hg] at hi;exact h.rd i b x hi,
    fun i hi=>by rw [hg,hn];exact ⟨(h.un i hi).1,(h.un i hi).2.1,fun j=>by rw [hg];exact (h.un i hi).2.2 j⟩,h.dead⟩
theorem set_self {w:World} {b:Nat} {ob:Obj} (h:w.heap[b]?=some ob):w.heap.setIfInBounds b ob=w.heap:=by
  apply Array.ext_getElem?
  intro i
  rw [Array.getElem?_setIfInBounds]
  split
  · rename_i e;subst e
    split
    · exact h.symm
    · rename_i hl;rw [Array.getElem?_eq_none (by omega)]
  · rfl
theorem Inv.reobj (h:Inv P Wr ρ H w) {i:Pos} {o':AObj} (hi:H.get i≠.none) (hf:(H.get i).fixed=false) (hp:(H.get i).par=[]) (hp':o'.par=[])
    (hr:∀ x ob,OR P ρ (H.get i) x ob→OR P ρ o' x ob∧∀ q,InfoR P q o' ob):Inv P Wr ρ (H.set i o') w:=by
  obtain ⟨b,x,ob,e,hl,hb,hor⟩:=h.blk hi
  obtain ⟨h1,h2⟩:=hr x ob hor
  have:=(h.update (w':=w) hi hf e hp' h1 (h2 _) (by rw [set_self hb]) rfl rfl rfl).1
  rw [hp] at this;exact this
def AEnt.kv (e:AEnt):AV × AV:=(e.key,e.val)
theorem EntsU.perm {es:List AEnt} {l m:List MapEntry} (hp:l.Perm m):EntsU ρ es l→∃ es',es'.Perm es∧EntsU ρ es' m:=by
  induction hp generalizing es with
  | nil=>intro h;exact ⟨es,List.Perm.refl _,h⟩
  | cons x _ ih =>
    intro h
    cases es with
    | nil=>simp [EntsU] at h
    | cons e es =>
      simp only [EntsU] at h
      obtain ⟨es',p,q⟩:=ih h.2.2
      exact ⟨e::es',p.cons e,by simp only [EntsU];exact ⟨h.1,h.2.1,q⟩⟩
  | swap x y r =>
    intro h
    match es,h with
    | [],h=>simp [EntsU] at h
    | [_],h=>simp [EntsU] at h
    | e1::e2::es,h =>
      simp only [EntsU] at h
      exact ⟨e2::e1::es,List.Perm.swap ..,by simp only [EntsU];exact ⟨h.2.2.1,h.2.2.2.1,h.1,h.2.1,h.2.2.2.2⟩⟩
  | trans _ _ ih1 ih2 =>
    intro h
    obtain ⟨e1,p1,q1⟩:=ih1 h
    obtain ⟨e2,p2,q2⟩:=ih2 q1
    exact ⟨e2,p2.trans p1,q2⟩
theorem EntsU.perm' {es es':List AEnt} (hp:es.Perm es'):∀ {l:List MapEntry},EntsU ρ es l→∃ l',l'.Perm l∧EntsU ρ es' l':=by
  induction hp with
  | nil=>intro l h;exact ⟨l,List.Perm.refl _,h⟩
  | cons x _ ih =>
    intro l h
    cases l with
    | nil=>simp [EntsU] at h
    | cons c l =>
      simp only [EntsU] at h
      obtain ⟨l',p,q⟩:=ih h.2.2
      exact ⟨c::l',p.cons c,by simp only [EntsU];exact ⟨h.1,h.2.1,q⟩⟩
  | swap x y r =>
    intro l h
    match l,h with
    | [],h=>simp [EntsU] at h
    | [_],h=>simp [EntsU] at h
    | c1::c2::l,h =>
      simp only [EntsU] at h
      exact ⟨c2::c1::l,List.Perm.swap ..,by simp only [EntsU];exact ⟨h.2.2.1,h.2.2.2.1,h.1,h.2.1,h.2.2.2.2⟩⟩
  | trans _ _ ih1 ih2 =>
    intro l h
    obtain ⟨e1,p1,q1⟩:=ih1 h
    obtain ⟨e2,p2,q2⟩:=ih2 q1
    exact ⟨e2,p2.trans p1,q2⟩
theorem EntsU.kv:∀ {es es':List AEnt} {m:List MapEntry},es.map AEnt.kv=es'.map AEnt.kv→EntsU ρ es m→EntsU ρ es' m
  | [],[],m,_,h=>h
  | e::es,e'::es',m,hk,h=>by
    simp only [List.map_cons,List.cons.injEq,AEnt.kv,Prod.mk.injEq] at hk
    cases m with
    | nil=>simp [EntsU] at h
    | cons c m =>
      simp only [EntsU] at h ⊢
      rw [← hk.1.1,← hk.1.2]
      exact ⟨h.1,h.2.1,EntsU.kv hk.2 h.2.2⟩
  | [],_::_,_,hk,_=>by simp at hk
  | _::_,[],_,hk,_=>by simp at hk
def bornAs:List AEnt→List MapEntry→List AEnt
  | e::es,c::m=>{ e with born:=c.born }::bornAs es m
  | _,_=>[]
theorem EntsU.exact:∀ {es:List AEnt} {m:List MapEntry},EntsU ρ es m→EntsR ρ (bornAs es m) m∧(bornAs es m).map AEnt.kv=es.map AEnt.kv
  | [],[],_=>by simp [bornAs,EntsR]
  | e::es,c::m,h=>by
    simp only [EntsU] at h
    obtain ⟨h1,h2⟩:=EntsU.exact h.2.2
    simp only [bornAs,EntsR,List.map_cons,h2]
    exact ⟨⟨h.1,h.2.1,by trivial,h1⟩,by rfl⟩
  | [],_::_,h=>by simp [EntsU] at h
  | _::_,[],h=>by simp [EntsU] at h
theorem EntsR.open:∀ {es:List AEnt} {m:List MapEntry},EntsR ρ es m→EntsU ρ es m
  | [],[],_=>by simp [EntsU]
  | e::es,c::m,h=>by simp only [EntsR] at h;simp only [EntsU];exact ⟨h.1,h.2.1,EntsR.open h.2.2.2⟩
  | [],_::_,h=>by simp [EntsR] at h
  | _::_,[],h=>by simp [EntsR] at h
theorem umap_exact (h:Inv P Wr ρ H w) {id:Pos} {es:List AEnt} (hm:H.get id=.umap es):∃ (es' esx:List AEnt) (clock:Nat),es'.Perm es∧esx.map AEnt.kv=es'.map AEnt.kv∧Inv P Wr ρ (H.set id (.map esx clock)) w:=by
  obtain ⟨b,x,ob,e,hl,hb,hor⟩:=h.blk (i:=id) (by rw [hm];simp)
  rw [hm] at hor
  cases ob<;>simp only [OR] at hor
  rename_i ces clock
  obtain ⟨rfl,hok,l,h1,h2⟩:=hor
  obtain ⟨es',p1,p2⟩:=EntsU.perm h1 h2
  obtain ⟨p3,p4⟩:=EntsU.exact p2
  refine ⟨es',bornAs es' ces.toList,clock,p1,p4,?_⟩
  have:=(h.update (i:=id) (o':=.map (bornAs es' ces.toList) clock) (ob':=.map ces clock) (w':=w) (by rw [hm];simp) (by rw [hm];rfl) e rfl (by simp only [OR];exact ⟨trivial,trivial,hok,p3⟩) (by simp [InfoR]) (by rw [set_self hb]) rfl rfl rfl).1
  rw [hm] at this;exact this
theorem umap_loose (h:Inv P Wr ρ H w) {id:Pos} {esx es es':List AEnt} {clock:Nat} (hm:H.get id=.map esx clock) (hp:es'.Perm es) (hk:esx.map AEnt.kv=es'.map AEnt.kv):Inv P Wr ρ (H.set id (.umap es)) w:=by
  refine h.reobj (by rw [hm];simp) (by rw [hm];rfl) (by rw [hm];rfl) rfl ?_
  intro x ob hor
  rw [hm] at hor
  cases ob<;>simp only [OR] at hor ⊢
  obtain ⟨rfl,rfl,hok,h3⟩:=hor
  obtain ⟨l,p1,p2⟩:=EntsU.perm' hp (EntsU.kv hk (EntsR.open h3))
  exact ⟨⟨by trivial,hok,l,p1,p2⟩,fun q=>by simp [InfoR]⟩
theorem go_kv {d:EqD} {k:AV}:∀ {es es':List AEnt},es.map AEnt.kv=es'.map AEnt.kv→findU.go d k es=findU.go d k es'
  | [],[],_=>rfl
  | e::es,e'::es',h=>by
    simp only [List.map_cons,List.cons.injEq,AEnt.kv,Prod.mk.injEq] at h
    simp only [findU.go,go_kv h.2,h.1.1,h.1.2]
  | [],_::_,h=>by simp at h
  | _::_,[],h=>by simp at h
theorem go_perm {d:EqD} {k:AV} {es es':List AEnt} (h:es.Perm es'):findU.go d k es=findU.go d k es':=by
  induction h with
  | nil=>rfl
  | cons x _ ih=>simp only [findU.go,ih]
  | swap x y r =>
    simp only [findU.go]
    cases h1:eqv 64 d k x.key with
    | none=>cases h2:eqv 64 d k y.key with
      | none=>simp
      | some b=>cases b<;>simp
    | some q=>cases h2:eqv 64 d k y.key with
      | none=>cases q<;>simp
      | some b =>
        cases h3:findU.go d k r with
        | none=>cases q<;>cases b<;>simp
        | some r=>cases r<;>cases q<;>cases b<;>simp
  | trans _ _ ih1 ih2=>exact ih1.trans ih2
theorem updU_kv {d:EqD} {k v:AV}:∀ {es es':List AEnt},es.map AEnt.kv=es'.map AEnt.kv→(updU d k v es).map AEnt.kv=(updU d k v es').map AEnt.kv
  | [],[],_=>rfl
  | e::es,e'::es',h=>by
    simp only [List.map_cons,List.cons.injEq,AEnt.kv,Prod.mk.injEq] at h
    have:isKey d k e=isKey d k e':=by simp only [isKey,h.1.1]
    simp only [updU,List.map_cons,updU_kv h.2,this,List.cons.injEq,and_true]
    split
    · rfl
    · simp only [AEnt.kv,h.1.1,h.1.2]
  | [],_::_,h=>by simp at h
  | _::_,[],h=>by simp at h
theorem delU_kv {d:EqD} {k:AV}:∀ {es es':List AEnt},es.map AEnt.kv=es'.map AEnt.kv→(delU d k es).map AEnt.kv=(delU d k es').map AEnt.kv
  | [],[],_=>rfl
  | e::es,e'::es',h=>by
    have h0:=h
    simp only [List.map_cons,List.cons.injEq,AEnt.kv,Prod.mk.injEq] at h
    have:isKey d k e=isKey d k e':=by simp only [isKey,h.1.1]
    simp only [delU,this]
    split
    · exact delU_kv h.2
    · simp only [List.map_cons,delU_kv h.2,List.cons.injEq,and_true]
      simp only [AEnt.kv,h.1.1,h.1.2]
  | [],_::_,h=>by simp at h
  | _::_,[],h=>by simp at h
theorem updU_map (d:EqD) (k v:AV) (es:List AEnt):updU d k v es=es.map fun e=>if isKey d k e then { e with key:=k,val:=v } else e:=by
  induction es with
  | nil=>rfl
  | cons e es ih=>simp only [updU,List.map_cons,ih]
theorem delU_filter (d:EqD) (k:AV) (es:List AEnt):delU d k es=es.filter fun e=>!isKey d k e:=by
  induction es with
  | nil=>rfl
  | cons e es ih =>
    simp only [delU,List.filter_cons,ih]
    cases isKey d k e<;>simp
theorem updU_perm (d:EqD) (k v:AV) {es es':List AEnt} (h:es.Perm es'):(updU d k v es).Perm (updU d k v es'):=by rw [updU_map,updU_map];exact h.map _
theorem delU_perm (d:EqD) (k:AV) {es es':List AEnt} (h:es.Perm es'):(delU d k es).Perm (delU d k es'):=by rw [delU_filter,delU_filter];exact h.filter _
theorem go_none {d:EqD} {k v:AV}:∀ {es:List AEnt},findU.go d k es=some none→updU d k v es=es∧delU d k es=es∧∀ i,findKey d k es i=some none
  | [],_=>⟨rfl,rfl,fun _=>rfl⟩
  | e::es,h=>by
    simp only [findU.go] at h
    split at h
    · cases h
    · rename_i r h1 h2
      injection h with h;subst h
      obtain ⟨g1,g2,g3⟩:=go_none (v:=v) h2
      have:isKey d k e=false:=by simp [isKey,h1]
      exact ⟨by simp [updU,this,g1],by simp [delU,this,g2],fun i=>by simp [findKey,h1,g3]⟩
    · cases h
theorem go_some {d:EqD} {k v x:AV}:∀ {es:List AEnt},findU.go d k es=some (some x)→∀ i0,∃ i,findKey d k es i0=some (some (i0+i,x))∧i<es.length∧setVal v k es i=updU d k v es∧eraseAt es i=delU d k es
  | [],h,_=>by simp [findU.go] at h
  | e::es,h,i0=>by
    simp only [findU.go] at h
    split at h
    · rename_i h1 h2
      injection h with h;injection h with h;subst h
      obtain ⟨g1,g2,_⟩:=go_none (v:=v) h2
      have:isKey d k e=true:=by simp [isKey,h1]
      refine ⟨0,by simp [findKey,h1],by simp,?_,?_⟩
      · simp only [setVal,updU,this,if_true,g1]
      · simp only [eraseAt,delU,this,if_true,g2]
    · rename_i r h1 h2
      injection h with h;subst h
      obtain ⟨i,g1,g2,g3,g4⟩:=go_some (v:=v) h2 (i0+1)
      have:isKey d k e=false:=by simp [isKey,h1]
      refine ⟨i+1,by simp only [findKey,h1,g1];congr 3;omega,by simpa using g2,?_,?_⟩
      · simp [setVal,updU,this,g3]
      · simp [eraseAt,delU,this,g4]
    · cases h
theorem same_simple {d:EqD} (hd:simpleKey d=true) (k:AV):∀ (es:List AEnt) (i:Nat),i<es.length→sameKey d k es i=true
  | [],i,h=>by simp at h
  | e::es,0,_=>by cases d<;>first | rfl | (simp [simpleKey] at hd)
  | e::es,i+1,h=>by simp only [sameKey];exact same_simple hd k es i (by simpa using h)
def AOp.mapOf:AOp→Option Opd
  | .lookup _ _ _ m _ | .mapUpd _ m _ _ | .delete _ m _=>some m
  | _=>none
def NoU (env:Tree AV) (H:Heap) (ao:AOp):Prop:=∀ om id es,ao.mapOf=some om→gv env om=.map id→H.get id≠.umap es
theorem umap_op {s:Sem Next} {ao:AOp} (hex:∀ {H0 H1:Heap} {v:AV},Inv P Wr ρ H0 w→NoU env H0 ao→evalOp ao env H0=some (v,H1)→Opk P Wr ρ w s v H1) (hI:Inv P Wr ρ H w) (he:evalOp ao env H=some (v,H')):Opk P Wr ρ w s v H':=by
  by_cases hU:NoU env H ao
  · exact hex hI hU he
  simp only [NoU,Classical.not_forall,not_imp,ne_eq,Classical.not_not] at hU
  obtain ⟨om,id,es,hmap,hv,hm⟩:=hU
  obtain ⟨es',esx,clock,hp,hk,hI0⟩:=umap_exact hI hm
  have hno:NoU env (H.set id (.map esx clock)) ao:=by
    intro om' id' es2 h1 h2
    rw [hmap] at h1;injection h1 with h1;subst h1
    rw [hv] at h2;injection h2 with h2;subst h2
    rw [Heap.get_set,if_pos rfl];simp
  have hg:(H.set id (.map esx clock)).get id=.map esx clock:=by rw [Heap.get_set,if_pos rfl]
  have loose:∀ {v:AV} {esy es1 es2:List AEnt} {c:Nat} {H1 H2:Heap},Opk P Wr ρ w s v H1→H1.get id=.map esy c→(∀ j,j≠id→H1.get j=H.get j)→H1.next=H.next→es1.Perm es2→esy.map AEnt.kv=es1.map AEnt.kv →
      H2.get id=.umap es2→(∀ j,j≠id→H2.get j=H.get j)→H2.next=H.next→Opk P Wr ρ w s v H2:=by
    intro v esy es1 es2 c H1 H2 ho g1 g2 g3 g4 g5 g6 g7 g8
    obtain ⟨q,w',hr,ρ',x1,x2,x3,x4⟩:=ho
    refine ⟨q,w',hr,ρ',x1,x2,(umap_loose x3 g1 g4 g5).congr (by rw [g8];exact g3.symm) ?_,x4⟩
    intro j
    rw [Heap.get_set]
    by_cases e:j=id
    · subst e;rw [if_pos rfl,g6]
    · rw [if_neg e,g2 j e,g7 j e]
  have hfind:∀ d k,findU d k es=findU d k esx:=by
    intro d k
    unfold findU
    split
    · rw [← go_perm hp,← go_kv hk]
    · rfl
  have hsimple:∀ {d:EqD} {k:AV} {r:Option AV},findU d k esx=some r→simpleKey d=true∧findU.go d k esx=some r:=by
    intro d k r h
    unfold findU at h
    split at h
    · exact ⟨by assumption,h⟩
    · cases h
  cases ao<;>simp only [AOp.mapOf,Option.some.injEq,reduceCtorEq] at hmap
  all_goals subst hmap
  case lookup d z ok om k =>
    simp only [evalOp] at he
    split at he
    · cases he
    rename_i hko
    simp only [hv,hm,hfind] at he
    split at he
    · rename_i x hf
      obtain ⟨h1,h2⟩:=hsimple hf
      obtain ⟨i,f1,_⟩:=go_some (v:=x) h2 0
      simp only [Option.some.injEq,Prod.mk.injEq] at he
      obtain ⟨rfl,rfl⟩:=he
      refine loose (hex hI0 hno (v:=if ok=true then .tuple [x,.bool true] else x) (H1:=H.set id (.map esx clock)) ?_) hg (fun j hj=>by rw [Heap.get_set,if_neg hj]) rfl hp hk hm (fun _ _=>rfl) rfl
      simp only [evalOp,hv,hg,f1,hko,Bool.false_eq_true,if_false]
    · rename_i hf
      obtain ⟨h1,h2⟩:=hsimple hf
      obtain ⟨_,_,f1⟩:=go_none (v:=z) h2
      simp only [Option.some.injEq,Prod.mk.injEq] at he
      obtain ⟨rfl,rfl⟩:=he
      refine loose (hex hI0 hno (v:=if ok=true then .tuple [z,.bool false] else z) (H1:=H.set id (.map esx clock)) ?_) hg (fun j hj=>by rw [Heap.get_set,if_neg hj]) rfl hp hk hm (fun _ _=>rfl) rfl
      simp only [evalOp,hv,hg,f1,hko,Bool.false_eq_true,if_false]
    · cases he
  case mapUpd d om k x =>
    simp only [evalOp] at he
    split at he
    · cases he
    rename_i hko
    simp only [hv,hm,hfind] at he
    split at he
    · rename_i y hf
      obtain ⟨h1,h2⟩:=hsimple hf
      obtain ⟨i,f1,f2,f3,_⟩:=go_some (v:=gv env x) h2 0
      simp only [Option.some.injEq,Prod.mk.injEq] at he
      obtain ⟨rfl,rfl⟩:=he
      refine loose (esy:=setVal (gv env x) (gv env k) esx i) (es1:=updU d (gv env k) (gv env x) es') (c:=clock) (hex hI0 hno (v:=.undef) (H1:=(H.set id (.map esx clock)).set id (.map (setVal (gv env x) (gv env k) esx i) clock)) ?_) (by rw [Heap.get_set,if_pos rfl]) (fun j hj=>by rw [Heap.get_set,if_neg hj,Heap.get_set,if_neg hj]) rfl
        (updU_perm d _ _ hp) (by rw [f3];exact updU_kv hk) (by rw [Heap.get_set,if_pos rfl]) (fun j hj=>by rw [Heap.get_set,if_neg hj]) rfl
      simp only [evalOp,hv,hg,f1,hko,Bool.false_eq_true,if_false,Nat.zero_add,same_simple h1 _ _ _ f2,if_true]
    · rename_i hf
      obtain ⟨h1,h2⟩:=hsimple hf
      obtain ⟨_,_,f1⟩:=go_none (v:=gv env x) h2
      simp only [Option.some.injEq,Prod.mk.injEq] at he
      obtain ⟨rfl,rfl⟩:=he
      refine loose (esy:=esx++[⟨gv env k,gv env x,clock⟩]) (es1:=es'++[⟨gv env k,gv env x,0⟩]) (c:=clock+1) (hex hI0 hno (v:=.undef) (H1:=(H.set id (.map esx clock)).set id (.map (esx++[⟨gv env k,gv env x,clock⟩]) (clock+1))) ?_) (by rw [Heap.get_set,if_pos rfl]) (fun j hj=>by rw [Heap.get_set,if_neg hj,Heap.get_set,if_neg hj]) rfl
        (hp.append_right _) (by simp [hk,AEnt.kv]) (by rw [Heap.get_set,if_pos rfl]) (fun j hj=>by rw [Heap.get_set,if_neg hj]) rfl
      simp only [evalOp,hv,hg,f1,hko,Bool.false_eq_true,if_false]
    · cases he
  case delete d om k =>
    simp only [evalOp] at he
    split at he
    · cases he
    rename_i hko
    simp only [hv,hm,hfind] at he
    split at he
    · rename_i r hf
      obtain ⟨h1,h2⟩:=hsimple hf
      simp only [Option.some.injEq,Prod.mk.injEq] at he
      obtain ⟨rfl,rfl⟩:=he
      cases r with
      | some y =>
        obtain ⟨i,f1,f2,_,f4⟩:=go_some (v:=gv env k) h2 0
        refine loose (esy:=eraseAt esx i) (es1:=delU d (gv env k) es') (c:=clock) (hex hI0 hno (v:=.undef) (H1:=(H.set id (.map esx clock)).set id (.map (eraseAt esx i) clock)) ?_) (by rw [Heap.get_set,if_pos rfl]) (fun j hj=>by rw [Heap.get_set,if_neg hj,Heap.get_set,if_neg hj]) rfl
          (delU_perm d _ hp) (by rw [f4];exact delU_kv hk) (by rw [Heap.get_set,if_pos rfl]) (fun j hj=>by rw [Heap.get_set,if_neg hj]) rfl
        simp only [evalOp,hv,hg,f1,hko,Bool.false_eq_true,if_false,Nat.zero_add]
      | none =>
        obtain ⟨_,f2,f1⟩:=go_none (v:=gv env k) h2
        refine loose (esy:=esx) (es1:=delU d (gv env k) es') (c:=clock) (hex hI0 hno (v:=.undef) (H1:=(H.set id (.map esx clock)).set id (.map esx clock)) ?_) (by rw [Heap.get_set,if_pos rfl]) (fun j hj=>by rw [Heap.get_set,if_neg hj,Heap.get_set,if_neg hj]) rfl
          (delU_perm d _ hp) (by rw [← delU_kv hk,f2]) (by rw [Heap.get_set,if_pos rfl]) (fun j hj=>by rw [Heap.get_set,if_neg hj]) rfl
        simp only [evalOp,hv,hg,f1,hko,Bool.false_eq_true,if_false]
    · cases he
end Go.Abs
namespace Go.Abs
variable [Ov]
variable {P:Program} {Wr:Acc} {ρ:Names} {H H':Heap} {w:World} {nt:Nat} {env:Tree AV} {a:Act} {o:Oper} {ao:AOp} {v:AV}
theorem ok_lookup_ex (h:Ctx P Wr ρ H w nt env a) {t:TypeId} {m k:Operand} {ok:Bool} (ho:o.op=.lookup t m k ok) (hc:cOp P nt o=some ao) (hU:NoU env H ao) (he:evalOp ao env H=some (v,H')):Opk P Wr ρ w (execOp a.eval o) v H':=by
  simp only [cOp,ho,Option.bind_eq_bind,Option.bind_eq_some_iff] at hc
  obtain ⟨d,hd,hc⟩:=hc
  split at hc
  · rename_i kt e
    simp only [Option.bind_eq_some_iff,Option.pure_def,Option.some.injEq] at hc
    obtain ⟨kd,hkd,z,hz,om,h1,ok_,h2,rfl⟩:=hc
    obtain ⟨zv,hzr,hzv,hzd⟩:=run_zeroValue hz
    have g1:=h.gv h1
    have g2:=h.gv h2
    simp only [evalOp] at he
    split at he
    · cases he
    rename_i hko
    have hko:keyOk kd (gv env ok_)=true:=by simpa using hko
    have hck:=fun em w=>keyOk_sound hkd hko g2 em (P:=P) w
    have hnone:∀ {c:Value},VR ρ z c→VR ρ (if ok=true then .tuple [z,.bool false] else z) (if ok=true then .tuple #[c,.bool false] else c):=by
      intro c hc;cases ok
      · exact hc
      · simp [VR,VRs,hc]
    have hsome:∀ {x:AV} {c:Value},VR ρ x c→VR ρ (if ok=true then .tuple [x,.bool true] else x) (if ok=true then .tuple #[c,.bool true] else c):=by
      intro x c hc;cases ok
      · exact hc
      · simp [VR,VRs,hc]
    split at he
    · rename_i hv
      simp only [Option.some.injEq,Prod.mk.injEq] at he
      obtain ⟨rfl,rfl⟩:=he
      rw [hv] at g1
      have hx:=g1.nilmap_inv
      obtain ⟨r',f1,f2⟩:=findKey_sound (P:=P) hkd g2 w (es:=[]) (ces:=[]) (by simp [EntsR]) (r:=none) rfl
      have hr:r'=none:=by cases r'<;>simp_all [FR]
      subst hr
      refine Opk.val (c:=if ok=true then .tuple #[zv,.bool false] else zv) (w':=w) ?_ (Post.same h.I (hnone (hzv ρ)))
      simp only [execOp,ho,Instr.lookup,Sem.run_bind,run_und hd,Result.andThen_ok,hx,Sem.run_pure,hck,f1,hzr]
    · rename_i id hv
      rw [hv] at g1
      obtain ⟨b,hb,hx⟩:=g1.map_inv
      split at he
      · rename_i es clock hm
        obtain ⟨ces,k1,k2⟩:=map_block h.I hm hb
        split at he
        · rename_i i x hf
          simp only [Option.some.injEq,Prod.mk.injEq] at he
          obtain ⟨rfl,rfl⟩:=he
          obtain ⟨r',f1,f2⟩:=findKey_sound (P:=P) hkd g2 w k2 hf
          obtain ⟨⟨j,c⟩,rfl⟩:∃ p,r'=some p:=by cases r' with | none=>simp [FR] at f2 | some p=>exact ⟨p,rfl⟩
          simp only [FR] at f2
          refine Opk.val (c:=if ok=true then .tuple #[c,.bool true] else c) (w':=w) ?_ (Post.same h.I (hsome f2.2.1))
          simp only [execOp,ho,Instr.lookup,Sem.run_bind,run_und hd,Result.andThen_ok,hx,Sem.run_pure,hck,f1,run_getMap k1]
        · rename_i hf
          simp only [Option.some.injEq,Prod.mk.injEq] at he
          obtain ⟨rfl,rfl⟩:=he
          obtain ⟨r',f1,f2⟩:=findKey_sound (P:=P) hkd g2 w k2 hf
          have hr:r'=none:=by cases r'<;>simp_all [FR]
          subst hr
          refine Opk.val (c:=if ok=true then .tuple #[zv,.bool false] else zv) (w':=w) ?_ (Post.same h.I (hnone (hzv ρ)))
          simp only [execOp,ho,Instr.lookup,Sem.run_bind,run_und hd,Result.andThen_ok,hx,Sem.run_pure,hck,f1,run_getMap k1,hzr]
        · cases he
      · rename_i es hm;exact absurd hm (hU _ _ _ rfl hv)
      · cases he
    · cases he
  · cases hc
theorem ok_lookup (h:Ctx P Wr ρ H w nt env a) {t:TypeId} {m k:Operand} {ok:Bool} (ho:o.op=.lookup t m k ok) (hc:cOp P nt o=some ao) (he:evalOp ao env H=some (v,H')):Opk P Wr ρ w (execOp a.eval o) v H' :=
  umap_op (fun hI hU he=>ok_lookup_ex ⟨h.E,hI⟩ ho hc hU he) h.I he
theorem Opk.skip {s:Sem Next} {w':World} (h:s.run P w=.ok .skip w') (hp:Post P Wr ρ w v H' undef w'):Opk P Wr ρ w s v H':=⟨undef,w',.inr ⟨h,rfl⟩,hp⟩
theorem FR_some {n i:Nat} {x:AV} {r':Option (Nat × Value)} (h:FR ρ n (some (i,x)) r'):∃ c,r'=some (i,c)∧VR ρ x c∧i<n:=by
  cases r' with
  | none=>simp [FR] at h
  | some p=>obtain ⟨j,c⟩:=p;simp only [FR] at h;obtain ⟨rfl,h2,h3⟩:=h;exact ⟨c,rfl,h2,h3⟩
theorem FR_none {n:Nat} {r':Option (Nat × Value)} (h:FR ρ n none r'):r'=none:=by
  cases r' with
  | none=>rfl
  | some p=>simp [FR] at h
theorem ok_mapUpd_ex (h:Ctx P Wr ρ H w nt env a) {t:TypeId} {m k x:Operand} (ho:o.op=.mapUpdate t m k x∨o.op=.insert t m k x) (hc:cOp P nt o=some ao) (hU:NoU env H ao) (he:evalOp ao env H=some (v,H')):Opk P Wr ρ w (execOp a.eval o) v H':=by
  have hc':∃ d,und P t=some d∧∃ kt e,d=.map kt e∧∃ kd,keyD P kt=some kd∧∃ om,cOpd P nt m=some om∧∃ ok_,cOpd P nt k=some ok_∧∃ ox,cOpd P nt x=some ox∧ao=.mapUpd kd om ok_ ox:=by
    rcases ho with ho | ho<;>simp only [cOp,ho,Option.bind_eq_bind,Option.bind_eq_some_iff] at hc<;>obtain ⟨d,hd,hc⟩:=hc<;>refine ⟨d,hd,?_⟩<;>split at hc<;>(try (cases hc;done)) <;>
      simp only [Option.bind_eq_some_iff,Option.pure_def,Option.some.injEq] at hc<;>obtain ⟨kd,hkd,om,h1,ok_,h2,ox,h3,h4⟩:=hc<;>exact ⟨_,_,rfl,kd,hkd,om,h1,ok_,h2,ox,h3,h4.symm⟩
  obtain ⟨d,hd,kt,e,rfl,kd,hkd,om,h1,ok_,h2,ox,h3,rfl⟩:=hc'
  have hex:(execOp a.eval o)=(do Instr.mapUpdate t (a.eval m) (a.eval k) (a.eval x);pure .skip):=by rcases ho with ho | ho<;>simp only [execOp,ho]
  have g1:=h.gv h1
  have g2:=h.gv h2
  have g3:=h.gv h3
  simp only [evalOp] at he
  split at he
  · cases he
  rename_i hko
  have hko:keyOk kd (gv env ok_)=true:=by simpa using hko
  have hck:=fun em w=>keyOk_sound hkd hko g2 em (P:=P) w
  split at he
  · rename_i id hv
    rw [hv] at g1
    obtain ⟨b,hb,hx⟩:=g1.map_inv
    split at he
    · rename_i es clock hm
      obtain ⟨ces,k1,k2⟩:=map_block h.I hm hb
      split at he
      · rename_i i x' hf
        split at he
        case isFalse=>cases he
        rename_i hsk
        simp only [Option.some.injEq,Prod.mk.injEq] at he
        obtain ⟨rfl,rfl⟩:=he
        obtain ⟨r',f1,f2⟩:=findKey_sound (P:=P) hkd g2 w k2 hf
        obtain ⟨c,rfl,f3,f4⟩:=FR_some f2
        obtain ⟨ce,q1,q2⟩:=found_key hkd g2 0 i x' k2 (by rw [hf,Nat.zero_add]) hsk
        obtain ⟨w1,r1,r2,r3,r4,r5⟩:=keyThatStays_same (P:=P) (a.eval k) w
        obtain ⟨w',s1,s2,s3⟩:=map_set (P:=P) h.I hm hb (es':=setVal (gv env ox) (gv env ok_) es i) (ces':=ces.modify i fun e=>{ e with key:=a.eval k,val:=a.eval x }) (by rw [Array.toList_modify];exact EntsR.setVal g2 g3 i k2) clock (MapOk.modify (map_ok h.I hm hb k1) i (fun _=>rfl)) r2 r3 r4 r5
        refine Opk.skip (w':=w') ?_ ⟨ρ,Ext.refl ρ,VR.undef ρ,s2,s3⟩
        have hkey:((ces[i]?).map (·.key)).getD (a.eval k)=a.eval k:=by rw [Array.getElem?_toList] at q1;rw [q1];simpa using q2
        simp only [hex,Instr.mapUpdate,Sem.run_bind,run_und hd,Result.andThen_ok,hx,Sem.run_pure,hck,f1,run_getMap k1,hkey,r1,s1]
      · rename_i hf
        simp only [Option.some.injEq,Prod.mk.injEq] at he
        obtain ⟨rfl,rfl⟩:=he
        obtain ⟨r',f1,f2⟩:=findKey_sound (P:=P) hkd g2 w k2 hf
        have:=FR_none f2
        subst this
        obtain ⟨w',s1,s2,s3⟩:=map_set (P:=P) h.I hm hb (es':=es++[⟨gv env ok_,gv env ox,clock⟩]) (ces':=ces.push { key:=a.eval k,val:=a.eval x,born:=clock }) (by rw [Array.toList_push];exact EntsR.push clock g2 g3 k2) (clock+1) (MapOk.push (map_ok h.I hm hb k1) rfl) (w1:=w) rfl rfl rfl rfl
        refine Opk.skip (w':=w') ?_ ⟨ρ,Ext.refl ρ,VR.undef ρ,s2,s3⟩
        simp only [hex,Instr.mapUpdate,Sem.run_bind,run_und hd,Result.andThen_ok,hx,Sem.run_pure,hck,f1,run_getMap k1,s1]
      · cases he
    · rename_i es hm;exact absurd hm (hU _ _ _ rfl hv)
    · cases he
  · cases he
theorem ok_mapUpd (h:Ctx P Wr ρ H w nt env a) {t:TypeId} {m k x:Operand} (ho:o.op=.mapUpdate t m k x∨o.op=.insert t m k x) (hc:cOp P nt o=some ao) (he:evalOp ao env H=some (v,H')):Opk P Wr ρ w (execOp a.eval o) v H' :=
  umap_op (fun hI hU he=>ok_mapUpd_ex ⟨h.E,hI⟩ ho hc hU he) h.I he
theorem findKey_ge {d:EqD} {k:AV}:∀ (es:List AEnt) (j i:Nat) (v:AV),findKey d k es j=some (some (i,v))→j≤i
  | [],j,i,v,h=>by simp [findKey] at h
  | e::es,j,i,v,h=>by
    simp only [findKey] at h
    split at h
    · simp only [Option.some.injEq,Prod.mk.injEq] at h;omega
    · have:=findKey_ge es _ _ _ h;omega
    · cases h
theorem EntsR.found {d:EqD} {k:AV} {kv:Value} (hk:VR ρ k kv):∀ {es:List AEnt} {ces:List MapEntry} (i0 i:Nat) (x:AV),EntsR ρ es ces→findKey d k es i0=some (some (i0+i,x))→EntsR ρ (Go.Abs.setVal x k es i) (ces.modify i fun e=>{ e with key:=kv })
  | [],_,i0,i,x,_,hf=>by simp [findKey] at hf
  | e::es,c::ces,i0,i,x,h,hf=>by
    simp only [EntsR] at h
    simp only [findKey] at hf
    cases i with
    | zero =>
      simp only [Go.Abs.setVal,List.modify_zero_cons,EntsR]
      split at hf
      · simp only [Option.some.injEq,Prod.mk.injEq] at hf
        exact ⟨hk,by rw [← hf.2];exact h.2.1,h.2.2.1,h.2.2.2⟩
      · have:=findKey_ge es _ _ _ hf;omega
      · cases hf
    | succ i =>
      simp only [Go.Abs.setVal,List.modify_succ_cons,EntsR]
      refine ⟨h.1,h.2.1,h.2.2.1,?_⟩
      split at hf
      · simp only [Option.some.injEq,Prod.mk.injEq] at hf;omega
      · exact EntsR.found hk (i0+1) i x h.2.2.2 (by rw [hf,show i0+1+i=i0+(i+1) by omega])
      · cases hf
  | _::_,[],_,_,_,h,_=>by simp [EntsR] at h
theorem ok_mapEntry (h:Ctx P Wr ρ H w nt env a) {t:TypeId} {m k:Operand} (ho:o.op=.mapEntry t m k) (hc:cOp P nt o=some ao) (he:evalOp ao env H=some (v,H')):Opk P Wr ρ w (execOp a.eval o) v H':=by
  simp only [cOp,ho,Option.bind_eq_bind,Option.bind_eq_some_iff] at hc
  obtain ⟨d,hd,hc⟩:=hc
  split at hc
  · rename_i kt e
    simp only [Option.bind_eq_some_iff,Option.pure_def,Option.some.injEq] at hc
    obtain ⟨kd,hkd,z,hz,om,h1,ok_,h2,rfl⟩:=hc
    obtain ⟨zv,hzr,hzv,hzd⟩:=run_zeroValue hz
    have g1:=h.gv h1
    have g2:=h.gv h2
    simp only [evalOp] at he
    split at he
    · cases he
    rename_i hko
    have hko:keyOk kd (gv env ok_)=true:=by simpa using hko
    have hck:=fun em w=>keyOk_sound hkd hko g2 em (P:=P) w
    split at he
    · rename_i id hv
      rw [hv] at g1
      obtain ⟨b,hb,hx⟩:=g1.map_inv
      split at he
      · rename_i es clock hm
        obtain ⟨ces,k1,k2⟩:=map_block h.I hm hb
        split at he
        · rename_i i x' hf
          split at he
          case isFalse=>cases he
          rename_i hsk
          simp only [Option.some.injEq,Prod.mk.injEq] at he
          obtain ⟨rfl,rfl⟩:=he
          obtain ⟨r',f1,f2⟩:=findKey_sound (P:=P) hkd g2 w k2 hf
          obtain ⟨c,rfl,f3,f4⟩:=FR_some f2
          obtain ⟨ce,q1,q2⟩:=found_key hkd g2 0 i x' k2 (by rw [hf,Nat.zero_add]) hsk
          obtain ⟨w1,r1,r2,r3,r4,r5⟩:=keyThatStays_same (P:=P) (a.eval k) w
          rw [Array.getElem?_toList] at q1
          obtain ⟨ce2,q3,q4⟩:=EntsR.bornAt i f4 k2
          rw [Array.getElem?_toList] at q3
          obtain ⟨w',s1,s2,s3⟩:=map_set (P:=P) h.I hm hb (es':=setVal x' (gv env ok_) es i) (ces':=ces.modify i fun e=>{ e with key:=a.eval k }) (by
            rw [Array.toList_modify]
            exact EntsR.found g2 0 i x' k2 (by rw [hf,Nat.zero_add])) clock (MapOk.modify (map_ok h.I hm hb k1) i (fun _=>rfl)) r2 r3 r4 r5
          refine Opk.val (c:=.tuple #[c,goInt (bornAt es i)]) (w':=w') ?_ ⟨ρ,Ext.refl ρ,?_,s2,s3⟩
          · have hkey:((ces[i]?).map (·.key)).getD (a.eval k)=a.eval k:=by rw [q1];simpa using q2
            have hborn:((ces[i]?).map (fun x=>(x.born:Int))).getD 0=(bornAt es i:Int):=by rw [q3];simp [q4]
            simp only [execOp,ho,Instr.mapEntry,Sem.run_bind,run_und hd,Result.andThen_ok,hx,Sem.run_pure,hck,f1,run_getMap k1,hkey,r1,s1,hborn]
          · simp only [VR,VRs];exact ⟨f3,VR.goInt ρ _,trivial⟩
        · rename_i hf
          simp only [Option.some.injEq,Prod.mk.injEq] at he
          obtain ⟨rfl,rfl⟩:=he
          obtain ⟨r',f1,f2⟩:=findKey_sound (P:=P) hkd g2 w k2 hf
          have:=FR_none f2
          subst this
          obtain ⟨w',s1,s2,s3⟩:=map_set (P:=P) h.I hm hb (es':=es++[⟨gv env ok_,z,clock⟩]) (ces':=ces.push { key:=a.eval k,val:=zv,born:=clock }) (by rw [Array.toList_push];exact EntsR.push clock g2 (hzv ρ) k2) (clock+1) (MapOk.push (map_ok h.I hm hb k1) rfl) (w1:=w) rfl rfl rfl rfl
          refine Opk.val (c:=.tuple #[zv,goInt clock]) (w':=w') ?_ ⟨ρ,Ext.refl ρ,?_,s2,s3⟩
          · simp only [execOp,ho,Instr.mapEntry,Sem.run_bind,run_und hd,Result.andThen_ok,hx,Sem.run_pure,hck,f1,run_getMap k1,hzr,s1]
          · simp only [VR,VRs];exact ⟨hzv ρ,VR.goInt ρ _,trivial⟩
        · cases he
      · cases he
    · cases he
  · cases hc
theorem ok_entryStore (h:Ctx P Wr ρ H w nt env a) {t:TypeId} {m s x:Operand} (ho:o.op=.entryStore t m s x) (hc:cOp P nt o=some ao) (he:evalOp ao env H=some (v,H')):Opk P Wr ρ w (execOp a.eval o) v H':=by
  simp only [cOp,ho,Option.bind_eq_bind,Option.bind_eq_some_iff,Option.pure_def,Option.some.injEq] at hc
  obtain ⟨om,h1,os,h2,ox,h3,rfl⟩:=hc
  have g1:=h.gv h1
  have g2:=h.gv h2
  have g3:=h.gv h3
  simp only [evalOp] at he
  split at he
  · rename_i id k b hv hs
    rw [hv] at g1
    rw [hs] at g2
    obtain ⟨bb,hb,hx⟩:=g1.map_inv
    obtain ⟨k',_,hi⟩:=g2.int_inv
    split at he
    · rename_i es clock hm
      obtain ⟨ces,k1,k2⟩:=map_block h.I hm hb
      split at he
      · rename_i i hf
        simp only [Option.some.injEq,Prod.mk.injEq] at he
        obtain ⟨rfl,rfl⟩:=he
        obtain ⟨_,q2,_⟩:=EntsR.findBorn b 0 i k2 hf
        obtain ⟨w',s1,s2,s3⟩:=map_set (P:=P) h.I hm hb (es':=es.modify i fun e=>{ e with val:=gv env ox }) (ces':=ces.modify i fun e=>{ e with val:=a.eval x }) (by rw [Array.toList_modify];exact EntsR.modVal g3 i k2) clock (MapOk.modify (map_ok h.I hm hb k1) i (fun _=>rfl)) (w1:=w) rfl rfl rfl rfl
        refine Opk.skip (w':=w') ?_ ⟨ρ,Ext.refl ρ,VR.undef ρ,s2,s3⟩
        have q2:ces.findIdx? (fun e=>(e.born:Int)==(b:Int))=some i:=by rw [Nat.sub_zero] at q2;obtain ⟨l⟩:=ces;simpa using q2
        simp only [execOp,ho,Instr.entryStore,Sem.run_bind,hx,Sem.run_pure,Result.andThen_ok,run_getMap k1,hi,asInt,asIntOf,Int.ofNat_eq_natCast,q2,s1]
      · cases he
    · cases he
  · cases he
theorem ok_delete_ex (h:Ctx P Wr ρ H w nt env a) {c:Call} (ho:o.op=.call c) (hb:c.callee=.builtin .delete) (hc:cOp P nt o=some ao) (hU:NoU env H ao) (he:evalOp ao env H=some (v,H')):Opk P Wr ρ w (execOp a.eval o) v H':=by
  simp only [cOp,ho,hb,Option.bind_eq_bind,Option.bind_eq_some_iff] at hc
  obtain ⟨t,ht,d,hd,hc⟩:=hc
  obtain ⟨consts,hex⟩:=exec_builtin (P:=P) (a:=a) ho hb w
  split at hc
  · rename_i kt e
    simp only [Option.bind_eq_some_iff,Option.pure_def,Option.some.injEq] at hc
    obtain ⟨kd,hkd,om,⟨ym,hym,h1⟩,ok_,⟨yk,hyk,h2⟩,rfl⟩:=hc
    have g1:=h.gv h1
    have g2:=h.gv h2
    have hA0:(c.args.map a.eval)[0]?=some (a.eval ym):=by simp [hym]
    have hA1:(c.args.map a.eval)[1]?=some (a.eval yk):=by simp [hyk]
    simp only [evalOp] at he
    split at he
    · cases he
    rename_i hko
    have hko:keyOk kd (gv env ok_)=true:=by simpa using hko
    have hck:=fun em w=>keyOk_sound hkd hko g2 em (P:=P) w
    split at he
    · rename_i hv
      simp only [Option.some.injEq,Prod.mk.injEq] at he
      obtain ⟨rfl,rfl⟩:=he
      rw [hv] at g1
      have hx:=g1.nilmap_inv
      refine Opk.val (c:=.tuple #[]) (w':=w) ?_ (Post.same h.I (VR.undef ρ))
      rw [hex]
      simp only [builtin,Builtin.delete_,ht,hA0,hA1,Sem.run_bind,run_und hd,Result.andThen_ok,hx,hck,Sem.run_pure]
    · rename_i id hv
      rw [hv] at g1
      obtain ⟨b,hbb,hx⟩:=g1.map_inv
      split at he
      · rename_i es clock hm
        obtain ⟨ces,k1,k2⟩:=map_block h.I hm hbb
        split at he
        · rename_i i x' hf
          simp only [Option.some.injEq,Prod.mk.injEq] at he
          obtain ⟨rfl,rfl⟩:=he
          obtain ⟨r',f1,f2⟩:=findKey_sound (P:=P) hkd g2 w k2 hf
          obtain ⟨c',rfl,f3,f4⟩:=FR_some f2
          obtain ⟨w',s1,s2,s3⟩:=map_set (P:=P) h.I hm hbb (es':=eraseAt es i) (ces':=ces.eraseIdxIfInBounds i) (by rw [Array.toList_eraseIdxIfInBounds];exact EntsR.erase i k2) clock (MapOk.erase (map_ok h.I hm hbb k1) i) (w1:=w) rfl rfl rfl rfl
          refine Opk.val (c:=.tuple #[]) (w':=w') ?_ ⟨ρ,Ext.refl ρ,VR.undef ρ,s2,s3⟩
          rw [hex]
          simp only [builtin,Builtin.delete_,ht,hA0,hA1,Sem.run_bind,run_und hd,Result.andThen_ok,hx,hck,Sem.run_pure,run_getMap k1,f1,s1]
        · rename_i hf
          simp only [Option.some.injEq,Prod.mk.injEq] at he
          obtain ⟨rfl,rfl⟩:=he
          obtain ⟨r',f1,f2⟩:=findKey_sound (P:=P) hkd g2 w k2 hf
          have:=FR_none f2
          subst this
          obtain ⟨w',s1,s2,s3⟩:=map_set (P:=P) h.I hm hbb (es':=es) (ces':=ces) k2 clock (map_ok h.I hm hbb k1) (w1:=w) rfl rfl rfl rfl
          refine Opk.val (c:=.tuple #[]) (w':=w') ?_ ⟨ρ,Ext.refl ρ,VR.undef ρ,s2,s3⟩
          rw [hex]
          simp only [builtin,Builtin.delete_,ht,hA0,hA1,Sem.run_bind,run_und hd,Result.andThen_ok,hx,hck,Sem.run_pure,run_getMap k1,f1,s1]
        · cases he
      · rename_i es hm;exact absurd hm (hU _ _ _ rfl hv)
      · cases he
    · cases he
  · cases hc
theorem ok_delete (h:Ctx P Wr ρ H w nt env a) {c:Call} (ho:o.op=.call c) (hb:c.callee=.builtin .delete) (hc:cOp P nt o=some ao) (he:evalOp ao env H=some (v,H')):Opk P Wr ρ w (execOp a.eval o) v H' :=
  umap_op (fun hI hU he=>ok_delete_ex ⟨h.E,hI⟩ ho hb hc hU he) h.I he
theorem ok_clearMap (h:Ctx P Wr ρ H w nt env a) {c:Call} (ho:o.op=.call c) (hb:c.callee=.builtin .clear) {x:Opd} (hao:ao=.clearMap x) (hc:cOp P nt o=some ao) (he:evalOp ao env H=some (v,H')):Opk P Wr ρ w (execOp a.eval o) v H':=by
  simp only [cOp,ho,hb,Option.bind_eq_bind,Option.bind_eq_some_iff] at hc
  obtain ⟨t,ht,d,hd,hc⟩:=hc
  obtain ⟨consts,hex⟩:=exec_builtin (P:=P) (a:=a) ho hb w
  split at hc
  · simp only [Option.bind_eq_some_iff,Option.pure_def,Option.some.injEq] at hc
    obtain ⟨_,_,_,_,hc⟩:=hc
    rw [hao] at hc;cases hc
  · rename_i kt e
    simp only [Option.bind_eq_some_iff,Option.pure_def,Option.some.injEq] at hc
    obtain ⟨od,⟨yd,hyd,hyd2⟩,rfl⟩:=hc
    have g1:=h.gv hyd2
    have hA0:(c.args.map a.eval)[0]?=some (a.eval yd):=by simp [hyd]
    simp only [evalOp] at he
    split at he
    · rename_i hv
      simp only [Option.some.injEq,Prod.mk.injEq] at he
      obtain ⟨rfl,rfl⟩:=he
      rw [hv] at g1
      have hx:=g1.nilmap_inv
      refine Opk.val (c:=.tuple #[]) (w':=w) ?_ (Post.same h.I (VR.undef ρ))
      rw [hex];simp [builtin,Builtin.clear_,ht,hA0,run_und hd,hx]
    · rename_i id hv
      rw [hv] at g1
      obtain ⟨b,hbb,hx⟩:=g1.map_inv
      split at he
      · rename_i es clock hm
        simp only [Option.some.injEq,Prod.mk.injEq] at he
        obtain ⟨rfl,rfl⟩:=he
        obtain ⟨ces,k1,k2⟩:=map_block h.I hm hbb
        obtain ⟨w',s1,s2,s3⟩:=map_set (P:=P) h.I hm hbb (es':=[]) (ces':=#[]) (by simp [EntsR]) clock MapOk.clear (w1:=w) rfl rfl rfl rfl
        refine Opk.val (c:=.tuple #[]) (w':=w') ?_ ⟨ρ,Ext.refl ρ,VR.undef ρ,s2,s3⟩
        rw [hex]
        simp only [builtin,Builtin.clear_,ht,hA0,Sem.run_bind,run_und hd,Result.andThen_ok,hx,run_getMap k1,s1,Sem.run_pure]
      · cases he
    · cases he
  · cases hc
end Go.Abs
