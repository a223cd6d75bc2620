/- A part of the proof (an abstract machine, walks): no statement of its own, no conditions. -/
import Derived.Test.YtndbmjcpgefblaaGreatDoorA16
set_option linter.all false
namespace Go.Abs
def eqAV:AV→AV→Bool
  | .bool a,.bool b=>a==b
  | .int j (.ofNat a),.int k (.ofNat b)=>Nat.beq j k&&Nat.beq a b
  | .nilmap,.nilmap=>true
  | .nilslice,.nilslice=>true
  | _,_=>false
def eqOpd:Opd→Opd→Bool
  | .t p,.t q=>Pos.beq p q
  | .c a,.c b=>eqAV a b
  | _,_=>false
def eqOpds:List Opd→List Opd→Bool
  | [],[]=>true
  | a::l,b::m=>eqOpd a b&&eqOpds l m
  | _,_=>false
def eqOp:AOp→AOp→Bool
  | .mov x,.mov y=>eqOpd x y
  | .extract x i,.extract y j=>eqOpd x y&&Nat.beq i j
  | .entryMap x,.entryMap y=>eqOpd x y
  | .nextMap x,.nextMap y=>eqOpd x y
  | .rangeMap x,.rangeMap y=>eqOpd x y
  | .load1 x,.load1 y=>eqOpd x y
  | .idxSl s x i,.idxSl t y j=>Nat.beq s t&&eqOpd x y&&eqOpd i j
  | .arith .neq k x i,.arith .neq l y j=>Nat.beq k l&&eqOpd x y&&eqOpd i j
  | .mapUpd .int x i u,.mapUpd .int y j v=>eqOpd x y&&eqOpd i j&&eqOpd u v
  | .eq a .map x i,.eq b .map y j=>(a==b)&&eqOpd x y&&eqOpd i j
  | .mkMap,.mkMap=>true
  | .store n x i,.store m y j=>Nat.beq n m&&eqOpd x y&&eqOpd i j
  | .addOff n x,.addOff m y=>Nat.beq n m&&eqOpd x y
  | .lenSl x,.lenSl y=>eqOpd x y
  | .call f l,.call g m=>eqOpd f g&&eqOpds l m
  | _,_=>false
def eqDst:Option Pos→Option Pos→Bool
  | none,none=>true
  | some p,some q=>Pos.beq p q
  | _,_=>false
def eqOper:AOper→AOper→Bool
  | ⟨d,o,none,[],[]⟩,⟨e,p,none,[],[]⟩=>eqDst d e&&eqOp o p
  | _,_=>false
def eqOpers:List AOper→List AOper→Bool
  | [],[]=>true
  | a::l,b::m=>eqOper a b&&eqOpers l m
  | _,_=>false
def eqC:ACode→ACode→Bool
  | .skip,.skip=>true
  | .region l,.region m=>eqOpers l m
  | .seq a b,.seq c d=>eqC a c&&eqC b d
  | .cond x a b,.cond y c d=>eqOpd x y&&eqC a c&&eqC b d
  | .block i a,.block j b=>Nat.beq i j&&eqC a b
  | .loop a,.loop b=>eqC a b
  | .exit i,.exit j=>Nat.beq i j
  | .over i,.over j=>Nat.beq i j
  | _,_=>false
theorem eqAV_eq {a b:AV} (h:eqAV a b=true):a=b:=by
  unfold eqAV at h
  split at h
  · simp only [beq_iff_eq] at h;rw [h]
  · simp only [Bool.and_eq_true] at h;rw [Nat.eq_of_beq_eq_true h.1,Nat.eq_of_beq_eq_true h.2]
  · rfl
  · rfl
  · cases h
theorem eqOpd_eq {a b:Opd} (h:eqOpd a b=true):a=b:=by
  unfold eqOpd at h
  split at h
  · rw [Pos.beq_iff.1 h]
  · rw [eqAV_eq h]
  · cases h
theorem eqOpds_eq:∀ {l m:List Opd},eqOpds l m=true→l=m
  | [],[],_=>rfl
  | a::l,b::m,h=>by simp only [eqOpds,Bool.and_eq_true] at h;rw [eqOpd_eq h.1,eqOpds_eq h.2]
  | [],_::_,h=>by simp [eqOpds] at h
  | _::_,[],h=>by simp [eqOpds] at h
theorem eqOp_eq {a b:AOp} (h:eqOp a b=true):a=b:=by
  unfold eqOp at h
  split at h<;>(try simp only [Bool.and_eq_true,beq_iff_eq] at h)<;>first
    | (cases h;done)
    | rfl
    | (rw [eqOpd_eq h];done)
    | (rw [eqOpd_eq h.1,Nat.eq_of_beq_eq_true h.2];done)
    | (rw [Nat.eq_of_beq_eq_true h.1.1,eqOpd_eq h.1.2,eqOpd_eq h.2];done)
    | (rw [eqOpd_eq h.1.1,eqOpd_eq h.1.2,eqOpd_eq h.2];done)
    | (rw [h.1.1,eqOpd_eq h.1.2,eqOpd_eq h.2];done)
    | (rw [Nat.eq_of_beq_eq_true h.1,eqOpd_eq h.2];done)
    | (rw [eqOpd_eq h.1,eqOpds_eq h.2];done)
theorem eqDst_eq {a b:Option Pos} (h:eqDst a b=true):a=b:=by
  unfold eqDst at h
  split at h
  · rfl
  · rw [Pos.beq_iff.1 h]
  · cases h
theorem eqOper_eq {a b:AOper} (h:eqOper a b=true):a=b:=by
  unfold eqOper at h
  split at h
  · simp only [Bool.and_eq_true] at h;rw [eqDst_eq h.1,eqOp_eq h.2]
  · cases h
theorem eqOpers_eq:∀ {l m:List AOper},eqOpers l m=true→l=m
  | [],[],_=>rfl
  | a::l,b::m,h=>by simp only [eqOpers,Bool.and_eq_true] at h;rw [eqOper_eq h.1,eqOpers_eq h.2]
  | [],_::_,h=>by simp [eqOpers] at h
  | _::_,[],h=>by simp [eqOpers] at h
theorem eqC_eq:∀ {a b:ACode},eqC a b=true→a=b:=by
  intro a
  induction a with
  | skip=>intro b h;cases b<;>simp [eqC] at h;rfl
  | region l=>intro b h;cases b<;>simp [eqC] at h;rw [eqOpers_eq h]
  | seq x y ihx ihy=>intro b h;cases b<;>simp [eqC] at h;rw [ihx h.1,ihy h.2]
  | cond c x y ihx ihy=>intro b h;cases b<;>simp [eqC] at h;rw [eqOpd_eq h.1.1,ihx h.1.2,ihy h.2]
  | block i x ih=>intro b h;cases b<;>simp [eqC] at h;rw [h.1,ih h.2]
  | loop x ih=>intro b h;cases b<;>simp [eqC] at h;rw [ih h]
  | exit i=>intro b h;cases b<;>simp [eqC] at h;rw [h]
  | over i=>intro b h;cases b<;>simp [eqC] at h;rw [h]
  | rangeFunc f ps as bd _ _=>intro b h;cases b<;>simp [eqC] at h
  | ret=>intro b h;cases b<;>simp [eqC] at h
def overOf (b:ACode):List (Nat × ACode)→Option Nat
  | []=>none
  | (t,c)::l=>if eqC b c then some t else overOf b l
def codeOf (t:Nat):List (Nat × ACode)→ACode
  | []=>.skip
  | (u,c)::l=>if Nat.beq u t then c else codeOf t l
theorem over_law (l:List (Nat × ACode)) (hn:(l.map (·.1)).Nodup) (b:ACode) (t:Nat) (h:overOf b l=some t):b=codeOf t l:=by
  induction l with
  | nil=>simp [overOf] at h
  | cons p l ih =>
    obtain ⟨u,c⟩:=p
    simp only [overOf] at h
    rw [List.map_cons,List.nodup_cons] at hn
    split at h
    · rename_i he
      injection h with h;subst h
      simp only [codeOf,Nat.beq_refl,if_true]
      exact eqC_eq he
    · have hm:t∈l.map (·.1):=by
        clear ih hn
        induction l with
        | nil=>simp [overOf] at h
        | cons q l ih =>
          obtain ⟨u2,c2⟩:=q
          simp only [overOf] at h
          split at h
          · injection h with h;subst h;simp
          · exact List.mem_cons_of_mem _ (ih h)
      have hut:Nat.beq u t=false:=by
        cases hb:Nat.beq u t with
        | false=>rfl
        | true=>exact absurd (Nat.eq_of_beq_eq_true hb ▸ hm) hn.1
      simp only [codeOf,hut,Bool.false_eq_true,if_false]
      exact ih hn.2 h
@[reducible] def ovOf (l:List (Nat × ACode)) (hn:(l.map (·.1)).Nodup):Ov:=⟨fun b=>overOf b l,fun t=>codeOf t l,over_law l hn⟩
def mapEnts:AObj→Option (List AEnt)
  | .map es _=>some es
  | .umap es=>some es
  | _=>none
def keyInts:List AEnt→Option (List Int)
  | []=>some []
  | e::es=>match e.key,keyInts es with
    | .int 3 k,some l=>some (k::l)
    | _,_=>none
def setInts:List AEnt→Option (List Int)
  | []=>some []
  | e::es=>match e.key,e.val,setInts es with
    | .int 3 k,.bool true,some l=>some (k::l)
    | _,_,_=>none
def hasI (x:Int):List Int→Bool
  | []=>false
  | y::l=>ieq x y||hasI x l
def nodupI:List Int→Bool
  | []=>true
  | x::l=>!hasI x l&&nodupI l
def addk (x:Int) (l:List Int):List Int:=if hasI x l then l else l++[x]
def addks:List Int→List Int→List Int
  | [],l=>l
  | x::xs,l=>addks xs (addk x l)
def mkset (l:List Int):List AEnt:=l.map fun k=>⟨.int 3 k,.bool true,0⟩
def junks (env:Tree AV):List Pos→Tree AV
  | []=>env
  | p::l=>junks (env.set .undef p .junk) l
def setAt (H:Heap) (i:Pos):Option (List Int) :=
  match mapEnts (H.get i) with
  | some es=>match setInts es with
    | some l=>if nodupI l then some l else none
    | none=>none
  | none=>none
def keysAt (H:Heap) (i:Pos):Option (List Int) :=
  match mapEnts (H.get i) with
  | some es=>match keyInts es with
    | some l=>if nodupI l then some l else none
    | none=>none
  | none=>none
def cellAt (H:Heap) (i:Pos) (o:Nat):Option AV :=
  match H.get i with
  | .cells c n _ _ _ _=>if Nat.blt o n then some (c.getN .undef o) else none
  | _=>none
def cellP (H:Heap):AV→Option AV
  | .ptr i o=>cellAt H i o
  | _=>none
def elemAt (H:Heap) (s:AV) (x:Int):Option AV :=
  match s,x with
  | .slice i o n _ _,.ofNat j=>if Nat.blt j n then cellAt H i (o+j) else none
  | _,_=>none
def elemsAt (H:Heap) (s:AV):List Int→Option (List Int)
  | []=>some []
  | x::l=>match elemAt H s x,elemsAt H s l with
    | some (.int 3 r),some rs=>some (r::rs)
    | _,_=>none
def Heap.skip (H:Heap):Heap:=⟨H.t,H.next.succ⟩
variable [Ov]
theorem hasI_iff (x:Int):∀ l:List Int,hasI x l=true↔x∈l
  | []=>by simp [hasI]
  | y::l=>by
    simp only [hasI,Bool.or_eq_true,hasI_iff x l,List.mem_cons]
    rw [ieq_iff];simp
theorem nodupI_iff:∀ l:List Int,nodupI l=true↔l.Nodup
  | []=>by simp [nodupI]
  | x::l=>by
    simp only [nodupI,Bool.and_eq_true,Bool.not_eq_true',nodupI_iff l,List.nodup_cons,← hasI_iff]
    simp
theorem addk_mem (x y:Int) (l:List Int):y∈addk x l↔y=x∨y∈l:=by
  unfold addk
  split
  · rename_i h
    rw [hasI_iff] at h
    exact ⟨.inr,fun h'=>h'.elim (fun e=>e ▸ h) id⟩
  · simp [or_comm]
theorem addk_nodup {x:Int} {l:List Int} (h:l.Nodup):(addk x l).Nodup:=by
  unfold addk
  split
  · exact h
  · rename_i hx
    rw [hasI_iff] at hx
    rw [List.nodup_append]
    refine ⟨h,by simp,fun a ha b hb=>?_⟩
    simp only [List.mem_singleton] at hb
    subst hb
    exact fun e=>hx (e ▸ ha)
theorem addks_mem (y:Int):∀ (xs l:List Int),y∈addks xs l↔y∈xs∨y∈l
  | [],l=>by simp [addks]
  | x::xs,l=>by simp only [addks,addks_mem y xs,addk_mem,List.mem_cons];grind
theorem addks_nodup:∀ (xs:List Int) {l:List Int},l.Nodup→(addks xs l).Nodup
  | [],_,h=>h
  | _::xs,_,h=>addks_nodup xs (addk_nodup h)
end Go.Abs
namespace Go.Abs
abbrev sl (t:Nat):Pos:=Pos.slot t
abbrev op1 (d:Nat) (o:AOp):AOper:=⟨some (sl d),o,none,[],[]⟩
abbrev op0 (o:AOp):AOper:=⟨none,o,none,[],[]⟩
abbrev tt (t:Nat):Opd:=.t (sl t)
def colourBody:ACode:=.region [op1 42 (.mov (tt 6)),op1 43 (.load1 (tt 4)),op1 44 (.mov (tt 7)),op1 45 (.idxSl 1 (tt 43) (tt 44)),op1 46 (.load1 (tt 45)),op0 (.mapUpd .int (tt 42) (tt 46) (.c (.bool true)))]
def colourHead:ACode:=.region [op1 33 (.load1 (tt 3)),op1 34 (.mov (tt 5)),op1 35 (.idxSl 1 (tt 33) (tt 34)),op1 36 (.load1 (tt 35)),op1 37 (.rangeMap (tt 36))]
def colourLoop:ACode:=mapLoop 2 3 (sl 37) (sl 38) (sl 39) (sl 40) (sl 41) (sl 7) colourBody
def colourCode:ACode:=.seq colourHead colourLoop
def colourSlots:List Pos:=[sl 7,sl 33,sl 34,sl 35,sl 36,sl 37,sl 38,sl 39,sl 40,sl 41,sl 42,sl 43,sl 44,sl 45,sl 46]
def gColour (env:Tree AV) (H:Heap):Option (Tree AV × Heap) :=
  match cellP H (env.get .undef (sl 3)),env.get .undef (sl 5),cellP H (env.get .undef (sl 4)),env.get .undef (sl 6) with
  | some s3,.int _ v,some s4,.map N=>match elemAt H s3 v with
    | some (.map m)=>if Pos.beq m N then none else match keysAt H m,setAt H N with
      | some ks,some t0=>match elemsAt H s4 ks with
        | some rs=>some (junks env colourSlots,(H.set N (.umap (mkset (addks rs t0)))).skip)
        | none=>none
      | _,_=>none
    | _=>none
  | _,_,_,_=>none
def innerBody:ACode:=.seq (.region [op1 37 (.mov (tt 6)),op1 38 (.mov (tt 5)),op1 39 (.arith .neq 3 (tt 37) (tt 38))])
  (.cond (tt 39) (.region [op1 40 (.load1 (tt 3)),op1 41 (.mov (tt 5)),op1 42 (.idxSl 1 (tt 40) (tt 41)),op1 43 (.load1 (tt 42)),op1 44 (.mov (tt 6)),op0 (.mapUpd .int (tt 43) (tt 44) (.c (.bool true)))]) .skip)
def innerHead:ACode:=.region [op1 31 (.mov (tt 4)),op1 32 (.rangeMap (tt 31))]
def innerLoop:ACode:=mapLoop 4 5 (sl 32) (sl 33) (sl 34) (sl 35) (sl 36) (sl 6) innerBody
def innerCode:ACode:=.seq innerHead innerLoop
def innerSlots:List Pos:=[sl 6,sl 31,sl 32,sl 33,sl 34,sl 35,sl 36,sl 37,sl 38,sl 39,sl 40,sl 41,sl 42,sl 43,sl 44]
def without (v:Int):List Int→List Int
  | []=>[]
  | x::l=>if ieq x v then without v l else x::without v l
def gInner (env:Tree AV) (H:Heap):Option (Tree AV × Heap) :=
  match env.get .undef (sl 4),env.get .undef (sl 5),cellP H (env.get .undef (sl 3)) with
  | .map m,.int 3 v,some s3=>match elemAt H s3 v with
    | some (.map N)=>if Pos.beq m N then none else match keysAt H m,setAt H N with
      | some ks,some t0=>some (junks env innerSlots,(H.set N (.umap (mkset (addks (without v ks) t0)))).skip)
      | _,_=>none
    | _=>none
  | _,_,_=>none
def outerBody:ACode:=.seq (.seq (.region [op1 22 (.load1 (tt 3)),op1 23 (.mov (tt 5)),op1 24 (.idxSl 1 (tt 22) (tt 23)),op1 25 (.load1 (tt 24)),op1 26 (.eq false .map (tt 25) (.c .nilmap))])
    (.cond (tt 26) (.region [op1 27 (.load1 (tt 3)),op1 28 (.mov (tt 5)),op1 29 .mkMap,op1 30 (.idxSl 1 (tt 27) (tt 28)),op0 (.store 1 (tt 30) (tt 29))]) .skip)) (.over 1001)
def outerHead:ACode:=.region [op1 16 (.mov (tt 4)),op1 17 (.rangeMap (tt 16))]
def outerLoop:ACode:=mapLoop 2 3 (sl 17) (sl 18) (sl 19) (sl 20) (sl 21) (sl 5) outerBody
def outerCode:ACode:=.seq outerHead outerLoop
def outerSlots:List Pos:=[sl 5,sl 6]++(List.range 29).map fun i=>sl (16+i)
def outGo (c:Tree AV) (o n:Nat) (m:Pos) (ks:List Int) (H0:Heap):List Int→Tree AV→Heap→Option (Tree AV × Heap)
  | [],c',H'=>some (c',H')
  | k::l,c',H' =>
    match k with
    | .ofNat j=>if Nat.blt j n then match c.getN .undef (o+j) with
        | .nilmap=>outGo c o n m ks H0 l (writeCells c' (o+j) [.map H'.next]) (H'.new (.umap (mkset (without k ks))))
        | .map N=>if Pos.beq N m then none else match setAt H0 N with
          | some t0=>outGo c o n m ks H0 l c' (H'.set N (.umap (mkset (addks (without k ks) t0))))
          | none=>none
        | _=>none
      else none
    | _=>none
def oldsOf (c:Tree AV) (o:Nat):List Int→List Pos
  | []=>[]
  | k::l=>match c.getN .undef (o+k.toNat) with
    | .map N=>N::oldsOf c o l
    | _=>oldsOf c o l
def hasP (p:Pos):List Pos→Bool
  | []=>false
  | q::l=>Pos.beq p q||hasP p l
def nodupP:List Pos→Bool
  | []=>true
  | p::l=>!hasP p l&&nodupP l
def gOuter (env:Tree AV) (H:Heap):Option (Tree AV × Heap) :=
  match env.get .undef (sl 4),env.get .undef (sl 3) with
  | .map m,.ptr i3 o3=>match cellAt H i3 o3 with
    | some (.slice i o n _ _)=>match setAt H m,H.get i with
      | some ks,.cells c cn e true [] fz=>if !Pos.beq i3 i&&Nat.ble fz o&&Nat.ble (o+n) cn&&nodupP (oldsOf c o ks) then
          match outGo c o n m ks H ks c H with
          | some (c',H')=>some (junks env outerSlots,((H'.set i (.cells c' cn e true [] fz)).set m (.umap (mkset ks))).skip)
          | none=>none
        else none
      | _,_=>none
    | _=>none
  | _,_=>none
def addBody (a b c d:Nat) (at_:List AOper) (x:Opd):ACode:=.region ([op1 a (.load1 (tt 11)),op1 b (.mov (tt c))]++at_++[op1 d (.call (tt a) [tt b,x])])
def live1Body:ACode:=.region [op1 62 (.load1 (tt 11)),op1 63 (.mov (tt 16)),op1 64 (.addOff 1 (tt 7)),op1 65 (.load1 (tt 64)),op1 66 (.lenSl (tt 65)),op1 67 (.call (tt 62) [tt 63,tt 66])]
def live1Head:ACode:=.region [op1 53 (.load1 (tt 5)),op1 54 (.mov (tt 15)),op1 55 (.idxSl 1 (tt 53) (tt 54)),op1 56 (.load1 (tt 55)),op1 57 (.rangeMap (tt 56))]
def live1Loop:ACode:=mapLoop 6 7 (sl 57) (sl 58) (sl 59) (sl 60) (sl 61) (sl 16) live1Body
def live1Code:ACode:=.seq live1Head live1Loop
def live1Slots:List Pos:=sl 16::(List.range 15).map fun i=>sl (53+i)
def live2Body:ACode:=.region [op1 85 (.load1 (tt 11)),op1 86 (.mov (tt 19)),op1 87 (.call (tt 85) [tt 86,.c (.int 3 (.ofNat 0))])]
def live2Head:ACode:=.region [op1 76 (.load1 (tt 5)),op1 77 (.mov (tt 17)),op1 78 (.idxSl 1 (tt 76) (tt 77)),op1 79 (.load1 (tt 78)),op1 80 (.rangeMap (tt 79))]
def live2Loop:ACode:=mapLoop 8 9 (sl 80) (sl 81) (sl 82) (sl 83) (sl 84) (sl 19) live2Body
def live2Code:ACode:=.seq live2Head live2Loop
def live2Slots:List Pos:=sl 19::(List.range 12).map fun i=>sl (76+i)
def mapAt (H:Heap) (i:Pos):Option (List (Int × Int)) :=
  match mapEnts (H.get i) with
  | some es=>go es
  | none=>none
where go:List AEnt→Option (List (Int × Int))
  | []=>some []
  | e::es=>match e.key,e.val,go es with
    | .int 3 k,.int 3 v,some l=>some ((k,v)::l)
    | _,_,_=>none
def liveOf (pl:List (Int × Int)) (at_:Int):List Int→List Int
  | []=>[]
  | v::l=>if isLive pl at_ v then v::liveOf pl at_ l else liveOf pl at_ l
where isLive (pl:List (Int × Int)) (at_ v:Int):Bool :=
  match pl with
  | []=>true
  | (k,g)::pl=>if ieq v k then !ilt g at_ else isLive pl at_ v
def anyNew (t0:List Int):List Int→Bool
  | []=>false
  | v::l=>!hasI v t0||anyNew t0 l
def cellX (H:Heap) (q:Pos):AV→Option AV
  | .ptr i o=>if Pos.beq i q then none else cellAt H i o
  | _=>none
def elemX (H:Heap) (q:Pos) (s:AV) (x:Int):Option AV :=
  match s with
  | .slice i _ _ _ _=>if Pos.beq i q then none else elemAt H s x
  | _=>none
def gLive (addF:Nat) (at_:Pos→Option Int) (to:Nat) (slots:List Pos) (env:Tree AV) (H:Heap):Option (Tree AV × Heap) :=
  match cellP H (env.get .undef (sl 11)) with
  | some (.func f [] [c1,c2,c3,.ptr ni no])=>if Nat.beq f addF then
    match cellX H ni (env.get .undef (sl 5)),env.get .undef (sl to),cellX H ni (env.get .undef (sl 11)),cellX H ni c1,cellX H ni c2,cellX H ni c3,at_ ni with
    | some s5,.int _ t,some _,some (.map pm),some s2,some (.int _ b),some at_ =>
      match elemX H ni s5 t,elemX H ni s2 b,H.get ni with
      | some (.map m),some (.map N),.cells c n e true [] fz =>
        if Pos.beq m N||Pos.beq pm N||Pos.beq m pm||!(Nat.ble fz no&&Nat.blt no n) then none else
        match keysAt H m,keysAt H pm,mapAt H pm,setAt H N,c.getN .undef no with
        | some ks,some _,some pl,some t0,.bool nw =>
          some (junks env slots,((H.set N (.umap (mkset (addks (liveOf pl at_ ks) t0)))).set ni (.cells (writeCells c no [.bool (nw||anyNew t0 (liveOf pl at_ ks))]) n e true [] fz)).skip)
        | _,_,_,_,_=>none
      | _,_,_=>none
    | _,_,_,_,_,_,_=>none
    else none
  | _=>none
def gLive1 (addF:Nat) (env:Tree AV) (H:Heap):Option (Tree AV × Heap) :=
  gLive addF (fun ni=>match env.get .undef (sl 7) with
  | .ptr i o=>if Pos.beq i ni then none else match cellAt H i (o+1) with
    | some (.slice _ _ n _ _)=>some (.ofNat n)
    | some .nilslice=>some (.ofNat 0)
    | _=>none
  | _=>none) 15 live1Slots env H
def gLive2 (addF:Nat) (env:Tree AV) (H:Heap):Option (Tree AV × Heap):=gLive addF (fun _=>some (.ofNat 0)) 17 live2Slots env H
def insI (x:Int):List Int→List Int
  | []=>[x]
  | y::l=>if ilt y x then y::insI x l else x::y::l
def sortI:List Int→List Int
  | []=>[]
  | x::l=>insI x (sortI l)
def gList (args:List AV) (H:Heap):Option (AV × Heap) :=
  match args with
  | [.nilmap]=>some (.nilslice,H)
  | [.map m]=>match keysAt H m with
    | some []=>some (.nilslice,H)
    | some ks=>if Nat.ble ks.length 1000 then some (.slice H.next 0 ks.length ks.length false,H.new (.cells (mkCells ((sortI ks).map fun n=>.int 3 n)) ks.length 3 true [] 0)) else none
    | none=>none
  | _=>none
def gClone (args:List AV) (H:Heap):Option (AV × Heap) :=
  match args with
  | [.iface t (.map m)]=>match H.get m with
    | .map es c=>some (.iface t (.map H.next),H.new (.map es c))
    | _=>none
  | _=>none
def regsCodes:List (Nat × ACode):=[(1001,innerCode),(1002,outerCode),(1003,colourCode),(1004,live1Code),(1005,live2Code)]
instance regsOv:Ov:=ovOf regsCodes (by decide)
end Go.Abs
namespace Go.Abs
section
variable [Ov]
variable {P:Program} {Wr:Acc} {ρ:Names} {H:Heap} {w:World} {nt:Nat}
theorem junks_get:∀ (l:List Pos) (env:Tree AV) (t:Pos),(junks env l).get .undef t=if t∈l then .junk else env.get .undef t
  | [],env,t=>by simp [junks]
  | p::l,env,t=>by
    rw [junks,junks_get l,Tree.get_set]
    by_cases h:t∈l
    · simp [h]
    · by_cases e:t=p<;>simp [h,e]
theorem FrR.junks {fr fr':Fr} {ro:Option Nat} {a:Act} {slots:List Pos} (h:FrR ρ nt fr' ro a) (hs:∀ t,t∉slots→fr'.env.get .undef t=fr.env.get .undef t) (hm:fr'.marks=fr.marks) (hr:fr'.rnd=fr.rnd) :
    FrR ρ nt { fr with env:=Go.Abs.junks fr.env slots } ro a:=by
  refine ⟨⟨h.E.1,fun t ht=>?_⟩,by simpa [hm] using h.D,by simpa [hr] using h.R⟩
  rw [junks_get]
  split
  · simp only [VR]
  · rename_i hn
    rw [← hs _ hn];exact h.E.2 t ht
theorem none_ok:TblOk P fun _=>.none:=by refine ⟨?_,?_,?_⟩<;>(intros;rename_i h;cases h)
theorem over_run {tbl:Nat→AFunc} (ht:TblOk P tbl) {c1 c2:Code} {x y:ACode} (h1:cCode P nt c1=some x) (h2:cCode P nt c2=some y) {n:Nat} {fr:Fr} {K:AJump→Fr→Heap→Prop} {b:Frame} {a:Act} (he:Xc tbl n (.seq x y) fr H K)
    (hF:FrR ρ nt fr b.roundOf a) (hI:Inv P Wr ρ H w) (k:List Item) (cs:List Frame):Ends P Wr ρ nt w b k cs (lone (b.atR a (.code (.seq c1 c2)::k)) cs w) K:=by
  cases n with
  | zero=>simp only [Xc,exec] at he
  | succ n =>
    simp only [Xc,exec] at he
    have hexec:ExecOk P tbl n:=(all_ok ht n).2.1
    obtain ⟨j,fr',H',ρ',a',w',t,q1,q2,q3,q4,q5,q6,q7⟩:=hexec h1 he hF hI (.code c2::k) cs
    refine .of_steps (.one stepR_seq) (.of_steps q7 ?_)
    cases j with
    | none =>
      rw [show t=.code c2::k from q6]
      exact .later q2 q5 (hexec h2 q1 q3 q4 k cs)
    | exit id=>exact ⟨.exit id,fr',H',ρ',a',w',t,q1,q2,q3,q4,q5,q6.pass (fun _ _=>rfl) trivial,Steps.refl _ _⟩
    | ret=>exact ⟨.ret,fr',H',ρ',a',w',t,q1,q2,q3,q4,q5,q6.pass (fun _ _=>rfl) trivial,Steps.refl _ _⟩
theorem map_births (h:Inv P Wr ρ H w) {m:Pos} {es:List AEnt} {clock:Nat} (hm:H.get m=.map es clock):(es.map (·.born)).Nodup∧∀ e∈es,e.born<clock:=by
  obtain ⟨b,x,ob,e,hl,hb,hor⟩:=h.blk (i:=m) (by rw [hm];simp)
  rw [hm] at hor
  cases ob<;>simp only [OR] at hor
  rename_i ces k
  obtain ⟨_,rfl,hok,hr⟩:=hor
  have key:∀ {es:List AEnt} {l:List MapEntry},EntsR ρ es l→es.map (·.born)=l.map (·.born):=by
    intro es
    induction es with
    | nil=>intro l h;cases l<;>simp [EntsR] at h;rfl
    | cons a es ih=>intro l h;cases l with
      | nil=>simp [EntsR] at h
      | cons c l=>simp only [EntsR] at h;simp [h.2.2.1,ih h.2.2.2]
  refine ⟨by rw [key hr];exact hok.1,fun a ha=>?_⟩
  have:a.born∈es.map (·.born):=List.mem_map_of_mem ha
  rw [key hr,List.mem_map] at this
  obtain ⟨c,hc,e⟩:=this
  rw [← e];exact hok.2 c hc
theorem ranged (hI:Inv P Wr ρ H w) {m:Pos} {es:List AEnt} (hm:mapEnts (H.get m)=some es) :
    ∃ (esx:List AEnt) (clock:Nat),Inv P Wr ρ (H.set m (.map esx clock)) w∧(esx.map AEnt.kv).Perm (es.map AEnt.kv)∧(esx.map (·.born)).Nodup∧(∀ e∈esx,e.born<clock) ∧
      ∀ {Wr':Acc} {ρ':Names} {H2:Heap} {w':World},Inv P Wr' ρ' H2 w'→H2.get m=.map esx clock→Inv P Wr' ρ' (H2.set m (H.get m)) w':=by
  cases ho:H.get m with
  | map es0 c =>
    rw [ho] at hm
    simp only [mapEnts,Option.some.injEq] at hm
    subst hm
    have hb:=map_births hI ho
    refine ⟨es0,c,hI.congr rfl fun j=>?_,List.Perm.refl _,hb.1,hb.2,fun h2 hg=>h2.congr rfl fun j=>?_⟩
    · rw [Heap.get_set];split
      · rename_i e;rw [e,ho]
      · rfl
    · rw [Heap.get_set];split
      · rename_i e;rw [e,hg]
      · rfl
  | umap es0 =>
    rw [ho] at hm
    simp only [mapEnts,Option.some.injEq] at hm
    subst hm
    obtain ⟨es',esx,clock,p1,p2,h1⟩:=umap_exact hI ho
    have hb:=map_births h1 (m:=m) (by rw [Heap.get_set,if_pos rfl])
    exact ⟨esx,clock,h1,by rw [p2];exact p1.map _,hb.1,hb.2,fun h2 hg=>umap_loose h2 hg p1 p2⟩
  | _=>rw [ho] at hm;simp [mapEnts] at hm
theorem keyInts_mem:∀ {es:List AEnt} {ks:List Int},keyInts es=some ks→(∀ e∈es,∃ k∈ks,e.key=.int 3 k)∧∀ k∈ks,∃ e∈es,e.key=.int 3 k
  | [],ks,h=>by simp only [keyInts,Option.some.injEq] at h;subst h;simp
  | a::es,ks,h=>by
    simp only [keyInts] at h
    split at h
    · rename_i k l hk hl
      injection h with h;subst h
      obtain ⟨g1,g2⟩:=keyInts_mem hl
      refine ⟨fun e he=>?_,fun k' hk'=>?_⟩
      · rcases List.mem_cons.1 he with e' | e'
        · subst e';exact ⟨k,List.mem_cons_self ..,hk⟩
        · obtain ⟨q,q1,q2⟩:=g1 e e';exact ⟨q,List.mem_cons_of_mem _ q1,q2⟩
      · rcases List.mem_cons.1 hk' with e' | e'
        · subst e';exact ⟨a,List.mem_cons_self ..,hk⟩
        · obtain ⟨q,q1,q2⟩:=g2 k' e';exact ⟨q,List.mem_cons_of_mem _ q1,q2⟩
    · cases h
theorem perm_keys {es esx:List AEnt} {ks:List Int} (hk:keyInts es=some ks) (hp:(esx.map AEnt.kv).Perm (es.map AEnt.kv)):(∀ e∈esx,∃ k∈ks,e.key=.int 3 k)∧∀ k∈ks,∃ e∈esx,e.key=.int 3 k:=by
  obtain ⟨g1,g2⟩:=keyInts_mem hk
  constructor
  · intro e he
    have:e.kv∈es.map AEnt.kv:=hp.mem_iff.1 (List.mem_map_of_mem he)
    rw [List.mem_map] at this
    obtain ⟨e',he',hkv⟩:=this
    obtain ⟨k,h1,h2⟩:=g1 e' he'
    have:e.key=e'.key:=(congrArg Prod.fst hkv).symm
    exact ⟨k,h1,this.trans h2⟩
  · intro k hk'
    obtain ⟨e,he,h2⟩:=g2 k hk'
    have:e.kv∈esx.map AEnt.kv:=hp.mem_iff.2 (List.mem_map_of_mem he)
    rw [List.mem_map] at this
    obtain ⟨e',he',hkv⟩:=this
    have:e'.key=e.key:=congrArg Prod.fst hkv
    exact ⟨e',he',this.trans h2⟩
theorem keysAt_inv {m:Pos} {ks:List Int} (h:keysAt H m=some ks):∃ es,mapEnts (H.get m)=some es∧keyInts es=some ks∧ks.Nodup:=by
  unfold keysAt at h
  split at h
  · rename_i es hes
    split at h
    · rename_i l hl
      split at h
      · rename_i hn;injection h with h;subst h;exact ⟨es,hes,hl,(nodupI_iff _).1 hn⟩
      · cases h
    · cases h
  · cases h
def sk (k:Int):AV × AV:=(.int 3 k,.bool true)
def setIs (o:AObj) (ks:List Int):Prop:=ks.Nodup∧∃ es,mapEnts o=some es∧es.map AEnt.kv=ks.map sk
theorem setInts_kv:∀ {es:List AEnt} {ks:List Int},setInts es=some ks→es.map AEnt.kv=ks.map sk
  | [],ks,h=>by simp only [setInts,Option.some.injEq] at h;subst h;rfl
  | a::es,ks,h=>by
    simp only [setInts] at h
    split at h
    · rename_i k l h1 h2 hl
      injection h with h;subst h
      simp only [List.map_cons,setInts_kv hl,AEnt.kv,h1,h2,sk]
    · cases h
theorem setAt_is {N:Pos} {ks:List Int} (h:setAt H N=some ks):setIs (H.get N) ks:=by
  unfold setAt at h
  split at h
  · rename_i es hes
    split at h
    · rename_i l hl
      split at h
      · rename_i hn;injection h with h;subst h;exact ⟨(nodupI_iff _).1 hn,es,hes,setInts_kv hl⟩
      · cases h
    · cases h
  · cases h
theorem mkset_kv (l:List Int):(mkset l).map AEnt.kv=l.map sk:=by simp [mkset,AEnt.kv,sk]
theorem mkset_is {l:List Int} (h:l.Nodup):setIs (.umap (mkset l)) l:=⟨h,mkset l,rfl,mkset_kv l⟩
theorem Inv.canon (h:Inv P Wr ρ H w) {N:Pos} {ks ks2:List Int} (hs:setIs (H.get N) ks) (hp:ks.Perm ks2):Inv P Wr ρ (H.set N (.umap (mkset ks2))) w:=by
  obtain ⟨_,es,he,hkv⟩:=hs
  have hpm:(mkset ks).Perm (mkset ks2):=hp.map _
  have hkv':es.map AEnt.kv=(mkset ks).map AEnt.kv:=by rw [hkv,mkset_kv]
  cases ho:H.get N with
  | map es0 c =>
    rw [ho] at he
    simp only [mapEnts,Option.some.injEq] at he;subst he
    exact umap_loose h ho hpm hkv'
  | umap es0 =>
    rw [ho] at he
    simp only [mapEnts,Option.some.injEq] at he;subst he
    refine h.reobj (by rw [ho];simp) (by rw [ho];rfl) (by rw [ho];rfl) rfl ?_
    intro x ob hor
    rw [ho] at hor
    cases ob<;>simp only [OR] at hor ⊢
    obtain ⟨h1,h2,l,h3,h4⟩:=hor
    obtain ⟨l',p1,p2⟩:=EntsU.perm' hpm (EntsU.kv hkv' h4)
    exact ⟨⟨h1,h2,l',p1.trans h3,p2⟩,fun q=>by simp [InfoR]⟩
  | _=>rw [ho] at he;simp [mapEnts] at he
theorem find_set {k:Int}:∀ {es:List AEnt} {ks:List Int},es.map AEnt.kv=ks.map sk→∀ i0,(k∉ks→findKey .int (.int 3 k) es i0=some none) ∧
    (k∈ks→∃ i,findKey .int (.int 3 k) es i0=some (some (i0+i,.bool true))∧i<es.length∧(setVal (.bool true) (.int 3 k) es i).map AEnt.kv=ks.map sk)
  | [],[],_,i0=>by simp [findKey]
  | e::es,x::ks,h,i0=>by
    simp only [List.map_cons,List.cons.injEq,AEnt.kv,sk,Prod.mk.injEq] at h
    obtain ⟨⟨h1,h2⟩,h3⟩:=h
    obtain ⟨g1,g2⟩:=find_set (k:=k) h3 (i0+1)
    have heq:eqv 64 .int (.int 3 k) (.int 3 x)=some (ieq k x):=by simp [eqv]
    by_cases hkx:k=x
    · subst hkx
      refine ⟨fun h=>absurd (List.mem_cons_self ..) h,fun _=>⟨0,?_,by simp,?_⟩⟩
      · simp only [findKey,h1,heq,ieq_iff,beq_self_eq_true,h2,Nat.add_zero]
      · simp only [setVal,List.map_cons,AEnt.kv,sk];rw [← h3]
    · have hf:ieq k x=false:=by rw [ieq_iff];simpa using hkx
      refine ⟨fun h=>?_,fun h=>?_⟩
      · simp only [findKey,h1,heq,hf]
        exact g1 fun hm=>h (List.mem_cons_of_mem _ hm)
      · obtain ⟨i,q1,q2,q3⟩:=g2 ((List.mem_cons.1 h).resolve_left hkx)
        refine ⟨i+1,?_,by simpa using q2,?_⟩
        · simp only [findKey,h1,heq,hf,q1];congr 3;omega
        · simp only [setVal,List.map_cons,q3,AEnt.kv,h1,h2,sk]
  | [],_::_,h,_=>by simp at h
  | _::_,[],h,_=>by simp at h
theorem go_set {k:Int}:∀ {es:List AEnt} {ks:List Int},ks.Nodup→es.map AEnt.kv=ks.map sk→(k∉ks→findU.go .int (.int 3 k) es=some none)∧(k∈ks→findU.go .int (.int 3 k) es=some (some (.bool true))∧(updU .int (.int 3 k) (.bool true) es).map AEnt.kv=ks.map sk)
  | [],[],_,_=>by simp [findU.go]
  | e::es,x::ks,hn,h=>by
    rw [List.nodup_cons] at hn
    simp only [List.map_cons,List.cons.injEq,AEnt.kv,sk,Prod.mk.injEq] at h
    obtain ⟨⟨h1,h2⟩,h3⟩:=h
    obtain ⟨g1,g2⟩:=go_set (k:=k) hn.2 h3
    have heq:eqv 64 .int (.int 3 k) (.int 3 x)=some (ieq k x):=by simp [eqv]
    by_cases hkx:k=x
    · subst hkx
      have hg:=g1 hn.1
      refine ⟨fun h=>absurd (List.mem_cons_self ..) h,fun _=>⟨?_,?_⟩⟩
      · simp only [findU.go,h1,heq,ieq_iff,beq_self_eq_true,hg,h2]
      · simp only [updU,isKey,h1,heq,ieq_iff,beq_self_eq_true,if_true,(go_none (v:=.bool true) hg).1,List.map_cons,AEnt.kv,sk]
        rw [← h3]
    · have hf:ieq k x=false:=by rw [ieq_iff];simpa using hkx
      refine ⟨fun h=>?_,fun h=>?_⟩
      · simp only [findU.go,h1,heq,hf,g1 fun hm=>h (List.mem_cons_of_mem _ hm)]
      · obtain ⟨q1,q2⟩:=g2 ((List.mem_cons.1 h).resolve_left hkx)
        refine ⟨by simp only [findU.go,h1,heq,hf,q1],?_⟩
        simp only [updU,isKey,h1,heq,hf,Bool.false_eq_true,if_false,List.map_cons,q2,AEnt.kv,h2,sk]
  | [],_::_,_,h=>by simp at h
  | _::_,[],_,h=>by simp at h
theorem gvc (env:Tree AV) (v:AV):gv env (.c v)=v:=rfl
theorem upd_set {env:Tree AV} {om ok_:Opd} {N:Pos} {x:Int} {ks:List Int} (hm:gv env om=.map N) (hk:gv env ok_=.int 3 x) (hs:setIs (H.get N) ks) :
    ∃ H',evalOp (.mapUpd .int om ok_ (.c (.bool true))) env H=some (.undef,H')∧H'.next=H.next∧(∀ j,j≠N→H'.get j=H.get j)∧setIs (H'.get N) (addk x ks):=by
  obtain ⟨hn,es,he,hkv⟩:=hs
  have hmem:hasI x ks=true↔x∈ks:=hasI_iff x ks
  cases ho:H.get N with
  | map es0 c =>
    rw [ho] at he
    simp only [mapEnts,Option.some.injEq] at he;subst he
    obtain ⟨g1,g2⟩:=find_set (k:=x) hkv 0
    by_cases hx:x∈ks
    · obtain ⟨i,q1,q2,q3⟩:=g2 hx
      rw [Nat.zero_add] at q1
      refine ⟨H.set N (.map (setVal (.bool true) (.int 3 x) es0 i) c),?_,rfl,fun j hj=>by rw [Heap.get_set,if_neg hj],?_⟩
      · have hsame:sameKey .int (.int 3 x) es0 i=true:=same_simple rfl _ _ _ q2
        simp only [evalOp,keyOk,Bool.not_true,Bool.false_eq_true,if_false,hm,hk,ho,q1,hsame,if_true,gvc]
      · rw [Heap.get_set,if_pos rfl]
        unfold addk;rw [if_pos (hmem.2 hx)]
        exact ⟨hn,_,rfl,q3⟩
    · refine ⟨H.set N (.map (es0++[⟨.int 3 x,.bool true,c⟩]) (c+1)),?_,rfl,fun j hj=>by rw [Heap.get_set,if_neg hj],?_⟩
      · simp only [evalOp,keyOk,Bool.not_true,Bool.false_eq_true,if_false,hm,hk,ho,g1 hx,gvc]
      · rw [Heap.get_set,if_pos rfl]
        unfold addk;rw [if_neg (fun h=>hx (hmem.1 h))]
        refine ⟨?_,_,rfl,by simp [hkv,AEnt.kv,sk]⟩
        rw [List.nodup_append];exact ⟨hn,by simp,fun a ha b hb=>by simp only [List.mem_singleton] at hb;subst hb;exact fun e=>hx (e ▸ ha)⟩
  | umap es0 =>
    rw [ho] at he
    simp only [mapEnts,Option.some.injEq] at he;subst he
    obtain ⟨g1,g2⟩:=go_set (k:=x) hn hkv
    by_cases hx:x∈ks
    · obtain ⟨q1,q2⟩:=g2 hx
      refine ⟨H.set N (.umap (updU .int (.int 3 x) (.bool true) es0)),?_,rfl,fun j hj=>by rw [Heap.get_set,if_neg hj],?_⟩
      · simp only [evalOp,keyOk,Bool.not_true,Bool.false_eq_true,if_false,hm,hk,ho,findU,simpleKey,if_true,q1,gvc]
      · rw [Heap.get_set,if_pos rfl]
        unfold addk;rw [if_pos (hmem.2 hx)]
        exact ⟨hn,_,rfl,q2⟩
    · refine ⟨H.set N (.umap (es0++[⟨.int 3 x,.bool true,0⟩])),?_,rfl,fun j hj=>by rw [Heap.get_set,if_neg hj],?_⟩
      · simp only [evalOp,keyOk,Bool.not_true,Bool.false_eq_true,if_false,hm,hk,ho,findU,simpleKey,if_true,g1 hx,gvc]
      · rw [Heap.get_set,if_pos rfl]
        unfold addk;rw [if_neg (fun h=>hx (hmem.1 h))]
        refine ⟨?_,_,rfl,by simp [hkv,AEnt.kv,sk]⟩
        rw [List.nodup_append];exact ⟨hn,by simp,fun a ha b hb=>by simp only [List.mem_singleton] at hb;subst hb;exact fun e=>hx (e ▸ ha)⟩
  | _=>rw [ho] at he;simp [mapEnts] at he
theorem has_set {env:Tree AV} {om ok_:Opd} {N:Pos} {x:Int} {ks:List Int} (hm:gv env om=.map N) (hk:gv env ok_=.int 3 x) (hs:setIs (H.get N) ks) :
    evalOp (.lookup .int (.bool false) false om ok_) env H=some (.bool (hasI x ks),H):=by
  obtain ⟨hn,es,he,hkv⟩:=hs
  have hmem:hasI x ks=true↔x∈ks:=hasI_iff x ks
  have hb:∀ q:Bool,(x∈ks↔q=true)→hasI x ks=q:=fun q hq=>by cases q<;>cases h:hasI x ks<;>simp_all
  cases ho:H.get N with
  | map es0 c =>
    rw [ho] at he
    simp only [mapEnts,Option.some.injEq] at he;subst he
    obtain ⟨g1,g2⟩:=find_set (k:=x) hkv 0
    by_cases hx:x∈ks
    · obtain ⟨i,q1,_⟩:=g2 hx
      simp only [evalOp,keyOk,Bool.not_true,Bool.false_eq_true,if_false,hm,hk,ho,q1,hmem.2 hx]
    · simp only [evalOp,keyOk,Bool.not_true,Bool.false_eq_true,if_false,hm,hk,ho,g1 hx,hb false (by simp [hx])]
  | umap es0 =>
    rw [ho] at he
    simp only [mapEnts,Option.some.injEq] at he;subst he
    obtain ⟨g1,g2⟩:=go_set (k:=x) hn hkv
    by_cases hx:x∈ks
    · simp only [evalOp,keyOk,Bool.not_true,Bool.false_eq_true,if_false,hm,hk,ho,findU,simpleKey,if_true,(g2 hx).1,hmem.2 hx]
    · simp only [evalOp,keyOk,Bool.not_true,Bool.false_eq_true,if_false,hm,hk,ho,findU,simpleKey,if_true,g1 hx,hb false (by simp [hx])]
  | _=>rw [ho] at he;simp [mapEnts] at he
theorem cellAt_cells {i:Pos} {o:Nat} {v:AV} (h:cellAt H i o=some v):∃ c n e rw' par fz,H.get i=.cells c n e rw' par fz∧o<n∧c.getN .undef o=v:=by
  unfold cellAt at h
  split at h
  · rename_i c n e rw' par fz hi
    split at h
    · rename_i hlt;injection h with h;exact ⟨c,n,e,rw',par,fz,hi,Eq.mp Nat.blt_eq hlt,h⟩
    · cases h
  · cases h
theorem cellAt_congr {H':Heap} {i:Pos} (h:H'.get i=H.get i) (o:Nat):cellAt H' i o=cellAt H i o:=by unfold cellAt;rw [h]
theorem eval_load1 {env:Tree AV} {x:Opd} {i:Pos} {o:Nat} {v:AV} (hx:gv env x=.ptr i o) (h:cellAt H i o=some v):evalOp (.load1 x) env H=some (v,H):=by
  obtain ⟨c,n,e,rw',par,fz,h1,h2,h3⟩:=cellAt_cells h
  simp [evalOp,loadV,hx,readAt,h1,readCells,h2,h3]
theorem cellP_inv {a v:AV} (h:cellP H a=some v):∃ i o,a=.ptr i o∧cellAt H i o=some v:=by
  unfold cellP at h
  split at h
  · exact ⟨_,_,rfl,h⟩
  · cases h
theorem elemAt_inv {s v:AV} {x:Int} (h:elemAt H s x=some v):∃ i o n c e j,s=.slice i o n c e∧x=.ofNat j∧j<n∧cellAt H i (o+j)=some v:=by
  unfold elemAt at h
  split at h
  · split at h
    · rename_i hlt;exact ⟨_,_,_,_,_,_,rfl,rfl,Eq.mp Nat.blt_eq hlt,h⟩
    · cases h
  · cases h
theorem eval_idxSl {env:Tree AV} {x y:Opd} {i:Pos} {o n c:Nat} {e:Bool} {j k:Nat} (hx:gv env x=.slice i o n c e) (hy:gv env y=.int k (.ofNat j)) (hj:j<n):evalOp (.idxSl 1 x y) env H=some (.ptr i (o+j),H):=by
  have:Nat.blt j n=true:=Eq.mpr Nat.blt_eq hj
  simp [evalOp,hx,hy,this]
end
end Go.Abs
