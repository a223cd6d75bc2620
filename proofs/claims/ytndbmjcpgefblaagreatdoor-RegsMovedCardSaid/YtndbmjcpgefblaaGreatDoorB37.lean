/- A part of the proof (an abstract machine, walks): no statement of its own, no conditions. -/
import Derived.Test.YtndbmjcpgefblaaGreatDoorA27
import Derived.Test.YtndbmjcpgefblaaGreatDoorB33
import Derived.Test.YtndbmjcpgefblaaGreatDoorB36
import Derived.Test.YtndbmjcpgefblaaGreatDoorA26
set_option linter.all false
namespace Go.Proofs
open Go.Shelf Go.RowKit Go.Lib Go.Sort Go.Abs
def cfMv (x y:Int × Int):Int:=Lib.compareInt x.1 y.1
theorem ltMv (x y:Int × Int):ltOf cfMv x y=decide (x.1<y.1):=by
  unfold ltOf cfMv Lib.compareInt
  by_cases h1:x.1<y.1
  · simp [h1]
  · by_cases h2:y.1<x.1<;>simp [h1,h2]
theorem swoMv:SWO (ltOf cfMv) where
  irrefl x:=by rw [ltMv];simp
  trans x y z h1 h2:=by rw [ltMv] at *;simp at *;omega
  ntrans x y z h1 h2:=by rw [ltMv] at *;simp at *;omega
theorem sortMv_ok:PrimOk Tryz.prog 53 (gSortP 54):=by
  refine gSortP_ok (cmpF:=54) ⟨⟨Tryz.f53,Tryz.func53,by kernel_rfl,by kernel_rfl⟩⟩ ltMv (fun blk off cap d w hH hblk hsz=>?_) (fun p cap fv w=>AnyF.slices_SortFunc_none Tryz.sortMv p cap fv w)
  have eg:∀ args w,(callFunc 54 args).run Tryz.prog w=.ok (.enter 54 args) w:=enters_of Tryz.func54 (by kernel_rfl) rfl
  exact AnyQ.slices_SortFunc Tryz.sortMv 2 Tryz.isAgg60 Tryz.sizeOf60 encP (fun _=>rfl) (fun x v hv=>by simp [encP] at hv;rcases hv with rfl | rfl<;>rfl) cfMv swoMv 54 #[] blk off cap d w eg (fun _ _ _ _ x y=>Tryz.cl54 x y _) hH hblk hsz
end Go.Proofs
namespace Go.Abs.R1
open Go.Proofs Go.Abs
theorem ent_of {P:Program} {tbl:Nat→AFunc} (ht:TblOk P tbl) (f:Nat):EntOk P f (tbl f):=by
  cases h:tbl f with
  | none=>trivial
  | code nt rs body=>exact ht.code f nt rs body h
  | prim g=>exact ht.prim f g h
  | over g=>exact ht.over f g h
def tblB (f:Nat):AFunc:=if Nat.beq f 5 then .prim gKnown else if Nat.beq f 47 then .prim gSort else if Nat.beq f 53 then .prim (gSortP 54) else table.getN .none f
theorem tblB_ok:TblOk Tryz.prog tblB:=tblOk fun f=>by
  unfold tblB
  split
  · rename_i h;rw [Nat.eq_of_beq_eq_true h];exact known_ok
  · split
    · rename_i h;rw [Nat.eq_of_beq_eq_true h];exact qSort
    · split
      · rename_i h;rw [Nat.eq_of_beq_eq_true h];exact sortMv_ok
      · exact ent_of table_ok f
theorem tbB:R.Tb tblB:=⟨by kernel_rfl,by kernel_rfl,by kernel_rfl,by kernel_rfl,by kernel_rfl,by kernel_rfl,by kernel_rfl,by kernel_rfl,by kernel_rfl,by kernel_rfl,by kernel_rfl,by kernel_rfl,by kernel_rfl,by kernel_rfl,by kernel_rfl,by kernel_rfl,by kernel_rfl,by kernel_rfl,by kernel_rfl,by kernel_rfl,by kernel_rfl,by kernel_rfl,by kernel_rfl,by kernel_rfl,by kernel_rfl,by kernel_rfl,by kernel_rfl,by kernel_rfl,by kernel_rfl,by kernel_rfl,by kernel_rfl,by kernel_rfl,by kernel_rfl,by kernel_rfl,by kernel_rfl,by kernel_rfl⟩
end Go.Abs.R1
namespace Go.Abs
theorem RO.guardU {tbl:Nat→AFunc} {c:Cx} {s:List SI} {L:Kn} {H:Heap} {d:Option Pos} {l:List AOper} {op:AOp} {g:Pos} {w:Bool} {hd:List Pos} {re:List ARe} (h:RO tbl c l s (setL L d .undef) H) (hg:gvL L (.t g)=.tuple []:=by (conv=>lhs;whnf)<;>rfl):RO tbl c (⟨d,op,some (g,w),hd,re⟩::l) s L H:=fun env hle=>by
  obtain ⟨n,hn⟩:=h _ (hle.set d .undef)
  refine ⟨n+1,?_⟩
  have e:env.get .undef g=.tuple []:=hle.get hg rfl
  simp only [Xo,Go.Abs.ops,guardOk,guardDefd,e,Bool.false_eq_true,if_false,AV.defd,if_true]
  exact hn
end Go.Abs
namespace Go.Abs.R
open Go.Abs
section
variable [Ov]
variable {tbl:Nat→AFunc}
theorem known_call (T:Tb tbl) {H:Heap} {K:AV→Heap→Prop} (hK:K (.bool true) H):YF tbl (.func 5 [] []) [] H K:=YF.prim T.s5 (show gKnown _ H=_ from rfl) hK
theorem moves_any (T:Tb tbl) {H:Heap} {fr to:List Int} {sf st:AV} {sp:Int} {K:AV→Heap→Prop} (hf:SlI H fr sf) (ht:SlI H to st) (hfl:fr.length≤50) (htl:to.length≤50)
    (hK:∀ lv H',lv.defd=true→(errOf fr to sp=0→∃ out,Mv.Ord sp (sortP ((zipM fr to).filter fun m=>!decide (m.2=m.1))) out∧out.length≤200∧SlP H' out lv)→(errOf fr to sp≠0→lv=.nilslice)→Grew H H'→K (.tuple [lv,aN (errOf fr to sp)]) H'):YF tbl (.func 6 [] []) [sf,st,aI sp] H K :=
  moves_ok T hf ht hfl htl (fun h H' g=>hK .nilslice H' rfl (fun h'=>absurd h' h) (fun _=>rfl) g) fun h sv' H' out h1 h2 h3 g=>by
    have:=hK sv' H' h3.defd (fun _=>⟨out,h1,h2,h3⟩) (fun h'=>absurd h h') g
    rw [h] at this;exact this
end
end Go.Abs.R
namespace Go.Mv
def run (out:List M) (σ:Int→Int):Int→Int:=out.foldl (fun σ m r=>if r=m.1 then σ m.2 else σ r) σ
theorem run_cons (m:M) (out:List M) (σ:Int→Int):run (m::out) σ=run out (fun r=>if r=m.1 then σ m.2 else σ r):=rfl
theorem nodup_length:∀ {l m:List Int},l.Nodup→(∀ x∈l,x∈m)→l.length≤m.length
  | [],_,_,_=>by simp
  | a::l,m,hn,hs=>by
    rw [List.nodup_cons] at hn
    have ha:a∈m:=hs a (List.mem_cons_self ..)
    have hle:=nodup_length (l:=l) (m:=m.erase a) hn.2 fun x hx=>by
      have hxa:x≠a:=fun e=>hn.1 (e ▸ hx)
      exact (List.mem_erase_of_ne hxa).2 (hs x (List.mem_cons_of_mem _ hx))
    have hpos:0<m.length:=List.length_pos_of_mem ha
    rw [List.length_erase_of_mem ha] at hle
    simp only [List.length_cons]
    omega
theorem none_free {l:List M} (h:l.findIdx? (freeIn l)=none) {m:M} (hm:m∈l):∃ o∈l,o≠m∧o.2=m.1:=by
  rw [List.findIdx?_eq_none_iff] at h
  have:=h m hm
  apply Classical.byContradiction
  intro hc
  have hf:freeIn l m=true:=freeIn_iff.2 fun o ho hne he=>hc ⟨o,ho,hne,he⟩
  rw [this] at hf;cases hf
theorem none_reads {l:List M} (hs:Asc l) {sp:Int} (hk:sp∉keys l) (h:l.findIdx? (freeIn l)=none) {m:M} (hm:m∈l):m.2≠sp:=by
  intro e
  have h1:(keys l).length≤((l.map (·.2)).erase sp).length:=nodup_length hs.nodupKeys fun x hx=>by
    obtain ⟨o,ho,rfl⟩:=List.mem_map.1 hx
    obtain ⟨o',ho',_,e'⟩:=none_free h ho
    have hne:(fun m:M=>m.1) o≠sp:=fun e2=>hk (by rw [← e2];exact hx)
    refine (List.mem_erase_of_ne hne).2 ?_
    show o.1∈_
    rw [← e'];exact List.mem_map_of_mem ho'
  have h2:sp∈l.map (·.2):=e ▸ List.mem_map_of_mem hm
  rw [List.length_erase_of_mem h2] at h1
  have:=List.length_pos_of_mem h2
  simp only [keys,List.length_map] at h1 this
  omega
theorem mem_split {l:List M} {k:Nat} {m:M} (hm:l[k]?=some m) {o:M} (ho:o∈l):o=m∨o∈l.eraseIdx k:=by
  obtain ⟨hk,e⟩:=List.getElem?_eq_some_iff.1 hm
  have:=(erase_perm hk).mem_iff.2 ho
  rw [e] at this
  exact List.mem_cons.1 this
theorem keys_split {l:List M} (hs:Asc l) {k:Nat} {m:M} (hm:l[k]?=some m):m.1∉keys (l.eraseIdx k):=by
  obtain ⟨hk,e⟩:=List.getElem?_eq_some_iff.1 hm
  have:=(List.Perm.map (fun m:M=>m.1) (erase_perm hk)).nodup_iff.2 hs.nodupKeys
  rw [e,List.map_cons,List.nodup_cons] at this
  exact this.1
theorem erase_sub {l:List M} {k:Nat} {o:M} (h:o∈l.eraseIdx k):o∈l:=List.mem_of_mem_eraseIdx h
theorem keys_sub {l:List M} {k:Nat} {x:Int} (h:x∉keys l):x∉keys (l.eraseIdx k):=fun hm=>by
  obtain ⟨o,ho,e⟩:=List.mem_map.1 hm
  exact h (List.mem_map.2 ⟨o,erase_sub ho,e⟩)
theorem first_free {l:List M} {k:Nat} {m:M} (h:l.findIdx? (freeIn l)=some k) (hm:l[k]?=some m):freeIn l m=true:=by
  rw [List.findIdx?_eq_some_iff_getElem] at h
  obtain ⟨hk,h1,_⟩:=h
  rw [getElem?_pos l k hk] at hm;injection hm with hm;rw [← hm];exact h1
theorem head_mem {l:List M} {m:M} (h:l.head?=some m):m∈l:=List.mem_of_mem_head? (by rw [h];rfl)
theorem ord_run {sp:Int} {left out:List M} (h:Ord sp left out):Asc left→sp∉keys left→∀ σ,(∀ m∈left,run out σ m.1=σ m.2)∧∀ r,r∉keys left→r≠sp→run out σ r=σ r:=by
  induction h with
  | nil=>intro _ _ σ;exact ⟨fun m hm=>absurd hm List.not_mem_nil,fun r _ _=>rfl⟩
  | @free left out k m h hm r ih =>
    intro hs hk σ
    obtain ⟨h1,h2⟩:=ih (hs.erase k) (keys_sub hk) (fun r=>if r=m.1 then σ m.2 else σ r)
    have hmk:m.1≠sp:=fun e=>hk (e ▸ List.mem_map_of_mem (List.mem_of_getElem? hm))
    have hf:=first_free h hm
    rw [freeIn_iff] at hf
    constructor
    · intro o ho
      rw [run_cons]
      by_cases e:o=m
      · subst e
        rw [h2 _ (keys_split hs hm) hmk,if_pos rfl]
      · rw [h1 o ((mem_split hm ho).resolve_left e),if_neg (hf o ho e)]
    · intro r hr hrs
      rw [run_cons,h2 r (keys_sub hr) hrs,if_neg fun e:r=m.1=>hr (by rw [e];exact List.mem_map_of_mem (List.mem_of_getElem? hm))]
  | @ring left out m hm h r ih =>
    intro hs hk σ
    obtain ⟨h1,h2⟩:=ih (hs.respare sp m.1) (by rw [respare_keys];exact hk) (fun r=>if r=sp then σ m.1 else σ r)
    constructor
    · intro o ho
      rw [run_cons]
      have e:=h1 (if o.2=m.1 then (o.1,sp) else o) (List.mem_map.2 ⟨o,ho,rfl⟩)
      have e1:(if o.2=m.1 then (o.1,sp) else o).1=o.1:=by split<;>rfl
      rw [e1] at e
      simp only [] at e ⊢
      rw [e]
      by_cases hc:o.2=m.1
      · rw [if_pos hc];simp only [if_true];rw [hc]
      · rw [if_neg hc,if_neg (none_reads hs hk h ho)]
    · intro r hr hrs
      rw [run_cons]
      simp only []
      rw [h2 r (by rw [respare_keys];exact hr) hrs,if_neg hrs]
def Busy (l:List M):Prop:=∀ m∈l,m.1≠m.2
theorem Busy.respare {l:List M} (h:Busy l) {sp f:Int} (hk:sp∉keys l):Busy (respare sp f l):=by
  intro m hm
  obtain ⟨o,ho,rfl⟩:=List.mem_map.1 hm
  split
  · exact fun e:o.1=sp=>hk (by rw [← e];exact List.mem_map_of_mem ho)
  · exact h o ho
theorem Busy.erase {l:List M} (h:Busy l) (k:Nat):Busy (l.eraseIdx k):=fun m hm=>h m (erase_sub hm)
theorem ord_count {sp:Int} {left out:List M} (h:Ord sp left out):Asc left→Busy left→sp∉keys left →
    ∃ r a,out.length=left.length+r∧2*r+a≤left.length∧((∃ k,left.findIdx? (freeIn left)=some k)→1≤a) ∧
      (∀ k,left.findIdx? (freeIn left)=some k→(∃ j,(left.eraseIdx k).findIdx? (freeIn (left.eraseIdx k))=some j)→2≤a)∧(0<r↔∃ m∈out,m.1=sp):=by
  induction h with
  | nil=>intro _ _ _;exact ⟨0,0,rfl,by simp,fun ⟨k,h⟩=>by simp at h,fun k h=>by simp at h,by simp⟩
  | @free left out k m h hm r ih =>
    intro hs hb hk
    obtain ⟨r,a,h1,h2,h3,h4,h5⟩:=ih (hs.erase k) (hb.erase k) (keys_sub hk)
    have hkl:=(List.getElem?_eq_some_iff.1 hm).1
    have hl:(left.eraseIdx k).length=left.length-1:=List.length_eraseIdx_of_lt hkl
    refine ⟨r,a+1,by simp only [List.length_cons];omega,by omega,fun _=>by omega,fun k' hk' hj=>?_,?_⟩
    · rw [h] at hk';injection hk' with hk';subst hk'
      have:=h3 hj;omega
    · rw [h5]
      have hmk:m.1≠sp:=fun e=>hk (e ▸ List.mem_map_of_mem (List.mem_of_getElem? hm))
      simp [hmk]
  | @ring left out m hm h r ih =>
    intro hs hb hk
    obtain ⟨r,a,h1,h2,h3,h4,h5⟩:=ih (hs.respare sp m.1) (hb.respare hk) (by rw [respare_keys];exact hk)
    have hl:(respare sp m.1 left).length=left.length:=by simp [respare]
    obtain ⟨k,hkf⟩:=respare_free hm hk
    have hml:=head_mem hm
    have ha:2≤a:=by
      refine h4 k hkf ?_
      cases hf:((respare sp m.1 left).eraseIdx k).findIdx? (freeIn ((respare sp m.1 left).eraseIdx k)) with
      | some j=>exact ⟨j,rfl⟩
      | none =>
        exfalso
        have hA:=(hs.respare sp m.1).erase k
        have hK:sp∉keys ((respare sp m.1 left).eraseIdx k):=keys_sub (by rw [respare_keys];exact hk)
        obtain ⟨o,ho,hne,he⟩:=none_free h hml
        have ho':(o.1,sp)∈respare sp m.1 left:=List.mem_map.2 ⟨o,ho,by rw [if_pos he]⟩
        have hm':m∈respare sp m.1 left:=List.mem_map.2 ⟨m,hml,by rw [if_neg fun e=>hb m hml e.symm]⟩
        obtain ⟨x,hx⟩:∃ x,(respare sp m.1 left)[k]?=some x:=by
          have hkl:=(List.findIdx?_eq_some_iff_findIdx_eq.1 hkf).1
          exact ⟨_,getElem?_pos _ k hkl⟩
        have hox:(o.1,sp)=x:=by
          rcases mem_split hx ho' with e | e
          · exact e
          · exact absurd rfl (none_reads hA hK hf e)
        have hmx:m∈(respare sp m.1 left).eraseIdx k:=by
          rcases mem_split hx hm' with e | e
          · exfalso
            rw [← hox] at e
            exact hne (hs.keyInj ho hml (by rw [e]))
          · exact e
        obtain ⟨y,hy,hyn,hye⟩:=none_free hf hmx
        obtain ⟨z,hz,rfl⟩:=List.mem_map.1 (erase_sub hy)
        split at hye
        · exact hk (show sp∈keys left by rw [show sp=m.1 from hye];exact List.mem_map_of_mem hml)
        · rename_i hzn;exact hzn hye
    refine ⟨r+1,0,by simp only [List.length_cons];omega,by omega,fun ⟨k,hk⟩=>(by rw [h] at hk;cases hk),fun k hk=>(by rw [h] at hk;cases hk),?_⟩
    exact ⟨fun _=>⟨_,List.mem_cons_self ..,rfl⟩,fun _=>by omega⟩
def Closed (C:List M):Prop:=C≠[]∧∀ m∈C,∃ o∈C,o≠m∧o.2=m.1
theorem ord_ring {sp:Int} {left out:List M} (h:Ord sp left out):sp∉keys left→((∃ m∈out,m.1=sp)↔∃ C,Closed C∧∀ m∈C,m∈left):=by
  induction h with
  | nil =>
    intro _
    refine ⟨fun ⟨m,hm,_⟩=>absurd hm List.not_mem_nil,fun ⟨C,hc,hs⟩=>?_⟩
    cases C with
    | nil=>exact absurd rfl hc.1
    | cons a C=>exact absurd (hs a (List.mem_cons_self ..)) List.not_mem_nil
  | @free left out k m h hm r ih =>
    intro hk
    have hmk:m.1≠sp:=fun e=>hk (e ▸ List.mem_map_of_mem (List.mem_of_getElem? hm))
    have hf:=first_free h hm
    rw [freeIn_iff] at hf
    rw [show (∃ m'∈m::out,m'.1=sp)↔∃ m'∈out,m'.1=sp by simp [hmk],ih (keys_sub hk)]
    constructor
    · rintro ⟨C,hc,hs⟩;exact ⟨C,hc,fun o ho=>erase_sub (hs o ho)⟩
    · rintro ⟨C,hc,hs⟩
      refine ⟨C,hc,fun o ho=>(mem_split hm (hs o ho)).resolve_left fun e=>?_⟩
      subst e
      obtain ⟨o',h1,h2,h3⟩:=hc.2 o ho
      exact hf o' (hs o' h1) h2 h3
  | @ring left out m hm h r ih =>
    intro hk
    refine ⟨fun _=>⟨left,⟨fun e=>(by rw [e] at hm;cases hm),fun m hm=>none_free h hm⟩,fun _ h=>h⟩,fun _=>⟨_,List.mem_cons_self ..,rfl⟩⟩
def iter (f:Int→Int):Nat→Int→Int
  | 0,x=>x
  | n+1,x=>iter f n (f x)
theorem iter_succ (f:Int→Int):∀ n x,iter f (n+1) x=f (iter f n x)
  | 0,_=>rfl
  | n+1,x=>iter_succ f n (f x)
theorem iter_add (f:Int→Int):∀ a b x,iter f (a+b) x=iter f b (iter f a x)
  | 0,b,x=>by rw [Nat.zero_add];rfl
  | a+1,b,x=>by rw [Nat.add_right_comm];exact iter_add f a b (f x)
theorem pigeon {K:List Int} {n:Nat} (hn:K.length≤n) (f:Nat→Int) (hf:∀ j,j≤n→f j∈K):∃ a b,a<b∧b≤n∧f a=f b:=by
  apply Classical.byContradiction
  intro hc
  have hnd:((List.range (n+1)).map f).Nodup:=by
    rw [List.Nodup,List.pairwise_map,List.pairwise_iff_getElem]
    intro i j hi hj hij e
    rw [List.getElem_range,List.getElem_range] at e
    rw [List.length_range] at hj
    exact hc ⟨i,j,hij,by omega,e⟩
  have:=nodup_length hnd (m:=K) fun x hx=>by
    obtain ⟨j,hj,rfl⟩:=List.mem_map.1 hx
    rw [List.mem_range] at hj
    exact hf j (by omega)
  simp only [List.length_map,List.length_range] at this
  omega
theorem ring_iff {left:List M} (hb:Busy left) (due:Int→Int) (hd:∀ m∈left,due m.1=m.2) (hd2:∀ x,x∉keys left→due x=x):(∃ C,Closed C∧∀ m∈C,m∈left)↔∃ i∈keys left,∃ j,1≤j∧j≤left.length∧iter due j i=i:=by
  classical
  constructor
  · rintro ⟨C,⟨hne,hc⟩,hsub⟩
    obtain ⟨c0,hc0⟩:=List.exists_mem_of_ne_nil C hne
    have hprev:∀ m:M,∃ o:M,m∈C→o∈C∧o.2=m.1:=fun m=>by
      by_cases h:m∈C
      · obtain ⟨o,h1,_,h2⟩:=hc m h;exact ⟨o,fun _=>⟨h1,h2⟩⟩
      · exact ⟨m,fun h'=>absurd h' h⟩
    let prev:M→M:=fun m=>Classical.choose (hprev m)
    have hp:∀ m∈C,prev m∈C∧(prev m).2=m.1:=fun m hm=>Classical.choose_spec (hprev m) hm
    let walk:Nat→M:=fun n=>Nat.rec c0 (fun _ m=>prev m) n
    have hw:∀ n,walk n∈C:=fun n=>by induction n with
      | zero=>exact hc0
      | succ n ih=>exact (hp _ ih).1
    have hst:∀ n,due (walk (n+1)).1=(walk n).1:=fun n=>by
      rw [hd _ (hsub _ (hw (n+1)))];exact (hp _ (hw n)).2
    have hit:∀ a b,iter due b (walk (a+b)).1=(walk a).1:=fun a b=>by induction b with
      | zero=>rfl
      | succ b ih =>
        show iter due b (due (walk (a+b+1)).1)=_
        rw [hst,ih]
    obtain ⟨a,b,hab,hbn,e⟩:=pigeon (K:=keys left) (n:=left.length) (by simp [keys]) (fun j=>(walk j).1) fun j _=>List.mem_map_of_mem (hsub _ (hw j))
    refine ⟨(walk b).1,List.mem_map_of_mem (hsub _ (hw b)),b-a,by omega,by omega,?_⟩
    have:=hit a (b-a)
    rw [show a+(b-a)=b by omega] at this
    rw [this];exact e
  · rintro ⟨i,hi,j,hj1,_,hj⟩
    have hnf:∀ n,due (iter due n i)≠iter due n i:=by
      intro n e
      have hfix:∀ m,iter due m (iter due n i)=iter due n i:=fun m=>by induction m with
        | zero=>rfl
        | succ m ih=>show iter due m (due _)=_;rw [e];exact ih
      have hmul:∀ q,iter due (j*q) i=i:=fun q=>by induction q with
        | zero=>rfl
        | succ q ih=>rw [Nat.mul_succ,iter_add,ih,hj]
      have h1:iter due (n+(j*(n+1)-n)) i=i:=by
        rw [show n+(j*(n+1)-n)=j*(n+1) by
          have:n≤j*(n+1):=by calc
            n≤1*(n+1):=by omega
            _≤j*(n+1):=Nat.mul_le_mul_right _ hj1
          omega]
        exact hmul _
      rw [iter_add,hfix] at h1
      rw [h1] at e
      obtain ⟨m,hm,rfl⟩:=List.mem_map.1 hi
      rw [hd m hm] at e
      exact hb m hm e.symm
    have hin:∀ n,∃ m∈left,m.1=iter due n i:=fun n=>by
      apply Classical.byContradiction
      intro hc
      refine hnf n (hd2 _ fun hk=>?_)
      obtain ⟨m,hm,e⟩:=List.mem_map.1 hk
      exact hc ⟨m,hm,e⟩
    refine ⟨left.filter fun m=>decide (∃ n,m.1=iter due n i),⟨?_,?_⟩,fun m hm=>(List.mem_filter.1 hm).1⟩
    · obtain ⟨m,hm,e⟩:=hin 0
      exact List.ne_nil_of_mem (List.mem_filter.2 ⟨hm,by simpa using ⟨0,e⟩⟩)
    · intro m hm
      obtain ⟨h1,h2⟩:=List.mem_filter.1 hm
      obtain ⟨n,e⟩:=of_decide_eq_true h2
      obtain ⟨o,ho,eo⟩:=hin (n+(j-1))
      have e2:o.2=m.1:=by
        rw [← hd o ho,eo,← iter_succ due,e,show n+(j-1)+1=j+n by omega,iter_add,hj]
      refine ⟨o,List.mem_filter.2 ⟨ho,by simpa using ⟨_,eo⟩⟩,fun e3=>?_,e2⟩
      subst e3
      exact hb o ho e2.symm
end Go.Mv
namespace Go.Mv
open Go.Abs (sortP sortP_perm sortP_asc)
theorem ring_back {left:List M} (hb:Busy left) (due:Int→Int) (hd:∀ m∈left,due m.1=m.2) (hd2:∀ x,x∉keys left→due x=x) {i:Int} (hi:i∈keys left) {j:Nat} (hj1:1≤j) (hj:iter due j i=i):∃ C,Closed C∧∀ m∈C,m∈left:=by
  classical
  have hnf:∀ n,due (iter due n i)≠iter due n i:=by
    intro n e
    have hfix:∀ m,iter due m (iter due n i)=iter due n i:=fun m=>by induction m with
      | zero=>rfl
      | succ m ih=>show iter due m (due _)=_;rw [e];exact ih
    have hmul:∀ q,iter due (j*q) i=i:=fun q=>by induction q with
      | zero=>rfl
      | succ q ih=>rw [Nat.mul_succ,iter_add,ih,hj]
    have h1:iter due (n+(j*(n+1)-n)) i=i:=by
      rw [show n+(j*(n+1)-n)=j*(n+1) by
        have:n≤j*(n+1):=by calc
          n≤1*(n+1):=by omega
          _≤j*(n+1):=Nat.mul_le_mul_right _ hj1
        omega]
      exact hmul _
    rw [iter_add,hfix] at h1
    rw [h1] at e
    obtain ⟨m,hm,rfl⟩:=List.mem_map.1 hi
    rw [hd m hm] at e
    exact hb m hm e.symm
  have hin:∀ n,∃ m∈left,m.1=iter due n i:=fun n=>by
    apply Classical.byContradiction
    intro hc
    refine hnf n (hd2 _ fun hk=>?_)
    obtain ⟨m,hm,e⟩:=List.mem_map.1 hk
    exact hc ⟨m,hm,e⟩
  refine ⟨left.filter fun m=>decide (∃ n,m.1=iter due n i),⟨?_,?_⟩,fun m hm=>(List.mem_filter.1 hm).1⟩
  · obtain ⟨m,hm,e⟩:=hin 0
    exact List.ne_nil_of_mem (List.mem_filter.2 ⟨hm,by simpa using ⟨0,e⟩⟩)
  · intro m hm
    obtain ⟨h1,h2⟩:=List.mem_filter.1 hm
    obtain ⟨n,e⟩:=of_decide_eq_true h2
    obtain ⟨o,ho,eo⟩:=hin (n+(j-1))
    have e2:o.2=m.1:=by
      rw [← hd o ho,eo,← iter_succ due,e,show n+(j-1)+1=j+n by omega,iter_add,hj]
    refine ⟨o,List.mem_filter.2 ⟨ho,by simpa using ⟨_,eo⟩⟩,fun e3=>?_,e2⟩
    subst e3
    exact hb o ho e2.symm
theorem run_snoc (l:List M) (m:M) (σ:Int→Int):run (l++[m]) σ=fun r=>if r=m.1 then run l σ m.2 else run l σ r:=by simp [run,List.foldl_append]
def dueFrom (d:Int→Int) (l:List M):Int→Int:=l.foldl (fun d m r=>if r=m.1 then m.2 else d r) d
def dueOf (l:List M):Int→Int:=dueFrom (fun r=>r) l
theorem dueOf_snoc (l:List M) (m:M):dueOf (l++[m])=fun r=>if r=m.1 then m.2 else dueOf l r:=by simp [dueOf,dueFrom,List.foldl_append]
theorem dueFrom_out:∀ (l:List M) (d:Int→Int) {x:Int},x∉keys l→dueFrom d l x=d x
  | [],_,_,_=>rfl
  | m::l,d,x,h=>by
    have h1:x≠m.1:=fun e=>h (by rw [e];exact List.mem_cons_self ..)
    have h2:x∉keys l:=fun h'=>h (List.mem_cons_of_mem _ h')
    show dueFrom (fun r=>if r=m.1 then m.2 else d r) l x=_
    rw [dueFrom_out l _ h2,if_neg h1]
theorem dueFrom_in:∀ (l:List M) (d:Int→Int),(keys l).Nodup→∀ m∈l,dueFrom d l m.1=m.2
  | [],_,_,m,h=>by cases h
  | a::l,d,hn,m,h=>by
    have hn':a.1∉keys l∧(keys l).Nodup:=List.nodup_cons.1 hn
    show dueFrom (fun r=>if r=a.1 then a.2 else d r) l m.1=_
    rcases List.mem_cons.1 h with rfl | h
    · rw [dueFrom_out l _ hn'.1,if_pos rfl]
    · exact dueFrom_in l _ hn'.2 m h
def addM (acc:List M) (m:Nat × Nat):List M:=if ((m.2 % 20:Nat):Int)∈keys acc then acc else acc++[(((m.2 % 20:Nat):Int),((m.1 % 20:Nat):Int))]
def built (l:List (Nat × Nat)):List M:=l.foldl addM []
theorem built_snoc (l:List (Nat × Nat)) (m:Nat × Nat):built (l++[m])=addM (built l) m:=by simp [built,List.foldl_append]
def Good (acc:List M):Prop:=(keys acc).Nodup∧∀ m∈acc,(0≤m.1∧m.1<20)∧0≤m.2∧m.2<20
theorem addM_good {acc:List M} (h:Good acc) (m:Nat × Nat):Good (addM acc m)∧(addM acc m).length≤acc.length+1:=by
  unfold addM
  split
  · exact ⟨h,by omega⟩
  · rename_i hn
    refine ⟨⟨?_,fun x hx=>?_⟩,by simp⟩
    · simp only [keys,List.map_append,List.map_cons,List.map_nil]
      rw [List.nodup_append]
      refine ⟨h.1,by simp,fun a ha b hb=>?_⟩
      simp only [List.mem_singleton] at hb
      subst hb
      exact fun e=>hn (by rw [← e];exact ha)
    · rcases List.mem_append.1 hx with hx | hx
      · exact h.2 x hx
      · simp only [List.mem_singleton] at hx;subst hx
        simp only [];omega
theorem built_from:∀ (l:List (Nat × Nat)) (acc:List M),Good acc→Good (l.foldl addM acc)∧(l.foldl addM acc).length≤acc.length+l.length
  | [],acc,h=>⟨h,by simp⟩
  | m::l,acc,h=>by
    obtain ⟨h1,h2⟩:=addM_good h m
    obtain ⟨h3,h4⟩:=built_from l (addM acc m) h1
    exact ⟨h3,by simp only [List.foldl_cons,List.length_cons] at h4 ⊢;omega⟩
theorem built_good (l:List (Nat × Nat)):Good (built l)∧(built l).length≤l.length:=by
  have:=built_from l [] ⟨List.nodup_nil,fun m h=>by cases h⟩
  exact ⟨this.1,by have:=this.2;simp only [List.length_nil,Nat.zero_add] at this;exact this⟩
def leftOf (acc:List M):List M:=sortP (acc.filter fun m=>!decide (m.2=m.1))
theorem left_mem {acc:List M} {m:M}:m∈leftOf acc↔m∈acc∧m.1≠m.2:=by
  unfold leftOf
  rw [(sortP_perm _).mem_iff,List.mem_filter]
  constructor
  · rintro ⟨h1,h2⟩;exact ⟨h1,fun e=>by simp [e] at h2⟩
  · rintro ⟨h1,h2⟩;exact ⟨h1,by simp only [Bool.not_eq_true',decide_eq_false_iff_not];exact fun e=>h2 e.symm⟩
theorem left_asc {acc:List M} (h:Good acc):Asc (leftOf acc):=sortP_asc (h.1.sublist (List.filter_sublist.map _))
theorem left_busy (acc:List M):Busy (leftOf acc):=fun m hm=>(left_mem.1 hm).2
theorem left_keys {acc:List M} (h:Good acc) {x:Int} (hx:x∈keys (leftOf acc)):0≤x∧x<20:=by
  obtain ⟨m,hm,rfl⟩:=List.mem_map.1 hx
  exact (h.2 m (left_mem.1 hm).1).1
theorem left_spare {acc:List M} (h:Good acc):(20:Int)∉keys (leftOf acc):=fun hx=>by have:=left_keys h hx;omega
theorem due_in {acc:List M} (h:Good acc):∀ m∈leftOf acc,dueOf acc m.1=m.2:=fun m hm=>dueFrom_in acc _ h.1 m (left_mem.1 hm).1
theorem due_out {acc:List M} (h:Good acc):∀ x,x∉keys (leftOf acc)→dueOf acc x=x:=fun x hx=>by
  by_cases hk:x∈keys acc
  · obtain ⟨m,hm,rfl⟩:=List.mem_map.1 hk
    have:m.1=m.2:=Classical.byContradiction fun hne=>hx (List.mem_map_of_mem (left_mem.2 ⟨hm,hne⟩))
    have e:=dueFrom_in acc (fun r=>r) h.1 m hm
    show dueFrom _ acc m.1=m.1
    rw [e,this]
  · exact dueFrom_out acc _ hk
theorem due_range {acc:List M} (h:Good acc) {x:Int} (hx:0≤x∧x<20):0≤dueOf acc x∧dueOf acc x<20:=by
  by_cases hk:x∈keys (leftOf acc)
  · obtain ⟨m,hm,rfl⟩:=List.mem_map.1 hk
    rw [due_in h m hm];exact (h.2 m (left_mem.1 hm).1).2
  · rw [due_out h x hk];exact hx
def ringP (due:Int→Int) (i:Int):Prop:=due i≠i∧∃ j,1≤j∧j≤21∧iter due j i=i
theorem spared_ring {acc out:List M} (h:Good acc) (ho:Ord 20 (leftOf acc) out):(∃ m∈out,m.1=20)↔∃ i:Nat,i<20∧ringP (dueOf acc) i:=by
  rw [ord_ring ho (left_spare h)]
  constructor
  · intro hc
    obtain ⟨i,hi,j,h1,h2,h3⟩:=(ring_iff (left_busy acc) (dueOf acc) (due_in h) (due_out h)).1 hc
    have hr:=left_keys h hi
    have hll:(leftOf acc).length≤20:=by
      have:=nodup_length (left_asc h).nodupKeys (m:=(List.range 20).map fun n:Nat=>(n:Int)) fun x hx=>by
        have:=left_keys h hx
        exact List.mem_map.2 ⟨x.toNat,List.mem_range.2 (by omega),by omega⟩
      simpa [keys] using this
    refine ⟨i.toNat,by omega,?_,j,h1,by omega,?_⟩
    · rw [show ((i.toNat:Nat):Int)=i by omega]
      obtain ⟨m,hm,rfl⟩:=List.mem_map.1 hi
      show dueOf acc m.1≠m.1
      rw [due_in h m hm]
      exact fun e=>left_busy acc m hm e.symm
    · rw [show ((i.toNat:Nat):Int)=i by omega];exact h3
  · rintro ⟨i,hi,hne,j,h1,_,h3⟩
    refine ring_back (left_busy acc) (dueOf acc) (due_in h) (due_out h) (i:=(i:Int)) ?_ h1 h3
    exact Classical.byContradiction fun hk=>hne (due_out h _ hk)
theorem run_due {acc out:List M} (h:Good acc) (ho:Ord 20 (leftOf acc) out) {i:Int} (hi:i<20):run out (fun r=>r) i=dueOf acc i:=by
  obtain ⟨h1,h2⟩:=ord_run ho (left_asc h) (left_spare h) fun r=>r
  by_cases hk:i∈keys (leftOf acc)
  · obtain ⟨m,hm,rfl⟩:=List.mem_map.1 hk
    show run out _ m.1=dueOf acc m.1
    rw [h1 m hm,due_in h m hm]
  · rw [h2 i hk (by omega),due_out h i hk]
end Go.Mv
namespace Go.Abs
variable {tbl:Nat→AFunc} {c:Cx} {s:List SI} {L:Kn} {H H':Heap} {d:Option Pos} {l:List AOper}
abbrev aB (n:Nat):AV:=.int 4 (.ofNat n)
def flatB (l:List (Nat × Nat)):List AV:=l.flatMap fun m=>[aB m.1,aB m.2]
theorem flatB_length:∀ l:List (Nat × Nat),(flatB l).length=l.length*2
  | []=>rfl
  | a::l=>by
    show ([aB a.1,aB a.2]++flatB l).length=_
    rw [List.length_append,flatB_length l];simp;omega
theorem flatB_get:∀ {l:List (Nat × Nat)} {j:Nat} {m:Nat × Nat},l[j]?=some m→(flatB l)[2*j]?=some (aB m.1)∧(flatB l)[2*j+1]?=some (aB m.2)
  | [],j,m,h=>by simp at h
  | a::l,0,m,h=>by
    simp only [List.getElem?_cons_zero,Option.some.injEq] at h;subst h
    exact ⟨rfl,rfl⟩
  | a::l,j+1,m,h=>by
    simp only [List.getElem?_cons_succ] at h
    have:=flatB_get h
    show (aB a.1::aB a.2::flatB l)[2*(j+1)]?=_∧(aB a.1::aB a.2::flatB l)[2*(j+1)+1]?=_
    rw [show 2*(j+1)=2*j+1+1 by omega]
    simpa using this
abbrev SlB (H:Heap) (l:List (Nat × Nat)) (sv:AV):Prop:=Sl H 2 (flatB l) l.length sv
theorem RO.idxB {zs:List (Nat × Nat)} {sv:AV} {x y:Opd} {j k:Nat} (hs:SlB H zs sv) (h:∀ i o z,zs[j]?=some z→cellAt H i o=some (aB z.1)→cellAt H i (o+1)=some (aB z.2)→RO tbl c l s (setL L d (.ptr i o)) H) (hx:gvL L x=sv:=by (conv=>lhs;whnf)<;>rfl) (hy:gvL L y=.int k (.ofNat j):=by (conv=>lhs;whnf)<;>rfl) (hj:j<zs.length:=by omega):RO tbl c (⟨d,.idxSl 2 x y,none,[],[]⟩::l) s L H:=by
  obtain ⟨i,o,cp,e,rfl,h1,h2,h3,h4⟩:=hs.at (by omega)
  have hl:=flatB_length zs
  obtain ⟨g1,g2⟩:=flatB_get (getElem?_pos zs j hj)
  have e1:=h3 (2*j) (by omega)
  have e2:=h3 (2*j+1) (by omega)
  rw [← getElem?_pos (flatB zs) _ _,g1] at e1
  rw [← getElem?_pos (flatB zs) _ _,g2] at e2
  rw [Nat.mul_comm] at e1 e2
  exact RO.idxSl (h i (o+j*2) zs[j] (getElem?_pos zs j hj) e1 e2) hx hy hj
theorem RO.convN {m a:Nat} {x:Opd} (h:RO tbl c l s (setL L d (aN a)) H) (hx:gvL L x=.int m (.ofNat a):=by (conv=>lhs;whnf)<;>rfl) (ha:a<9223372036854775808:=by omega):RO tbl c (⟨d,.convInt 3 x,none,[],[]⟩::l) s L H :=
  RO.convInt (a:=.ofNat a) (by rw [wrapF_int (by simp<;>omega) (by simp<;>omega)];exact h) hx
theorem RO.remN {a b:Nat} {x y:Opd} (h:RO tbl c l s (setL L d (aN (a % b))) H) (hx:gvL L x=.int 3 (.ofNat a):=by (conv=>lhs;whnf)<;>rfl) (hy:gvL L y=.int 3 (.ofNat b):=by (conv=>lhs;whnf)<;>rfl) (hb:b≠0:=by omega):RO tbl c (⟨d,.arith .rem 3 x y,none,[],[]⟩::l) s L H :=
  RO.arith (v:=aN (a % b)) (a:=.ofNat a) (b:=.ofNat b) h hx hy (by
    show (if Int.ofNat b=0 then none else some (AV.int 3 ((Int.ofNat a).tmod (Int.ofNat b))))=_
    rw [if_neg (by intro e;exact hb (Int.ofNat.inj e))];rfl)
theorem Ru.name2 {a b:SI} (h:∀ A S,A=a→S=s→Ru tbl c (A::b::S) L H):Ru tbl c (a::b::s) L H:=h a s rfl rfl
theorem RO.mulN {a b:Nat} {x y:Opd} (h:RO tbl c l s (setL L d (aN (a*b))) H) (hx:gvL L x=.int 3 (.ofNat a):=by (conv=>lhs;whnf)<;>rfl) (hy:gvL L y=.int 3 (.ofNat b):=by (conv=>lhs;whnf)<;>rfl) (hb:a*b<9223372036854775808:=by omega):RO tbl c (⟨d,.arith .mul 3 x y,none,[],[]⟩::l) s L H :=
  RO.arith (v:=aN (a*b)) (a:=.ofNat a) (b:=.ofNat b) h hx hy (by
    show some (AV.int 3 (wrapF 3 (Int.ofNat a*Int.ofNat b)))=_
    rw [show Int.ofNat a*Int.ofNat b=Int.ofNat (a*b) from rfl,wrapF_int (by simp;omega) (by simp;omega)])
def arr (n:Nat) (g:Nat→Int):List Int:=(List.range n).map g
theorem arr_len (n:Nat) (g:Nat→Int):(arr n g).length=n:=by simp [arr]
theorem arr_get {n:Nat} {g:Nat→Int} {j:Nat} (h:j<n):(arr n g)[j]?=some (g j):=by simp [arr,h]
theorem arr_congr {n:Nat} {g g':Nat→Int} (h:∀ j,j<n→g j=g' j):arr n g=arr n g':=List.map_congr_left fun j hj=>h j (List.mem_range.1 hj)
theorem arr_set {n:Nat} {g:Nat→Int} (k:Nat) (z:Int):(arr n g).set k z=arr n fun j=>if j=k then z else g j:=by
  apply List.ext_getElem?
  intro j
  rw [List.getElem?_set,arr_len]
  by_cases hj:j<n
  · rw [arr_get hj]
    by_cases e:k=j
    · subst e;rw [if_pos rfl,if_pos hj,arr_get hj,if_pos rfl]
    · rw [if_neg e,arr_get hj,if_neg (fun h=>e h.symm)]
  · have:∀ g',(arr n g')[j]?=none:=fun g'=>List.getElem?_eq_none (by rw [arr_len];omega)
    rw [this,this];split
    · rw [if_neg (by omega)]
    · rfl
abbrev OwnA (H:Heap) (q:Pos) (n:Nat) (g:Nat→Int):Prop:=Own H [q] 3 1 ((arr n g).map aI) n true (.slice q 0 n n true)
theorem OwnA.sl {q:Pos} {n:Nat} {g:Nat→Int} (h:OwnA H q n g):SlI H (arr n g) (.slice q 0 n n true):=by
  have:=Own.sl h
  unfold SlI;rw [arr_len];exact this
theorem OwnA.cell {q:Pos} {n:Nat} {g:Nat→Int} (h:OwnA H q n g) {j:Nat} (hj:j<n):cellAt H q (0+j*1)=some (aI (g j)):=by
  obtain ⟨i,o,cp,e,e1,h1,h2,h3,h4⟩:=(Own.sl h).at (by omega)
  injection e1 with e1 e2
  subst e1;subst e2
  have:=h3 j (by rw [List.length_map,arr_len];exact hj)
  rw [Nat.mul_one,this]
  simp [arr]
theorem OwnA.set {q:Pos} {n:Nat} {g:Nat→Int} (h:OwnA H q n g) {k:Nat} (hk:k<n) (z:Int):∃ H',writeAt H q (0+k*1) (aI z).cells=some H'∧Upd [q] [q] H H'∧OwnA H' q n (fun j=>if j=k then z else g j):=by
  have h':OwnI H [q] 3 (arr n g) true (.slice q 0 (arr n g).length n true):=by
    unfold OwnI;rw [arr_len];exact h
  obtain ⟨H',h1,h2,h3⟩:=OwnI.set h' (k:=k) (by rw [arr_len];exact hk) z
  refine ⟨H',by rw [Nat.zero_add];exact h1,h2,?_⟩
  rw [arr_set] at h3
  unfold OwnI at h3
  rw [arr_len,arr_len] at h3
  exact h3
theorem OwnA.congr {q:Pos} {n:Nat} {g g':Nat→Int} (h:OwnA H q n g) (e:∀ j,j<n→g j=g' j):OwnA H q n g':=by
  unfold OwnA;rw [← arr_congr e];exact h
theorem reps_arr:∀ n,reps [aN 0] n=(arr n fun _=>0).map aI
  | 0=>rfl
  | n+1=>by
    apply List.ext_getElem?
    intro j
    have:=reps_arr n
    cases j with
    | zero=>simp [reps,arr,List.range_succ_eq_map]
    | succ j =>
      show (aN 0::reps [aN 0] n)[j+1]?=_
      rw [this]
      simp [arr,List.range_succ_eq_map];rfl
theorem RO.mkA {x y:Opd} {n:Nat} (h:∀ H' q,OwnA H' q n (fun _=>0)→Grew H H'→H.next.idx≤q.idx→RO tbl c l s (setL L d (.slice q 0 n n true)) H') (hx:gvL L x=.int 3 (.ofNat n):=by (conv=>lhs;whnf)<;>rfl) (hy:gvL L y=.int 3 (.ofNat n):=by (conv=>lhs;whnf)<;>rfl) (hn:n≤1000000:=by omega):RO tbl c (⟨d,.mkSlice 3 8 1 [.int 3 (.ofNat 0)] x y,none,[],[]⟩::l) s L H:=by
  refine RO.mkSlice ?_ hx hy
  rw [reps_arr]
  refine h _ _ ?_ (Grew.new H _) (Nat.le_refl _)
  exact Own.new (by rw [List.length_map,arr_len];omega) true true
end Go.Abs
namespace Go.Mv
theorem ord_good {out left:List M} (h:Ord 20 left out):Busy left→(∀ m∈left,(0≤m.1∧m.1<20)∧0≤m.2∧m.2≤20)→∀ m∈out,(0≤m.1∧m.1≤20)∧(0≤m.2∧m.2≤20)∧m.1≠m.2:=by
  induction h with
  | nil=>intro _ _ m hm;cases hm
  | @free left out k m h hm r ih =>
    intro hb hr x hx
    have hmm:=List.mem_of_getElem? hm
    rcases List.mem_cons.1 hx with rfl | hx
    · have:=hr x hmm;exact ⟨by omega,this.2,hb x hmm⟩
    · exact ih (fun m hm=>hb m (List.mem_of_mem_eraseIdx hm)) (fun m hm=>hr m (List.mem_of_mem_eraseIdx hm)) x hx
  | @ring left out m hm h r ih =>
    intro hb hr x hx
    have hmm:=List.mem_of_head? hm
    have hm1:=hr m hmm
    rcases List.mem_cons.1 hx with rfl | hx
    · exact ⟨by simp,by simp only [];omega,by simp only [];omega⟩
    · refine ih (fun y hy=>?_) (fun y hy=>?_) x hx
      · obtain ⟨z,hz,rfl⟩:=List.mem_map.1 hy
        have:=hr z hz
        split
        · simp only [];omega
        · exact hb z hz
      · obtain ⟨z,hz,rfl⟩:=List.mem_map.1 hy
        have:=hr z hz
        split
        · simp only [];omega
        · exact this
end Go.Mv
namespace Go.Abs.R
open Go.Abs Go.Abs.R1
section
variable [Ov]
variable {tbl:Nat→AFunc}
theorem has11_ok (hf:tbl 11=f11) {H:Heap} {la:List Int} {x:Int} {sa:AV} {K:AV→Heap→Prop} (ha:SlI H la sa) (hs:la.length<1000000) (hK:K (.bool (decide (x∈la))) H):YF tbl (.func 11 [] []) [sa,aI x] H K:=by
  have hda:=ha.defd;have hla:=ha.len
  refine YF.code hf (by simp) ?_
  repeat first|refine RO.mov ?_|refine RO.nil ?_|refine Ru.region ?_|refine Ru.seq ?_|refine Ru.block ?_
  refine Ru.name fun S hS=>?_
  have loop:∀ k i,la.length-i=k→i≤la.length→(∀ j,j<i→la[j]?≠some x)→Ru tbl (fcx [.tmp p4] K) S [(p0,sa),(p1,aI x),(p5,aN i)] H:=by
    subst hS
    intro k
    induction k using Nat.strongRecOn with
    | ind k ih =>
      intro i hk hi hI
      refine Ru.loop ?_
      repeat first|refine RO.mov ?_|refine RO.lenSl ?_|refine RO.lssN ?_|refine RO.nil ?_|refine Ru.region ?_|refine Ru.seq ?_
      refine Ru.cond (fun h=>?_) (fun h=>?_)
      · repeat first|refine RO.mov ?_|refine Ru.region ?_|refine Ru.seq ?_|refine Ru.block ?_|refine Ru.skip ?_
        refine RO.idxI ha fun q o z hz hc _=>?_
        repeat first|refine RO.mov ?_|refine RO.nil ?_|refine RO.eql ?_|refine RO.load1 ?_
        refine Ru.cond (fun he=>?_) (fun he=>?_)
        · repeat first|refine RO.mov ?_|refine RO.nil ?_|refine Ru.region ?_|refine Ru.seq ?_
          refine Ru.ret1 ?_
          have:x∈la:=by rw [← he];exact List.mem_of_getElem? hz
          simpa [this] using hK
        · repeat first|refine RO.mov ?_|refine RO.nil ?_|refine Ru.region ?_|refine Ru.skip ?_|refine RO.inc ?_
          refine Ru.weak (ih (la.length-(i+1)) (by omega) (i+1) rfl (by omega) fun j hj=>?_) ⟨rfl,rfl,rfl,trivial⟩
          by_cases e:j=i
          · subst e;rw [hz];exact fun e=>he (by injection e)
          · exact hI j (by omega)
      · refine Ru.exitTo ?_
        repeat first|refine RO.mov ?_|refine RO.nil ?_|refine Ru.region ?_|refine Ru.seq ?_
        refine Ru.ret1 ?_
        have:x∉la:=fun hm=>by
          obtain ⟨j,hj,e⟩:=List.getElem_of_mem hm
          exact hI j (by omega) (by rw [getElem?_pos la j hj,e])
        simpa [this] using hK
  exact Ru.weak (loop _ 0 rfl (by omega) (by omega)) ⟨rfl,rfl,rfl,trivial⟩
end
end Go.Abs.R
