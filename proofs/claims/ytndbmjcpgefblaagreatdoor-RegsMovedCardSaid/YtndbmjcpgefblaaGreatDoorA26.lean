/- A part of the proof (an abstract machine, walks): no statement of its own, no conditions. -/
import Derived.Test.YtndbmjcpgefblaaGreatDoorA25
set_option linter.all false
namespace Go.Abs
variable {tbl:Nat→AFunc} {c:Cx} {s:List SI} {L:Kn} {H:Heap} {d:Option Pos} {l:List AOper}
theorem Ru.name (h:∀ S,S=s→Ru tbl c S L H):Ru tbl c s L H:=h s rfl
abbrev aI (z:Int):AV:=.int 3 z
abbrev aN (n:Nat):AV:=.int 3 (.ofNat n)
def aP (m:Int × Int):List AV:=[aI m.1,aI m.2]
def flatP (l:List (Int × Int)):List AV:=l.flatMap aP
theorem flatP_length:∀ l:List (Int × Int),(flatP l).length=l.length*2
  | []=>rfl
  | a::l=>by
    show (aP a++flatP l).length=_
    rw [List.length_append,flatP_length l];simp [aP];omega
theorem flatP_append (a b:List (Int × Int)):flatP (a++b)=flatP a++flatP b:=by simp [flatP]
theorem flatP_get:∀ {l:List (Int × Int)} {j:Nat} {m:Int × Int},l[j]?=some m→(flatP l)[2*j]?=some (aI m.1)∧(flatP l)[2*j+1]?=some (aI m.2)
  | [],j,m,h=>by simp at h
  | a::l,0,m,h=>by
    simp only [List.getElem?_cons_zero,Option.some.injEq] at h;subst h
    exact ⟨rfl,rfl⟩
  | a::l,j+1,m,h=>by
    simp only [List.getElem?_cons_succ] at h
    have:=flatP_get h
    show (aI a.1::aI a.2::flatP l)[2*(j+1)]?=_∧(aI a.1::aI a.2::flatP l)[2*(j+1)+1]?=_
    rw [show 2*(j+1)=2*j+1+1 by omega]
    simpa using this
theorem allOne_ints (l:List Int):allOne (l.map aI)=true:=allOne_all.2 fun v hv=>by
  obtain ⟨z,_,rfl⟩:=List.mem_map.1 hv;rfl
theorem allOne_pairs (l:List (Int × Int)):allOne (flatP l)=true:=allOne_all.2 fun v hv=>by
  obtain ⟨z,_,h⟩:=List.mem_flatMap.1 hv
  simp only [aP,List.mem_cons,List.not_mem_nil,or_false] at h
  rcases h with rfl | rfl<;>rfl
abbrev SlI (H:Heap) (l:List Int) (sv:AV):Prop:=Sl H 1 (l.map aI) l.length sv
abbrev SlP (H:Heap) (l:List (Int × Int)) (sv:AV):Prop:=Sl H 2 (flatP l) l.length sv
theorem RO.idxI {zs:List Int} {sv:AV} {x y:Opd} {j k:Nat} (hs:SlI H zs sv) (h:∀ i o z,zs[j]?=some z→cellAt H i o=some (aI z)→i.idx<H.next.idx→RO tbl c l s (setL L d (.ptr i o)) H) (hx:gvL L x=sv:=by (conv=>lhs;whnf)<;>rfl) (hy:gvL L y=.int k (.ofNat j):=by (conv=>lhs;whnf)<;>rfl) (hj:j<zs.length:=by omega):RO tbl c (⟨d,.idxSl 1 x y,none,[],[]⟩::l) s L H:=by
  obtain ⟨i,o,cp,e,rfl,h1,h2,h3,h4⟩:=hs.at (by omega)
  refine RO.idxSl (h i (o+j*1) zs[j] (getElem?_pos zs j hj) ?_ h2) hx hy hj
  have:=h3 (j*1) (by simpa using hj)
  rw [this];simp
theorem RO.idxP {zs:List (Int × Int)} {sv:AV} {x y:Opd} {j k:Nat} (hs:SlP H zs sv) (h:∀ i o z,zs[j]?=some z→cellAt H i o=some (aI z.1)→cellAt H i (o+1)=some (aI z.2)→readAt H i o 2=some [aI z.1,aI z.2]→i.idx<H.next.idx→RO tbl c l s (setL L d (.ptr i o)) H) (hx:gvL L x=sv:=by (conv=>lhs;whnf)<;>rfl) (hy:gvL L y=.int k (.ofNat j):=by (conv=>lhs;whnf)<;>rfl) (hj:j<zs.length:=by omega):RO tbl c (⟨d,.idxSl 2 x y,none,[],[]⟩::l) s L H:=by
  obtain ⟨i,o,cp,e,rfl,h1,h2,h3,h4⟩:=hs.at (by omega)
  have hl:=flatP_length zs
  obtain ⟨g1,g2⟩:=flatP_get (getElem?_pos zs j hj)
  have e1:=h3 (2*j) (by omega)
  have e2:=h3 (2*j+1) (by omega)
  rw [← getElem?_pos (flatP zs) _ _,g1] at e1
  rw [← getElem?_pos (flatP zs) _ _,g2] at e2
  have e3:=h4 (2*j) 2 (by omega)
  have e4:((flatP zs).drop (2*j)).take 2=[aI zs[j].1,aI zs[j].2]:=by
    apply List.ext_getElem?
    intro x
    rw [List.getElem?_take,List.getElem?_drop]
    match x with
    | 0=>simpa using g1
    | 1=>simpa using g2
    | x+2=>simp;omega
  rw [e4] at e3
  rw [Nat.mul_comm] at e1 e2 e3
  exact RO.idxSl (h i (o+j*2) zs[j] (getElem?_pos zs j hj) e1 e2 e3 h2) hx hy hj
theorem RO.gen {op:AOp} {hd:List Pos} {re:List ARe} {v:AV} {H':Heap} (hop:∀ f a,op≠.call f a) (hop2:∀ a,op≠.nextMap a) (he:∀ env,Le L env→∃ H1,evalOp op env (hideAll env H hd).1=some (v,H1)∧showAll H1 (hideAll env H hd).2=H') (hr:∀ env,Le (setL L d v) env→recheck env H' re=true) (h:RO tbl c l s (setL L d v) H'):RO tbl c (⟨d,op,none,hd,re⟩::l) s L H:=fun env hle=>by
  obtain ⟨n,hn⟩:=h _ (hle.set d v)
  obtain ⟨H1,h1,h2⟩:=he env hle
  have h3:=hr _ (hle.set d v)
  refine ⟨n+1,?_⟩
  cases op<;>first | exact absurd rfl (hop _ _) | exact absurd rfl (hop2 _) | (simp only [Xo,Go.Abs.ops,guardOk,if_true,h1,h2,h3];exact hn)
theorem RO.callR {d:Option Pos} {f:Opd} {args:List Opd} {l:List AOper} {re:List ARe} {fv:AV} {av:List AV} (h:YF tbl fv av H fun v H'=>(∀ env,Le (setL L d v) env→recheck env H' re=true)∧RO tbl c l s (setL L d v) H') (hf:gvL L f=fv:=by (conv=>lhs;whnf)<;>rfl) (hfd:fv.defd=true:=by first | rfl | assumption) (ha:args.map (gvL L)=av:=by rfl) (had:av.all AV.defd=true:=by first | rfl | assumption):RO tbl c (⟨d,.call f args,none,[],re⟩::l) s L H:=fun env hle=>by
  obtain ⟨n,hn⟩:=h
  have hae:args.map (gv env)=av:=by
    subst ha
    refine List.map_congr_left fun x hx=>?_
    exact hle.gv rfl (List.all_eq_true.1 had _ (List.mem_map_of_mem hx))
  obtain ⟨m,hm⟩:=(unif tbl n).call (K:=fun m v H'=>recheck (setDst env d v) H' re=true∧Xo tbl m l ⟨setDst env d v,c.M,c.R⟩ H' (Kof tbl c.K s .none)) (fun m m' v H hm h=>⟨h.1,h.2.mono hm fun _ _ h=>h⟩) ((mono tbl n).call (Nat.le_refl _) (fun v H' hv=>by
    obtain ⟨m,hm⟩:=hv.2 _ (hle.set d v)
    exact ⟨m,hv.1 _ (hle.set d v),hm⟩) hn)
  refine ⟨max n m+1,?_⟩
  simp only [Xo,Go.Abs.ops,guardOk,hideAll,showAll,if_true]
  rw [hle.gv hf hfd,hae]
  refine (show Xf tbl n fv av H _ from hm).mono (Nat.le_max_left ..) fun v H' h=>?_
  rw [if_pos h.1]
  exact (show Xo tbl m l _ H' _ from h.2).mono (Nat.le_max_right ..) fun _ _ h=>h
theorem recheck_load2 {env:Tree AV} {q:Pos} {x:Opd} {g:Option (Pos × Bool)} {re:List ARe} {i:Pos} {o:Nat} {a b:Int} (hle:Le L env) (hx:gvL L x=.ptr i o) (hq:lk L q=.agg [aI a,aI b]) (hc:readAt H i o 2=some [aI a,aI b]) (hr:recheck env H re=true):recheck env H (⟨q,.loadN 2 x,g⟩::re)=true:=by
  simp only [recheck,hr,Bool.and_true,evalOp,hle.gv hx rfl,loadV,hc,if_true,Option.map_some,hle.get hq rfl,sameV,sameL,same1,Nat.beq_refl,ieq_iff,beq_self_eq_true,Bool.and_self,ite_self]
def pairEq:EqD:=.parts [(0,1,false,.int),(1,1,false,.int)]
theorem eqv_pair (a b:Int × Int):eqv 64 pairEq (.agg (aP a)) (.agg (aP b))=some (decide (a=b)):=by
  obtain ⟨a1,a2⟩:=a
  obtain ⟨b1,b2⟩:=b
  simp only [pairEq,aP,eqv,eqv.go,partOf,List.drop_zero,List.head?_cons,List.drop_succ_cons,Bool.false_eq_true,if_false,if_true,ieq_iff]
  cases h1:(a1==b1)<;>cases h2:(a2==b2)<;>simp_all
end Go.Abs
namespace Go.Abs
variable {A B C H H':Heap} {size n e bytes cap:Nat} {vs ws:List AV} {sv:AV} {fp fp' fq a b c:List Pos} {full ex:Bool} {i:Pos}
structure Upd (fp fp':List Pos) (H H':Heap):Prop where
  nx:H.next.idx≤H'.next.idx
  hd:∀ j∈fp',j∈fp∨H.next.idx≤j.idx
  old:∀ j:Pos,j∉fp→j.idx<H.next.idx→H'.get j=H.get j
def Above (A:Heap) (fp:List Pos):Prop:=∀ j∈fp,A.next.idx≤j.idx
theorem Upd.trans (h:Upd a b A B) (k:Upd b c B C):Upd a c A C:=⟨Nat.le_trans h.nx k.nx,fun j hj=>by
    rcases k.hd j hj with e | e
    · exact h.hd j e
    · right;have:=h.nx;omega,fun j hj hn=>by
    have hb:j∉b:=fun e=>by
      rcases h.hd j e with e | e
      · exact hj e
      · omega
    rw [k.old j hb (by have:=h.nx;omega),h.old j hj hn]⟩
theorem Upd.grew (h:Upd fp fp' H H') (hg:Grew A H) (hn:Above A fp):Grew A H':=⟨Nat.le_trans hg.nx h.nx,fun j hj=>by
  rw [h.old j (fun e=>by have:=hn j e;omega) (Nat.lt_of_lt_of_le hj hg.nx)];exact hg.old j hj⟩
theorem Upd.above (h:Upd fp fp' H H') (hg:Grew A H) (hn:Above A fp):Above A fp':=fun j hj=>by
  rcases h.hd j hj with e | e
  · exact hn j e
  · have:=hg.nx;omega
theorem Upd.refl (fp:List Pos) (H:Heap):Upd fp fp H H:=⟨Nat.le_refl _,fun _ hj=>.inl hj,fun _ _ _=>rfl⟩
theorem Grew.upd (h:Grew H H') (fp:List Pos):Upd fp fp H H':=⟨h.nx,fun _ hj=>.inl hj,fun j _ hn=>h.old j hn⟩
theorem Upd.own (h:Upd fp fp' H H') (k:Own H fq e size vs n full sv) (hd:∀ j∈fq,j∉fp):Own H' fq e size vs n full sv :=
  k.frame h.nx fun j hj=>h.old j (hd j hj) (k.below j hj)
theorem Upd.apart (h:Upd fp fp' H H') (k:Own H fq e size vs n full sv) (hd:∀ j∈fq,j∉fp):∀ j∈fq,j∉fp':=fun j hj e=>by
  rcases h.hd j e with e | e
  · exact hd j hj e
  · have:=k.below j hj;omega
theorem Upd.cell (h:Upd fp fp' H H') {q:Pos} {v:AV} (hc:H.get q=.cells (mkCells [v]) 1 n true [] 0) (hq:q∉fp) (hl:q.idx<H.next.idx):H'.get q=.cells (mkCells [v]) 1 n true [] 0:=by
  rw [h.old q hq hl];exact hc
theorem Own.write (h:Own H fp e size vs n full (.slice i 0 n cap ex)) {o:Nat} {us:List AV} (ho:o+ws.length≤cap*size) (h1:allOne ws=true) (hl:us.length=vs.length) (hu:∀ j,j<vs.length→us[j]?=if o≤j∧j<o+ws.length then ws[j-o]? else vs[j]?) :
    ∃ H',writeAt H i o ws=some H'∧Upd fp [i] H H'∧Own H' [i] e size us n full (.slice i 0 n cap ex):=by
  rcases h with ⟨_,_,_,h⟩ | ⟨i',c,par,cap',ex',rfl,h2,hg,hcap,hl',hc,hp,hfull⟩
  · cases h
  injection h2 with h2 _ _ h3 h4
  subst h2;subst h3;subst h4
  have hd:(decide (0≤o)&&decide (o+ws.length≤cap*size)&&allOne ws)=true:=by
    simp only [Bool.and_eq_true,decide_eq_true_eq,h1,and_true];omega
  refine ⟨(H.drops par).set i (.cells (writeCells c o ws) (cap*size) e true [] 0),by simp only [writeAt,hg,hd,if_true],⟨Nat.le_of_eq (by rw [Heap.next_set,Heap.next_drops]),fun j hj=>?_,fun j hj hn=>?_⟩,?_⟩
  · rw [List.mem_singleton] at hj;subst hj;exact .inl (List.mem_cons_self ..)
  · rw [Heap.get_set,if_neg fun e:j=i=>hj (by rw [e];exact List.mem_cons_self ..),Heap.get_drops,if_neg fun e=>hj (List.mem_cons_of_mem _ e)]
  · refine .inr ⟨i,writeCells c o ws,[],cap,ex,rfl,rfl,by rw [Heap.get_set,if_pos rfl],hcap,hl.trans hl',fun j hj=>?_,fun p hp'=>?_,hfull⟩
    · have hj':j<vs.length:=by omega
      have:=hu j hj'
      rw [getElem?_pos us j hj] at this
      rw [writeCells_get]
      split
      · rename_i hc'
        rw [if_pos hc',getElem?_pos ws _ (by omega)] at this
        injection this with this
        simp only [List.getD_eq_getElem?_getD]
        rw [getElem?_pos ws _ (by omega)];simp [this]
      · rename_i hc'
        rw [if_neg hc',getElem?_pos vs _ hj'] at this
        injection this with this
        rw [hc j hj',this]
    · rw [List.mem_singleton] at hp';subst hp'
      rw [Heap.next_set,Heap.next_drops];exact hp _ (List.mem_cons_self ..)
theorem Own.cut (h:Own H fp e size vs n full (.slice i 0 n cap ex)) {b:Nat} (hb:b≤n):Own H fp e size (vs.take (b*size)) b false (.slice i 0 b cap ex):=by
  rcases h with ⟨_,_,_,h⟩ | ⟨i',c,par,cap',ex',rfl,h2,hg,hcap,hl',hc,hp,hfull⟩
  · cases h
  injection h2 with h2 _ _ h3 h4
  subst h2;subst h3;subst h4
  have:b*size≤n*size:=Nat.mul_le_mul_right _ hb
  exact .inr ⟨i,c,par,cap,ex,rfl,rfl,hg,by omega,by rw [List.length_take];omega,fun j hj=>by rw [List.length_take] at hj;rw [hc j (by omega)];simp,hp,fun h=>by cases h⟩
theorem Own.elem (h:Own H fp e size vs n full (.slice i 0 n cap ex)):elemIs H i e=true:=by
  rcases h with ⟨_,_,_,h⟩ | ⟨i',c,par,cap',ex',rfl,h2,hg,hcap,hl',hc,hp,hfull⟩
  · cases h
  injection h2 with h2 _ _ h3 h4
  subst h2
  simp only [elemIs,hg,Nat.beq_refl]
theorem Own.mem (h:Own H fp e size vs n full (.slice i 0 n cap ex)):i∈fp∧n≤cap∧i.idx<H.next.idx:=by
  rcases h with ⟨_,_,_,h⟩ | ⟨i',c,par,cap',ex',rfl,h2,hg,hcap,hl',hc,hp,hfull⟩
  · cases h
  injection h2 with h2 _ _ h3 h4
  subst h2;subst h3
  exact ⟨List.mem_cons_self ..,hcap,hp _ (List.mem_cons_self ..)⟩
theorem Own.shape (h:Own H fp e size vs n full sv) (hn:n≠0):∃ i cap ex,sv=.slice i 0 n cap ex:=by
  rcases h with ⟨_,_,h,_⟩ | ⟨i',c,par,cap',ex',rfl,h2,hg,hcap,hl',hc,hp,hfull⟩
  · exact absurd h hn
  · exact ⟨i',cap',ex',h2⟩
theorem flatP_at:∀ (l:List (Int × Int)) (j:Nat),(flatP l)[j]?=(l[j / 2]?).map fun m=>if j % 2=0 then aI m.1 else aI m.2
  | [],j=>by simp [flatP]
  | m::l,0=>rfl
  | m::l,1=>rfl
  | m::l,j+2=>by
    show (aI m.1::aI m.2::flatP l)[j+2]?=_
    rw [List.getElem?_cons_succ,List.getElem?_cons_succ,flatP_at l j,show (j+2) / 2=j / 2+1 by omega,show (j+2) % 2=j % 2 by omega]
    simp
theorem flatP_take (l:List (Int × Int)) (b:Nat):flatP (l.take b)=(flatP l).take (b*2):=by
  apply List.ext_getElem?
  intro j
  rw [flatP_at,List.getElem?_take,List.getElem?_take,flatP_at]
  by_cases h:j<b*2
  · rw [if_pos h,if_pos (by omega)]
  · rw [if_neg h,if_neg (by omega)];rfl
abbrev OwnP (H:Heap) (fp:List Pos) (e:Nat) (l:List (Int × Int)) (full:Bool) (sv:AV):Prop:=Own H fp e 2 (flatP l) l.length full sv
variable {l:List (Int × Int)}
theorem OwnP.set (h:OwnP H fp e l full (.slice i 0 l.length cap ex)) {k:Nat} (hk:k<l.length) (a b:Int):∃ H',writeAt H i (k*2) [aI a,aI b]=some H'∧Upd fp [i] H H'∧OwnP H' [i] e (l.set k (a,b)) full (.slice i 0 l.length cap ex):=by
  have hm:=(Own.mem h).2.1
  have hl:=flatP_length l
  have:=Own.write h (o:=k*2) (ws:=[aI a,aI b]) (us:=flatP (l.set k (a,b))) (by simp;omega) rfl (by rw [flatP_length,flatP_length,List.length_set]) fun j hj=>by
    rw [flatP_at,List.getElem?_set,flatP_at]
    by_cases hc:k=j / 2
    · rw [if_pos hc,if_pos hk,if_pos (by simp;omega)]
      rcases Nat.mod_two_eq_zero_or_one j with e | e
      · rw [show j-k*2=0 by omega];simp [e]
      · rw [show j-k*2=1 by omega];simp [e]
    · rw [if_neg hc,if_neg (by simp;omega)]
  have e:(l.set k (a,b)).length=l.length:=List.length_set ..
  unfold OwnP
  rw [e];exact this
theorem OwnP.set1 (h:OwnP H fp e l full (.slice i 0 l.length cap ex)) {k:Nat} {m:Int × Int} (hk:l[k]?=some m) (b:Int):∃ H',writeAt H i (k*2+1) [aI b]=some H'∧Upd fp [i] H H'∧OwnP H' [i] e (l.set k (m.1,b)) full (.slice i 0 l.length cap ex):=by
  have hm:=(Own.mem h).2.1
  have hl:=flatP_length l
  obtain ⟨hkl,hkm⟩:=List.getElem?_eq_some_iff.1 hk
  have:=Own.write h (o:=k*2+1) (ws:=[aI b]) (us:=flatP (l.set k (m.1,b))) (by simp;omega) rfl (by rw [flatP_length,flatP_length,List.length_set]) fun j hj=>by
    rw [flatP_at,List.getElem?_set,flatP_at]
    by_cases hc:k=j / 2
    · rw [if_pos hc,if_pos hkl]
      rcases Nat.mod_two_eq_zero_or_one j with e | e
      · rw [if_neg (by simp;omega),← hc,hk];simp [e]
      · rw [if_pos (by simp;omega),show j-(k*2+1)=0 by omega];simp [e]
    · rw [if_neg hc,if_neg (by simp;omega)]
  have e:(l.set k (m.1,b)).length=l.length:=List.length_set ..
  unfold OwnP
  rw [e];exact this
theorem OwnP.tail (h:OwnP H fp e l full (.slice i 0 l.length cap ex)) {o:Nat} (h0:l.length*2≤o) (ho:o+ws.length≤cap*2) (h1:allOne ws=true):∃ H',writeAt H i o ws=some H'∧Upd fp [i] H H'∧OwnP H' [i] e l full (.slice i 0 l.length cap ex):=by
  have hl:=flatP_length l
  exact Own.write h ho h1 rfl fun j hj=>by rw [if_neg (by omega)]
theorem OwnP.cut (h:OwnP H fp e l full (.slice i 0 l.length cap ex)) {b:Nat} (hb:b≤l.length):OwnP H fp e (l.take b) false (.slice i 0 b cap ex):=by
  have:=Own.cut h hb
  have e:(l.take b).length=b:=by rw [List.length_take];omega
  unfold OwnP
  rw [flatP_take,e];exact this
variable {tbl:Nat→AFunc} {cx:Cx} {s:List SI} {L:Kn} {d:Option Pos} {ops:List AOper}
theorem RO.pushP {q:Pos} {x y:Opd} {m:Int × Int} {zs:List AV} (ho:OwnP H fp e l true sv) (hq:lk L q=lk L q)
    (h:∀ w sv' H' fp',OwnP H' fp' e (l++[m]) true sv'→Upd fp fp' H H'→RO tbl cx ops s (setL ((q,w)::L) d sv') H')
    (hx:gvL L x=.agg (aP m):=by (conv=>lhs;whnf)<;>rfl) (hy:∀ w,gvL ((q,w)::L) y=sv:=by (intro w;conv=>lhs;whnf)<;>rfl) (hn:l.length+1≤1000000:=by omega) :
    RO tbl cx (⟨some q,.buildSlice e 1 [.int 3 (.ofNat 0),.int 3 (.ofNat 0)] [(0,2,x)],none,[],[]⟩::⟨d,.append e 16 2 zs false y (.t q),none,[],[]⟩::ops) s L H:=by
  have hlay:layL L (reps [.int 3 (.ofNat 0),.int 3 (.ofNat 0)] 1) [(0,2,x)]=some [aI m.1,aI m.2]:=by
    simp only [layL,hx];rfl
  refine RO.buildSlice ?_ hlay
  have hg:Grew H (H.new (.cells (mkCells [aI m.1,aI m.2]) 2 e true [] 0)):=Grew.new H _
  have hs:Sl (H.new (.cells (mkCells [aI m.1,aI m.2]) 2 e true [] 0)) 2 [aI m.1,aI m.2] 1 (.slice H.next 0 1 1 true):=(Own.new (H:=H) (e:=e) (size:=2) (n:=1) (vs:=[aI m.1,aI m.2]) rfl true true).sl
  refine RO.appendO (hg.own ho) hs rfl (fun sv' H' fp' h1 h2 h3 h4=>?_) (hy _) (by show lk (setL L (some q) _) q=_;simp only [setL,lk,Pos.beq_iff.2 rfl]) (by omega) (by omega)
  refine h _ sv' H' fp' ?_ ?_
  · unfold OwnP
    rw [flatP_append,List.length_append];exact h1
  · exact (hg.upd fp).trans ⟨h2,fun j hj=>(h3 j hj).imp id fun h=>h.1,h4⟩
end Go.Abs
namespace Go.Abs
variable {tbl:Nat→AFunc} {c:Cx} {s:List SI} {L:Kn} {H H' A:Heap} {d:Option Pos} {l:List AOper} {size n e:Nat} {vs ws:List AV} {sv:AV} {fp fp':List Pos}
theorem RO.byCases {q:Pos} {p:Prop} [Decidable p] (h1:p→RO tbl c l s ((q,.bool true)::L) H) (h2:¬ p→RO tbl c l s ((q,.bool false)::L) H):RO tbl c l s ((q,.bool (decide p))::L) H:=by
  by_cases hp:p
  · rw [decide_eq_true hp];exact h1 hp
  · rw [decide_eq_false hp];exact h2 hp
theorem RO.byBool {q:Pos} {t:Bool} (h1:t=true→RO tbl c l s ((q,.bool true)::L) H) (h2:t=false→RO tbl c l s ((q,.bool false)::L) H):RO tbl c l s ((q,.bool t)::L) H:=by
  cases t with
  | true=>exact h1 rfl
  | false=>exact h2 rfl
theorem bound_of {k b y:Nat} (h:b≤y):bound (.int k (.ofNat b)) y=some b:=by
  simp only [bound,Nat.ble_eq_true_of_le h,if_true]
theorem RO.takeSl {x y:Opd} {b k:Nat} (hs:Sl H size vs n sv) (h:∀ sv',Sl H size (vs.take (b*size)) b sv'→RO tbl c l s (setL L d sv') H) (hx:gvL L x=sv:=by (conv=>lhs;whnf)<;>rfl) (hy:gvL L y=.int k (.ofNat b):=by (conv=>lhs;whnf)<;>rfl) (hb:b≤n:=by omega):RO tbl c (⟨d,.sliceSl e size x none (some y) none,none,[],[]⟩::l) s L H:=by
  rcases hs with ⟨rfl,rfl,rfl⟩ | ⟨i,o,cap,ex,c',m,e',rw',par,fz,rfl,hg,hm,hl,hc,hi,hcap⟩
  · have:b=0:=by omega
    subst this
    refine RO.sliceNil (m:=0) (b:=0) (a:=0) hx rfl ?_ rfl (h _ (.inl ⟨rfl,rfl,by simp⟩))
    simp only [bndL,hy];exact bound_of (Nat.le_refl _)
  · refine RO.sliceSl (m:=cap) (b:=b) (a:=0) hx rfl ?_ rfl (by simp) ?_
    · simp only [bndL,hy];exact bound_of (by omega)
    · have e1:(if ex&&decide (cap=0) then o else o+0*size)=o:=by split<;>omega
      rw [e1,Nat.sub_zero,Nat.sub_zero]
      have hbs:b*size≤n*size:=Nat.mul_le_mul_right _ hb
      refine h _ (.inr ⟨i,o,cap,_,c',m,e',rw',par,fz,rfl,hg,by omega,?_,fun j hj=>?_,hi,by omega⟩)
      · rw [List.length_take];omega
      · rw [List.length_take] at hj
        rw [hc j (by omega)];simp
def One (H:Heap) (q:Pos) (e:Nat) (v:AV):Prop:=H.get q=.cells (mkCells [v]) 1 e true [] 0∧q.idx<H.next.idx
variable {q:Pos} {v w:AV}
theorem One.cell (h:One H q e v):cellAt H q 0=some v:=by
  simp only [cellAt,h.1,show Nat.blt 0 1=true from rfl,if_true];rfl
theorem One.lt (h:One H q e v):q.idx<H.next.idx:=h.2
theorem One.new (H:Heap) (e:Nat) (v:AV):One (H.new (.cells (mkCells [v]) 1 e true [] 0)) H.next e v:=⟨by rw [Heap.get_new,if_pos rfl],by rw [Heap.next_new];omega⟩
theorem One.grew (h:One H q e v) (g:Grew H H'):One H' q e v:=⟨by rw [g.old q h.2];exact h.1,Nat.lt_of_lt_of_le h.2 g.nx⟩
theorem One.upd (h:One H q e v) (g:Upd fp fp' H H') (hq:q∉fp):One H' q e v:=⟨by rw [g.old q hq h.2];exact h.1,Nat.lt_of_lt_of_le h.2 g.nx⟩
theorem One.write (h:One H q e v) (hw:w.oneCell=true):∃ H',writeAt H q 0 [w]=some H'∧Upd [q] [q] H H'∧One H' q e w:=by
  refine ⟨(H.drops []).set q (.cells (writeCells (mkCells [v]) 0 [w]) 1 e true [] 0),?_,⟨Nat.le_of_eq (by rw [Heap.next_set];rfl),fun j hj=>.inl hj,fun j hj hn=>?_⟩,⟨by rw [Heap.get_set,if_pos rfl];rfl,by rw [Heap.next_set];exact h.2⟩⟩
  · have hd:(decide (0≤0)&&decide (0+[w].length≤1)&&allOne [w])=true:=by simp [allOne,hw]
    simp only [writeAt,h.1,hd,if_true]
  · rw [Heap.get_set,if_neg fun e:j=q=>hj (by rw [e];exact List.mem_cons_self ..)];rfl
theorem Own.grew (h:Grew H H') {full:Bool} (k:Own H fp e size vs n full sv):Own H' fp e size vs n full sv:=Grew.own h k
theorem RO.store1 {a x:Opd} (h1:One H q e v) (h:∀ H',Upd [q] [q] H H'→One H' q e w→RO tbl c l s (setL L d .undef) H') (hw:w.oneCell=true:=by first | rfl | assumption) (hc:w.cells=[w]:=by first | rfl | assumption) (ha:gvL L a=.ptr q 0:=by (conv=>lhs;whnf)<;>rfl) (hx:gvL L x=w:=by (conv=>lhs;whnf)<;>rfl) (hv:w.defd=true:=by first | rfl | assumption):RO tbl c (⟨d,.store 1 a x,none,[],[]⟩::l) s L H:=by
  obtain ⟨H',h2,h3,h4⟩:=h1.write hw
  exact RO.store (by rw [hc];exact h2) (h H' h3 h4) ha hx hv (by rw [hc];rfl)
theorem Upd.next_le (h:Upd fp fp' H H'):H.next.idx≤H'.next.idx:=h.nx
theorem Upd.sl (h:Upd fp fp' H H') (k:Sl H size vs n sv) (hn:∀ i o m cap ex,sv=.slice i o m cap ex→i∉fp):Sl H' size vs n sv:=by
  rcases k with k | ⟨i,o,cap,ex,c',m,e',rw',par,fz,h1,hg,hm,hl,hc,hi,hcap⟩
  · exact .inl k
  · exact .inr ⟨i,o,cap,ex,c',m,e',rw',par,fz,h1,by rw [h.old i (hn _ _ _ _ _ h1) hi];exact hg,hm,hl,hc,Nat.lt_of_lt_of_le hi h.nx,hcap⟩
theorem Upd.nil (h:Grew H H') (hf:∀ j∈fp',j∈fp∨H.next.idx≤j.idx):Upd fp fp' H H':=⟨h.nx,hf,fun j _ hn=>h.old j hn⟩
theorem Upd.wide {fq:List Pos} (h:Upd fp fp' H H'):Upd (fp++fq) (fp'++fq) H H':=⟨h.nx,fun j hj=>by
    rcases List.mem_append.1 hj with e | e
    · rcases h.hd j e with e | e
      · exact .inl (List.mem_append_left _ e)
      · exact .inr e
    · exact .inl (List.mem_append_right _ e),fun j hj hn=>h.old j (fun e=>hj (List.mem_append_left _ e)) hn⟩
theorem RO.emptyS {zs:List AV} (h:∀ H' sv' fp',Own H' fp' e size [] 0 true sv'→Grew H H'→Above H fp'→RO tbl c l s (setL L d sv') H'):RO tbl c (⟨d,.buildSlice e 0 zs [],none,[],[]⟩::l) s L H:=by
  refine RO.buildSlice (vs:=[]) ?_ rfl rfl
  have ho:Own (H.new (.cells (mkCells []) (0*size) e true [] 0)) [H.next] e size [] 0 true (.slice H.next 0 0 0 true):=Own.new (vs:=[]) (by simp) true true
  rw [Nat.zero_mul] at ho
  exact h _ _ _ ho (Grew.new H _) (fun j hj=>by rw [List.mem_singleton] at hj;subst hj;exact Nat.le_refl _)
theorem RO.appendU {x y:Opd} {yv:AV} {k bytes:Nat} {zs:List AV} (ho:Own H fp e size vs n true sv) (hs:Sl H size ws k yv) (h1:allOne ws=true) (h:∀ sv' H' fp',Own H' fp' e size (vs++ws) (n+k) true sv'→Upd fp fp' H H'→RO tbl c l s (setL L d sv') H') (hx:gvL L x=sv:=by (conv=>lhs;whnf)<;>rfl) (hy:gvL L y=yv:=by (conv=>lhs;whnf)<;>rfl) (hb:(n+k)*bytes≤70368744177664:=by omega) (hn:n+k≤70368744177664:=by omega) :
    RO tbl c (⟨d,.append e bytes size zs false x y,none,[],[]⟩::l) s L H :=
  RO.appendO ho hs h1 (fun sv' H' fp' h2 h3 h4 h5=>h sv' H' fp' h2 ⟨h3,fun j hj=>(h4 j hj).imp id fun h=>h.1,h5⟩) hx hy hb hn
theorem RO.allocStore {q:Pos} {e n:Nat} {zs us:List AV} {x:Opd} (hz:zs.length=n) (hu:us.length=n) (h1:allOne us=true) (hx:∀ w,gvL ((q,w)::L) x=.agg us) (h:∀ i H',Grew H H'→readAt H' i 0 n=some us→i.idx<H'.next.idx→RO tbl c l s ((q,.ptr i 0)::L) H') :
    RO tbl c (⟨some q,.alloc e zs,none,[],[]⟩::⟨none,.store n (.t q) x,none,[],[]⟩::l) s L H:=by
  refine RO.alloc ?_
  have hd:(decide (0≤0)&&decide (0+us.length≤zs.length)&&allOne us)=true:=by
    simp only [Bool.and_eq_true,decide_eq_true_eq,h1,and_true];omega
  have hg:(H.new (.cells (mkCells zs) zs.length e true [] 0)).get H.next=.cells (mkCells zs) zs.length e true [] 0:=by rw [Heap.get_new,if_pos rfl]
  refine RO.store (i:=H.next) (o:=0) (v:=.agg us) (H':=((H.new (.cells (mkCells zs) zs.length e true [] 0)).drops []).set H.next (.cells (writeCells (mkCells zs) 0 us) zs.length e true [] 0)) (by show writeAt _ _ 0 us=some _;simp only [writeAt,hg,hd,if_true]) ?_ (by show lk (setL L (some q) _) q=_;simp only [setL,lk,Pos.beq_iff.2 rfl]) (hx _) rfl hu
  refine h H.next _ ⟨?_,fun j hj=>?_⟩ ?_ ?_
  · rw [Heap.next_set];show H.next.idx≤(H.new _).next.idx;rw [Heap.next_new];omega
  · rw [Heap.get_set,if_neg (ne_idx (by omega))];show (H.new _).get j=_;rw [Heap.get_new,if_neg (ne_idx (by omega))]
  · simp only [readAt,Heap.get_set,if_true]
    have:=readCells_of (c:=writeCells (mkCells zs) 0 us) (n:=zs.length) (l:=us) (o:=0) (by omega) (fun i hi=>by
      rw [writeCells_get,if_pos (by omega)];simp [List.getD_eq_getElem?_getD,hi])
    rw [hu] at this;exact this
  · rw [Heap.next_set];show _<(H.new _).next.idx;rw [Heap.next_new];omega
theorem RO.allocOne {q:Pos} {e:Nat} {z w:AV} {x:Opd} (hw:w.oneCell=true) (hc:w.cells=[w]) (hd:w.defd=true) (hx:∀ u,gvL ((q,u)::L) x=w) (h:∀ i H',Grew H H'→One H' i e w→H.next.idx≤i.idx→RO tbl c l s ((q,.ptr i 0)::L) H') :
    RO tbl c (⟨some q,.alloc e [z],none,[],[]⟩::⟨none,.store 1 (.t q) x,none,[],[]⟩::l) s L H:=by
  refine RO.alloc ?_
  have h0:One (H.new (.cells (mkCells [z]) [z].length e true [] 0)) H.next e z:=One.new H e z
  refine RO.store1 h0 (fun H' h1 h2=>?_) hw hc (by show lk (setL L (some q) _) q=_;simp only [setL,lk,Pos.beq_iff.2 rfl]) (hx _) hd
  refine h H.next H' ⟨Nat.le_trans (Grew.new H _).nx h1.nx,fun j hj=>?_⟩ h2 (Nat.le_refl _)
  rw [h1.old j (by simp only [List.mem_singleton];exact ne_idx (by omega)) (by rw [Heap.next_new];omega)]
  exact (Grew.new H _).old j hj
theorem RO.sliceV {e size:Nat} {x:Opd} {lo hi mx:Option Opd} {i:Pos} {o n cp:Nat} {ex:Bool} {a b m:Nat} {v:AV} (hx:gvL L x=.slice i o n cp ex) (hm:bndL L mx cp cp=some m) (hb:bndL L hi n m=some b) (ha:bndL L lo 0 b=some a) (he:(ex||mx.isSome||lo.isNone||elemIs H i e)=true)
    (hv:AV.slice i (if ex&&decide (m=a) then o else o+a*size) (b-a) (m-a) (ex||mx.isSome)=v) (h:RO tbl c l s (setL L d v) H):RO tbl c (⟨d,.sliceSl e size x lo hi mx,none,[],[]⟩::l) s L H:=by
  subst hv;exact RO.sliceSl hx hm hb ha he h
theorem OwnP.del {l:List (Int × Int)} {i:Pos} {cap:Nat} {ex full:Bool} (h:OwnP H fp e l full (.slice i 0 l.length cap ex)) {k:Nat} (hk:k<l.length) :
    ∃ H' fp',appendV e 16 2 H (.slice i 0 k cap ex) (l.length-(k+1)) (flatP (l.drop (k+1)))=some (.slice i 0 (l.length-1) cap ex,H')∧OwnP H' fp' e (l.eraseIdx k) false (.slice i 0 (l.eraseIdx k).length cap ex)∧Upd fp fp' H H':=by
  have hm:=(Own.mem h).2.1
  have hfl:=flatP_length l
  have hel:(l.eraseIdx k).length=l.length-1:=List.length_eraseIdx_of_lt hk
  have hb1:Nat.ble (k+(l.length-(k+1))) cap=true:=Nat.ble_eq_true_of_le (by omega)
  have h1:allOne (flatP (l.drop (k+1)))=true:=allOne_pairs _
  have he:k+(l.length-(k+1))=l.length-1:=by omega
  by_cases h0:l.length-(k+1)=0
  · refine ⟨H,fp,by
      simp only [appendV,h1,Bool.not_true,Bool.false_eq_true,if_false,hb1,if_true]
      rw [h0]
      simp only [Nat.beq_refl,if_true,Nat.add_zero]
      rw [show k=l.length-1 by omega],?_,Upd.refl _ _⟩
    have hc:=OwnP.cut h (b:=k) (by omega)
    have e1:l.eraseIdx k=l.take k:=by
      rw [List.eraseIdx_eq_take_drop_succ,List.drop_eq_nil_of_le (by omega),List.append_nil]
    have e2:(l.take k).length=k:=by rw [List.length_take];omega
    rw [e1,e2];exact hc
  · have hk0:Nat.beq (l.length-(k+1)) 0=false:=by cases h:Nat.beq (l.length-(k+1)) 0 with | false=>rfl | true=>exact absurd (Nat.eq_of_beq_eq_true h) h0
    have hdl:(flatP (l.drop (k+1))).length=(l.length-(k+1))*2:=by rw [flatP_length,List.length_drop]
    obtain ⟨H',g1,g2,g3⟩:=Own.write h (o:=k*2) (ws:=flatP (l.drop (k+1))) (us:=flatP (l.eraseIdx k++l.drop (l.length-1))) (by omega) h1 (by rw [flatP_length,flatP_length,List.length_append,List.length_drop];omega) fun j hj=>by
      have hx:∀ x,(l.eraseIdx k++l.drop (l.length-1))[x]?=if x<l.length-1 then (if x<k then l[x]? else l[x+1]?) else l[x]?:=fun x=>by
        by_cases hxl:x<l.length-1
        · rw [if_pos hxl,List.getElem?_append_left (by omega),List.getElem?_eraseIdx]
        · rw [if_neg hxl,List.getElem?_append_right (by omega),List.getElem?_drop]
          congr 1;omega
      rw [flatP_at,hx,hdl]
      by_cases hc:k*2≤j∧j<k*2+(l.length-(k+1))*2
      · rw [if_pos hc,flatP_at,List.getElem?_drop,if_pos (by omega),if_neg (by omega),show k+1+(j-k*2) / 2=j / 2+1 by omega,show (j-k*2) % 2=j % 2 by omega]
      · rw [if_neg hc,flatP_at]
        congr 1
        by_cases hx1:j / 2<l.length-1
        · rw [if_pos hx1,if_pos (by omega)]
        · rw [if_neg hx1]
    refine ⟨H',[i],by
      simp only [appendV,h1,Bool.not_true,Bool.false_eq_true,if_false,hb1,if_true,hk0,Nat.zero_add,g1]
      rw [he],?_,g2⟩
    have hl2:(l.eraseIdx k++l.drop (l.length-1)).length=l.length:=by rw [List.length_append,List.length_drop];omega
    have g4:OwnP H' [i] e (l.eraseIdx k++l.drop (l.length-1)) full (.slice i 0 (l.eraseIdx k++l.drop (l.length-1)).length cap ex):=by unfold OwnP;rw [hl2];exact g3
    have g5:=OwnP.cut g4 (b:=l.length-1) (by omega)
    rw [List.take_append_of_le_length (by omega),List.take_of_length_le (by omega)] at g5
    rw [hel];exact g5
end Go.Abs
namespace Go.Abs
section
def insP (x:Int × Int):List (Int × Int)→List (Int × Int)
  | []=>[x]
  | y::l=>if y.1<x.1 then y::insP x l else x::y::l
def sortP:List (Int × Int)→List (Int × Int)
  | []=>[]
  | x::l=>insP x (sortP l)
theorem insP_perm (x:Int × Int):∀ l,(insP x l).Perm (x::l)
  | []=>List.Perm.refl _
  | y::l=>by
    simp only [insP]
    split
    · exact ((insP_perm x l).cons y).trans (List.Perm.swap x y l)
    · exact List.Perm.refl _
theorem sortP_perm:∀ l,(sortP l).Perm l
  | []=>List.Perm.refl _
  | x::l=>(insP_perm x (sortP l)).trans ((sortP_perm l).cons x)
theorem insP_sorted (x:Int × Int):∀ l,l.Pairwise (fun a b=>a.1≤b.1)→(insP x l).Pairwise fun a b=>a.1≤b.1
  | [],_=>by simp [insP]
  | y::l,h=>by
    simp only [insP]
    rw [List.pairwise_cons] at h
    split
    · rename_i hlt
      rw [List.pairwise_cons]
      refine ⟨fun z hz=>?_,insP_sorted x l h.2⟩
      rcases List.mem_cons.1 ((insP_perm x l).mem_iff.1 hz) with e | e
      · rw [e];omega
      · exact h.1 z e
    · rename_i hlt
      rw [List.pairwise_cons]
      refine ⟨fun z hz=>?_,List.pairwise_cons.2 h⟩
      rcases List.mem_cons.1 hz with e | e
      · rw [e];omega
      · have:=h.1 z e;omega
theorem sortP_sorted:∀ l,(sortP l).Pairwise fun a b=>a.1≤b.1
  | []=>List.Pairwise.nil
  | x::l=>insP_sorted x _ (sortP_sorted l)
theorem sortP_asc {l:List (Int × Int)} (h:(l.map (·.1)).Nodup):(sortP l).Pairwise fun a b=>a.1<b.1:=by
  have h1:=sortP_sorted l
  have h2:(sortP l).Pairwise fun a b=>a.1≠b.1:=List.pairwise_map.1 (((sortP_perm l).map (fun m:Int × Int=>m.1)).nodup_iff.2 h)
  exact (h1.and h2).imp fun h=>by omega
theorem sortP_unique:∀ {l m:List (Int × Int)},l.Pairwise (fun a b=>a.1<b.1)→m.Pairwise (fun a b=>a.1≤b.1)→m.Perm l→m=l
  | [],m,_,_,h=>List.Perm.eq_nil h
  | a::l,[],_,_,h=>by have:=h.length_eq;simp at this
  | a::l,b::m,h1,h2,h=>by
    rw [List.pairwise_cons] at h1 h2
    have hab:b=a:=by
      rcases List.mem_cons.1 (h.mem_iff.2 (List.mem_cons_self (a:=a) (l:=l))) with e | e
      · exact e.symm
      · rcases List.mem_cons.1 (h.mem_iff.1 (List.mem_cons_self (a:=b) (l:=m))) with e' | e'
        · exact e'
        · have:=h1.1 b e';have:=h2.1 a e;omega
    subst hab
    rw [sortP_unique h1.2 h2.2 ((List.perm_cons b).1 h)]
def pairsN (c:Tree AV):Nat→Nat→Option (List (Int × Int))
  | _,0=>some []
  | o,n+1=>match c.getN .undef o,c.getN .undef (o+1),pairsN c (o+2) n with
    | .int 3 a,.int 3 b,some l=>some ((a,b)::l)
    | _,_,_=>none
theorem pairsN_get {c:Tree AV}:∀ {n o:Nat} {zs:List (Int × Int)},pairsN c o n=some zs→zs.length=n∧∀ i (h:i<(flatP zs).length),c.getN .undef (o+i)=(flatP zs)[i]
  | 0,o,zs,h=>by simp only [pairsN,Option.some.injEq] at h;subst h;simp [flatP]
  | n+1,o,zs,h=>by
    simp only [pairsN] at h
    split at h
    · rename_i a b l h1 h2 h3
      injection h with h;subst h
      obtain ⟨g1,g2⟩:=pairsN_get h3
      refine ⟨by simp [g1],fun i hi=>?_⟩
      have e:flatP ((a,b)::l)=aI a::aI b::flatP l:=rfl
      simp only [e] at hi ⊢
      match i,hi with
      | 0,_=>simpa using h1
      | 1,_=>simpa using h2
      | i+2,hi =>
        have:=g2 i (by simpa using hi)
        rw [show o+(i+2)=o+2+i by omega,this];rfl
    · cases h
theorem pairsN_of {c:Tree AV}:∀ {zs:List (Int × Int)} {o:Nat},(∀ i (h:i<(flatP zs).length),c.getN .undef (o+i)=(flatP zs)[i])→pairsN c o zs.length=some zs
  | [],o,_=>rfl
  | (a,b)::l,o,h=>by
    have e:flatP ((a,b)::l)=aI a::aI b::flatP l:=rfl
    simp only [e] at h
    have h0:=h 0 (by simp)
    have h1:=h 1 (by simp)
    have ih:=pairsN_of (c:=c) (zs:=l) (o:=o+2) fun i hi=>by
      have:=h (i+2) (by simpa using hi)
      rw [show o+(i+2)=o+2+i by omega] at this
      simpa using this
    simp only [List.length_cons,pairsN]
    rw [show c.getN AV.undef o=aI a from h0,show c.getN AV.undef (o+1)=aI b from h1,ih]
    rfl
def gSortP (cmpF:Nat) (args:List AV) (H:Heap):Option (AV × Heap) :=
  match args with
  | [.nilslice,.func _ _ _]=>some (.tuple [],H)
  | [.slice _ _ 0 _ _,.func _ _ _]=>some (.tuple [],H)
  | [.slice id 0 (n+1) _ _,.func f [] []]=>match H.get id with
    | .cells c m e true par 0=>if Nat.beq f cmpF&&Nat.ble ((n+1)*2) m&&Nat.ble n 4000000 then match pairsN c 0 (n+1) with
        | some zs=>if (zs.map (·.1)).Nodup then some (.tuple [],(H.drops par).set id (.cells (writeCells c 0 (flatP (sortP zs))) m e true [] 0)) else none
        | none=>none
      else none
    | _=>none
  | _=>none
end
end Go.Abs
