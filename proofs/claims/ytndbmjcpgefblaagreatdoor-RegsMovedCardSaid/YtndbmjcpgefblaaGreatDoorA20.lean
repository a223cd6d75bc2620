/- A part of the proof (an abstract machine, walks): no statement of its own, no conditions. -/
import Derived.Test.YtndbmjcpgefblaaGreatDoorA19
set_option linter.all false
namespace Go.Abs
variable [Ov]
variable {P:Program} {Wr:Acc} {ρ:Names} {H:Heap} {w:World}
def AObj.own (o:AObj):Prop:=o.fixed=false∧o.par=[]∧o≠.none
theorem Inv.apart (h:Inv P Wr ρ H w) {hl dd:Pos→Prop} (hy:∀ i,hl i→(H.get i).own) (hd:∀ i,dd i→H.get i=.none∧ρ i=none∧i.idx<H.next.idx∧∀ j,i∉(H.get j).par)
    {H2:Heap} (hn:H2.next=H.next) (hg:∀ j,H2.get j=H.get j∨H2.get j=.none) (hh:∀ i,hl i→H2.get i=.none):Inv P (Wr.shield ρ hl dd) ρ H2 w:=by
  have hs:=h.sub hn hg
  have hg':∀ j,H2.get j≠.none→H2.get j=H.get j:=fun j hj=>(hg j).resolve_right hj
  have hp:=sub_par hg
  have apart:∀ j b x,H2.get j≠.none→ρ j=some (b,x)→∀ i y,hl i→ρ i≠some (b,y):=by
    intro j b x hj ej i y hi ei
    obtain ⟨f1,f2,f3⟩:=hy i hi
    have hij:i≠j:=fun e=>hj (e ▸ hh i hi)
    have hj':H.get j≠.none:=by rw [← hg' j hj];exact hj
    rcases h.sep i j b y x hij f3 hj' ei ej with ⟨hm,_⟩ | ⟨hm,_⟩
    · have:=(h.par i j hm).2 f3;rw [f1] at this;cases this
    · rw [f2] at hm;cases hm
  constructor
  · exact hs.obj
  · exact hs.sep
  · exact hs.par
  · intro i b x hi hf e;exact ⟨hs.wr i b x hi hf e,fun k y hk=>apart i b x hi e k y hk⟩
  · exact hs.fresh
  · intro k hk
    have hdom:∀ i x,hl i→ρ i≠some (k,x):=fun i x _ e=>by have:=h.dom i k x e;omega
    exact ⟨⟨(h.new k hk).1,hdom⟩,⟨(h.new k hk).2,hdom⟩⟩
  · exact hs.glob
  · exact hs.info
  · exact hs.dom
  · intro i b x hi e;exact ⟨hs.rd i b x hi e,fun k y hk=>apart i b x hi e k y hk⟩
  · intro i hi
    rcases hi with hi | hi | hi
    · exact hs.un i hi
    · obtain ⟨f1,f2,f3⟩:=hy i hi
      refine ⟨hh i hi,by rw [hn];exact h.idx_lt f3,fun j hj=>?_⟩
      have:=(h.par i j (hp i j hj)).2 f3;rw [f1] at this;cases this
    · obtain ⟨h0,h1,h2,h3⟩:=hd i hi
      exact ⟨by rcases hg i with e | e<;>rw [e];exact h0,by rw [hn];exact h2,fun j hj=>h3 j (hp i j hj)⟩
  · intro i hi
    rcases hi with hi | hi
    · exact ⟨.inl (hs.dead i hi).1,(hs.dead i hi).2⟩
    · exact ⟨.inr (.inr hi),(hd i hi).2.1⟩
theorem Inv.unapart (h:Inv P Wr ρ H w) {hl dd:Pos→Prop} (hy:∀ i,hl i→(H.get i).own) {ρ':Names} {H':Heap} {w':World} (hext:Ext ρ ρ') (h':Inv P (Wr.shield ρ hl dd) ρ' H' w') (hk:Kept (Wr.shield ρ hl dd) w w')
    {H2:Heap} (hn:H2.next=H'.next) (h1:∀ i,hl i→H2.get i=H.get i) (h2:∀ i,¬ hl i→H2.get i=H'.get i):Inv P Wr ρ' H2 w'∧Kept Wr w w':=by
  have hlive:∀ i,hl i→∃ b x ob,ρ i=some (b,x)∧ρ' i=some (b,x)∧ρ'.k b=ρ.k b∧w.heap[b]?=some ob∧w'.heap[b]?=some ob∧OR P ρ (H.get i) x ob:=by
    intro i hi
    obtain ⟨b,x,ob,e,hl',hb,hr⟩:=h.blk ((hy i hi)).2.2
    exact ⟨b,x,ob,e,(hext _ _ e).1,(hext _ _ e).2,hb,by rw [hk.block b hl' fun hw=>hw.2 i x hi e];exact hb,hr⟩
  have hpar:∀ i j,i∈(H2.get j).par→¬ hl i∧¬ hl j∧i∈(H'.get j).par:=by
    intro i j hj
    by_cases hjl:hl j
    · rw [h1 j hjl,(hy j hjl).2.1] at hj;cases hj
    · rw [h2 j hjl] at hj
      exact ⟨fun hi=>(h'.un i (.inr (.inl hi))).2.2 j hj,hjl,hj⟩
  refine ⟨⟨?_,?_,?_,?_,?_,?_,?_,?_,?_,?_,?_,?_⟩,⟨hk.os,hk.tape,hk.output,hk.size,fun k h1 hw=>hk.block k h1 fun hw'=>hw hw'.1⟩⟩
  · intro i hi
    by_cases hil:hl i
    · obtain ⟨b,x,ob,_,e2,_,_,e5,e6⟩:=hlive i hil
      rw [h1 i hil];exact ⟨b,x,ob,e2,e5,OR.mono hext e6⟩
    · rw [h2 i hil] at hi ⊢;exact h'.obj i hi
  · intro i j b x y hij hi hj ei ej
    by_cases hil:hl i
    · obtain ⟨b1,x1,_,a1,a2,_⟩:=hlive i hil
      rw [a2] at ei;injection ei with ei;injection ei with ei1 ei2;subst ei1;subst ei2
      by_cases hjl:hl j
      · obtain ⟨b2,x2,_,c1,c2,_⟩:=hlive j hjl
        rw [c2] at ej;injection ej with ej;injection ej with ej1 ej2;subst ej1;subst ej2
        rw [h1 i hil] at hi ⊢;rw [h1 j hjl] at hj ⊢
        exact h.sep i j _ _ _ hij hi hj a1 c1
      · rw [h2 j hjl] at hj
        exact absurd a1 ((h'.rd j _ y hj ej).2 i _ hil)
    · by_cases hjl:hl j
      · obtain ⟨b2,x2,_,c1,c2,_⟩:=hlive j hjl
        rw [c2] at ej;injection ej with ej;injection ej with ej1 ej2;subst ej1;subst ej2
        rw [h2 i hil] at hi
        exact absurd c1 ((h'.rd i _ x hi ei).2 j _ hjl)
      · rw [h2 i hil] at hi ⊢;rw [h2 j hjl] at hj ⊢
        exact h'.sep i j b x y hij hi hj ei ej
  · intro i j hj
    obtain ⟨a1,a2,a3⟩:=hpar i j hj
    obtain ⟨b1,b2⟩:=h'.par i j a3
    rw [hn]
    exact ⟨b1,fun hi=>by rw [h2 i a1] at hi ⊢;exact b2 hi⟩
  · intro i b x hi hf e
    by_cases hil:hl i
    · obtain ⟨b1,x1,_,a1,a2,_⟩:=hlive i hil
      rw [a2] at e;injection e with e;injection e with e1 e2;subst e1;subst e2
      rw [h1 i hil] at hi hf
      exact h.wr i _ _ hi hf a1
    · rw [h2 i hil] at hi hf;exact (h'.wr i b x hi hf e).1
  · intro i hi
    rw [hn] at hi
    obtain ⟨a1,a2⟩:=h'.fresh i hi
    have hil:¬ hl i:=fun hil=>by obtain ⟨_,_,_,_,e,_⟩:=hlive i hil;rw [a2] at e;cases e
    exact ⟨by rw [h2 i hil];exact a1,a2⟩
  · intro k hk';exact h.new k (Nat.le_trans hk.size hk')
  · exact h'.glob
  · intro i b x ob hi e hb
    by_cases hil:hl i
    · obtain ⟨b1,x1,ob1,a1,a2,a3,a4,a5,_⟩:=hlive i hil
      rw [a2] at e;injection e with e;injection e with e1 e2;subst e1;subst e2
      rw [a5] at hb;injection hb with hb;subst hb
      rw [h1 i hil] at hi ⊢
      rw [a3];exact h.info i _ _ _ hi a1 a4
    · rw [h2 i hil] at hi ⊢;exact h'.info i b x ob hi e hb
  · exact h'.dom
  · intro i b x hi e
    by_cases hil:hl i
    · obtain ⟨b1,x1,_,a1,a2,_⟩:=hlive i hil
      rw [a2] at e;injection e with e;injection e with e1 e2;subst e1;subst e2
      rw [h1 i hil] at hi
      exact h.rd i _ _ hi a1
    · rw [h2 i hil] at hi;exact (h'.rd i b x hi e).1
  · intro i hi
    obtain ⟨a1,a2,a3⟩:=h'.un i (.inl hi)
    have hil:¬ hl i:=fun hil=>(hy i hil).2.2 (h.un i hi).1
    exact ⟨by rw [h2 i hil];exact a1,by rw [hn];exact a2,fun j hj=>a3 j (hpar i j hj).2.2⟩
  · intro i hi
    exact ⟨(h.dead i hi).1,(h'.dead i (.inl hi)).2⟩
theorem OR.back_cells {ρ ρ':Names} (h:Ext ρ ρ') {c:Tree AV} {n e fz:Nat} {rw':Bool} {par:List Pos} {x0 x:Nat} {ob0 ob:Obj} (k0:OR P ρ (.cells c n e rw' par fz) x0 ob0) (k:OR P ρ' (.cells c n e rw' par fz) x ob):OR P ρ (.cells c n e rw' par fz) x ob:=by
  cases ob0<;>simp only [OR] at k0
  cases ob<;>simp only [OR] at k ⊢
  refine ⟨k.1,k.2.1,fun i hi=>?_,k.2.2.2⟩
  obtain ⟨v0,_,q0⟩:=k0.2.2.1 i hi
  obtain ⟨v,e1,q⟩:=k.2.2.1 i hi
  exact ⟨v,e1,VR.back h _ _ _ q0 q⟩
theorem EntsU.set {ρ ρ':Names}:∀ {l:List Int} {m:List MapEntry},EntsU ρ (mkset l) m→EntsU ρ' (mkset l) m
  | [],[],_=>by simp [mkset,EntsU]
  | k::l,c::m,h=>by
    simp only [mkset,List.map_cons,EntsU] at h ⊢
    refine ⟨?_,?_,EntsU.set (l:=l) h.2.2⟩
    · have:=h.1;cases hk:c.key<;>rw [hk] at this<;>simp only [VR] at this ⊢;exact this
    · have:=h.2.1;cases hk:c.val<;>rw [hk] at this<;>simp only [VR] at this ⊢;exact this
  | [],_::_,h=>by simp [mkset,EntsU] at h
  | _::_,[],h=>by simp [mkset,EntsU] at h
theorem OR.canon {ρ ρ':Names} {o:AObj} {ks ks2:List Int} (hs:setIs o ks) (hp:ks.Perm ks2) {x:Nat} {ob:Obj} (h:OR P ρ o x ob):OR P ρ' (.umap (mkset ks2)) x ob:=by
  obtain ⟨_,es,he,hkv⟩:=hs
  have hpm:(mkset ks).Perm (mkset ks2):=hp.map _
  have hkv':es.map AEnt.kv=(mkset ks).map AEnt.kv:=by rw [hkv,mkset_kv]
  cases o with
  | map es0 c =>
    simp only [mapEnts,Option.some.injEq] at he;subst he
    cases ob<;>simp only [OR] at h ⊢
    obtain ⟨rfl,rfl,hok,h3⟩:=h
    obtain ⟨l,p1,p2⟩:=EntsU.perm' hpm (EntsU.kv hkv' (EntsR.open h3))
    exact ⟨rfl,hok,l,p1,EntsU.set p2⟩
  | umap es0 =>
    simp only [mapEnts,Option.some.injEq] at he;subst he
    cases ob<;>simp only [OR] at h ⊢
    obtain ⟨h1,h2,l,h3,h4⟩:=h
    obtain ⟨l',p1,p2⟩:=EntsU.perm' hpm (EntsU.kv hkv' h4)
    exact ⟨h1,h2,l',p1.trans h3,EntsU.set p2⟩
  | _=>simp [mapEnts] at he
theorem Inv.rename {ρ1:Names} {H1 H2:Heap} {w1:World} (h0:Inv P Wr ρ H w) (hx:Ext ρ ρ1) (h1:Inv P Wr ρ1 H1 w1) (nx:H.next.idx≤H2.next.idx) (σ:Pos→Pos) (new:Pos→Prop) [DecidablePred new]
    (ρ2:Names) (hρ:ρ2=⟨fun j=>if j.idx<H.next.idx then ρ j else if new j then ρ1 (σ j) else none,ρ1.k⟩)
    (hnew:∀ j,H.next.idx≤j.idx→H2.get j≠.none→new j)
    (n1:∀ j,new j→H.next.idx≤j.idx∧j.idx<H2.next.idx∧H.next.idx≤(σ j).idx∧H1.get (σ j)≠.none∧(H1.get (σ j)).par=[]∧(H1.get (σ j)).fixed=false∧(H2.get j).par=[]∧(H2.get j).fixed=false∧(H1.get (σ j)).len=(H2.get j).len ∧
      (∀ x ob,OR P ρ1 (H1.get (σ j)) x ob→OR P ρ2 (H2.get j) x ob)∧∀ q ob,InfoR P q (H1.get (σ j)) ob→InfoR P q (H2.get j) ob)
    (inj:∀ i j,new i→new j→σ i=σ j→i=j)
    (old:∀ j,j.idx<H.next.idx→H2.get j≠.none→H.get j≠.none∧H1.get j≠.none∧(H1.get j).par=(H.get j).par∧(H2.get j).par=(H.get j).par∧(H1.get j).fixed=(H2.get j).fixed∧(H1.get j).len=(H2.get j).len ∧
      (∀ x ob,OR P ρ1 (H1.get j) x ob→OR P ρ2 (H2.get j) x ob)∧∀ q ob,InfoR P q (H1.get j) ob→InfoR P q (H2.get j) ob) :
    Ext ρ ρ2∧Inv P Wr ρ2 H2 w1:=by
  have ro:∀ j,j.idx<H.next.idx→ρ2 j=ρ j:=fun j hj=>by rw [hρ];exact if_pos hj
  have rn:∀ j,new j→ρ2 j=ρ1 (σ j):=fun j hj=>by rw [hρ];show (if _ then _ else _)=_;rw [if_neg (by have:=(n1 j hj).1;omega),if_pos hj]
  have rk:ρ2.k=ρ1.k:=by rw [hρ]
  have rz:∀ j,H.next.idx≤j.idx→¬ new j→ρ2 j=none:=fun j h hj=>by rw [hρ];show (if _ then _ else _)=_;rw [if_neg (by omega),if_neg hj]
  have hlt:∀ j x,ρ j=some x→j.idx<H.next.idx:=fun j x e=>by
    rcases Nat.lt_or_ge j.idx H.next.idx with h | h
    · exact h
    · rw [(h0.fresh j h).2] at e;cases e
  have hext:Ext ρ ρ2:=fun j x e=>⟨by rw [ro j (hlt j x e)];exact e,by rw [rk];exact (hx j x e).2⟩
  have tau:∀ j,H2.get j≠.none→∃ t,H1.get t≠.none∧ρ2 j=ρ1 t∧(H1.get t).fixed=(H2.get j).fixed∧(H1.get t).len=(H2.get j).len∧(∀ x ob,OR P ρ1 (H1.get t) x ob→OR P ρ2 (H2.get j) x ob)∧(∀ q ob,InfoR P q (H1.get t) ob→InfoR P q (H2.get j) ob) ∧
      ((j.idx<H.next.idx∧t=j)∨(new j∧t=σ j)):=by
    intro j hj
    rcases Nat.lt_or_ge j.idx H.next.idx with hl | hl
    · obtain ⟨a1,a2,a3,a4,a5,a6,a7,a8⟩:=old j hl hj
      refine ⟨j,a2,?_,a5,a6,a7,a8,.inl ⟨hl,rfl⟩⟩
      obtain ⟨b,x,ob,e,_⟩:=h0.obj j a1
      rw [ro j hl,e,(hx _ _ e).1]
    · have hn:=hnew j hl hj
      obtain ⟨a1,a2,a3,a4,a5,a6,a7,a8,a9,a10,a11⟩:=n1 j hn
      exact ⟨σ j,a4,rn j hn,a6.trans a8.symm,a9,a10,a11,.inr ⟨hn,rfl⟩⟩
  have parold:∀ i j,i∈(H2.get j).par→j.idx<H.next.idx∧i∈(H.get j).par∧H2.get j≠.none:=by
    intro i j hi
    have hj:H2.get j≠.none:=fun e=>by rw [e] at hi;cases hi
    rcases Nat.lt_or_ge j.idx H.next.idx with hl | hl
    · obtain ⟨a1,a2,a3,a4,_⟩:=old j hl hj
      exact ⟨hl,by rw [← a4];exact hi,hj⟩
    · have hn:=hnew j hl hj
      rw [(n1 j hn).2.2.2.2.2.2.1] at hi;cases hi
  have parback:∀ i j ti tj,H2.get i≠.none→H2.get j≠.none→((i.idx<H.next.idx∧ti=i)∨(new i∧ti=σ i))→((j.idx<H.next.idx∧tj=j)∨(new j∧tj=σ j))→ti∈(H1.get tj).par→i∈(H2.get j).par:=by
    intro i j ti tj hi hj hti htj hm
    rcases htj with ⟨hl,rfl⟩ | ⟨hn,rfl⟩
    · obtain ⟨a1,a2,a3,a4,_⟩:=old tj hl hj
      rw [a3] at hm
      rcases hti with ⟨hl',rfl⟩ | ⟨hn',rfl⟩
      · rw [a4];exact hm
      · have:=(h0.par _ _ hm).1
        have:=(n1 i hn').2.2.1
        omega
    · rw [(n1 j hn).2.2.2.2.1] at hm;cases hm
  refine ⟨hext,⟨?_,?_,?_,?_,?_,?_,?_,?_,?_,?_,?_,?_⟩⟩
  · intro i hi
    obtain ⟨t,t1,t2,_,_,t5,_⟩:=tau i hi
    obtain ⟨b,x,ob,e,hb,hr⟩:=h1.obj t t1
    exact ⟨b,x,ob,by rw [t2];exact e,hb,t5 x ob hr⟩
  · intro i j b x y hij hi hj ei ej
    obtain ⟨t,t1,t2,_,t4,_,_,t7⟩:=tau i hi
    obtain ⟨u,u1,u2,_,u4,_,_,u7⟩:=tau j hj
    have htu:t≠u:=by
      rcases t7 with ⟨hl,rfl⟩ | ⟨hn,rfl⟩<;>rcases u7 with ⟨hl',rfl⟩ | ⟨hn',rfl⟩
      · exact hij
      · rintro rfl;have:=(n1 j hn').2.2.1;omega
      · rintro rfl;have:=(n1 i hn).2.2.1;omega
      · exact fun e=>hij (inj i j hn hn' e)
    rw [← t4,← u4]
    rcases h1.sep t u b x y htu t1 u1 (by rw [← t2];exact ei) (by rw [← u2];exact ej) with ⟨hm,hle⟩ | ⟨hm,hle⟩
    · exact .inl ⟨parback i j t u hi hj t7 u7 hm,hle⟩
    · exact .inr ⟨parback j i u t hj hi u7 t7 hm,hle⟩
  · intro i j hi
    obtain ⟨hl,hm,hj⟩:=parold i j hi
    have hp:=h0.par i j hm
    refine ⟨Nat.lt_of_lt_of_le hp.1 nx,fun hi'=>?_⟩
    obtain ⟨a1,a2,a3,a4,a5,_⟩:=old i hp.1 hi'
    obtain ⟨b1,b2,b3,_⟩:=old j hl hj
    rw [← a5]
    exact (h1.par i j (by rw [b3];exact hm)).2 a2
  · intro i b x hi hf e
    obtain ⟨t,t1,t2,t3,_⟩:=tau i hi
    exact h1.wr t b x t1 (by rw [t3];exact hf) (by rw [← t2];exact e)
  · intro i hi
    have hg:H2.get i=.none:=by
      apply Classical.byContradiction
      intro hne
      have:=(n1 i (hnew i (Nat.le_trans nx hi) hne)).2.1
      omega
    refine ⟨hg,rz i (Nat.le_trans nx hi) fun hn=>?_⟩
    have:=(n1 i hn).2.1
    omega
  · exact h1.new
  · intro g hg
    have:=h0.glob g hg
    rw [ro _ (hlt _ _ this)];exact this
  · intro i b x ob hi e hb
    obtain ⟨t,t1,t2,_,_,_,t6,_⟩:=tau i hi
    rw [rk]
    exact t6 _ _ (h1.info t b x ob t1 (by rw [← t2];exact e) hb)
  · intro i b x e
    rcases Nat.lt_or_ge i.idx H.next.idx with hl | hl
    · rw [ro i hl] at e;exact h1.dom i b x (hx _ _ e).1
    · by_cases hn:new i
      · rw [rn i hn] at e;exact h1.dom _ b x e
      · rw [rz i hl hn] at e;cases e
  · intro i b x hi e
    obtain ⟨t,t1,t2,_⟩:=tau i hi
    exact h1.rd t b x t1 (by rw [← t2];exact e)
  · intro i hi
    obtain ⟨a1,a2,a3⟩:=h0.un i hi
    refine ⟨?_,Nat.lt_of_lt_of_le a2 nx,fun j hj=>a3 j (parold i j hj).2.1⟩
    apply Classical.byContradiction
    intro hne
    exact (old i a2 hne).1 a1
  · intro i hi
    obtain ⟨a1,a2⟩:=h0.dead i hi
    exact ⟨a1,by rw [ro i (h0.un i a1).2.1];exact a2⟩
end Go.Abs
namespace Go.Abs
theorem hasP_iff (p:Pos):∀ l,hasP p l=true↔p∈l
  | []=>by simp [hasP]
  | q::l=>by simp only [hasP,Bool.or_eq_true,hasP_iff p l,Pos.beq_iff,List.mem_cons]
theorem nodupP_iff:∀ l,nodupP l=true↔l.Nodup
  | []=>by simp [nodupP]
  | p::l=>by
    simp only [nodupP,Bool.and_eq_true,nodupP_iff l,List.nodup_cons,Bool.not_eq_true',← hasP_iff]
    simp
theorem oldsOf_mem {c:Tree AV} {o:Nat} {N:Pos}:∀ {l:List Int},N∈oldsOf c o l↔∃ k∈l,c.getN .undef (o+k.toNat)=.map N
  | []=>by simp [oldsOf]
  | k::l=>by
    simp only [oldsOf]
    split
    · rename_i N' h
      rw [List.mem_cons,oldsOf_mem]
      constructor
      · rintro (e | ⟨k2,h1,h2⟩)
        · exact ⟨k,List.mem_cons_self ..,e ▸ h⟩
        · exact ⟨k2,List.mem_cons_of_mem _ h1,h2⟩
      · rintro ⟨k2,h1,h2⟩
        rcases List.mem_cons.1 h1 with e | e
        · subst e;rw [h] at h2;injection h2 with h2;exact .inl h2.symm
        · exact .inr ⟨k2,e,h2⟩
    · rename_i h
      rw [oldsOf_mem]
      constructor
      · rintro ⟨k2,h1,h2⟩;exact ⟨k2,List.mem_cons_of_mem _ h1,h2⟩
      · rintro ⟨k2,h1,h2⟩
        rcases List.mem_cons.1 h1 with e | e
        · subst e;exact absurd h2 (h N)
        · exact ⟨k2,e,h2⟩
theorem olds_inj {c:Tree AV} {o:Nat}:∀ {l:List Int},(oldsOf c o l).Nodup→∀ {k k2:Int} {N:Pos},k∈l→k2∈l→c.getN .undef (o+k.toNat)=.map N→c.getN .undef (o+k2.toNat)=.map N→k=k2
  | [],_,_,_,_,h,_,_,_=>by cases h
  | a::l,hn,k,k2,N,h1,h2,e1,e2=>by
    have hn':(oldsOf c o l).Nodup:=by
      simp only [oldsOf] at hn
      split at hn
      · exact (List.nodup_cons.1 hn).2
      · exact hn
    rcases List.mem_cons.1 h1 with q1 | q1<;>rcases List.mem_cons.1 h2 with q2 | q2
    · rw [q1,q2]
    · subst q1
      simp only [oldsOf,e1] at hn
      exact absurd (oldsOf_mem.2 ⟨k2,q2,e2⟩) (List.nodup_cons.1 hn).1
    · subst q2
      simp only [oldsOf,e2] at hn
      exact absurd (oldsOf_mem.2 ⟨k,q1,e1⟩) (List.nodup_cons.1 hn).1
    · exact olds_inj hn' q1 q2 e1 e2
theorem outGo_spec {c:Tree AV} {o n:Nat} {m:Pos} {ks:List Int} {H0:Heap}:∀ {l:List Int} {c':Tree AV} {H':Heap} {cE:Tree AV} {HE:Heap},outGo c o n m ks H0 l c' H'=some (cE,HE)→(∀ N t,setAt H0 N=some t→N.idx<H'.next.idx)→l.Nodup→(oldsOf c o l).Nodup →
    (∀ k∈l,∃ j,k=.ofNat j∧j<n∧(c.getN .undef (o+k.toNat)=.nilmap∨∃ N t0,c.getN .undef (o+k.toNat)=.map N∧N≠m∧setAt H0 N=some t0∧HE.get N=.umap (mkset (addks (without k ks) t0)))) ∧
    H'.next.idx≤HE.next.idx ∧
    (∀ j,j.idx<H'.next.idx→j∉oldsOf c o l→HE.get j=H'.get j) ∧
    (∀ j,HE.next.idx≤j.idx→HE.get j=H'.get j) ∧
    (∀ x,(∀ k∈l,c.getN .undef (o+k.toNat)=.nilmap→x≠o+k.toNat)→cE.getN .undef x=c'.getN .undef x) ∧
    ∃ nm:Int→Pos,(∀ k∈l,c.getN .undef (o+k.toNat)=.nilmap→H'.next.idx≤(nm k).idx∧(nm k).idx<HE.next.idx∧HE.get (nm k)=.umap (mkset (without k ks))∧cE.getN .undef (o+k.toNat)=.map (nm k)) ∧
      (∀ k k2,k∈l→k2∈l→c.getN .undef (o+k.toNat)=.nilmap→c.getN .undef (o+k2.toNat)=.nilmap→nm k=nm k2→k=k2) ∧
      (∀ j,H'.next.idx≤j.idx→j.idx<HE.next.idx→∃ k∈l,c.getN .undef (o+k.toNat)=.nilmap∧nm k=j)
  | [],c',H',cE,HE,h,_,_,_=>by
    simp only [outGo,Option.some.injEq,Prod.mk.injEq] at h
    obtain ⟨rfl,rfl⟩:=h
    exact ⟨by simp,Nat.le_refl _,fun _ _ _=>rfl,fun _ _=>rfl,fun _ _=>rfl,fun _=>.xH,by simp,by simp,fun j h1 h2=>by omega⟩
  | k::l,c',H',cE,HE,h,hlt,hnd,hod=>by
    rw [List.nodup_cons] at hnd
    simp only [outGo] at h
    split at h
    case h_2=>cases h
    rename_i j
    split at h
    case isFalse=>cases h
    rename_i hjn
    have hjn:j<n:=Eq.mp Nat.blt_eq hjn
    have htn:(Int.ofNat j).toNat=j:=rfl
    split at h
    ·
      rename_i hnil
      have hod':(oldsOf c o l).Nodup:=by
        simp only [oldsOf,htn,hnil] at hod;exact hod
      have hlt':∀ N t,setAt H0 N=some t→N.idx<(H'.new (.umap (mkset (without (.ofNat j) ks)))).next.idx:=fun N t hN=>by
        have:=hlt N t hN
        show _<H'.next.succ.idx
        rw [Pos.idx_succ];omega
      obtain ⟨s1,s2,s3,s4,s5,nm,s6,s7,s8⟩:=outGo_spec h hlt' hnd.2 hod'
      have hsucc:(H'.new (.umap (mkset (without (.ofNat j) ks)))).next.idx=H'.next.idx+1:=Pos.idx_succ _
      rw [hsucc] at s2 s3 s6 s8
      have hapart:∀ k2∈l,c.getN .undef (o+k2.toNat)=.nilmap→o+j≠o+k2.toNat:=by
        intro k2 hk2 _ e
        obtain ⟨j2,rfl,_⟩:=s1 k2 hk2
        have:j=j2:=by have:(Int.ofNat j2).toNat=j2:=rfl;omega
        subst this
        exact hnd.1 hk2
      have hc:cE.getN .undef (o+j)=.map H'.next:=by
        rw [s5 _ hapart,writeCells_get];simp
      have hg:HE.get H'.next=.umap (mkset (without (.ofNat j) ks)):=by
        rw [s3 H'.next (by omega),Heap.get_new,if_pos rfl]
        rw [oldsOf_mem]
        rintro ⟨k2,h1,h2⟩
        obtain ⟨j2,_,_,h3 | ⟨N,t0,h3,_,h4,_⟩⟩:=s1 k2 h1
        · rw [h3] at h2;cases h2
        · rw [h3] at h2;injection h2 with h2;subst h2
          have:=hlt _ _ h4;omega
      have hne:∀ k2∈l,k2≠.ofNat j:=fun k2 h e=>hnd.1 (e ▸ h)
      refine ⟨?_,by omega,?_,?_,?_,fun x=>if x=.ofNat j then H'.next else nm x,?_,?_,?_⟩
      · intro k hk
        rcases List.mem_cons.1 hk with e | e
        · subst e;exact ⟨j,rfl,hjn,.inl hnil⟩
        · exact s1 k e
      · intro p hp hpo
        rw [s3 p (by omega) (fun q=>hpo (by simp only [oldsOf,htn,hnil];exact q)),Heap.get_new,if_neg (fun e=>by rw [e] at hp;omega)]
      · intro p hp
        rw [s4 p hp,Heap.get_new,if_neg (fun e=>by rw [e] at hp;omega)]
      · intro x hx
        rw [s5 x (fun k2 hk2 hn2=>hx k2 (List.mem_cons_of_mem _ hk2) hn2),writeCells_get]
        have:=hx (.ofNat j) (List.mem_cons_self ..) hnil
        rw [htn] at this
        rw [if_neg (by simp;omega)]
      · intro k hk hkn
        rcases List.mem_cons.1 hk with e | e
        · subst e;simp only [if_true];exact ⟨by omega,by omega,hg,hc⟩
        · simp only [if_neg (hne k e)]
          obtain ⟨q1,q2,q3,q4⟩:=s6 k e hkn
          exact ⟨by omega,q2,q3,q4⟩
      · intro k k2 hk hk2 hn1 hn2 he
        rcases List.mem_cons.1 hk with e | e<;>rcases List.mem_cons.1 hk2 with e2 | e2
        · rw [e,e2]
        · subst e
          simp only [if_true,if_neg (hne k2 e2)] at he
          have:=(s6 k2 e2 hn2).1
          rw [← he] at this;omega
        · subst e2
          simp only [if_true,if_neg (hne k e)] at he
          have:=(s6 k e hn1).1
          rw [he] at this;omega
        · simp only [if_neg (hne k e),if_neg (hne k2 e2)] at he
          exact s7 k k2 e e2 hn1 hn2 he
      · intro p hp1 hp2
        by_cases e:p=H'.next
        · exact ⟨.ofNat j,List.mem_cons_self ..,hnil,by simp [e]⟩
        · have:p.idx≠H'.next.idx:=fun q=>e (Pos.idx_inj q)
          obtain ⟨k2,q1,q2,q3⟩:=s8 p (by omega) hp2
          exact ⟨k2,List.mem_cons_of_mem _ q1,q2,by simp only [if_neg (hne k2 q1)];exact q3⟩
    ·
      rename_i N hN
      split at h
      case isTrue=>cases h
      rename_i hNm
      have hNm:N≠m:=ne_of_beq (by simpa using hNm)
      split at h
      case h_2=>cases h
      rename_i t0 ht0
      simp only [oldsOf,htn,hN] at hod
      rw [List.nodup_cons] at hod
      have hNl:=hlt N t0 ht0
      obtain ⟨s1,s2,s3,s4,s5,nm,s6,s7,s8⟩:=outGo_spec h hlt hnd.2 hod.2
      rw [Heap.next_set] at s2 s3 s6 s8
      refine ⟨?_,s2,?_,?_,?_,nm,?_,?_,?_⟩
      · intro k hk
        rcases List.mem_cons.1 hk with e | e
        · subst e
          refine ⟨j,rfl,hjn,.inr ⟨N,t0,hN,hNm,ht0,?_⟩⟩
          rw [s3 N hNl hod.1,Heap.get_set,if_pos rfl]
        · exact s1 k e
      · intro p hp hpo
        simp only [oldsOf,htn,hN,List.mem_cons,not_or] at hpo
        rw [s3 p hp hpo.2,Heap.get_set,if_neg hpo.1]
      · intro p hp
        rw [s4 p hp,Heap.get_set,if_neg (fun e=>by rw [e] at hp;omega)]
      · intro x hx
        exact s5 x (fun k2 hk2 hn2=>hx k2 (List.mem_cons_of_mem _ hk2) hn2)
      · intro k hk hkn
        rcases List.mem_cons.1 hk with e | e
        · subst e;rw [htn,hN] at hkn;cases hkn
        · exact s6 k e hkn
      · intro k k2 hk hk2 hn1 hn2 he
        rcases List.mem_cons.1 hk with e | e
        · subst e;rw [htn,hN] at hn1;cases hn1
        · rcases List.mem_cons.1 hk2 with e2 | e2
          · subst e2;rw [htn,hN] at hn2;cases hn2
          · exact s7 k k2 e e2 hn1 hn2 he
      · intro p hp1 hp2
        obtain ⟨k2,q1,q2,q3⟩:=s8 p hp1 hp2
        exact ⟨k2,List.mem_cons_of_mem _ q1,q2,q3⟩
    · cases h
section
variable [Ov]
theorem Xc.over {tbl:Nat→AFunc} {n t:Nat} {g:Tree AV→Heap→Option (Tree AV × Heap)} {fr:Fr} {H H':Heap} {env':Tree AV} {K:AJump→Fr→Heap→Prop} (ht:tbl t=.over g) (hg:g fr.env H=some (env',H')) (h:K .none { fr with env:=env' } H'):Xc tbl (n+1) (.over t) fr H K:=by
  simp only [Xc,exec,ht,hg];exact h
theorem setIs_at {H:Heap} {N:Pos} {ks:List Int} (h:setIs (H.get N) ks):setAt H N=some ks:=by
  obtain ⟨hn,es,he,hkv⟩:=h
  have key:∀ {es:List AEnt} {ks:List Int},es.map AEnt.kv=ks.map sk→setInts es=some ks:=by
    intro es
    induction es with
    | nil=>intro ks h;cases ks<;>simp at h;rfl
    | cons a es ih =>
      intro ks h
      cases ks with
      | nil=>simp at h
      | cons k ks =>
        simp only [List.map_cons,List.cons.injEq,AEnt.kv,sk,Prod.mk.injEq] at h
        simp only [setInts,h.1.1,h.1.2,ih h.2]
  unfold setAt
  rw [he]
  simp only [key hkv,(nodupI_iff ks).2 hn,if_true]
theorem setIs_keys {H:Heap} {N:Pos} {ks:List Int} (h:setIs (H.get N) ks):keysAt H N=some ks:=by
  obtain ⟨hn,es,he,hkv⟩:=h
  have key:∀ {es:List AEnt} {ks:List Int},es.map AEnt.kv=ks.map sk→keyInts es=some ks:=by
    intro es
    induction es with
    | nil=>intro ks h;cases ks<;>simp at h;rfl
    | cons a es ih =>
      intro ks h
      cases ks with
      | nil=>simp at h
      | cons k ks =>
        simp only [List.map_cons,List.cons.injEq,AEnt.kv,sk,Prod.mk.injEq] at h
        simp only [keyInts,h.1.1,ih h.2]
  unfold keysAt
  rw [he]
  simp only [key hkv,(nodupI_iff ks).2 hn,if_true]
theorem setIs_perm {es esx:List AEnt} {ks:List Int} (hn:ks.Nodup) (h:es.map AEnt.kv=ks.map sk) (hp:(esx.map AEnt.kv).Perm (es.map AEnt.kv)) (clock:Nat):∃ ksx,setIs (.map esx clock) ksx∧ksx.Perm ks:=by
  let f:AV × AV→Int:=fun p=>match p.1 with | .int _ k=>k | _=>0
  have h1:(esx.map AEnt.kv).map f=((esx.map AEnt.kv).map f):=rfl
  have hp':((esx.map AEnt.kv).map f).Perm ks:=by
    have:=hp.map f
    have e:(ks.map sk).map f=ks:=by
      rw [List.map_map]
      have:(f ∘ sk)=id:=by funext k;rfl
      rw [this,List.map_id]
    rw [h,e] at this
    exact this
  refine ⟨(esx.map AEnt.kv).map f,⟨hp'.nodup_iff.2 hn,esx,rfl,?_⟩,hp'⟩
  rw [List.map_map]
  have:∀ p∈esx.map AEnt.kv,(sk ∘ f) p=p:=by
    intro p hp1
    have:=hp.mem_iff.1 hp1
    rw [h,List.mem_map] at this
    obtain ⟨k,_,rfl⟩:=this
    rfl
  conv=>lhs;rw [← List.map_id (esx.map AEnt.kv)]
  exact (List.map_congr_left this).symm
theorem Heap.hide (H:Heap) (hf:∀ j:Pos,H.next.idx≤j.idx→H.get j=.none) (p:Pos→Prop):∃ H2:Heap,H2.next=H.next∧∀ j,(p j→H2.get j=.none)∧(¬ p j→H2.get j=H.get j):=by
  classical
  refine ⟨H.drops (((List.range H.next.idx).map Pos.slot).filter fun j=>decide (p j)),Heap.next_drops _ _,fun j=>?_⟩
  rw [Heap.get_drops]
  constructor
  · intro hp
    split
    · rfl
    · rename_i hn
      refine hf j ?_
      rcases Nat.lt_or_ge j.idx H.next.idx with h | h
      · exfalso;apply hn
        rw [List.mem_filter,List.mem_map]
        have hpos:=Pos.idx_pos j
        exact ⟨⟨j.idx-1,List.mem_range.2 (by omega),Pos.idx_inj (by rw [Pos.idx_slot];omega)⟩,by simpa using hp⟩
      · exact h
  · intro hp
    rw [if_neg]
    rw [List.mem_filter]
    rintro ⟨_,h⟩
    exact hp (by simpa using h)
end
end Go.Abs
namespace Go.Abs
def outTbl:Nat→AFunc:=fun f=>if Nat.beq f 1001 then .over gInner else .none
theorem outTbl_ok {P:Program}:TblOk P outTbl:=by
  refine ⟨?_,?_,?_⟩
  · intro f nt rs body h;simp only [outTbl] at h;split at h<;>cases h
  · intro f g h;simp only [outTbl] at h;split at h<;>cases h
  · intro t g h
    simp only [outTbl] at h
    split at h
    · rename_i hb;injection h with h;subst h;rw [Nat.eq_of_beq_eq_true hb];exact inner_ok
    · cases h
theorem gInner_eq {env:Tree AV} {H:Heap} {m N i3:Pos} {o3:Nat} {k:Int} {s3:AV} {ksx tN:List Int} (h4:env.get .undef (sl 4)=.map m) (h5:env.get .undef (sl 5)=.int 3 k) (h3:env.get .undef (sl 3)=.ptr i3 o3) (hc:cellAt H i3 o3=some s3) (he:elemAt H s3 k=some (.map N)) (hmN:m≠N)
    (hk:keysAt H m=some ksx) (hN:setAt H N=some tN):gInner env H=some (junks env innerSlots,(H.set N (.umap (mkset (addks (without k ksx) tN)))).skip):=by
  have hb:Pos.beq m N=false:=by
    cases h:Pos.beq m N with
    | false=>rfl
    | true=>exact absurd (Pos.beq_iff.1 h) hmN
  simp only [gInner,h4,h5,h3,cellP,hc,he,hb,hk,hN,Bool.false_eq_true,if_false]
theorem ne_idx {i j:Pos} (h:i.idx≠j.idx):i≠j:=fun e=>h (congrArg Pos.idx e)
structure OutJ (Hs:Heap) (m i:Pos) (c:Tree AV) (o cn e fz:Nat) (ks:List Int) (t0:Pos→List Int) (olds:List Pos) (esx:List AEnt) (clock:Nat) (l:List Int) (H1:Heap) (c':Tree AV) (nr:Int→Pos):Prop where
  nx:Hs.next.idx<H1.next.idx
  frm:∀ j,j.idx<Hs.next.idx→j≠m→j≠i→j∉olds→H1.get j=Hs.get j
  mm:H1.get m=.map esx clock
  ii:H1.get i=.cells c' cn e true [] fz
  new:∀ k∈l,c.getN .undef (o+k.toNat)=.nilmap→Hs.next.idx<(nr k).idx∧(nr k).idx<H1.next.idx∧c'.getN .undef (o+k.toNat)=.map (nr k)∧∃ ks',setIs (H1.get (nr k)) ks'∧∀ x,x∈ks'↔x∈ks∧x≠k
  inj:∀ k k2,k∈l→k2∈l→c.getN .undef (o+k.toNat)=.nilmap→c.getN .undef (o+k2.toNat)=.nilmap→nr k=nr k2→k=k2
  cc:∀ x,(∀ k∈l,c.getN .undef (o+k.toNat)=.nilmap→x≠o+k.toNat)→c'.getN .undef x=c.getN .undef x
  old:∀ k∈ks,∀ N,c.getN .undef (o+k.toNat)=.map N→∃ ks',setIs (H1.get N) ks'∧∀ x,x∈ks'↔x∈t0 N∨(k∈l∧x∈ks∧x≠k)
  only:∀ j,Hs.next.idx<j.idx→H1.get j≠.none→∃ k∈l,c.getN .undef (o+k.toNat)=.nilmap∧nr k=j
  sub:∀ k∈l,k∈ks
theorem OutJ.set {Hs:Heap} {m i:Pos} {c:Tree AV} {o cn e fz:Nat} {ks:List Int} {t0:Pos→List Int} {olds:List Pos} {esx:List AEnt} {clock:Nat} {l:List Int} {H1:Heap} {c':Tree AV} {nr:Int→Pos} (J:OutJ Hs m i c o cn e fz ks t0 olds esx clock l H1 c' nr) (it:AObj)
    (hm:m.idx<Hs.next.idx) (hi:i.idx<Hs.next.idx) (hold:∀ k∈ks,∀ N,c.getN .undef (o+k.toNat)=.map N→N.idx<Hs.next.idx):OutJ Hs m i c o cn e fz ks t0 olds esx clock l (H1.set Hs.next it) c' nr:=by
  refine ⟨J.nx,fun j h1 h2 h3 h4=>?_,?_,?_,fun k hk hn=>?_,J.inj,J.cc,fun k hk N hN=>?_,fun j hj hg=>?_,J.sub⟩
  · rw [Heap.get_set,if_neg (ne_idx (by omega))];exact J.frm j h1 h2 h3 h4
  · rw [Heap.get_set,if_neg (ne_idx (by omega))];exact J.mm
  · rw [Heap.get_set,if_neg (ne_idx (by omega))];exact J.ii
  · obtain ⟨q1,q2,q3,q4⟩:=J.new k hk hn
    refine ⟨q1,q2,q3,?_⟩
    rw [Heap.get_set,if_neg (ne_idx (by omega))];exact q4
  · have:=hold k hk N hN
    rw [Heap.get_set,if_neg (ne_idx (by omega))];exact J.old k hk N hN
  · rw [Heap.get_set,if_neg (ne_idx (by omega))] at hg;exact J.only j hj hg
section
variable {Hs:Heap} {m i i3:Pos} {c:Tree AV} {o n cn e fz o3 cp:Nat} {ex:Bool} {ks:List Int} {t0:Pos→List Int} {olds:List Pos} {esx:List AEnt} {clock:Nat} {l:List Int} {H1:Heap} {c':Tree AV} {nr:Int→Pos}
theorem out_there (fk:∀ k∈ks,∃ j,k=.ofNat j∧j<n∧(c.getN .undef (o+k.toNat)=.nilmap∨∃ N,c.getN .undef (o+k.toNat)=.map N∧N≠m∧N≠i∧N.idx<Hs.next.idx∧N∈olds))
    (fo:∀ k k2 N,k∈ks→k2∈ks→c.getN .undef (o+k.toNat)=.map N→c.getN .undef (o+k2.toNat)=.map N→k=k2) (hm:m.idx<Hs.next.idx) (hi:i.idx<Hs.next.idx)
    (J:OutJ Hs m i c o cn e fz ks t0 olds esx clock l H1 c' nr) {ksx:List Int} (hx:∀ x,x∈ksx↔x∈ks) {k:Int} (hk:k∈ks) (hA:¬ (c.getN .undef (o+k.toNat)=.nilmap∧k∉l)) :
    ∃ N tN,c'.getN .undef (o+k.toNat)=.map N∧m≠N∧N≠i∧N≠Hs.next∧setIs (H1.get N) tN∧OutJ Hs m i c o cn e fz ks t0 olds esx clock (l++[k]) ((H1.set N (.umap (mkset (addks (without k ksx) tN)))).skip) c' nr:=by
  have hadd:∀ tN x,x∈addks (without k ksx) tN↔(x∈ks∧x≠k)∨x∈tN:=fun tN x=>by rw [addks_mem,without_mem,hx]
  have hget:∀ (N j:Pos) (ob:AObj),((H1.set N ob).skip).get j=if j=N then ob else H1.get j:=fun N j ob=>Heap.get_set H1 N j ob
  have hnx:∀ (N:Pos) (ob:AObj),((H1.set N ob).skip).next.idx=H1.next.idx+1:=fun N ob=>Pos.idx_succ _
  obtain ⟨j,hkj,hj,hcase⟩:=fk k hk
  by_cases hnil:c.getN .undef (o+k.toNat)=.nilmap
  · have hkl:k∈l:=Classical.byContradiction fun h=>hA ⟨hnil,h⟩
    obtain ⟨q1,q2,q3,tN,q4,q5⟩:=J.new k hkl hnil
    have hmem:∀ k2,k2∈l++[k]↔k2∈l:=fun k2=>by
      simp only [List.mem_append,List.mem_singleton]
      exact ⟨fun h=>h.elim id fun h=>h ▸ hkl,.inl⟩
    refine ⟨nr k,tN,q3,ne_idx (by omega),ne_idx (by omega),ne_idx (by omega),q4,?_⟩
    refine ⟨by rw [hnx];have:=J.nx;omega,fun p h1 h2 h3 h4=>?_,?_,?_,fun k2 hk2 hn2=>?_,fun a b ha hb=>J.inj a b ((hmem a).1 ha) ((hmem b).1 hb),fun x hx'=>J.cc x fun k2 hk2=>hx' k2 ((hmem k2).2 hk2),fun k2 hk2 N2 hN2=>?_,fun p hp hg=>?_,fun k2 hk2=>J.sub k2 ((hmem k2).1 hk2)⟩
    · rw [hget,if_neg (ne_idx (by omega))];exact J.frm p h1 h2 h3 h4
    · rw [hget,if_neg (ne_idx (by omega))];exact J.mm
    · rw [hget,if_neg (ne_idx (by omega))];exact J.ii
    · rw [hmem] at hk2
      obtain ⟨r1,r2,r3,ks',r4,r5⟩:=J.new k2 hk2 hn2
      refine ⟨r1,by rw [hnx];omega,r3,?_⟩
      rw [hget]
      by_cases he:k2=k
      · subst he
        rw [if_pos rfl]
        exact ⟨_,mkset_is (addks_nodup _ q4.1),fun x=>by rw [hadd,q5];simp⟩
      · rw [if_neg fun h=>he (J.inj k2 k hk2 hkl hn2 hnil h)]
        exact ⟨ks',r4,r5⟩
    · obtain ⟨ks',r1,r2⟩:=J.old k2 hk2 N2 hN2
      obtain ⟨_,_,_,h' | ⟨N',h',_,_,hlt,_⟩⟩:=fk k2 hk2
      · rw [h'] at hN2;cases hN2
      · rw [h'] at hN2;injection hN2 with hN2;subst hN2
        rw [hget,if_neg (ne_idx (by omega))]
        exact ⟨ks',r1,fun x=>by rw [r2,hmem]⟩
    · rw [hget] at hg
      split at hg
      · rename_i he;exact ⟨k,(hmem k).2 hkl,hnil,he.symm⟩
      · obtain ⟨k2,r1,r2⟩:=J.only p hp hg;exact ⟨k2,(hmem k2).2 r1,r2⟩
  · obtain ⟨N,hN,hNm,hNi,hlt,hNo⟩:=hcase.resolve_left hnil
    obtain ⟨tN,r1,r2⟩:=J.old k hk N hN
    have hcN:c'.getN .undef (o+k.toNat)=.map N:=by
      rw [J.cc _ fun k2 hk2 hn2 he=>?_]
      · exact hN
      · rw [← he] at hn2;exact hnil hn2
    have hnew:∀ k2,k2∈l++[k]→c.getN .undef (o+k2.toNat)=.nilmap→k2∈l:=fun k2 h h'=>by
      rcases List.mem_append.1 h with h | h
      · exact h
      · rw [List.mem_singleton] at h;subst h;exact absurd h' hnil
    refine ⟨N,tN,hcN,Ne.symm hNm,hNi,ne_idx (by omega),r1,?_⟩
    refine ⟨by rw [hnx];have:=J.nx;omega,fun p h1 h2 h3 h4=>?_,?_,?_,fun k2 hk2 hn2=>?_,fun a b ha hb ha' hb'=>J.inj a b (hnew a ha ha') (hnew b hb hb') ha' hb',fun x hx'=>J.cc x fun k2 hk2=>hx' k2 (List.mem_append_left _ hk2),fun k2 hk2 N2 hN2=>?_,fun p hp hg=>?_,fun k2 hk2=>?_⟩
    · rw [hget,if_neg (fun h:p=N=>h4 (h ▸ hNo))];exact J.frm p h1 h2 h3 h4
    · rw [hget,if_neg (Ne.symm hNm)];exact J.mm
    · rw [hget,if_neg (Ne.symm hNi)];exact J.ii
    · obtain ⟨s1,s2,s3,s4⟩:=J.new k2 (hnew k2 hk2 hn2) hn2
      refine ⟨s1,by rw [hnx];omega,s3,?_⟩
      rw [hget,if_neg (ne_idx (by omega))];exact s4
    · rw [hget]
      by_cases he:k2=k
      · subst he
        rw [hN] at hN2;injection hN2 with hN2;subst hN2
        rw [if_pos rfl]
        refine ⟨_,mkset_is (addks_nodup _ r1.1),fun x=>?_⟩
        rw [hadd,r2]
        simp only [List.mem_append,List.mem_singleton,or_true,true_and]
        constructor
        · rintro (h | h | h)
          · exact .inr h
          · exact .inl h
          · exact .inr h.2
        · rintro (h | h)
          · exact .inr (.inl h)
          · exact .inl h
      · rw [if_neg fun h:N2=N=>he (fo k2 k N hk2 hk (h ▸ hN2) hN)]
        obtain ⟨ks',s1,s2⟩:=J.old k2 hk2 N2 hN2
        exact ⟨ks',s1,fun x=>by rw [s2,List.mem_append,List.mem_singleton];simp [he]⟩
    · rw [hget] at hg
      rw [if_neg (ne_idx (by omega))] at hg
      obtain ⟨k2,s1,s2⟩:=J.only p hp hg;exact ⟨k2,List.mem_append_left _ s1,s2⟩
    · rcases List.mem_append.1 hk2 with h | h
      · exact J.sub k2 h
      · rw [List.mem_singleton] at h;rw [h];exact hk
theorem out_made (fk:∀ k∈ks,∃ j,k=.ofNat j∧j<n∧(c.getN .undef (o+k.toNat)=.nilmap∨∃ N,c.getN .undef (o+k.toNat)=.map N∧N≠m∧N≠i∧N.idx<Hs.next.idx∧N∈olds))
    (hm:m.idx<Hs.next.idx) (hi:i.idx<Hs.next.idx) (hmi:m≠i)
    (J:OutJ Hs m i c o cn e fz ks t0 olds esx clock l H1 c' nr) {ksx:List Int} (hx:∀ x,x∈ksx↔x∈ks) {k:Int} (hk:k∈ks) (hnil:c.getN .undef (o+k.toNat)=.nilmap) (hkl:k∉l) :
    c'.getN .undef (o+k.toNat)=.nilmap∧OutJ Hs m i c o cn e fz ks t0 olds esx clock (l++[k])
      (((((H1.new (.map [] 0)).set i (.cells (writeCells c' (o+k.toNat) [.map H1.next]) cn e true [] fz))).set H1.next (.umap (mkset (addks (without k ksx) [])))).skip)
      (writeCells c' (o+k.toNat) [.map H1.next]) (fun x=>if x=k then H1.next else nr x):=by
  have hadd:∀ x,x∈addks (without k ksx) []↔(x∈ks∧x≠k):=fun x=>by rw [addks_mem,without_mem,hx];simp
  have hJ:=J.nx
  have hget:∀ j:Pos,((((H1.new (.map [] 0)).set i (.cells (writeCells c' (o+k.toNat) [.map H1.next]) cn e true [] fz)).set H1.next (.umap (mkset (addks (without k ksx) [])))).skip).get j =
      if j=H1.next then .umap (mkset (addks (without k ksx) [])) else if j=i then .cells (writeCells c' (o+k.toNat) [.map H1.next]) cn e true [] fz else H1.get j:=by
    intro j
    show (((H1.new (.map [] 0)).set i _).set H1.next _).get j=_
    rw [Heap.get_set]
    split
    · rfl
    · rename_i h
      rw [Heap.get_set]
      split
      · rfl
      · rw [Heap.get_new,if_neg h]
  have hnx:((((H1.new (.map [] 0)).set i (.cells (writeCells c' (o+k.toNat) [.map H1.next]) cn e true [] fz)).set H1.next (.umap (mkset (addks (without k ksx) [])))).skip).next.idx=H1.next.idx+2:=by
    show H1.next.succ.succ.idx=_
    rw [Pos.idx_succ,Pos.idx_succ]
  have hoff:∀ k2∈ks,o+k.toNat=o+k2.toNat→k2=k:=by
    intro k2 hk2 he
    obtain ⟨j,rfl,_⟩:=fk k hk
    obtain ⟨j2,rfl,_⟩:=fk k2 hk2
    have e1:(Int.ofNat j).toNat=j:=rfl
    have e2:(Int.ofNat j2).toNat=j2:=rfl
    rw [e1,e2] at he
    have:j2=j:=by omega
    rw [this]
  have hcn:c'.getN .undef (o+k.toNat)=.nilmap:=by
    rw [J.cc _ fun k2 hk2 hn2 he=>hkl (hoff k2 (J.sub k2 hk2) he ▸ hk2)];exact hnil
  have hw:∀ x,(writeCells c' (o+k.toNat) [.map H1.next]).getN .undef x=if x=o+k.toNat then .map H1.next else c'.getN .undef x:=by
    intro x
    rw [writeCells_get]
    by_cases hxe:x=o+k.toNat
    · subst hxe;simp
    · rw [if_neg (by simp;omega),if_neg hxe]
  refine ⟨hcn,by rw [hnx];omega,fun p h1 h2 h3 h4=>?_,?_,?_,fun k2 hk2 hn2=>?_,fun a b ha hb ha' hb' he=>?_,fun x hx'=>?_,fun k2 hk2 N2 hN2=>?_,fun p hp hg=>?_,fun k2 hk2=>?_⟩
  · rw [hget,if_neg (ne_idx (by omega)),if_neg h3];exact J.frm p h1 h2 h3 h4
  · rw [hget,if_neg (ne_idx (by omega)),if_neg hmi];exact J.mm
  · rw [hget,if_neg (ne_idx (by omega)),if_pos rfl]
  · by_cases he:k2=k
    · subst he
      simp only [if_true]
      refine ⟨hJ,by rw [hnx];omega,by rw [hw,if_pos rfl],?_⟩
      rw [hget,if_pos rfl]
      exact ⟨_,mkset_is (addks_nodup _ List.nodup_nil),hadd⟩
    · have hk2l:k2∈l:=by
        rcases List.mem_append.1 hk2 with h | h
        · exact h
        · rw [List.mem_singleton] at h;exact absurd h he
      simp only [if_neg he]
      obtain ⟨s1,s2,s3,s4⟩:=J.new k2 hk2l hn2
      refine ⟨s1,by rw [hnx];omega,?_,?_⟩
      · rw [hw,if_neg fun h=>he (hoff k2 (J.sub k2 hk2l) h.symm)];exact s3
      · rw [hget,if_neg (ne_idx (by omega)),if_neg (ne_idx (by omega))];exact s4
  · have hl:∀ x,x∈l++[k]→x≠k→x∈l:=fun x h h'=>by
      rcases List.mem_append.1 h with h | h
      · exact h
      · rw [List.mem_singleton] at h;exact absurd h h'
    by_cases e1:a=k<;>by_cases e2:b=k
    · rw [e1,e2]
    · simp only [if_pos e1,if_neg e2] at he
      have:=(J.new b (hl b hb e2) hb').2.1
      rw [← he] at this;omega
    · simp only [if_pos e2,if_neg e1] at he
      have:=(J.new a (hl a ha e1) ha').2.1
      rw [he] at this;omega
    · simp only [if_neg e1,if_neg e2] at he
      exact J.inj a b (hl a ha e1) (hl b hb e2) ha' hb' he
  · rw [hw,if_neg (hx' k (by simp) hnil)]
    exact J.cc x fun k2 hk2=>hx' k2 (List.mem_append_left _ hk2)
  · obtain ⟨ks',r1,r2⟩:=J.old k2 hk2 N2 hN2
    obtain ⟨_,_,_,h' | ⟨N',h',_,hNi,hlt,_⟩⟩:=fk k2 hk2
    · rw [h'] at hN2;cases hN2
    · have hk2k:k2≠k:=fun h=>by rw [h,hnil] at h';cases h'
      rw [h'] at hN2;injection hN2 with hN2;subst hN2
      rw [hget,if_neg (ne_idx (by omega)),if_neg hNi]
      exact ⟨ks',r1,fun x=>by rw [r2,List.mem_append,List.mem_singleton];simp [hk2k]⟩
  · rw [hget] at hg
    by_cases he:p=H1.next
    · exact ⟨k,by simp,hnil,by simp [he]⟩
    · rw [if_neg he,if_neg (ne_idx (by omega))] at hg
      obtain ⟨k2,s1,s2,s3⟩:=J.only p hp hg
      exact ⟨k2,List.mem_append_left _ s1,s2,by simp only [if_neg (fun h=>hkl (h ▸ s1):k2≠k)];exact s3⟩
  · rcases List.mem_append.1 hk2 with h | h
    · exact J.sub k2 h
    · rw [List.mem_singleton] at h;rw [h];exact hk
end
end Go.Abs
