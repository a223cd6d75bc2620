/- A part of the proof (an abstract machine, walks): no statement of its own, no conditions. -/
import Derived.Test.YtndbmjcpgefblaaGreatDoorA17
set_option linter.all false
namespace Go.Abs
section
mutual
theorem VR.back {ρ ρ':Names} (h:Ext ρ ρ'):∀ (v:AV) (c0 c:Value),VR ρ v c0→VR ρ' v c→VR ρ v c
  | .tuple l,c0,c,k0,k=>by
    cases c0<;>simp only [VR] at k0
    cases c<;>simp only [VR] at k ⊢
    exact VRs.back h l _ _ k0 k
  | .agg l,c0,c,k0,k=>by
    cases c0<;>simp only [VR] at k0
    cases c<;>simp only [VR] at k ⊢
    exact VRs.back h l _ _ k0 k
  | .bool _,c0,c,_,k=>by cases c<;>simp only [VR] at k ⊢;exact k
  | .int _ _,c0,c,_,k=>by cases c<;>simp only [VR] at k ⊢;exact k
  | .str _,c0,c,_,k=>by cases c<;>simp only [VR] at k ⊢;exact k
  | .ptr i o,c0,c,k0,k=>by
    cases c0 with
    | pointer a0 =>
      cases a0 with
      | none=>simp [VR] at k0
      | some a0 =>
        simp only [VR] at k0
        obtain ⟨b0,x0,e0,_⟩:=k0
        cases c with
        | pointer a =>
          cases a with
          | none=>simp [VR] at k
          | some a =>
            simp only [VR] at k ⊢
            obtain ⟨b,x,e,ha⟩:=k
            have:=(h _ _ e0).1.symm.trans e
            injection this with this;injection this with q1 q2
            subst q1;subst q2
            exact ⟨_,_,e0,ha⟩
        | _=>simp [VR] at k
    | _=>simp [VR] at k0
  | .nilptr,c0,c,_,k=>by
    cases c with
    | pointer a=>cases a<;>simp [VR] at k ⊢
    | _=>simp [VR] at k
  | .slice i o len cap ex,c0,c,k0,k=>by
    cases c0 with
    | slice a0 n0 m0 =>
      cases a0 with
      | none=>simp [VR] at k0
      | some a0 =>
        simp only [VR] at k0
        obtain ⟨_,_,_,_,b0,x0,e0,_⟩:=k0
        cases c with
        | slice a n m =>
          cases a with
          | none=>simp [VR] at k
          | some a =>
            simp only [VR] at k ⊢
            obtain ⟨h1,h2,h3,h4,b,x,e,h5,h6⟩:=k
            have:=(h _ _ e0).1.symm.trans e
            injection this with this;injection this with q1 q2
            subst q1;subst q2
            have hk:=(h _ _ e0).2
            simp only at hk
            rw [hk] at h6
            exact ⟨h1,h2,h3,h4,_,_,e0,h5,h6⟩
        | _=>simp [VR] at k
    | _=>simp [VR] at k0
  | .nilslice,c0,c,_,k=>by
    cases c with
    | slice a n m =>
      unfold VR at k ⊢
      split at k<;>first | trivial | (exact absurd k (by simp)) | exact k
    | _=>simp [VR] at k
  | .map i,c0,c,k0,k=>by
    cases c0 with
    | map b0 =>
      cases b0 with
      | none=>simp [VR] at k0
      | some b0 =>
        simp only [VR] at k0
        cases c with
        | map b =>
          cases b with
          | none=>simp [VR] at k
          | some b =>
            simp only [VR] at k ⊢
            have:=(h _ _ k0).1.symm.trans k
            rw [k0];exact this
        | _=>simp [VR] at k
    | _=>simp [VR] at k0
  | .nilmap,c0,c,_,k=>by
    cases c with
    | map b=>cases b<;>simp [VR] at k ⊢
    | _=>simp [VR] at k
  | .func f a b,c0,c,k0,k=>by
    cases c0 with
    | func t0 x0 y0 =>
      cases t0 with
      | func g0 =>
        simp only [VR] at k0
        cases c with
        | func t x y =>
          cases t with
          | func g =>
            simp only [VR] at k ⊢
            exact ⟨k.1,VRs.back h a _ _ k0.2.1 k.2.1,VRs.back h b _ _ k0.2.2 k.2.2⟩
          | _=>simp [VR] at k
        | _=>simp [VR] at k
      | _=>simp [VR] at k0
    | _=>simp [VR] at k0
  | .yield i,c0,c,k0,k=>by
    cases c0 with
    | func t0 x0 y0 =>
      cases t0 with
      | yield g0 =>
        simp only [VR] at k0
        cases c with
        | func t x y =>
          cases t with
          | yield g =>
            simp only [VR] at k ⊢
            have:=(h _ _ k0.1).1.symm.trans k.1
            exact ⟨by rw [k0.1];exact this,k.2⟩
          | _=>simp [VR] at k
        | _=>simp [VR] at k
      | _=>simp [VR] at k0
    | _=>simp [VR] at k0
  | .nilFunc,c0,c,_,k=>by cases c<;>simp only [VR] at k ⊢
  | .iface t v,c0,c,k0,k=>by
    cases c0<;>simp only [VR] at k0
    cases c<;>simp only [VR] at k ⊢
    exact ⟨k.1,VR.back h v _ _ k0.2 k.2⟩
  | .nilIface,c0,c,_,k=>by cases c<;>simp only [VR] at k ⊢
  | .junk,c0,c,_,_=>by simp only [VR]
theorem VRs.back {ρ ρ':Names} (h:Ext ρ ρ'):∀ (l:List AV) (m0 m:List Value),VRs ρ l m0→VRs ρ' l m→VRs ρ l m
  | [],m0,m,_,k=>by cases m<;>simp only [VRs] at k ⊢
  | v::l,m0,m,k0,k=>by
    cases m0 with
    | nil=>simp [VRs] at k0
    | cons c0 m0 =>
      cases m with
      | nil=>simp [VRs] at k
      | cons c m =>
        simp only [VRs] at k0 k ⊢
        exact ⟨VR.back h v _ _ k0.1 k.1,VRs.back h l _ _ k0.2 k.2⟩
end
theorem MarksR.back {ρ ρ':Names} (h:Ext ρ ρ'):∀ {l:List Pos} {m0 m:List Deferred},MarksR ρ l m0→MarksR ρ' l m→MarksR ρ l m
  | [],m0,m,_,k=>by cases m<;>simp only [MarksR] at k ⊢
  | i::l,m0,m,k0,k=>by
    cases m0 with
    | nil=>simp [MarksR] at k0
    | cons d0 m0 =>
      cases m with
      | nil=>simp [MarksR] at k
      | cons d m =>
        simp only [MarksR] at k0 k ⊢
        obtain ⟨⟨r0,q0,_⟩,k0⟩:=k0
        obtain ⟨⟨r,q1,q2⟩,k⟩:=k
        have:=(h _ _ q0).1.symm.trans q1
        exact ⟨⟨r,by rw [q0];exact this,q2⟩,MarksR.back h k0 k⟩
end
section
variable [Ov]
variable {P:Program}
theorem FrR.off {ρ ρ':Names} {nt:Nat} {fr fr':Fr} {ro:Option Nat} {a a':Act} {slots:List Pos} (h0:FrR ρ nt fr ro a) (hx:Ext ρ ρ') (h:FrR ρ' nt fr' ro a') (hs:∀ t,t∉slots→fr'.env.get .undef t=fr.env.get .undef t) (hm:fr'.marks=fr.marks) :
    FrR ρ nt { fr with env:=Go.Abs.junks fr.env slots } ro a':=by
  refine ⟨⟨h.E.1,fun t ht=>?_⟩,?_,h0.R⟩
  · rw [junks_get]
    split
    · simp only [VR]
    · rename_i hn
      have:=h.E.2 t ht
      rw [hs _ hn] at this
      exact VR.back hx _ _ _ (h0.E.2 t ht) this
  · have:=h.D
    rw [hm] at this
    exact MarksR.back hx h0.D this
theorem born_inj:∀ {l:List AEnt},(l.map (·.born)).Nodup→∀ {x y:AEnt},x∈l→y∈l→x.born=y.born→x=y
  | [],_,_,_,hx,_,_=>by cases hx
  | c::l,hn,x,y,hx,hy,h=>by
    rw [List.map_cons,List.nodup_cons] at hn
    rcases List.mem_cons.1 hx with e1 | e1<;>rcases List.mem_cons.1 hy with e2 | e2
    · rw [e1,e2]
    · subst e1;exact absurd (h ▸ List.mem_map_of_mem e2) hn.1
    · subst e2;exact absurd (h ▸ List.mem_map_of_mem e1) hn.1
    · exact born_inj hn.2 e1 e2 h
theorem known_loop {tbl:Nat→AFunc} (ht:TblOk P tbl) {Wr:Acc} {ρ:Names} {H res:Heap} {w:World} {nt:Nat} {fr:Fr} {b:Frame} {a:Act} {c1 c2:Code} {xh body:ACode} {bid cid:Nat} {it tup ok et ex kv:Pos}
    (h1:cCode P nt c1=some xh) (h2:cCode P nt c2=some (mapLoop bid cid it tup ok et ex kv body)) (hbc:bid≠cid) (d1:it≠tup) (d2:it≠ok) (d3:tup≠ok) (d4:it≠et) (d5:et≠ex) (d6:it≠ex) (d7:it≠kv)
    {slots:List Pos} (s1:tup∈slots) (s2:ok∈slots) (s3:et∈slots) (s4:ex∈slots) (s5:kv∈slots)
    (hF:FrR ρ nt fr b.roundOf a) (hI:Inv P Wr ρ H w) {m:Pos} {es:List AEnt} {ks:List Int} (hm:mapEnts (H.get m)=some es) (hk:keyInts es=some ks) (nh fb:Nat)
    (head:∀ esx clock,Xc tbl nh xh fr (H.set m (.map esx clock)) fun j fr1 H1=>j=.none∧fr1.marks=fr.marks∧fr1.rnd=fr.rnd∧(∀ t,t∉slots→fr1.env.get .undef t=fr.env.get .undef t)∧fr1.env.get .undef it=.ptr H.next 0 ∧
      H1=(H.set m (.map esx clock)).new (.mapIter (some m) clock [] clock))
    (J:List AEnt→Nat→List Int→Heap→Prop)
    (J0:∀ esx clock,(esx.map AEnt.kv).Perm (es.map AEnt.kv)→J esx clock [] ((H.set m (.map esx clock)).new (.mapIter (some m) clock [] clock)))
    (Jit:∀ esx clock l H1 o,J esx clock l H1→J esx clock l (H1.set H.next o))
    (Jm:∀ esx clock l H1,J esx clock l H1→H1.get m=.map esx clock)
    (round:∀ esx clock l env H1 k,k∈ks→J esx clock l H1→(∀ t,t∉slots→env.get .undef t=fr.env.get .undef t)→env.get .undef kv=.int 3 k →
      Xc tbl fb body ⟨env,fr.marks,fr.rnd⟩ H1 fun j fr1 H2=>j=.none∧fr1.marks=fr.marks∧fr1.rnd=fr.rnd∧(∀ t,t∉slots→fr1.env.get .undef t=fr.env.get .undef t)∧fr1.env.get .undef it=env.get .undef it∧H2.get H.next=H1.get H.next∧J esx clock (l++[k]) H2)
    (fin:∀ esx clock l H1 ρ' w',(∀ k,k∈l↔k∈ks)→J esx clock l H1→Ext ρ ρ'→Inv P Wr ρ' H1 w' →
      (∀ {Wr':Acc} {ρ':Names} {H2:Heap} {w':World},Inv P Wr' ρ' H2 w'→H2.get m=.map esx clock→Inv P Wr' ρ' (H2.set m (H.get m)) w')→∃ ρ2,Ext ρ ρ2∧Inv P Wr ρ2 res w')
    (k:List Item) (cs:List Frame):Ends P Wr ρ nt w b k cs (lone (b.atR a (.code (.seq c1 c2)::k)) cs w) fun j fr1 H1=>j=.none∧fr1={ fr with env:=junks fr.env slots }∧H1=res:=by
  obtain ⟨esx,clock,hI1,hp,hb,hlt,back⟩:=ranged hI hm
  obtain ⟨pk1,pk2⟩:=perm_keys hk hp
  have hmn:m≠H.next:=fun e=>by
    have:=(hI.fresh H.next (Nat.le_refl _)).1
    rw [← e] at this;rw [this] at hm;simp [mapEnts] at hm
  have run:Xc tbl (nh+(fb+15+esx.length)+1) (.seq xh (mapLoop bid cid it tup ok et ex kv body)) fr (H.set m (.map esx clock)) fun j fr1 H1=>j=.none∧fr1.marks=fr.marks∧(∀ t,t∉slots→fr1.env.get .undef t=fr.env.get .undef t) ∧
      ∃ l,(∀ k,k∈l↔k∈ks)∧J esx clock l H1:=by
    refine Xc.seq' (n:=nh) (m:=fb+15+esx.length) (by omega) (by omega) ((head esx clock).mono (Nat.le_refl _) ?_)
    rintro j fr1 H1 ⟨rfl,g1,g2,g3,g4,rfl⟩
    have hfr1:fr1=⟨fr1.env,fr.marks,fr.rnd⟩:=by cases fr1;simp only at g1 g2;subst g1;subst g2;rfl
    rw [hfr1]
    refine mapLoop_ok hbc d1 d2 d3 d5 hb hlt (id:=H.next) (m:=m)
      (I:=fun seen env H1=>(∀ t,t∉slots→env.get .undef t=fr.env.get .undef t)∧env.get .undef it=.ptr H.next 0∧H1.get H.next=.mapIter (some m) clock seen clock ∧
        ∃ l,(∀ k,k∈l→k∈ks)∧(∀ e∈esx,e.born∈seen→∃ k∈l,e.key=.int 3 k)∧J esx clock l H1) ?_ fb ?_ ?_ esx.length [] fr1.env _ ?_ ?_
    · rintro seen env H1 ⟨q1,q2,q3,l,q4,q5,q6⟩
      exact ⟨q2,q3,Jm _ _ _ _ q6⟩
    · rintro seen env H1 e ⟨q1,q2,q3,l,q4,q5,q6⟩ he hns
      obtain ⟨kk,hkk,hek⟩:=pk1 e he
      refine (round esx clock l _ _ kk hkk (Jit _ _ _ _ _ q6) ?_ ?_).mono (Nat.le_refl _) ?_
      · intro t ht'
        have n1:t≠tup:=fun e=>ht' (e ▸ s1)
        have n2:t≠ok:=fun e=>ht' (e ▸ s2)
        have n3:t≠et:=fun e=>ht' (e ▸ s3)
        have n4:t≠ex:=fun e=>ht' (e ▸ s4)
        have n5:t≠kv:=fun e=>ht' (e ▸ s5)
        simp only [Tree.get_set,if_neg n1,if_neg n2,if_neg n3,if_neg n4,if_neg n5]
        exact q1 t ht'
      · rw [Tree.get_set,if_pos rfl];exact hek
      · rintro j fr2 H2 ⟨r1,r2,r3,r4,r5,r6,r7⟩
        refine ⟨r1,r2,r3,r4,?_,?_,l++[kk],?_,?_,r7⟩
        · rw [r5];simp only [Tree.get_set,if_neg d1,if_neg d2,if_neg d4,if_neg d6,if_neg d7];exact q2
        · rw [r6,Heap.get_set,if_pos rfl]
        · intro k' hk'
          rcases List.mem_append.1 hk' with h' | h'
          · exact q4 k' h'
          · rw [List.mem_singleton] at h';rw [h'];exact hkk
        · intro e' he' hs'
          rcases List.mem_append.1 hs' with h' | h'
          · obtain ⟨k',a1,a2⟩:=q5 e' he' h';exact ⟨k',List.mem_append_left _ a1,a2⟩
          · rw [List.mem_singleton] at h'
            have:e'=e:=by
              exact born_inj hb he' he h'
            subst this
            exact ⟨kk,List.mem_append_right _ (List.mem_singleton.2 rfl),hek⟩
    · rintro seen env H1 ⟨q1,q2,q3,l,q4,q5,q6⟩ hall
      refine ⟨rfl,rfl,?_,l,fun k'=>⟨q4 k',fun hk'=>?_⟩,q6⟩
      · intro t ht'
        have n1:t≠tup:=fun e=>ht' (e ▸ s1)
        have n2:t≠ok:=fun e=>ht' (e ▸ s2)
        simp only [Tree.get_set,if_neg n1,if_neg n2]
        exact q1 t ht'
      · obtain ⟨e,he,hek⟩:=pk2 k' hk'
        obtain ⟨k2,a1,a2⟩:=q5 e he (hall e he)
        rw [hek] at a2;injection a2 with _ a2;rw [a2];exact a1
    · exact ⟨g3,g4,by rw [Heap.get_new,Heap.next_set,if_pos rfl],[],by simp,by simp,J0 esx clock hp⟩
    · exact List.length_filter_le ..
  obtain ⟨j,fr1,H1,ρ',a',w',t,⟨rfl,e1,e2,l,e3,e4⟩,q2,q3,q4,q5,q6,q7⟩:=over_run ht h1 h2 run hF hI1 k cs
  obtain ⟨ρ2,x2,I2⟩:=fin esx clock l H1 ρ' w' e3 e4 q2 q4 back
  exact ⟨.none,_,_,ρ2,a',w',t,⟨rfl,rfl,rfl⟩,x2,(FrR.off hF q2 q3 e2 e1).mono x2,I2,q5,q6,q7⟩
end
end Go.Abs
namespace Go.Abs
section
variable [Ov]
variable {P:Program}
theorem set_loop {tbl:Nat→AFunc} (ht:TblOk P tbl) {Wr:Acc} {ρ:Names} {H:Heap} {w:World} {nt:Nat} {fr:Fr} {b:Frame} {a:Act} {c1 c2:Code} {xh body:ACode} {bid cid:Nat} {it tup ok et ex kv:Pos}
    (h1:cCode P nt c1=some xh) (h2:cCode P nt c2=some (mapLoop bid cid it tup ok et ex kv body)) (hbc:bid≠cid) (d1:it≠tup) (d2:it≠ok) (d3:tup≠ok) (d4:it≠et) (d5:et≠ex) (d6:it≠ex) (d7:it≠kv)
    {slots:List Pos} (s1:tup∈slots) (s2:ok∈slots) (s3:et∈slots) (s4:ex∈slots) (s5:kv∈slots)
    (hF:FrR ρ nt fr b.roundOf a) (hI:Inv P Wr ρ H w) {m N:Pos} {ks t0 xs:List Int} (hk:keysAt H m=some ks) (hN:setAt H N=some t0) (hmN:m≠N) (nh fb:Nat)
    (head:∀ esx clock,Xc tbl nh xh fr (H.set m (.map esx clock)) fun j fr1 H1=>j=.none∧fr1.marks=fr.marks∧fr1.rnd=fr.rnd∧(∀ t,t∉slots→fr1.env.get .undef t=fr.env.get .undef t)∧fr1.env.get .undef it=.ptr H.next 0 ∧
      H1=(H.set m (.map esx clock)).new (.mapIter (some m) clock [] clock))
    (one:Int→Int→Prop)
    (round:∀ env H1 k ks',k∈ks→(∀ j,j≠N→j≠m→j≠H.next→H1.get j=H.get j)→setIs (H1.get N) ks'→(∀ t,t∉slots→env.get .undef t=fr.env.get .undef t)→env.get .undef kv=.int 3 k →
      Xc tbl fb body ⟨env,fr.marks,fr.rnd⟩ H1 fun j fr1 H2=>j=.none∧fr1.marks=fr.marks∧fr1.rnd=fr.rnd∧(∀ t,t∉slots→fr1.env.get .undef t=fr.env.get .undef t)∧fr1.env.get .undef it=env.get .undef it∧H2.next=H1.next∧(∀ j,j≠N→H2.get j=H1.get j) ∧
        ∃ ks'',setIs (H2.get N) ks''∧∀ x,x∈ks''↔x∈ks'∨one k x)
    (hx:xs.Nodup) (hxm:∀ x,x∈xs↔x∈t0∨∃ k∈ks,one k x)
    (k:List Item) (cs:List Frame):Ends P Wr ρ nt w b k cs (lone (b.atR a (.code (.seq c1 c2)::k)) cs w) fun j fr1 H1=>j=.none∧fr1={ fr with env:=junks fr.env slots }∧H1=(H.set N (.umap (mkset xs))).skip:=by
  obtain ⟨es,hm,hks,hnd⟩:=keysAt_inv hk
  have hNs:=setAt_is hN
  have hNn:N≠H.next:=fun e=>by
    have:=(hI.fresh H.next (Nat.le_refl _)).1
    obtain ⟨_,q,q1,_⟩:=hNs
    rw [e,this] at q1;simp [mapEnts] at q1
  have hmn:m≠H.next:=fun e=>by
    have:=(hI.fresh H.next (Nat.le_refl _)).1
    rw [← e] at this;rw [this] at hm;simp [mapEnts] at hm
  refine known_loop ht h1 h2 hbc d1 d2 d3 d4 d5 d6 d7 s1 s2 s3 s4 s5 hF hI hm hks nh fb head
    (J:=fun esx clock l H1=>H1.next=H.next.succ∧(∀ j,j≠N→j≠m→j≠H.next→H1.get j=H.get j)∧H1.get m=.map esx clock∧∃ ks',setIs (H1.get N) ks'∧∀ x,x∈ks'↔x∈t0∨∃ k∈l,one k x)
    ?_ ?_ ?_ ?_ ?_ k cs
  · intro esx clock _
    refine ⟨rfl,fun j j1 j2 j3=>?_,?_,t0,?_,by simp⟩
    · rw [Heap.get_new,Heap.next_set,if_neg j3,Heap.get_set,if_neg j2]
    · rw [Heap.get_new,Heap.next_set,if_neg hmn,Heap.get_set,if_pos rfl]
    · rw [Heap.get_new,Heap.next_set,if_neg hNn,Heap.get_set,if_neg (Ne.symm hmN)];exact hNs
  · rintro esx clock l H1 o ⟨q1,q2,q3,ks',q4,q5⟩
    refine ⟨q1,fun j j1 j2 j3=>?_,?_,ks',?_,q5⟩
    · rw [Heap.get_set,if_neg j3];exact q2 j j1 j2 j3
    · rw [Heap.get_set,if_neg hmn];exact q3
    · rw [Heap.get_set,if_neg hNn];exact q4
  · rintro esx clock l H1 ⟨q1,q2,q3,_⟩
    exact q3
  · rintro esx clock l env H1 kk hkk ⟨q1,q2,q3,ks',q4,q5⟩ he hkv
    refine (round env H1 kk ks' hkk q2 q4 he hkv).mono (Nat.le_refl _) ?_
    rintro j fr1 H2 ⟨r1,r2,r3,r4,r5,r6,r7,ks'',r8,r9⟩
    refine ⟨r1,r2,r3,r4,r5,r7 _ (Ne.symm hNn),r6.trans q1,fun j j1 j2 j3=>(r7 j j1).trans (q2 j j1 j2 j3),(r7 m hmN).trans q3,ks'',r8,fun x=>?_⟩
    rw [r9,q5]
    simp only [List.mem_append,List.mem_singleton]
    constructor
    · rintro ((h | ⟨k1,h1,h2⟩) | h)
      · exact .inl h
      · exact .inr ⟨k1,.inl h1,h2⟩
      · exact .inr ⟨kk,.inr rfl,h⟩
    · rintro (h | ⟨k1,h1 | h1,h2⟩)
      · exact .inl (.inl h)
      · exact .inl (.inr ⟨k1,h1,h2⟩)
      · exact .inr (h1 ▸ h2)
  · rintro esx clock l H1 ρ' w' hl ⟨q1,q2,q3,ks',q4,q5⟩ hxt hI' back
    refine ⟨ρ',hxt,?_⟩
    have i1:=back hI' q3
    have hp:ks'.Perm xs:=(List.perm_ext_iff_of_nodup q4.1 hx).2 fun x=>by
      rw [q5,hxm]
      constructor
      · rintro (h | ⟨k1,h1,h2⟩)
        · exact .inl h
        · exact .inr ⟨k1,(hl k1).1 h1,h2⟩
      · rintro (h | ⟨k1,h1,h2⟩)
        · exact .inl h
        · exact .inr ⟨k1,(hl k1).2 h1,h2⟩
    have i2:=i1.canon (N:=N) (ks:=ks') (ks2:=xs) (by rw [Heap.get_set,if_neg (Ne.symm hmN)];exact q4) hp
    refine i2.sub (H2:=(H.set N (.umap (mkset xs))).skip) (by show H.next.succ=H1.next;exact q1.symm) fun j=>?_
    show (H.set N (.umap (mkset xs))).get j=_∨(H.set N (.umap (mkset xs))).get j=_
    simp only [Heap.get_set]
    by_cases e1:j=N
    · left;simp [e1]
    by_cases e2:j=m
    · left;simp [e1,e2]
    by_cases e3:j=H.next
    · right;simp only [if_neg e1];rw [e3];exact (hI.fresh _ (Nat.le_refl _)).1
    · left;simp only [if_neg e1,if_neg e2];exact (q2 j e1 e2 e3).symm
theorem cellAt_off {H:Heap} {i m:Pos} {o:Nat} {v:AV} (h:cellAt H i o=some v) {es:List AEnt} (hm:mapEnts (H.get m)=some es):i≠m:=by
  obtain ⟨c,n,e,rw',par,fz,h1,_⟩:=cellAt_cells h
  rintro rfl
  rw [h1] at hm;simp [mapEnts] at hm
theorem cellAt_next {P:Program} {Wr:Acc} {ρ:Names} {H:Heap} {w:World} (hI:Inv P Wr ρ H w) {i:Pos} {o:Nat} {v:AV} (h:cellAt H i o=some v):i≠H.next:=by
  obtain ⟨c,n,e,rw',par,fz,h1,_⟩:=cellAt_cells h
  rintro rfl
  rw [(hI.fresh _ (Nat.le_refl _)).1] at h1;cases h1
theorem setAt_ents {H:Heap} {N:Pos} {t:List Int} (h:setAt H N=some t):∃ es,mapEnts (H.get N)=some es:=by
  obtain ⟨_,es,h,_⟩:=setAt_is h;exact ⟨es,h⟩
theorem keysAt_ents {H:Heap} {N:Pos} {t:List Int} (h:keysAt H N=some t):∃ es,mapEnts (H.get N)=some es:=by
  obtain ⟨es,h,_⟩:=keysAt_inv h;exact ⟨es,h⟩
theorem cellAt_set {H:Heap} {i m:Pos} {o:Nat} {x:AObj} (h:i≠m):cellAt (H.set m x) i o=cellAt H i o:=cellAt_congr (by rw [Heap.get_set,if_neg h]) o
theorem elemsAt_mem {H:Heap} {s:AV}:∀ {ks rs:List Int},elemsAt H s ks=some rs→∀ x,x∈rs↔∃ k∈ks,elemAt H s k=some (.int 3 x)
  | [],rs,h,x=>by simp only [elemsAt,Option.some.injEq] at h;subst h;simp
  | y::l,rs,h,x=>by
    simp only [elemsAt] at h
    split at h
    · rename_i r rs' h1 h2
      injection h with h;subst h
      rw [List.mem_cons,elemsAt_mem h2 x]
      constructor
      · rintro (rfl | ⟨k,k1,k2⟩)
        · exact ⟨y,List.mem_cons_self ..,h1⟩
        · exact ⟨k,List.mem_cons_of_mem _ k1,k2⟩
      · rintro ⟨k,k1,k2⟩
        rcases List.mem_cons.1 k1 with e | e
        · subst e;rw [h1] at k2;injection k2 with k2;injection k2 with _ k2;exact .inl k2.symm
        · exact .inr ⟨k,e,k2⟩
    · cases h
theorem elemsAt_all {H:Heap} {s:AV}:∀ {ks rs:List Int},elemsAt H s ks=some rs→∀ k∈ks,∃ x,elemAt H s k=some (.int 3 x)
  | [],_,_,k,hk=>by cases hk
  | y::l,rs,h,k,hk=>by
    simp only [elemsAt] at h
    split at h
    · rename_i r rs' h1 h2
      rcases List.mem_cons.1 hk with e | e
      · subst e;exact ⟨r,h1⟩
      · exact elemsAt_all h2 k e
    · cases h
end
theorem slot_inj {a b:Nat}:Pos.slot a=Pos.slot b↔a=b:=⟨Pos.slot_inj,fun h=>h ▸ rfl⟩
theorem colour_ok {P:Program}:OverOk P 1003 gColour:=by
  intro Wr ρ H H' w nt fr c1 c2 x y env' b a hc1 hc2 hov hg hF hI k cs
  have hov:ACode.seq colourHead colourLoop=ACode.seq x y:=hov
  injection hov with hx hy
  subst hx;subst hy
  unfold gColour at hg
  split at hg
  case h_2=>cases hg
  rename_i s3 k5 v s4 N g1 g2 g3 g4
  split at hg
  case h_2=>cases hg
  rename_i m g5
  split at hg
  · cases hg
  rename_i hmN
  have hmN:m≠N:=fun e=>hmN (by rw [e];exact Pos.beq_iff.2 rfl)
  split at hg
  case h_2=>cases hg
  rename_i ks t0 g6 g7
  split at hg
  case h_2=>cases hg
  rename_i rs g8
  injection hg with hg;injection hg with hg1 hg2
  subst hg1;subst hg2
  obtain ⟨i3,o3,e3,c3⟩:=cellP_inv g1
  obtain ⟨i4,o4,e4,c4⟩:=cellP_inv g3
  obtain ⟨is,os,ns,cs',es',js,e5,e6,e7,c5⟩:=elemAt_inv g5
  obtain ⟨ms,hms⟩:=keysAt_ents g6
  obtain ⟨Ns,hNs⟩:=setAt_ents g7
  have hfr:fr=⟨fr.env,fr.marks,fr.rnd⟩:=rfl
  refine (set_loop none_ok hc1 hc2 (slots:=colourSlots) (by decide) (by decide) (by decide) (by decide) (by decide) (by decide) (by decide) (by decide) (by decide) (by decide) (by decide) (by decide) (by decide) hF hI g6 g7 hmN 20 20 ?_
    (fun k x=>elemAt H s4 k=some (.int 3 x)) ?_ (addks_nodup rs (setAt_is g7).1) ?_ k cs).mono ?_
  · intro esx clock
    rw [hfr]
    refine Xc.region (n:=19) ?_
    refine Xo.op (n:=18) (v:=s3) (H':=H.set m (.map esx clock)) (eval_load1 e3 (by rw [cellAt_set (cellAt_off c3 hms)];exact c3)) ?_
    refine Xo.op (n:=17) (v:=.int k5 v) (H':=H.set m (.map esx clock)) (by simp [evalOp,gv,setDst,Tree.get_set,slot_inj,g2]) ?_
    refine Xo.op (n:=16) (v:=.ptr is (os+js)) (H':=H.set m (.map esx clock)) (eval_idxSl (by simp [gv,setDst,Tree.get_set,slot_inj];exact e5) (by simp [gv,setDst,Tree.get_set,slot_inj];exact ⟨rfl,e6⟩) e7) ?_
    refine Xo.op (n:=15) (v:=.map m) (H':=H.set m (.map esx clock)) (eval_load1 (by simp [gv,setDst,Tree.get_set,slot_inj];exact ⟨rfl,rfl⟩) (by rw [cellAt_set (cellAt_off c5 hms)];exact c5)) ?_
    refine Xo.op (n:=14) (v:=.ptr H.next 0) (H':=(H.set m (.map esx clock)).new (.mapIter (some m) clock [] clock)) (by simp [evalOp,gv,setDst,Tree.get_set,slot_inj,Heap.get_set];rfl) (Xo.nil (n:=13) ?_)
    refine ⟨rfl,rfl,rfl,?_,?_,rfl⟩
    · intro t ht
      simp only [colourSlots,List.mem_cons,List.not_mem_nil,or_false,not_or] at ht
      simp [setDst,Tree.get_set,ht]
    · simp [setDst,Tree.get_set,slot_inj]
  · intro env H1 kk ks' hkk hfrm hset he hkv
    obtain ⟨r,hr⟩:=elemsAt_all g8 kk hkk
    obtain ⟨i2,o2,n2,cc2,ee2,j2,b1,b2,b3,b4⟩:=elemAt_inv hr
    have hc4:cellAt H1 i4 o4=some s4:=by rw [cellAt_congr (hfrm i4 (cellAt_off c4 hNs) (cellAt_off c4 hms) (cellAt_next hI c4))];exact c4
    have hc2:cellAt H1 i2 (o2+j2)=some (.int 3 r):=by rw [cellAt_congr (hfrm i2 (cellAt_off b4 hNs) (cellAt_off b4 hms) (cellAt_next hI b4))];exact b4
    have h6:env.get .undef (sl 6)=.map N:=by rw [he _ (by decide)];exact g4
    have h4:env.get .undef (sl 4)=.ptr i4 o4:=by rw [he _ (by decide)];exact e4
    obtain ⟨H2,u1,u2,u3,u4⟩:=upd_set (H:=H1) (N:=N) (x:=r) (ks:=ks')
      (env:=((((env.set .undef (sl 42) (.map N)).set .undef (sl 43) s4).set .undef (sl 44) (.int 3 kk)).set .undef (sl 45) (.ptr i2 (o2+j2))).set .undef (sl 46) (.int 3 r)) (om:=tt 42) (ok_:=tt 46) (by simp [gv,Tree.get_set,slot_inj]) (by simp [gv,Tree.get_set,slot_inj]) hset
    refine Xc.region (n:=19) ?_
    refine Xo.op (n:=18) (v:=.map N) (H':=H1) (by simp [evalOp,gv,h6]) ?_
    refine Xo.op (n:=17) (v:=s4) (H':=H1) (eval_load1 (by simp [gv,setDst,Tree.get_set,slot_inj];exact h4) hc4) ?_
    refine Xo.op (n:=16) (v:=.int 3 kk) (H':=H1) (by simp [evalOp,gv,setDst,Tree.get_set,slot_inj];exact hkv) ?_
    refine Xo.op (n:=15) (v:=.ptr i2 (o2+j2)) (H':=H1) (eval_idxSl (by simp [gv,setDst,Tree.get_set,slot_inj];exact b1) (by simp [gv,setDst,Tree.get_set,slot_inj];exact ⟨rfl,b2⟩) b3) ?_
    refine Xo.op (n:=14) (v:=.int 3 r) (H':=H1) (eval_load1 (by simp [gv,setDst,Tree.get_set,slot_inj]) hc2) ?_
    refine Xo.op (n:=13) (v:=.undef) (H':=H2) u1 (Xo.nil (n:=12) ?_)
    refine ⟨rfl,rfl,rfl,?_,?_,u2,u3,_,u4,?_⟩
    · intro t ht
      rw [← he t ht]
      simp only [colourSlots,List.mem_cons,List.not_mem_nil,or_false,not_or] at ht
      simp [setDst,Tree.get_set,ht]
    · simp [setDst,Tree.get_set,slot_inj]
    · intro x
      rw [addk_mem,hr]
      constructor
      · rintro (h | h)
        · exact .inr (h ▸ rfl)
        · exact .inl h
      · rintro (h | h)
        · exact .inr h
        · injection h with h;injection h with _ h;exact .inl h.symm
  · intro x
    rw [addks_mem,elemsAt_mem g8,or_comm]
  · rintro j fr1 H1 ⟨rfl,rfl,rfl⟩
    exact ⟨rfl,rfl,rfl⟩
end Go.Abs
namespace Go.Abs
theorem without_mem (v y:Int):∀ l:List Int,y∈without v l↔y∈l∧y≠v
  | []=>by simp [without]
  | x::l=>by
    simp only [without]
    split
    · rename_i h
      rw [ieq_iff] at h
      have h:x=v:=by simpa using h
      rw [without_mem v y l,List.mem_cons]
      constructor
      · rintro ⟨h1,h2⟩;exact ⟨.inr h1,h2⟩
      · rintro ⟨h1 | h1,h2⟩
        · exact absurd (h1.trans h) h2
        · exact ⟨h1,h2⟩
    · rename_i h
      rw [ieq_iff] at h
      have h:x≠v:=by simpa using h
      rw [List.mem_cons,without_mem v y l,List.mem_cons]
      constructor
      · rintro (h1 | ⟨h1,h2⟩)
        · exact ⟨.inl h1,h1 ▸ h⟩
        · exact ⟨.inr h1,h2⟩
      · rintro ⟨h1 | h1,h2⟩
        · exact .inl h1
        · exact .inr ⟨h1,h2⟩
theorem without_nodup {v:Int}:∀ {l:List Int},l.Nodup→(without v l).Nodup
  | [],_=>by simp [without]
  | x::l,h=>by
    rw [List.nodup_cons] at h
    simp only [without]
    split
    · exact without_nodup h.2
    · rw [List.nodup_cons,without_mem]
      exact ⟨fun q=>h.1 q.1,without_nodup h.2⟩
theorem inner_ok {P:Program}:OverOk P 1001 gInner:=by
  intro Wr ρ H H' w nt fr c1 c2 x y env' b a hc1 hc2 hov hg hF hI k cs
  have hov:ACode.seq innerHead innerLoop=ACode.seq x y:=hov
  injection hov with hx hy
  subst hx;subst hy
  unfold gInner at hg
  split at hg
  case h_2=>cases hg
  rename_i m v s3 g1 g2 g3
  split at hg
  case h_2=>cases hg
  rename_i N g5
  split at hg
  · cases hg
  rename_i hmN
  have hmN:m≠N:=fun e=>hmN (by rw [e];exact Pos.beq_iff.2 rfl)
  split at hg
  case h_2=>cases hg
  rename_i ks t0 g6 g7
  injection hg with hg;injection hg with hg1 hg2
  subst hg1;subst hg2
  obtain ⟨i3,o3,e3,c3⟩:=cellP_inv g3
  obtain ⟨is,os,ns,cs',es',js,e5,e6,e7,c5⟩:=elemAt_inv g5
  obtain ⟨ms,hms⟩:=keysAt_ents g6
  obtain ⟨Ns,hNs⟩:=setAt_ents g7
  have hfr:fr=⟨fr.env,fr.marks,fr.rnd⟩:=rfl
  refine (set_loop none_ok hc1 hc2 (slots:=innerSlots) (by decide) (by decide) (by decide) (by decide) (by decide) (by decide) (by decide) (by decide) (by decide) (by decide) (by decide) (by decide) (by decide) hF hI g6 g7 hmN 20 30 ?_
    (fun k x=>x=k∧k≠v) ?_ (addks_nodup (without v ks) (setAt_is g7).1) ?_ k cs).mono ?_
  · intro esx clock
    rw [hfr]
    refine Xc.region (n:=19) ?_
    refine Xo.op (n:=18) (v:=.map m) (H':=H.set m (.map esx clock)) (by simp [evalOp,gv,g1]) ?_
    refine Xo.op (n:=17) (v:=.ptr H.next 0) (H':=(H.set m (.map esx clock)).new (.mapIter (some m) clock [] clock)) (by simp [evalOp,gv,setDst,Tree.get_set,slot_inj,Heap.get_set];rfl) (Xo.nil (n:=16) ?_)
    refine ⟨rfl,rfl,rfl,?_,?_,rfl⟩
    · intro t ht
      simp only [innerSlots,List.mem_cons,List.not_mem_nil,or_false,not_or] at ht
      simp [setDst,Tree.get_set,ht]
    · simp [setDst,Tree.get_set,slot_inj]
  · intro env H1 kk ks' hkk hfrm hset he hkv
    have hc3:cellAt H1 i3 o3=some s3:=by rw [cellAt_congr (hfrm i3 (cellAt_off c3 hNs) (cellAt_off c3 hms) (cellAt_next hI c3))];exact c3
    have hc5:cellAt H1 is (os+js)=some (.map N):=by rw [cellAt_congr (hfrm is (cellAt_off c5 hNs) (cellAt_off c5 hms) (cellAt_next hI c5))];exact c5
    have h5:env.get .undef (sl 5)=.int 3 v:=by rw [he _ (by decide)];exact g2
    have h3:env.get .undef (sl 3)=.ptr i3 o3:=by rw [he _ (by decide)];exact e3
    refine Xc.seq' (n:=28) (m:=28) (k:=29) (by omega) (by omega) (Xc.region (n:=27) ?_)
    refine Xo.op (n:=26) (v:=.int 3 kk) (H':=H1) (by simp [evalOp,gv];exact hkv) ?_
    refine Xo.op (n:=25) (v:=.int 3 v) (H':=H1) (by simp [evalOp,gv,setDst,Tree.get_set,slot_inj];exact h5) ?_
    refine Xo.op (n:=24) (v:=.bool (!ieq kk v)) (H':=H1) (by simp [evalOp,gv,setDst,Tree.get_set,slot_inj,arith2,arithV]) (Xo.nil (n:=23) ?_)
    by_cases hkv':kk=v
    · have hb:ieq kk v=true:=by rw [ieq_iff];simpa using hkv'
      refine Xc.condF (n:=27) (by simp [gv,setDst,Tree.get_set,slot_inj,hb]) (Xc.skip (n:=26) ?_)
      refine ⟨rfl,rfl,rfl,?_,?_,rfl,fun _ _=>rfl,ks',hset,fun x=>⟨.inl,fun h=>h.elim id fun h=>absurd hkv' h.2⟩⟩
      · intro t ht
        rw [← he t ht]
        simp only [innerSlots,List.mem_cons,List.not_mem_nil,or_false,not_or] at ht
        simp [setDst,Tree.get_set,ht]
      · simp [setDst,Tree.get_set,slot_inj]
    · have hb:ieq kk v=false:=by rw [ieq_iff];simpa using hkv'
      obtain ⟨H2,u1,u2,u3,u4⟩:=upd_set (H:=H1) (N:=N) (x:=kk) (ks:=ks')
        (env:=((((((((env.set .undef (sl 37) (.int 3 kk)).set .undef (sl 38) (.int 3 v)).set .undef (sl 39) (.bool (!ieq kk v))).set .undef (sl 40) s3).set .undef (sl 41) (.int 3 v)).set .undef (sl 42) (.ptr is (os+js))).set .undef (sl 43) (.map N)).set .undef (sl 44) (.int 3 kk))) (om:=tt 43) (ok_:=tt 44) (by simp [gv,Tree.get_set,slot_inj]) (by simp [gv,Tree.get_set,slot_inj]) hset
      refine Xc.condT (n:=27) (by simp [gv,setDst,Tree.get_set,slot_inj,hb]) (Xc.region (n:=26) ?_)
      refine Xo.op (n:=25) (v:=s3) (H':=H1) (eval_load1 (by simp [gv,setDst,Tree.get_set,slot_inj];exact h3) hc3) ?_
      refine Xo.op (n:=24) (v:=.int 3 v) (H':=H1) (by simp [evalOp,gv,setDst,Tree.get_set,slot_inj];exact h5) ?_
      refine Xo.op (n:=23) (v:=.ptr is (os+js)) (H':=H1) (eval_idxSl (by simp [gv,setDst,Tree.get_set,slot_inj];exact e5) (by simp [gv,setDst,Tree.get_set,slot_inj];exact ⟨rfl,e6⟩) e7) ?_
      refine Xo.op (n:=22) (v:=.map N) (H':=H1) (eval_load1 (by simp [gv,setDst,Tree.get_set,slot_inj]) hc5) ?_
      refine Xo.op (n:=21) (v:=.int 3 kk) (H':=H1) (by simp [evalOp,gv,setDst,Tree.get_set,slot_inj];exact hkv) ?_
      refine Xo.op (n:=20) (v:=.undef) (H':=H2) u1 (Xo.nil (n:=19) ?_)
      refine ⟨rfl,rfl,rfl,?_,?_,u2,u3,_,u4,fun x=>?_⟩
      · intro t ht
        rw [← he t ht]
        simp only [innerSlots,List.mem_cons,List.not_mem_nil,or_false,not_or] at ht
        simp [setDst,Tree.get_set,ht]
      · simp [setDst,Tree.get_set,slot_inj]
      · rw [addk_mem]
        constructor
        · rintro (h | h)
          · exact .inr ⟨h,hkv'⟩
          · exact .inl h
        · rintro (h | h)
          · exact .inr h
          · exact .inl h.1
  · intro x
    rw [addks_mem,without_mem]
    constructor
    · rintro (⟨h,h'⟩ | h)
      · exact .inr ⟨x,h,rfl,h'⟩
      · exact .inl h
    · rintro (h | ⟨k,h1,h2,h3⟩)
      · exact .inr h
      · exact .inl ⟨h2 ▸ h1,h2 ▸ h3⟩
  · rintro j fr1 H1 ⟨rfl,rfl,rfl⟩
    exact ⟨rfl,rfl,rfl⟩
end Go.Abs
namespace Go.Abs
def addCode (withF:Nat):ACode:=.seq (.region [op1 11 (.load1 (tt 2)),op1 12 (.mov (tt 0)),op1 13 (.lookup .int (.int 3 (.ofNat 0)) true (tt 11) (tt 12)),op1 10 (.mov (tt 13)),op1 14 (.extract (tt 10) 0),op1 15 (.extract (tt 10) 1),op1 8 (.mov (tt 14)),op1 9 (.mov (tt 15))])
  (.seq (.region [op1 16 (.mov (tt 9)),op1 17 (.unary .not (tt 16)),op1 18 (.mov (tt 17)),⟨some (sl 19),.mov (tt 8),some (sl 18,false),[],[]⟩,⟨some (sl 20),.mov (tt 1),some (sl 18,false),[],[]⟩,⟨some (sl 21),.arith .geq 3 (tt 19) (tt 20),some (sl 18,false),[],[]⟩,op1 22 (.pick (tt 18) (.c (.bool true)) (tt 21))])
  (.cond (tt 22) (.region [op1 23 (.load1 (tt 3)),op1 24 (.load1 (tt 4)),op1 25 (.idxSl 1 (tt 23) (tt 24)),op1 26 (.load1 (tt 25)),op1 27 (.mov (tt 0)),op1 28 (.call (.c (.func withF [] [])) [tt 26,tt 27]),op1 29 (.mov (tt 28)),⟨some (sl 30),.load1 (tt 5),some (sl 29,false),[],[]⟩,op1 31 (.pick (tt 29) (.c (.bool true)) (tt 30)),op0 (.store 1 (tt 5) (tt 31))]) .skip))
def withCode:ACode:=.seq (.region [op1 4 (.mov (.c (.bool false)))]) (.seq (.region [op1 6 (.mov (tt 0)),op1 7 (.mov (tt 1)),op1 8 (.lookup .int (.bool false) false (tt 6) (tt 7)),op1 9 (.unary .not (tt 8)),op1 5 (.mov (tt 9))])
  (.seq (.region [op1 10 (.mov (tt 0)),op1 11 (.mov (tt 1)),op0 (.mapUpd .int (tt 10) (tt 11) (.c (.bool true)))]) (.seq (.region [op1 12 (.mov (tt 5)),op1 4 (.mov (tt 12))]) .ret)))
def liveTbl (addF withF:Nat):Nat→AFunc:=fun f=>if Nat.beq f addF then .code 32 [] (addCode withF) else if Nat.beq f withF then .code 13 [.tmp (sl 4)] withCode else .none
section
variable [Ov]
variable {tbl:Nat→AFunc}
theorem Xo.opG {n:Nat} {d:Option Pos} {op:AOp} {g:Option (Pos × Bool)} {l:List AOper} {env:Tree AV} {marks:List Pos} {rnd:Option Pos} {H H':Heap} {v:AV} {K:Fr→Heap→Prop} (hg:guardOk env g=true) (he:evalOp op env H=some (v,H')) (h:Xo tbl n l ⟨setDst env d v,marks,rnd⟩ H' K) :
    Xo tbl (n+1) (⟨d,op,g,[],[]⟩::l) ⟨env,marks,rnd⟩ H K:=by
  simp only [Xo,Go.Abs.ops,hg,hideAll,showAll,recheck,if_true]
  split
  · simp [evalOp] at he
  · simp [evalOp] at he
  · rw [he];exact h
theorem Xo.opS {n:Nat} {d:Option Pos} {op:AOp} {g:Option (Pos × Bool)} {l:List AOper} {env:Tree AV} {marks:List Pos} {rnd:Option Pos} {H:Heap} {K:Fr→Heap→Prop} (hg:guardOk env g=false) (hd:guardDefd env g=true) (h:Xo tbl n l ⟨setDst env d .undef,marks,rnd⟩ H K) :
    Xo tbl (n+1) (⟨d,op,g,[],[]⟩::l) ⟨env,marks,rnd⟩ H K:=by
  simp only [Xo,Go.Abs.ops,hg,hd,Bool.false_eq_true,if_false,if_true]
  exact h
theorem Xf.code {n nt:Nat} {f:Nat} {first args captured:List AV} {rs:List ARes} {body:ACode} {H:Heap} {K:AV→Heap→Prop} (hf:tbl f=.code nt rs body) (hl:(first++args++captured).length≤nt)
    (h:Xc tbl n body ⟨putArgs (first++args++captured) .xH .leaf,[],none⟩ H fun j fr H'=>(match j with | .exit _=>False | _=>True)∧fr.marks=[]∧∃ l,readRes fr.env H' rs=some l∧K (resV l) H'):Xf tbl (n+1) (.func f first captured) args H K:=by
  simp only [Xf,callV,hf]
  rw [if_pos (Nat.ble_eq_true_of_le hl)]
  refine Xc.mono (Nat.le_refl _) ?_ h
  rintro j fr H' ⟨h1,h2,l,h3,h4⟩
  have hm:takeMarks H' fr.marks=some H':=by rw [h2];rfl
  cases j with
  | exit=>exact h1.elim
  | none=>simp only [hm,h3];exact h4
  | ret=>simp only [hm,h3];exact h4
def lookI (pl:List (Int × Int)) (v:Int):Int × Bool :=
  match pl with
  | []=>(0,false)
  | (k,g)::pl=>if ieq v k then (g,true) else lookI pl v
theorem isLive_look (at_ v:Int):∀ pl,liveOf.isLive pl at_ v=(!(lookI pl v).2||!ilt (lookI pl v).1 at_)
  | []=>by simp [liveOf.isLive,lookI]
  | (k,g)::pl=>by
    simp only [liveOf.isLive,lookI]
    split
    · simp
    · exact isLive_look at_ v pl
theorem lookI_none {pl:List (Int × Int)} {v:Int} (h:v∉pl.map (·.1)):lookI pl v=(0,false):=by
  induction pl with
  | nil=>rfl
  | cons a pl ih =>
    obtain ⟨k,g⟩:=a
    simp only [List.map_cons,List.mem_cons,not_or] at h
    have:ieq v k=false:=by rw [ieq_iff];simpa using h.1
    simp only [lookI,this,Bool.false_eq_true,if_false]
    exact ih h.2
theorem mapAt_keys:∀ {es:List AEnt} {pl:List (Int × Int)} {ks:List Int},mapAt.go es=some pl→keyInts es=some ks→ks=pl.map (·.1)
  | [],pl,ks,h,h'=>by simp only [mapAt.go,keyInts,Option.some.injEq] at h h';subst h;subst h';rfl
  | a::es,pl,ks,h,h'=>by
    simp only [mapAt.go] at h
    split at h
    · rename_i k v l h1 h2 h3
      injection h with h;subst h
      simp only [keyInts,h1] at h'
      split at h'
      · rename_i k2 l2 q1 q2
        injection h' with h';subst h'
        injection q1 with _ q1
        rw [List.map_cons,← mapAt_keys h3 q2,q1]
      · cases h'
    · cases h
theorem look_find {v:Int}:∀ {es:List AEnt} {pl:List (Int × Int)},mapAt.go es=some pl→∀ i0,((lookI pl v).2=false→findKey .int (.int 3 v) es i0=some none)∧((lookI pl v).2=true→∃ i,findKey .int (.int 3 v) es i0=some (some (i,.int 3 (lookI pl v).1)))
  | [],pl,h,i0=>by simp only [mapAt.go,Option.some.injEq] at h;subst h;simp [lookI,findKey]
  | a::es,pl,h,i0=>by
    simp only [mapAt.go] at h
    split at h
    · rename_i k g l h1 h2 h3
      injection h with h;subst h
      have heq:eqv 64 .int (.int 3 v) (.int 3 k)=some (ieq v k):=by simp [eqv]
      cases hb:ieq v k with
      | true=>simp only [lookI,hb,if_true,findKey,h1,heq,h2];simp
      | false=>simp only [lookI,hb,Bool.false_eq_true,if_false,findKey,h1,heq];exact look_find h3 (i0+1)
    · cases h
theorem look_go {v:Int}:∀ {es:List AEnt} {pl:List (Int × Int)},mapAt.go es=some pl→(pl.map (·.1)).Nodup→((lookI pl v).2=false→findU.go .int (.int 3 v) es=some none)∧((lookI pl v).2=true→findU.go .int (.int 3 v) es=some (some (.int 3 (lookI pl v).1)))
  | [],pl,h,_=>by simp only [mapAt.go,Option.some.injEq] at h;subst h;simp [lookI,findU.go]
  | a::es,pl,h,hn=>by
    simp only [mapAt.go] at h
    split at h
    · rename_i k g l h1 h2 h3
      injection h with h;subst h
      simp only [List.map_cons,List.nodup_cons] at hn
      have heq:eqv 64 .int (.int 3 v) (.int 3 k)=some (ieq v k):=by simp [eqv]
      obtain ⟨g1,g2⟩:=look_go (v:=v) h3 hn.2
      cases hb:ieq v k with
      | true =>
        have hvk:v=k:=by have:=ieq_iff v k;rw [hb] at this;simpa using this.symm
        have hno:=g1 (by rw [hvk,lookI_none hn.1])
        simp only [lookI,hb,if_true,findU.go,h1,heq,hno,h2];simp
      | false =>
        simp only [lookI,hb,Bool.false_eq_true,if_false,findU.go,h1,heq]
        refine ⟨fun q=>by rw [g1 q],fun q=>by rw [g2 q]⟩
    · cases h
theorem look_map {env:Tree AV} {om ok_:Opd} {H:Heap} {pm:Pos} {v:Int} {pl:List (Int × Int)} {pks:List Int} (hm:gv env om=.map pm) (hk:gv env ok_=.int 3 v) (h1:mapAt H pm=some pl) (h2:keysAt H pm=some pks) :
    evalOp (.lookup .int (.int 3 (.ofNat 0)) true om ok_) env H=some (.tuple [.int 3 (lookI pl v).1,.bool (lookI pl v).2],H):=by
  obtain ⟨es,e1,e2,e3⟩:=keysAt_inv h2
  unfold mapAt at h1
  rw [e1] at h1
  have hnd:(pl.map (·.1)).Nodup:=by rw [← mapAt_keys h1 e2];exact e3
  obtain ⟨f1,f2⟩:=look_find (v:=v) h1 0
  obtain ⟨g1,g2⟩:=look_go (v:=v) h1 hnd
  have hz:(lookI pl v).2=false→(lookI pl v).1=0:=by
    clear f1 f2 g1 g2 h1 hnd
    induction pl with
    | nil=>intro _;rfl
    | cons a pl ih =>
      obtain ⟨k,g⟩:=a
      simp only [lookI]
      split
      · intro h;cases h
      · exact ih
  cases ho:H.get pm with
  | map es0 c =>
    rw [ho] at e1
    simp only [mapEnts,Option.some.injEq] at e1;subst e1
    cases hb:(lookI pl v).2 with
    | true =>
      obtain ⟨i,f2⟩:=f2 hb
      simp only [evalOp,keyOk,Bool.not_true,Bool.false_eq_true,if_false,hm,hk,ho,f2,if_true]
    | false =>
      rw [hz hb]
      simp only [evalOp,keyOk,Bool.not_true,Bool.false_eq_true,if_false,hm,hk,ho,f1 hb,if_true];rfl
  | umap es0 =>
    rw [ho] at e1
    simp only [mapEnts,Option.some.injEq] at e1;subst e1
    cases hb:(lookI pl v).2 with
    | true=>simp only [evalOp,keyOk,Bool.not_true,Bool.false_eq_true,if_false,hm,hk,ho,findU,simpleKey,g2 hb,if_true]
    | false=>rw [hz hb];simp only [evalOp,keyOk,Bool.not_true,Bool.false_eq_true,if_false,hm,hk,ho,findU,simpleKey,g1 hb,if_true];rfl
  | _=>rw [ho] at e1;simp [mapEnts] at e1
end
end Go.Abs
