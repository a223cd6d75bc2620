/- A part of the proof (an abstract machine, walks): no statement of its own, no conditions. -/
import Derived.Test.YtndbmjcpgefblaaGreatDoorA23
import Derived.Test.YtndbmjcpgefblaaGreatDoorA21
import Derived.Test.YtndbmjcpgefblaaGreatDoorA28
set_option linter.all false
namespace Go.Abs
section
variable [Ov]
variable {P:Program} {nt:Nat}
def SoundC (P:Program) (nt:Nat) (c:ACode) (fr:Fr) (H:Heap) (K:AJump→Fr→Heap→Prop):Prop :=
  ∀ {Wr:Acc} {ρ:Names} {w:World} {cc:Code} {b:Frame} {a:Act},cCode P nt cc=some c→FrR ρ nt fr b.roundOf a→Inv P Wr ρ H w→∀ (k:List Item) (cs:List Frame),Ends P Wr ρ nt w b k cs (lone (b.atR a (.code cc::k)) cs w) K
theorem SoundC.run {tbl:Nat→AFunc} (ht:TblOk P tbl) {n:Nat} {c:ACode} {fr:Fr} {H:Heap} {K:AJump→Fr→Heap→Prop} (he:exec False allAsk tbl n c fr H K):SoundC P nt c fr H K :=
  fun hc hF hI k cs=>(all_ok ht n).2.1 hc he hF hI k cs
theorem SoundC.weak {c:ACode} {env env':Tree AV} {m:List Pos} {r:Option Pos} {H Hs:Heap} {K:AJump→Fr→Heap→Prop} (hn:Hs.next=H.next) (hs:∀ i,Hs.get i=.none∨Hs.get i=H.get i) (hv:∀ t,t<nt→env'.get .undef (Pos.slot t)=.junk∨env'.get .undef (Pos.slot t)=env.get .undef (Pos.slot t)) (h:SoundC P nt c ⟨env',m,r⟩ Hs K):SoundC P nt c ⟨env,m,r⟩ H K:=by
  intro Wr ρ w cc b a hc hF hI k cs
  refine h hc ⟨⟨hF.E.1,fun t ht=>?_⟩,hF.D,hF.R⟩ (hI.sub hn fun i=>(hs i).symm) k cs
  rcases hv t ht with e | e
  · show VR ρ (env'.get .undef (Pos.slot t)) _;rw [e];simp only [VR]
  · show VR ρ (env'.get .undef (Pos.slot t)) _;rw [e];exact hF.E.2 t ht
theorem SoundC.seq {x y:ACode} {fr:Fr} {H:Heap} {K1 K:AJump→Fr→Heap→Prop} (h1:SoundC P nt x fr H K1) (h2:∀ j fr' H',K1 j fr' H'→j=.none∧SoundC P nt y fr' H' K):SoundC P nt (.seq x y) fr H K:=by
  intro Wr ρ w cc b a hc hF hI k cs
  induction cc generalizing k with
  | scope x ih =>
    simp only [cCode] at hc
    obtain ⟨j,fr',H',ρ',a',w',t,g1,g2,g3,g4,g5,g6,g7⟩:=ih hc (.inScope x::k)
    refine .of_steps (.one stepR_scope) (.of_steps g7 ?_)
    cases j with
    | none =>
      rw [show t=.inScope x::k from g6]
      exact .of_steps (.one stepR_inScope) ⟨.none,fr',H',ρ',a',w',k,g1,g2,g3,g4,g5,rfl,Steps.refl _ _⟩
    | exit id=>exact ⟨.exit id,fr',H',ρ',a',w',t,g1,g2,g3,g4,g5,g6.pass (fun _ _=>rfl) trivial,Steps.refl _ _⟩
    | ret=>exact ⟨.ret,fr',H',ρ',a',w',t,g1,g2,g3,g4,g5,g6.pass (fun _ _=>rfl) trivial,Steps.refl _ _⟩
  | seq cx cy _ _ =>
    simp only [cCode] at hc
    split at hc
    · rename_i ax ay hx hy
      injection hc with hc
      split at hc
      · cases hc
      injection hc with e1 e2
      subst e1;subst e2
      obtain ⟨j,fr',H',ρ',a',w',t,g1,g2,g3,g4,g5,g6,g7⟩:=h1 hx hF hI (.code cy::k) cs
      obtain ⟨rfl,g8⟩:=h2 j fr' H' g1
      refine .of_steps (.one stepR_seq) (.of_steps g7 ?_)
      rw [show t=.code cy::k from g6]
      exact .later g2 g5 (g8 hy g3 g4 k cs)
    · cases hc
  | region id ops draw=>simp only [cCode,Option.map_eq_some_iff] at hc;obtain ⟨_,_,h⟩:=hc;cases h
  | skip=>simp [cCode] at hc
  | label l=>simp [cCode] at hc
  | cond c0 x y _ _=>simp only [cCode] at hc;split at hc<;>simp at hc
  | block id x _=>simp only [cCode,Option.map_eq_some_iff] at hc;obtain ⟨_,_,h⟩:=hc;cases h
  | loop x _=>simp only [cCode,Option.map_eq_some_iff] at hc;obtain ⟨_,_,h⟩:=hc;cases h
  | _=>simp [cCode] at hc<;>(try (split at hc<;>simp at hc))
theorem calls_of_sound {tbl:Nat→AFunc} (ht:TblOk P tbl) {f:Nat} {rs:List ARes} {body:ACode} (hg:tbl f=.code nt rs body) {H:Heap} {v:AV} {args:List AV} (hl:args.length≤nt) (he:SoundC P nt body ⟨putArgs args .xH .leaf,[],none⟩ H fun j fr H'=>(match j with | .exit _=>False | _=>True)∧fr.marks=[]∧∃ l,readRes fr.env H' rs=some l∧v=resV l) {Wr:Acc} {ρ:Names} {w:World} {argv:Array Value} (ha:VRs ρ args argv.toList) (hI:Inv P Wr ρ H w) :
    Calls P f argv w fun e w'=>∃ H' c,e=.returned c∧Post P Wr ρ w v H' c w':=by
  intro cs
  obtain ⟨fn,hfn,hcf,hname⟩:=ht.code f nt rs body hg
  simp only [cFunc,Option.bind_eq_bind,Option.bind_eq_some_iff,Option.pure_def,Option.some.injEq,AFunc.code.injEq] at hcf
  obtain ⟨cc,hcc,body',hbody,rs',hrs,e1,e2,e3⟩:=hcf
  subst e1;subst e2;subst e3
  let b:Frame:={ (default:Frame) with fn:=f,kind:=.normal }
  let a:Act:={ tmps:=argv++Array.replicate (fn.ntmps-argv.size) undef,defers:=[] }
  have henter:Frame.enter P f argv .normal=b.atR a [.code cc]:=by
    simp only [Frame.enter,Frame.atR,hfn,hcc,b,a,Option.map_some,Option.getD_some,Option.bind_some]
    rfl
  have hF:FrR ρ fn.ntmps ⟨putArgs args .xH .leaf,[],none⟩ b.roundOf a:=⟨putArgs_sound ha hl,trivial,trivial⟩
  obtain ⟨j,fr',H',ρ',a',w',t,⟨h0,hm0,l,hl',hv'⟩,h2,h3,h4,h5,h6,h7⟩:=he hbody hF hI [] cs
  have hret:∃ fe:Frame,fe={ b.atR a' fe.todo with mode:=.returning }∧step P (lone (b.atR a' t) cs w')=.next (lone fe cs w'):=by
    cases j with
    | none=>rw [show t=[] from h6];exact ⟨_,rfl,stepR_end rfl⟩
    | exit id=>exact h0.elim
    | ret=>obtain ⟨k0,rfl⟩:=h6;exact ⟨_,rfl,stepR_ret rfl⟩
  obtain ⟨fe,hfe,hst⟩:=hret
  have hm:takeMarks H' fr'.marks=some H':=by rw [hm0];rfl
  have hfed:fe={ fe with defers:=a'.defers }:=by rw [hfe];rfl
  obtain ⟨w2,s1,s2,s3⟩:=takeMarks_sound h4 h3.D hm fe cs (by rw [hfe])
  rw [← hfed] at s1
  obtain ⟨c,hc,hv⟩:=readRes_sound s2 h3.E hrs hl'
  subst hv'
  refine ⟨.returned c,w2,{ fe with defers:=[] },⟨H',c,rfl,ρ',h2,hv,s2,h5.trans s3⟩,?_,?_,?_⟩
  · rw [henter]
    exact h7.trans (.head hst s1)
  · show fe.fn=f
    rw [hfe];rfl
  · refine ⟨by rw [hfe],rfl,by rw [hfe];rfl,fn,by rw [hfe];exact hfn,?_⟩
    rw [hfe];exact hc
abbrev LV:=List (Pos × AV)
abbrev LO:=List (Pos × AObj)
def AllE:LV→Tree AV→Prop
  | [],_=>True
  | (p,v)::l,e=>e.get .undef p=v∧AllE l e
def AllO:LO→Heap→Prop
  | [],_=>True
  | (p,o)::l,H=>H.get p=o∧AllO l H
def SelfE:LV→Prop
  | []=>True
  | (_,v)::l=>v=v∧SelfE l
def SelfO:LO→Prop
  | []=>True
  | (_,o)::l=>o=o∧SelfO l
theorem selfE:∀ l,SelfE l
  | []=>trivial
  | _::l=>⟨rfl,selfE l⟩
theorem selfO:∀ l,SelfO l
  | []=>trivial
  | _::l=>⟨rfl,selfO l⟩
def At (L:LV) (O:LO) (X:Pos) (j:AJump) (fr:Fr) (H:Heap):Prop:=j=.none∧fr.marks=[]∧fr.rnd=none∧H.next=X∧AllE L fr.env∧AllO O H
def SelfAt (L:LV) (O:LO) (X:Pos):Prop:=AJump.none=AJump.none∧([]:List Pos)=[]∧(none:Option Pos)=none∧X=X∧SelfE L∧SelfO O
theorem selfAt (L:LV) (O:LO) (X:Pos):SelfAt L O X:=⟨rfl,rfl,rfl,rfl,selfE L,selfO O⟩
def jt:Nat→Tree AV
  | 0=>.leaf
  | n+1=>.node (jt n) .junk (jt n)
def mkEnv:LV→Tree AV
  | []=>jt 8
  | (p,v)::l=>(mkEnv l).set .undef p v
def mkObjs:LO→Tree AObj
  | []=>.leaf
  | (p,o)::l=>(mkObjs l).set .none p o
theorem jt_get:∀ (n:Nat) (p:Pos),p.idx<2 ^ n→(jt n).get .undef p=.junk
  | 0,p,h=>by have:=Pos.idx_pos p;simp at h;omega
  | n+1,.xH,_=>rfl
  | n+1,.xO p,h=>by
    have:p.idx<2 ^ n:=by simp only [Pos.idx] at h;rw [Nat.pow_succ] at h;omega
    exact jt_get n p this
  | n+1,.xI p,h=>by
    have:p.idx<2 ^ n:=by simp only [Pos.idx] at h;rw [Nat.pow_succ] at h;omega
    exact jt_get n p this
theorem mkEnv_get {q:Pos} (hq:q.idx<256):∀ {L:LV} {e:Tree AV},AllE L e→(mkEnv L).get .undef q=.junk∨(mkEnv L).get .undef q=e.get .undef q
  | [],e,_=>.inl (jt_get 8 q (by simpa using hq))
  | (p,v)::l,e,h=>by
    simp only [mkEnv,Tree.get_set]
    split
    · rename_i hp;right;rw [hp,h.1]
    · exact mkEnv_get hq h.2
theorem Heap.get_leaf_none':∀ q:Pos,(Tree.leaf:Tree AObj).get .none q=.none
  | .xH=>rfl
  | .xO p=>Heap.get_leaf_none' p
  | .xI p=>Heap.get_leaf_none' p
theorem mkObjs_get {q:Pos}:∀ {O:LO} {H:Heap},AllO O H→(mkObjs O).get .none q=.none∨(mkObjs O).get .none q=H.get q
  | [],H,_=>.inl (Heap.get_leaf_none' q)
  | (p,o)::l,H,h=>by
    simp only [mkObjs,Tree.get_set]
    split
    · rename_i hp;right;rw [hp,h.1]
    · exact mkObjs_get h.2
theorem SoundC.at {c:ACode} {K:AJump→Fr→Heap→Prop} {L:LV} {O:LO} {X:Pos} {j:AJump} {fr:Fr} {H:Heap} (hnt:nt≤255) (h:At L O X j fr H) (hk:SoundC P nt c ⟨mkEnv L,[],none⟩ ⟨mkObjs O,X⟩ K):j=.none∧SoundC P nt c fr H K:=by
  obtain ⟨h1,h2,h3,h4,h5,h6⟩:=h
  obtain ⟨env,m,r⟩:=fr
  simp only at h2 h3 h5
  subst h2;subst h3
  exact ⟨h1,SoundC.weak (Hs:=⟨mkObjs O,X⟩) h4.symm (fun i=>show (mkObjs O).get .none i=.none∨(mkObjs O).get .none i=H.get i from mkObjs_get h6) (fun t ht=>mkEnv_get (by rw [Pos.idx_slot];omega) h5) hk⟩
end
end Go.Abs
namespace Go.Abs
section
variable [Ov]
variable {P:Program}
def gKnown (args:List AV) (H:Heap):Option (AV × Heap) :=
  match args with
  | []=>some (.bool true,H)
  | _=>none
theorem gKnown_ok {f n:Nat} (hf:HasBody P f) (hn:P.globals.size=n) (h:∀ {Wr:Acc} {ρ:Names} {w:World},Inv P Wr ρ ⟨.leaf,Pos.slot n⟩ w→Calls P f #[] w fun e w'=>∃ H' c,e=.returned c∧Post P Wr ρ w (.bool true) H' c w'):PrimOk P f gKnown:=by
  intro Wr ρ H H' w args v argv hg ha hI fr cs hat
  unfold gKnown at hg
  split at hg
  case h_2=>cases hg
  injection hg with hg;injection hg with hg1 hg2
  subst hg1;subst hg2
  obtain ⟨l⟩:=argv
  cases l with
  | cons _ _=>simp [VRs] at ha
  | nil =>
    have hsz:n≤w.heap.size:=by
      cases n with
      | zero=>exact Nat.zero_le _
      | succ n=>exact hI.dom _ _ _ (hI.glob n (by omega))
    refine comes_of_calls hf (h (init_inv hn hsz)) ?_ fr cs hat
    rintro e w' ⟨H',c,rfl,ρ',hx,hv,hI',hk⟩
    refine ⟨c,rfl,ρ,Ext.refl ρ,?_,?_⟩
    · cases c<;>simp only [VR] at hv ⊢
      exact hv
    · refine Inv.grow hI (os:=w'.heap.extract w.heap.size w'.heap.size) ?_ hk.os hk.tape hk.output
      apply Array.ext_getElem?
      intro i
      rw [Array.getElem?_append]
      split
      · rename_i hi
        exact hk.block i hi (by show ¬ (w.heap.size≤i);omega)
      · rename_i hi
        rw [Array.getElem?_extract]
        split
        · congr 1;omega
        · rw [Array.getElem?_eq_none (by omega)]
end
end Go.Abs
namespace Go.Abs.R1
open Go.Abs
def nd (v:AV):Tree AV:=.node .leaf v .leaf
def hd:ACode→ACode
  | .seq a _=>a
  | c=>c
def tl:ACode→ACode
  | .seq _ b=>b
  | c=>c
def L0:LV:=[]
def O0:LO:=[]
def X0:Pos:=Pos.slot 6
def c0:ACode:=tl b5
def c1:ACode:=tl c0
def c2:ACode:=tl c1
def c3:ACode:=tl c2
def c4:ACode:=tl c3
def c5:ACode:=tl c4
def c6:ACode:=tl c5
def c7:ACode:=tl c6
def L1:LV:=[(p1,(.slice (.xI (.xO (.xO (.xI (.xO (.xO (.xI (.xI (.xO (.xI .xH)))))))))) 0 3 3 false)),(p2,(i 3 0))]++L0
def O1:LO:=[((.xI (.xI (.xI (.xO (.xO (.xO (.xI (.xI (.xO (.xI .xH)))))))))),.cells (.node (nd (i 3 4)) (i 3 3) (nd (i 3 6))) 3 3 true [] 0),((.xI (.xO (.xO (.xO (.xO (.xO (.xI (.xI (.xO (.xI .xH)))))))))),.cells (.node (nd (i 3 4)) (i 3 3) .leaf) 2 3 true [] 0),((.xO (.xO (.xI (.xO (.xO (.xO (.xI (.xI (.xO (.xI .xH)))))))))),.cells (.node (nd (i 3 4)) (i 3 3) (nd (i 3 5))) 3 3 true [] 0),((.xI (.xO (.xO (.xI (.xO (.xO (.xI (.xI (.xO (.xI .xH)))))))))),.cells (.node (.node .leaf (.slice (.xO (.xO (.xI (.xO (.xO (.xO (.xI (.xI (.xO (.xI .xH)))))))))) 0 3 3 false) .leaf) (.slice (.xI (.xO (.xO (.xO (.xO (.xO (.xI (.xI (.xO (.xI .xH)))))))))) 0 2 2 false) (.node .leaf (.slice (.xI (.xI (.xI (.xO (.xO (.xO (.xI (.xI (.xO (.xI .xH)))))))))) 0 3 3 false) .leaf)) 3 22 true [(.xO (.xI (.xI (.xO (.xO (.xO (.xI (.xI (.xO (.xI .xH)))))))))),(.xI (.xI (.xO (.xO (.xO (.xO (.xI (.xI (.xO (.xI .xH))))))))))] 0)]++O0
def X1:Pos:=(.xO (.xI (.xO (.xI (.xO (.xO (.xI (.xI (.xO (.xI .xH))))))))))
def L2:LV:=[(p3,(.slice (.xO (.xO (.xO (.xI (.xO (.xI (.xO (.xI (.xI (.xO (.xI .xH))))))))))) 0 7 7 false)),(p4,(i 3 0))]++L1
def O2:LO:=[((.xO (.xI (.xI (.xO (.xO (.xI (.xO (.xI (.xI (.xO (.xI .xH))))))))))),.cells (.node (nd (i 3 10)) (i 3 7) .leaf) 2 3 true [] 0),((.xO (.xI (.xO (.xI (.xI (.xO (.xO (.xI (.xI (.xO (.xI .xH))))))))))),.cells (.node (nd (i 3 7)) (i 3 3) .leaf) 2 3 true [] 0),((.xO (.xO (.xO (.xO (.xO (.xI (.xO (.xI (.xI (.xO (.xI .xH))))))))))),.cells (.node (nd (i 3 7)) (i 3 3) (nd (i 3 9))) 3 3 true [] 0),((.xO (.xO (.xI (.xO (.xI (.xO (.xO (.xI (.xI (.xO (.xI .xH))))))))))),.cells (.node (nd (i 3 4)) (i 3 3) .leaf) 2 3 true [] 0),((.xI (.xI (.xO (.xO (.xO (.xI (.xO (.xI (.xI (.xO (.xI .xH))))))))))),.cells (.node (nd (i 3 10)) (i 3 7) .leaf) 2 3 true [] 0),((.xI (.xI (.xI (.xO (.xI (.xO (.xO (.xI (.xI (.xO (.xI .xH))))))))))),.cells (.node (nd (i 3 4)) (i 3 3) .leaf) 2 3 true [] 0),((.xI (.xO (.xI (.xI (.xI (.xO (.xO (.xI (.xI (.xO (.xI .xH))))))))))),.cells (.node (nd (i 3 7)) (i 3 3) .leaf) 2 3 true [] 0),((.xO (.xO (.xO (.xI (.xO (.xI (.xO (.xI (.xI (.xO (.xI .xH))))))))))),.cells (.node (.node (.node .leaf (.slice (.xI (.xO (.xI (.xI (.xI (.xO (.xO (.xI (.xI (.xO (.xI .xH))))))))))) 0 2 2 false) .leaf) (.slice (.xI (.xI (.xI (.xO (.xI (.xO (.xO (.xI (.xI (.xO (.xI .xH))))))))))) 0 2 2 false) (.node .leaf (.slice (.xI (.xI (.xO (.xO (.xO (.xI (.xO (.xI (.xI (.xO (.xI .xH))))))))))) 0 2 2 false) .leaf)) (.slice (.xO (.xO (.xI (.xO (.xI (.xO (.xO (.xI (.xI (.xO (.xI .xH))))))))))) 0 2 2 false) (.node (.node .leaf (.slice (.xO (.xO (.xO (.xO (.xO (.xI (.xO (.xI (.xI (.xO (.xI .xH))))))))))) 0 3 3 false) .leaf) (.slice (.xO (.xI (.xO (.xI (.xI (.xO (.xO (.xI (.xI (.xO (.xI .xH))))))))))) 0 2 2 false) (.node .leaf (.slice (.xO (.xI (.xI (.xO (.xO (.xI (.xO (.xI (.xI (.xO (.xI .xH))))))))))) 0 2 2 false) .leaf))) 7 22 true [(.xI (.xO (.xI (.xO (.xO (.xI (.xO (.xI (.xI (.xO (.xI .xH))))))))))),(.xO (.xI (.xO (.xO (.xO (.xI (.xO (.xI (.xI (.xO (.xI .xH))))))))))),(.xI (.xI (.xI (.xI (.xI (.xO (.xO (.xI (.xI (.xO (.xI .xH))))))))))),(.xO (.xO (.xI (.xI (.xI (.xO (.xO (.xI (.xI (.xO (.xI .xH))))))))))),(.xI (.xO (.xO (.xI (.xI (.xO (.xO (.xI (.xI (.xO (.xI .xH))))))))))),(.xO (.xI (.xI (.xO (.xI (.xO (.xO (.xI (.xI (.xO (.xI .xH)))))))))))] 0)]++O1
def X2:Pos:=(.xI (.xO (.xO (.xI (.xO (.xI (.xO (.xI (.xI (.xO (.xI .xH)))))))))))
def L3:LV:=[(p5,(i 3 3)),(p6,(i 3 0))]++L2
def O3:LO:=[]++O2
def X3:Pos:=(.xO (.xO (.xO (.xI (.xO (.xO (.xO (.xO (.xI (.xO (.xI (.xO .xH))))))))))))
def L4:LV:=[(p7,(.slice (.xI (.xO (.xO (.xI (.xI (.xI (.xO (.xI (.xO (.xO (.xI (.xI .xH)))))))))))) 0 13 13 false)),(p8,(i 3 0))]++L3
def O4:LO:=[((.xI (.xO (.xI (.xO (.xO (.xI (.xO (.xI (.xO (.xO (.xI (.xI .xH)))))))))))),.cells (.node (nd (i 3 4)) (i 3 3) .leaf) 2 3 true [] 0),((.xI (.xO (.xO (.xO (.xI (.xI (.xO (.xI (.xO (.xO (.xI (.xI .xH)))))))))))),.cells (.node (nd (i 3 11)) (i 3 7) .leaf) 2 3 true [] 0),((.xI (.xO (.xO (.xI (.xI (.xO (.xO (.xI (.xO (.xO (.xI (.xI .xH)))))))))))),.cells (nd (i 3 0)) 1 3 true [] 0),((.xI (.xI (.xI (.xO (.xI (.xI (.xO (.xI (.xO (.xO (.xI (.xI .xH)))))))))))),.cells (nd (i 3 4)) 1 3 true [] 0),((.xI (.xI (.xI (.xI (.xI (.xO (.xO (.xI (.xO (.xO (.xI (.xI .xH)))))))))))),.cells (.node (.node (nd (i 3 12)) (i 3 5) .leaf) (i 3 3) (nd (i 3 6))) 4 3 true [] 0),((.xI (.xI (.xO (.xI (.xO (.xI (.xO (.xI (.xO (.xO (.xI (.xI .xH)))))))))))),.cells (.node (nd (i 3 7)) (i 3 3) .leaf) 2 3 true [] 0),((.xI (.xI (.xO (.xO (.xI (.xO (.xO (.xI (.xO (.xO (.xI (.xI .xH)))))))))))),.cells (.node (nd (i 3 2)) (i 3 1) .leaf) 2 3 true [] 0),((.xO (.xI (.xO (.xO (.xO (.xI (.xO (.xI (.xO (.xO (.xI (.xI .xH)))))))))))),.cells (.node (nd (i 3 4)) (i 3 3) .leaf) 2 3 true [] 0),((.xO (.xI (.xI (.xI (.xO (.xI (.xO (.xI (.xO (.xO (.xI (.xI .xH)))))))))))),.cells (.node (nd (i 3 7)) (i 3 3) .leaf) 2 3 true [] 0),((.xO (.xI (.xI (.xO (.xI (.xO (.xO (.xI (.xO (.xO (.xI (.xI .xH)))))))))))),.cells (nd (i 3 0)) 1 3 true [] 0),((.xO (.xO (.xI (.xO (.xI (.xI (.xO (.xI (.xO (.xO (.xI (.xI .xH)))))))))))),.cells (.node (nd (i 3 10)) (i 3 7) .leaf) 2 3 true [] 0),((.xO (.xO (.xI (.xI (.xI (.xO (.xO (.xI (.xO (.xO (.xI (.xI .xH)))))))))))),.cells (.node (.node (nd (i 3 7)) (i 3 5) (nd (i 3 9))) (i 3 4) (.node (nd (i 3 8)) (i 3 6) .leaf)) 6 3 true [] 0),((.xO (.xO (.xO (.xI (.xO (.xI (.xO (.xI (.xO (.xO (.xI (.xI .xH)))))))))))),.cells (.node (.node (nd (i 3 10)) (i 3 8) .leaf) (i 3 3) (.node (nd (i 3 11)) (i 3 9) .leaf)) 5 3 true [] 0),((.xI (.xO (.xO (.xI (.xI (.xI (.xO (.xI (.xO (.xO (.xI (.xI .xH)))))))))))),.cells (.node (.node (.node (.node .leaf (.slice (.xO (.xO (.xO (.xI (.xO (.xI (.xO (.xI (.xO (.xO (.xI (.xI .xH)))))))))))) 0 5 5 false) .leaf) (.slice (.xO (.xO (.xI (.xI (.xI (.xO (.xO (.xI (.xO (.xO (.xI (.xI .xH)))))))))))) 0 6 6 false) (.node .leaf (.slice (.xO (.xO (.xI (.xO (.xI (.xI (.xO (.xI (.xO (.xO (.xI (.xI .xH)))))))))))) 0 2 2 false) .leaf)) (.slice (.xO (.xI (.xI (.xO (.xI (.xO (.xO (.xI (.xO (.xO (.xI (.xI .xH)))))))))))) 0 1 1 false) (.node (.node .leaf (.slice (.xO (.xI (.xI (.xI (.xO (.xI (.xO (.xI (.xO (.xO (.xI (.xI .xH)))))))))))) 0 2 2 false) .leaf) (.slice (.xO (.xI (.xO (.xO (.xO (.xI (.xO (.xI (.xO (.xO (.xI (.xI .xH)))))))))))) 0 2 2 false) .leaf)) (.slice (.xI (.xI (.xO (.xO (.xI (.xO (.xO (.xI (.xO (.xO (.xI (.xI .xH)))))))))))) 0 2 2 false) (.node (.node (.node .leaf (.slice (.xI (.xI (.xO (.xI (.xO (.xI (.xO (.xI (.xO (.xO (.xI (.xI .xH)))))))))))) 0 2 2 false) .leaf) (.slice (.xI (.xI (.xI (.xI (.xI (.xO (.xO (.xI (.xO (.xO (.xI (.xI .xH)))))))))))) 0 4 4 false) (.node .leaf (.slice (.xI (.xI (.xI (.xO (.xI (.xI (.xO (.xI (.xO (.xO (.xI (.xI .xH)))))))))))) 0 1 1 false) .leaf)) (.slice (.xI (.xO (.xO (.xI (.xI (.xO (.xO (.xI (.xO (.xO (.xI (.xI .xH)))))))))))) 0 1 1 false) (.node (.node .leaf (.slice (.xI (.xO (.xO (.xO (.xI (.xI (.xO (.xI (.xO (.xO (.xI (.xI .xH)))))))))))) 0 2 2 false) .leaf) (.slice (.xI (.xO (.xI (.xO (.xO (.xI (.xO (.xI (.xO (.xO (.xI (.xI .xH)))))))))))) 0 2 2 false) .leaf))) 13 22 true [(.xO (.xI (.xI (.xO (.xI (.xI (.xO (.xI (.xO (.xO (.xI (.xI .xH)))))))))))),(.xI (.xI (.xO (.xO (.xI (.xI (.xO (.xI (.xO (.xO (.xI (.xI .xH)))))))))))),(.xO (.xO (.xO (.xO (.xI (.xI (.xO (.xI (.xO (.xO (.xI (.xI .xH)))))))))))),(.xI (.xO (.xI (.xI (.xO (.xI (.xO (.xI (.xO (.xO (.xI (.xI .xH)))))))))))),(.xO (.xI (.xO (.xI (.xO (.xI (.xO (.xI (.xO (.xO (.xI (.xI .xH)))))))))))),(.xI (.xI (.xI (.xO (.xO (.xI (.xO (.xI (.xO (.xO (.xI (.xI .xH)))))))))))),(.xO (.xO (.xI (.xO (.xO (.xI (.xO (.xI (.xO (.xO (.xI (.xI .xH)))))))))))),(.xI (.xO (.xO (.xO (.xO (.xI (.xO (.xI (.xO (.xO (.xI (.xI .xH)))))))))))),(.xO (.xI (.xI (.xI (.xI (.xO (.xO (.xI (.xO (.xO (.xI (.xI .xH)))))))))))),(.xI (.xI (.xO (.xI (.xI (.xO (.xO (.xI (.xO (.xO (.xI (.xI .xH)))))))))))),(.xO (.xO (.xO (.xI (.xI (.xO (.xO (.xI (.xO (.xO (.xI (.xI .xH)))))))))))),(.xI (.xO (.xI (.xO (.xI (.xO (.xO (.xI (.xO (.xO (.xI (.xI .xH))))))))))))] 0)]++O3
def X4:Pos:=(.xO (.xI (.xO (.xI (.xI (.xI (.xO (.xI (.xO (.xO (.xI (.xI .xH))))))))))))
def L5:LV:=[(p9,(.slice (.xO (.xO (.xO (.xI (.xO (.xO (.xI (.xO (.xO (.xO (.xI (.xO (.xO .xH))))))))))))) 0 13 13 true)),(p10,(i 3 0))]++L4
def O5:LO:=[((.xO (.xO (.xO (.xI (.xO (.xO (.xI (.xO (.xO (.xO (.xI (.xO (.xO .xH))))))))))))),.cells (.node (.node (.node (nd (i 3 1)) (i 3 0) (nd (i 3 2))) (i 3 1) (.node (nd (i 3 2)) (i 3 2) .leaf)) (i 3 0) (.node (.node (nd (i 3 2)) (i 3 1) (nd (i 3 0))) (i 3 1) (.node (nd (i 3 0)) (i 3 2) .leaf))) 13 3 true [] 0)]++O4
def X5:Pos:=(.xI (.xI (.xO (.xO (.xI (.xI (.xI (.xO (.xO (.xO (.xI (.xO (.xO .xH)))))))))))))
def L6:LV:=[(p11,(.slice (.xO (.xO (.xI (.xO (.xI (.xO (.xI (.xI (.xO (.xO (.xI (.xO (.xO .xH))))))))))))) 0 4 4 false)),(p12,(i 3 0))]++L5
def O6:LO:=[((.xO (.xO (.xI (.xO (.xI (.xO (.xI (.xI (.xO (.xO (.xI (.xO (.xO .xH))))))))))))),.cells (.node (.node (.node (nd (i 3 9)) (i 3 1) .leaf) (i 3 0) (nd (i 3 2))) (i 3 9) (.node (nd (i 3 1)) (i 3 0) (nd (i 3 2)))) 8 36 true [(.xI (.xO (.xO (.xO (.xI (.xO (.xI (.xI (.xO (.xO (.xI (.xO (.xO .xH))))))))))))),(.xO (.xI (.xI (.xI (.xO (.xO (.xI (.xI (.xO (.xO (.xI (.xO (.xO .xH))))))))))))),(.xI (.xI (.xO (.xI (.xO (.xO (.xI (.xI (.xO (.xO (.xI (.xO (.xO .xH)))))))))))))] 0)]++O5
def X6:Pos:=(.xI (.xO (.xI (.xO (.xI (.xO (.xI (.xI (.xO (.xO (.xI (.xO (.xO .xH)))))))))))))
def L7:LV:=[(p13,(.slice (.xI (.xI (.xI (.xO (.xO (.xO (.xO (.xO (.xI (.xO (.xI (.xO (.xO .xH))))))))))))) 0 2 2 false)),(p14,(i 3 0))]++L6
def O7:LO:=[((.xI (.xI (.xI (.xO (.xO (.xO (.xO (.xO (.xI (.xO (.xI (.xO (.xO .xH))))))))))))),.cells (.node (.node (nd (i 3 5)) (i 3 0) .leaf) (i 3 1) (nd (i 3 0))) 4 36 true [(.xO (.xO (.xI (.xO (.xO (.xO (.xO (.xO (.xI (.xO (.xI (.xO (.xO .xH)))))))))))))] 0)]++O6
def X7:Pos:=(.xO (.xO (.xO (.xI (.xO (.xO (.xO (.xO (.xI (.xO (.xI (.xO (.xO .xH)))))))))))))
end Go.Abs.R1
