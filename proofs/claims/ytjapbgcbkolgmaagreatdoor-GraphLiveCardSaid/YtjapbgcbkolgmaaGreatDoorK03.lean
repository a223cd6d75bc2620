/- A part. No conditions. -/
import Derived.Test.YtjapbgcbkolgmaaGreatDoorK00
import Derived.Test.YtjapbgcbkolgmaaGreatDoorA04
import Derived.KernelRfl
import Derived.Test.YtjapbgcbkolgmaaGreatDoorK01
import Derived.Test.YtjapbgcbkolgmaaGreatDoorK02
set_option linter.all false
noncomputable section
namespace Go.al.R1
theorem aeI:(Go.al.K.dq kX 100000).call (.func 51 [] []) Pq ⟨fP IZ,Pr⟩ (Ey I0 I1 I3)=Ez I0 I1 I3:=by kernel_rfl
def aeE:List (Nat×aX):=(48,.gf (Be Po IV Pp IW IX IY))::(51,.gf (Be Pq IZ Pr I0 I1 I3))::Bf
def Pt:ak aX:=sF 10 (sG aeE)
theorem aeF:(Go.al.K.dq Pt 100000).exec (hd c7) ⟨kC L7,[],none⟩ ⟨fP O7,X7⟩ (At L8 O8 X8)=pO L8 O8 X8:=by kernel_rfl
section
open Go.Proofs Go.al
theorem Pu{f:Nat}{A:List AV}{O a:LO}{X b:af}{V:AV}(h:(Go.al.K.dq kX 100000).call (.func f [] []) A ⟨fP O,X⟩ (Ey V a b)=Ez V a b):kN Tryz.prog f (.gf (Be A O X V a b)):=aep oP (((Go.al.K.zU kX 100000).call _ _ _ _).symm.trans h|>.mpr (aeo V a b))
theorem aeJ:fM Tryz.prog (Pt.bp .none):=Pm (wg (Cl ⟨Pu aeH,Pu aeI,Pg,Pj,Pk,trivial⟩))
theorem Pv{t:ak aX}(a:fM Tryz.prog (t.bp .none)){c:bg}{fr:Fr}{H:ah}{K:bU->Fr->ah->Prop}{C:Prop}(h:(Go.al.K.dq t 100000).exec c fr H K=C)(b:C):gQ Tryz.prog 246 c fr H K:=gQ.run a (((Go.al.K.zU t 100000).exec c fr H K).symm.trans h|>.mpr b)
theorem fW{t:ak aX}(b:fM Tryz.prog (t.bp .none)){c a:bg}{L:LV}{O:LO}{X:af}{fr:Fr}{H:ah}{K:bU->Fr->ah->Prop}(h:(Go.al.K.dq t 100000).exec (hd c) fr H (At L O X)=pO L O X)(d:gQ Tryz.prog 246 a ⟨kC L,[],none⟩ ⟨fP O,X⟩ K)(e:c=.seq (hd c) a:=by kernel_rfl):gQ Tryz.prog 246 c fr H K:=by rw[e];exact gQ.seq (Pv b h (ael L O X)) λj g i f=>gQ.at (by omega) f d
theorem aeK:gQ Tryz.prog 246 b5 ⟨.aG,[],none⟩ ⟨.aG,X0⟩ EA:=by
 have d:gQ Tryz.prog 246 c8 ⟨kC L8,[],none⟩ ⟨fP O8,X8⟩ EA:=Pv oP aeG ⟨rfl,rfl,rfl⟩;have h1:gQ Tryz.prog 246 c0 ⟨kC L0,[],none⟩ ⟨fP O0,X0⟩ EA:=fW oP aex (fW oP aey (fW oP aez (fW oP aeA (fW oP aeB (fW oP aeC (fW oP aeD (fW aeJ aeF d)))))));have h0:gQ Tryz.prog 246 (hd b5) ⟨.aG,[],none⟩ ⟨.aG,X0⟩ (At L0 O0 X0):=by
  have hb:hd b5=.region [⟨some (z 1),.aR (.c (.bool false)),none,[],[]⟩]:=by kernel_rfl
  rw[hb];intro e f w cc b a;exact gQ.run (ac:=kX.bp .none) oP (n:=12) (show Xc (kX.bp .none) 12 (.region [⟨some (z 1),.aR (.c (.bool false)),none,[],[]⟩]) ⟨.aG,[],none⟩ ⟨.aG,X0⟩ (At L0 O0 X0)from Xc.region (Xo.op (v:=.bool false) rfl (Xo.nil ⟨rfl,rfl,rfl,rfl,trivial,trivial⟩)))
 have hb:b5=.seq (hd b5) c0:=by kernel_rfl
 rw[hb];intro e f w cc b a;exact gQ.seq (K1:=At L0 O0 X0) h0 λj h i g=>gQ.at (by omega) g h1
theorem aeL:rp Tryz.prog 5 Bc:=by refine aem ⟨⟨Tryz.f5,Tryz.func5,by kernel_rfl,by kernel_rfl⟩⟩ (n:=6) (by kernel_rfl) λ{d}{e}{w}c=>?_;refine aek (ac:=kX.bp .none) (args:=[]) oP (f:=5) (nt:=246) (rs:=[.tmp (z 1)]) (body:=b5) (by kernel_rfl) (by simp) (v:=.bool true) ?_ (by simp[aQ]) c;intro d e w cc b a f g c k cs;refine(aeK f g c k cs).mono ?_;rintro j fr H⟨rfl,h1,h2⟩;exact⟨trivial,h1,[.bool true],by simp only[ef,afL,h2],rfl⟩
end
end Go.al.R1
end
