/- A part of the proof. No conditions. -/
import Derived.Test.YtjhkgigolpfcfaaGreatDoorK00
import Derived.Test.YtjhkgigolpfcfaaGreatDoorA04
import Derived.KernelRfl
import Derived.Test.YtjhkgigolpfcfaaGreatDoorK01
set_option linter.all false
open Option renaming map_some→ahb
noncomputable section
namespace Go.ak.R1
section
open Go.ak Go.ak.R
def tp(j:cG)(fr:Fr)(_:af):Prop:=j=.ret∧fr.bF=[]∧fr.aa.get .aiw p0=.bool true
theorem afV:(Go.ak.K.eY mG 100000).exec c7 ⟨kE L7,[],none⟩ ⟨jL O7,X7⟩ tp=(cG.ret=cG.ret∧([]:List ac)=[]∧AV.bool true=AV.bool true):=by kernel_rfl
end
section
open Go.Proofs Go.ak Go.ak.R
theorem Qv{c:bp}{fr:Fr}{H:af}{K:cG→Fr→af→Prop}{C:Prop}(h:(Go.ak.K.eY mG 100000).exec c fr H K=C)(a:C):ig Tryz.prog 179 c fr H K:=ig.run ER (((Go.ak.K.Dm mG 100000).exec c fr H K).symm.trans h|>.mpr a)
theorem iT{c a:bp}{L:LV}{O:LO}{X:ac}{fr:Fr}{H:af}{K:cG→Fr→af→Prop}(b:c=.seq (hd c) a)(h:(Go.ak.K.eY mG 100000).exec (hd c) fr H (At L O X)=uN L O X)(d:ig Tryz.prog 179 a ⟨kE L,[],none⟩ ⟨jL O,X⟩ K):ig Tryz.prog 179 c fr H K:=by rw[b];exact ig.seq (Qv h (afM L O X)) λj f H' e=>ig.at (by omega) e d
theorem afW:ig Tryz.prog 179 yq ⟨.aJ,[],none⟩ ⟨.aJ,X0⟩ tp:=by
 have c:ig Tryz.prog 179 c7 ⟨kE L7,[],none⟩ ⟨jL O7,X7⟩ tp:=Qv afV ⟨rfl,rfl,rfl⟩;have d:ig Tryz.prog 179 c6 ⟨kE L6,[],none⟩ ⟨jL O6,X6⟩ tp:=iT (by kernel_rfl) afU c;have e:ig Tryz.prog 179 c5 ⟨kE L5,[],none⟩ ⟨jL O5,X5⟩ tp:=iT (by kernel_rfl) afT d;have f:ig Tryz.prog 179 c4 ⟨kE L4,[],none⟩ ⟨jL O4,X4⟩ tp:=iT (by kernel_rfl) afS e;have g:ig Tryz.prog 179 c3 ⟨kE L3,[],none⟩ ⟨jL O3,X3⟩ tp:=iT (by kernel_rfl) afR f;have h3:ig Tryz.prog 179 c2 ⟨kE L2,[],none⟩ ⟨jL O2,X2⟩ tp:=iT (by kernel_rfl) afQ g;have h2:ig Tryz.prog 179 c1 ⟨kE L1,[],none⟩ ⟨jL O1,X1⟩ tp:=iT (by kernel_rfl) afP h3;have h1:ig Tryz.prog 179 c0 ⟨kE L0,[],none⟩ ⟨jL O0,X0⟩ tp:=iT (by kernel_rfl) afO h2;have h0:ig Tryz.prog 179 (hd yq) ⟨.aJ,[],none⟩ ⟨.aJ,X0⟩ (At L0 O0 X0):=by
  have hb:hd yq=.region [O p0 (.bg (C (.bool false)))]:=by kernel_rfl
  rw[hb];intro h i w cc b a;exact ig.run (ab:=mG.bq .none) ER (n:=12) (show Xc (mG.bq .none) 12 (.region [O p0 (.bg (C (.bool false)))]) ⟨.aJ,[],none⟩ ⟨.aJ,X0⟩ (At L0 O0 X0)from Xc.region (Xo.op (v:=.bool false) rfl (Xo.nil ⟨rfl,rfl,rfl,rfl,trivial,trivial⟩)))
 have hb:yq=.seq (hd yq) c0:=by kernel_rfl
 rw[hb];intro h i w cc b a;exact ig.seq (K1:=At L0 O0 X0) h0 λj l H' k=>ig.at (by omega) k h1
theorem afX:wJ Tryz.prog 10 CB:=by refine afN ⟨⟨Tryz.f10,Tryz.func10,by kernel_rfl,by kernel_rfl⟩⟩ (n:=6) (by kernel_rfl) λ{d}{e}{w}c=>?_;refine afL (ab:=mG.bq .none) (args:=[]) ER (f:=10) (nt:=179) (rs:=[.tmp p0]) (body:=yq) (by kernel_rfl) (by simp) (v:=.bool true) ?_ (by simp[be]) c;intro d e w cc b a f g c k cs;refine(afW f g c k cs).mono ?_;rintro j fr H⟨rfl,h1,h2⟩;exact⟨trivial,h1,[.bool true],by simp only[gG,ahb,h2],rfl⟩
end
end Go.ak.R1
end
