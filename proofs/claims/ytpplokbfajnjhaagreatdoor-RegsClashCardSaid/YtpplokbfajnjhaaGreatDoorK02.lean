/- A part. No conditions. -/
import Derived.Test.YtpplokbfajnjhaaGreatDoorK00
import Derived.Test.YtpplokbfajnjhaaGreatDoorA03
import Derived.KernelRfl
import Derived.Test.YtpplokbfajnjhaaGreatDoorK01
set_option linter.all false
noncomputable section
namespace Go.al.R1
section
open Go.al Go.al.R
def qR(j:bY)(fr:Fr)(_:ai):Prop:=j=.ret/\fr.bA=[]/\fr.ac.get .ajS p0=.bool true
theorem afI:(Go.al.K.dQ lH 100000).exec c7 ⟨jp L7,[],none⟩ ⟨iF O7,X7⟩ qR=(bY.ret=bY.ret/\([]:List ah)=[]/\AV.bool true=AV.bool true):=by kernel_rfl
end
section
open Go.Proofs Go.al Go.al.R
theorem Pd{c:bm}{fr:Fr}{H:ai}{K:bY->Fr->ai->Prop}{C:Prop}(h:(Go.al.K.dQ lH 100000).exec c fr H K=C)(a:C):fP Tryz.prog 179 c fr H K:=fP.run Hi (((Go.al.K.Bj lH 100000).exec c fr H K).symm.trans h|>.mpr a)
theorem gN{c a:bm}{L:LV}{O:LO}{X:ah}{fr:Fr}{H:ai}{K:bY->Fr->ai->Prop}(b:c=.seq (hd c) a)(h:(Go.al.K.dQ lH 100000).exec (hd c) fr H (At L O X)=sf L O X)(d:fP Tryz.prog 179 a ⟨jp L,[],none⟩ ⟨iF O,X⟩ K):fP Tryz.prog 179 c fr H K:=by rw[b];exact fP.seq (Pd h (afz L O X)) λj f H' e=>fP.at (by omega) e d
theorem afJ:fP Tryz.prog 179 b5 ⟨.aR,[],none⟩ ⟨.aR,X0⟩ qR:=by
 have c:fP Tryz.prog 179 c7 ⟨jp L7,[],none⟩ ⟨iF O7,X7⟩ qR:=Pd afI ⟨rfl,rfl,rfl⟩;have d:fP Tryz.prog 179 c6 ⟨jp L6,[],none⟩ ⟨iF O6,X6⟩ qR:=gN (by kernel_rfl) afH c;have e:fP Tryz.prog 179 c5 ⟨jp L5,[],none⟩ ⟨iF O5,X5⟩ qR:=gN (by kernel_rfl) afG d;have f:fP Tryz.prog 179 c4 ⟨jp L4,[],none⟩ ⟨iF O4,X4⟩ qR:=gN (by kernel_rfl) afF e;have g:fP Tryz.prog 179 c3 ⟨jp L3,[],none⟩ ⟨iF O3,X3⟩ qR:=gN (by kernel_rfl) afE f;have h3:fP Tryz.prog 179 c2 ⟨jp L2,[],none⟩ ⟨iF O2,X2⟩ qR:=gN (by kernel_rfl) afD g;have h2:fP Tryz.prog 179 c1 ⟨jp L1,[],none⟩ ⟨iF O1,X1⟩ qR:=gN (by kernel_rfl) afC h3;have h1:fP Tryz.prog 179 c0 ⟨jp L0,[],none⟩ ⟨iF O0,X0⟩ qR:=gN (by kernel_rfl) afB h2;have h0:fP Tryz.prog 179 (hd b5) ⟨.aR,[],none⟩ ⟨.aR,X0⟩ (At L0 O0 X0):=by
  have hb:hd b5=.region [O p0 (.bg (C (.bool false)))]:=by kernel_rfl
  rw[hb];intro h i w cc b a;exact fP.run (ab:=lH.bp .none) Hi (n:=12) (show Xc (lH.bp .none) 12 (.region [O p0 (.bg (C (.bool false)))]) ⟨.aR,[],none⟩ ⟨.aR,X0⟩ (At L0 O0 X0)from Xc.region (Xo.op (v:=.bool false) rfl (Xo.nil ⟨rfl,rfl,rfl,rfl,trivial,trivial⟩)))
 have hb:b5=.seq (hd b5) c0:=by kernel_rfl
 rw[hb];intro h i w cc b a;exact fP.seq (K1:=At L0 O0 X0) h0 λj l H' k=>fP.at (by omega) k h1
theorem afK:uk Tryz.prog 5 As:=by refine afA ⟨⟨Tryz.f5,Tryz.func5,by kernel_rfl,by kernel_rfl⟩⟩ (n:=6) (by kernel_rfl) λ{d}{e}{w}c=>?_;refine afy (ab:=lH.bp .none) (args:=[]) Hi (f:=5) (nt:=179) (rs:=[.tmp p0]) (body:=b5) (by kernel_rfl) (by simp) (v:=.bool true) ?_ (by simp[aZ]) c;intro d e w cc b a f g c k cs;refine(afJ f g c k cs).mono ?_;rintro j fr H⟨rfl,h1,h2⟩;exact⟨trivial,h1,[.bool true],by simp only[fc,aip,h2],rfl⟩
end
end Go.al.R1
end
