/- A part of the proof. No conditions. -/
import Derived.Test.YtjhkgigolpfcfaaGreatDoorK00
import Derived.Test.YtjhkgigolpfcfaaGreatDoorA04
import Derived.KernelRfl
set_option linter.all false
noncomputable section
namespace Go.ak.R1
section
open Go.ak Go.ak.R
theorem afO:(Go.ak.K.eY mG 100000).exec (hd c0) ⟨kE L0,[],none⟩ ⟨jL O0,X0⟩ (At L1 O1 X1)=uN L1 O1 X1:=by kernel_rfl
end
section
open Go.ak Go.ak.R
theorem afP:(Go.ak.K.eY mG 100000).exec (hd c1) ⟨kE L1,[],none⟩ ⟨jL O1,X1⟩ (At L2 O2 X2)=uN L2 O2 X2:=by kernel_rfl
end
section
open Go.ak Go.ak.R
theorem afQ:(Go.ak.K.eY mG 100000).exec (hd c2) ⟨kE L2,[],none⟩ ⟨jL O2,X2⟩ (At L3 O3 X3)=uN L3 O3 X3:=by kernel_rfl
end
section
open Go.ak Go.ak.R
theorem afR:(Go.ak.K.eY mG 100000).exec (hd c3) ⟨kE L3,[],none⟩ ⟨jL O3,X3⟩ (At L4 O4 X4)=uN L4 O4 X4:=by kernel_rfl
end
section
open Go.ak Go.ak.R
theorem afS:(Go.ak.K.eY mG 100000).exec (hd c4) ⟨kE L4,[],none⟩ ⟨jL O4,X4⟩ (At L5 O5 X5)=uN L5 O5 X5:=by kernel_rfl
end
section
open Go.ak Go.ak.R
theorem afT:(Go.ak.K.eY mG 100000).exec (hd c5) ⟨kE L5,[],none⟩ ⟨jL O5,X5⟩ (At L6 O6 X6)=uN L6 O6 X6:=by kernel_rfl
end
section
open Go.ak Go.ak.R
theorem afU:(Go.ak.K.eY mG 100000).exec (hd c6) ⟨kE L6,[],none⟩ ⟨jL O6,X6⟩ (At L7 O7 X7)=uN L7 O7 X7:=by kernel_rfl
end
end Go.ak.R1
end
