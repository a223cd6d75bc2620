/- A part. No conditions. -/
import Derived.Test.YtpplokbfajnjhaaGreatDoorK00
import Derived.Test.YtpplokbfajnjhaaGreatDoorA03
import Derived.KernelRfl
set_option linter.all false
noncomputable section
namespace Go.al.R1
section
open Go.al Go.al.R
theorem afB:(Go.al.K.dQ lH 100000).exec (hd c0) ⟨jp L0,[],none⟩ ⟨iF O0,X0⟩ (At L1 O1 X1)=sf L1 O1 X1:=by kernel_rfl
end
section
open Go.al Go.al.R
theorem afC:(Go.al.K.dQ lH 100000).exec (hd c1) ⟨jp L1,[],none⟩ ⟨iF O1,X1⟩ (At L2 O2 X2)=sf L2 O2 X2:=by kernel_rfl
end
section
open Go.al Go.al.R
theorem afD:(Go.al.K.dQ lH 100000).exec (hd c2) ⟨jp L2,[],none⟩ ⟨iF O2,X2⟩ (At L3 O3 X3)=sf L3 O3 X3:=by kernel_rfl
end
section
open Go.al Go.al.R
theorem afE:(Go.al.K.dQ lH 100000).exec (hd c3) ⟨jp L3,[],none⟩ ⟨iF O3,X3⟩ (At L4 O4 X4)=sf L4 O4 X4:=by kernel_rfl
end
section
open Go.al Go.al.R
theorem afF:(Go.al.K.dQ lH 100000).exec (hd c4) ⟨jp L4,[],none⟩ ⟨iF O4,X4⟩ (At L5 O5 X5)=sf L5 O5 X5:=by kernel_rfl
end
section
open Go.al Go.al.R
theorem afG:(Go.al.K.dQ lH 100000).exec (hd c5) ⟨jp L5,[],none⟩ ⟨iF O5,X5⟩ (At L6 O6 X6)=sf L6 O6 X6:=by kernel_rfl
end
section
open Go.al Go.al.R
theorem afH:(Go.al.K.dQ lH 100000).exec (hd c6) ⟨jp L6,[],none⟩ ⟨iF O6,X6⟩ (At L7 O7 X7)=sf L7 O7 X7:=by kernel_rfl
end
end Go.al.R1
end
