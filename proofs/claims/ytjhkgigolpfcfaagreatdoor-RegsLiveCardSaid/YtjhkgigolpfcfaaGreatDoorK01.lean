/- A part of the proof. No conditions. -/
import Derived.Test.YtjhkgigolpfcfaaGreatDoorK00
import Derived.Test.YtjhkgigolpfcfaaGreatDoorA03
import Derived.KernelRfl
set_option linter.all false
noncomputable section
namespace Go.am.R1
section
open Go.am Go.am.R
theorem ahc:(Go.am.K.ft nq 100000).exec (hd c0) ⟨kW L0,[],none⟩ ⟨j5 O0,X0⟩ (At L1 O1 X1)=vI L1 O1 X1:=by kernel_rfl
end
section
open Go.am Go.am.R
theorem ahd:(Go.am.K.ft nq 100000).exec (hd c1) ⟨kW L1,[],none⟩ ⟨j5 O1,X1⟩ (At L2 O2 X2)=vI L2 O2 X2:=by kernel_rfl
end
section
open Go.am Go.am.R
theorem ahe:(Go.am.K.ft nq 100000).exec (hd c2) ⟨kW L2,[],none⟩ ⟨j5 O2,X2⟩ (At L3 O3 X3)=vI L3 O3 X3:=by kernel_rfl
end
section
open Go.am Go.am.R
theorem ahf:(Go.am.K.ft nq 100000).exec (hd c3) ⟨kW L3,[],none⟩ ⟨j5 O3,X3⟩ (At L4 O4 X4)=vI L4 O4 X4:=by kernel_rfl
end
section
open Go.am Go.am.R
theorem ahg:(Go.am.K.ft nq 100000).exec (hd c4) ⟨kW L4,[],none⟩ ⟨j5 O4,X4⟩ (At L5 O5 X5)=vI L5 O5 X5:=by kernel_rfl
end
section
open Go.am Go.am.R
theorem ahh:(Go.am.K.ft nq 100000).exec (hd c5) ⟨kW L5,[],none⟩ ⟨j5 O5,X5⟩ (At L6 O6 X6)=vI L6 O6 X6:=by kernel_rfl
end
section
open Go.am Go.am.R
theorem ahi:(Go.am.K.ft nq 100000).exec (hd c6) ⟨kW L6,[],none⟩ ⟨j5 O6,X6⟩ (At L7 O7 X7)=vI L7 O7 X7:=by kernel_rfl
end
end Go.am.R1
end
