/- A part of the proof (an abstract machine, walks): no statement of its own, no conditions. -/
import Derived.Test.YtndbmjcpgefblaaGreatDoorA30
import Derived.Test.YtndbmjcpgefblaaGreatDoorA16
import Derived.KernelRfl
set_option linter.all false
namespace Go.Abs.R1
open Go.Abs
theorem piece1:(Go.Abs.K.runs table 100000).exec (hd c0) ⟨mkEnv L0,[],none⟩ ⟨mkObjs O0,X0⟩ (At L1 O1 X1)=SelfAt L1 O1 X1:=by kernel_rfl
end Go.Abs.R1
namespace Go.Abs.R1
open Go.Abs
theorem piece2:(Go.Abs.K.runs table 100000).exec (hd c1) ⟨mkEnv L1,[],none⟩ ⟨mkObjs O1,X1⟩ (At L2 O2 X2)=SelfAt L2 O2 X2:=by kernel_rfl
end Go.Abs.R1
namespace Go.Abs.R1
open Go.Abs
theorem piece3:(Go.Abs.K.runs table 100000).exec (hd c2) ⟨mkEnv L2,[],none⟩ ⟨mkObjs O2,X2⟩ (At L3 O3 X3)=SelfAt L3 O3 X3:=by kernel_rfl
end Go.Abs.R1
namespace Go.Abs.R1
open Go.Abs
theorem piece4:(Go.Abs.K.runs table 100000).exec (hd c3) ⟨mkEnv L3,[],none⟩ ⟨mkObjs O3,X3⟩ (At L4 O4 X4)=SelfAt L4 O4 X4:=by kernel_rfl
end Go.Abs.R1
namespace Go.Abs.R1
open Go.Abs
theorem piece5:(Go.Abs.K.runs table 100000).exec (hd c4) ⟨mkEnv L4,[],none⟩ ⟨mkObjs O4,X4⟩ (At L5 O5 X5)=SelfAt L5 O5 X5:=by kernel_rfl
end Go.Abs.R1
namespace Go.Abs.R1
open Go.Abs
theorem piece6:(Go.Abs.K.runs table 100000).exec (hd c5) ⟨mkEnv L5,[],none⟩ ⟨mkObjs O5,X5⟩ (At L6 O6 X6)=SelfAt L6 O6 X6:=by kernel_rfl
end Go.Abs.R1
namespace Go.Abs.R1
open Go.Abs
theorem piece7:(Go.Abs.K.runs table 100000).exec (hd c6) ⟨mkEnv L6,[],none⟩ ⟨mkObjs O6,X6⟩ (At L7 O7 X7)=SelfAt L7 O7 X7:=by kernel_rfl
end Go.Abs.R1
