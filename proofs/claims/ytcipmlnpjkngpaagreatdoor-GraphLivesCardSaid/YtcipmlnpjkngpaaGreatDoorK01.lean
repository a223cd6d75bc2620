/- A part. No conditions. -/
import Derived.Test.YtcipmlnpjkngpaaGreatDoorK00
import Derived.Test.YtcipmlnpjkngpaaGreatDoorA04
import Derived.KernelRfl
set_option linter.all false
noncomputable section
namespace Go.ak.R1
theorem ab5:(Go.ak.K.dp kM 100000).exec (hd c0) ⟨kl L0,[],none⟩ ⟨fK O0,X0⟩ (At L1 O1 X1)=pI L1 O1 X1:=by kernel_rfl
theorem ab6:(Go.ak.K.dp kM 100000).exec (hd c1) ⟨kl L1,[],none⟩ ⟨fK O1,X1⟩ (At L2 O2 X2)=pI L2 O2 X2:=by kernel_rfl
theorem ab7:(Go.ak.K.dp kM 100000).exec (hd c2) ⟨kl L2,[],none⟩ ⟨fK O2,X2⟩ (At L3 O3 X3)=pI L3 O3 X3:=by kernel_rfl
theorem ab8:(Go.ak.K.dp kM 100000).exec (hd c3) ⟨kl L3,[],none⟩ ⟨fK O3,X3⟩ (At L4 O4 X4)=pI L4 O4 X4:=by kernel_rfl
theorem ab9:(Go.ak.K.dp kM 100000).exec (hd c4) ⟨kl L4,[],none⟩ ⟨fK O4,X4⟩ (At L5 O5 X5)=pI L5 O5 X5:=by kernel_rfl
end Go.ak.R1
end
