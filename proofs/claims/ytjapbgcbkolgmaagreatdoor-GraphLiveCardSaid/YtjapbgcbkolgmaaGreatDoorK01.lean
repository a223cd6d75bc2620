/- A part. No conditions. -/
import Derived.Test.YtjapbgcbkolgmaaGreatDoorK00
import Derived.Test.YtjapbgcbkolgmaaGreatDoorA04
import Derived.KernelRfl
set_option linter.all false
noncomputable section
namespace Go.al.R1
theorem aex:(Go.al.K.dq kX 100000).exec (hd c0) ⟨kC L0,[],none⟩ ⟨fP O0,X0⟩ (At L1 O1 X1)=pO L1 O1 X1:=by kernel_rfl
theorem aey:(Go.al.K.dq kX 100000).exec (hd c1) ⟨kC L1,[],none⟩ ⟨fP O1,X1⟩ (At L2 O2 X2)=pO L2 O2 X2:=by kernel_rfl
theorem aez:(Go.al.K.dq kX 100000).exec (hd c2) ⟨kC L2,[],none⟩ ⟨fP O2,X2⟩ (At L3 O3 X3)=pO L3 O3 X3:=by kernel_rfl
theorem aeA:(Go.al.K.dq kX 100000).exec (hd c3) ⟨kC L3,[],none⟩ ⟨fP O3,X3⟩ (At L4 O4 X4)=pO L4 O4 X4:=by kernel_rfl
theorem aeB:(Go.al.K.dq kX 100000).exec (hd c4) ⟨kC L4,[],none⟩ ⟨fP O4,X4⟩ (At L5 O5 X5)=pO L5 O5 X5:=by kernel_rfl
end Go.al.R1
end
