/- A part. No conditions. -/
import Derived.Test.YtjapbgcbkolgmaaGreatDoorK00
import Derived.Test.YtjapbgcbkolgmaaGreatDoorA04
import Derived.KernelRfl
set_option linter.all false
noncomputable section
namespace Go.al.R1
theorem aeC:(Go.al.K.dq kX 100000).exec (hd c5) ⟨kC L5,[],none⟩ ⟨fP O5,X5⟩ (At L6 O6 X6)=pO L6 O6 X6:=by kernel_rfl
theorem aeD:(Go.al.K.dq kX 100000).exec (hd c6) ⟨kC L6,[],none⟩ ⟨fP O6,X6⟩ (At L7 O7 X7)=pO L7 O7 X7:=by kernel_rfl
def EA(j:bU)(fr:Fr)(_:ah):Prop:=j=.ret/\fr.br=[]/\fr.aa.get .ahp (z 1)=.bool true
theorem aeG:(Go.al.K.dq kX 100000).exec c8 ⟨kC L8,[],none⟩ ⟨fP O8,X8⟩ EA=(bU.ret=bU.ret/\([]:List af)=[]/\AV.bool true=AV.bool true):=by kernel_rfl
theorem aeH:(Go.al.K.dq kX 100000).call (.func 48 [] []) Po ⟨fP IV,Pp⟩ (Ey IW IX IY)=Ez IW IX IY:=by kernel_rfl
end Go.al.R1
end
