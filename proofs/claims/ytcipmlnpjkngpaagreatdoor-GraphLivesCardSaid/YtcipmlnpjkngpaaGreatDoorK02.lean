/- A part. No conditions. -/
import Derived.Test.YtcipmlnpjkngpaaGreatDoorK00
import Derived.Test.YtcipmlnpjkngpaaGreatDoorA04
import Derived.KernelRfl
set_option linter.all false
noncomputable section
namespace Go.ak.R1
theorem aca:(Go.ak.K.dp kM 100000).exec (hd c5) ⟨kl L5,[],none⟩ ⟨fK O5,X5⟩ (At L6 O6 X6)=pI L6 O6 X6:=by kernel_rfl
theorem acb:(Go.ak.K.dp kM 100000).exec (hd c6) ⟨kl L6,[],none⟩ ⟨fK O6,X6⟩ (At L7 O7 X7)=pI L7 O7 X7:=by kernel_rfl
def BO(j:bU)(fr:Fr)(_:ai):Prop:=j=.ret/\fr.bz=[]/\fr.aa.get .agx (z 1)=.bool true
theorem acf:(Go.ak.K.dp kM 100000).exec c8 ⟨kl L8,[],none⟩ ⟨fK O8,X8⟩ BO=(bU.ret=bU.ret/\([]:List af)=[]/\AV.bool true=AV.bool true):=by kernel_rfl
theorem acg:(Go.ak.K.dp kM 100000).call (.func 48 [] []) MV ⟨fK FN,MW⟩ (BM FO FP FQ)=BN FO FP FQ:=by kernel_rfl
end Go.ak.R1
end
