/- A part of the proof (an abstract machine, walks): no statement of its own, no conditions. -/
import Derived.Test.YtndbmjcpgefblaaGreatDoorA30
import Derived.Test.YtndbmjcpgefblaaGreatDoorA16
import Derived.KernelRfl
set_option linter.all false
namespace Go.Abs.R1
open Go.Abs
def endsTrue (j:AJump) (fr:Fr) (_:Heap):Prop:=j=.ret∧fr.marks=[]∧fr.env.get .undef p0=.bool true
theorem piece8:(Go.Abs.K.runs table 100000).exec c7 ⟨mkEnv L7,[],none⟩ ⟨mkObjs O7,X7⟩ endsTrue=(AJump.ret=AJump.ret∧([]:List Pos)=[]∧AV.bool true=AV.bool true):=by kernel_rfl
end Go.Abs.R1
