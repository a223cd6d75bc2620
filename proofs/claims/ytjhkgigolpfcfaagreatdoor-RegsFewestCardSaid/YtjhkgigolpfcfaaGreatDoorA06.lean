/- A part of the proof. No conditions. -/
import Derived.Test.YtjhkgigolpfcfaaGreatDoorA04
set_option linter.all false
noncomputable section
namespace Go.am.R
section
open Go.am Go.Proofs
set_option maxRecDepth 100000
set_option maxHeartbeats 16000000
def amI:x9 50:=⟨_,z0⟩
def amJ:x9 177:=⟨_,z0⟩
def amK:x9 234:=⟨_,z0⟩
def amL:x9 216:=⟨_,z0⟩
def amM:x9 249:=⟨_,z0⟩
def amN:x9 215:=⟨_,z0⟩
def amO:x9 133:=⟨_,z0⟩
def amP:x9 243:=⟨_,z0⟩
def amQ:x9 17:=⟨_,z0⟩
def amR:x9 74:=⟨_,z0⟩
def amS:x9 61:=⟨_,z0⟩
def amT:x9 241:=⟨_,z0⟩
def amU:x9 49:=⟨_,z0⟩
def amV:x9 191:=⟨_,z0⟩
def amW:x9 22:=⟨_,z0⟩
def amX:x9 147:=⟨_,z0⟩
def amY:x9 51:=⟨_,z0⟩
def amZ:x9 238:=⟨_,z0⟩
def am0:x9 237:=⟨_,z0⟩
def am1:x9 13:=⟨_,z0⟩
def am2:x9 126:=⟨_,z0⟩
def am3:x9 131:=⟨_,z0⟩
def am4:x9 45:=⟨_,z0⟩
def am5:x9 141:=⟨_,z0⟩
def am6:x9 221:=⟨_,z0⟩
def am7:x9 232:=⟨_,z0⟩
def am8:x9 151:=⟨_,z0⟩
def am9:x9 29:=⟨_,z0⟩
def ana:x9 227:=⟨_,z0⟩
def anb:x9 219:=⟨_,z0⟩
def ane:x9 145:=⟨_,z0⟩
def anf:x9 196:=⟨_,z0⟩
def ang:x9 235:=⟨_,z0⟩
def anh:x9 83:=⟨_,z0⟩
end
end Go.am.R
end
