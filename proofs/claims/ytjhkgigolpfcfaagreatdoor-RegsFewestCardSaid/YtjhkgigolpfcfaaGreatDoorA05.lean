/- A part of the proof. No conditions. -/
import Derived.Test.YtjhkgigolpfcfaaGreatDoorA04
set_option linter.all false
noncomputable section
namespace Go.am.R
section
open Go.am Go.Proofs
set_option maxRecDepth 100000
set_option maxHeartbeats 16000000
def ama:x9 199:=⟨_,z0⟩
def amb:x9 144:=⟨_,z0⟩
def amc:x9 211:=⟨_,z0⟩
def amd:x9 134:=⟨_,z0⟩
def ame:x9 218:=⟨_,z0⟩
def amf:x9 210:=⟨_,z0⟩
def amg:x9 248:=⟨_,z0⟩
def amh:x9 198:=⟨_,z0⟩
def ami:x9 206:=⟨_,z0⟩
def amj:x9 73:=⟨_,z0⟩
def amk:x9 35:=⟨_,z0⟩
def aml:x9 179:=⟨_,z0⟩
def amm:x9 26:=⟨_,z0⟩
def amn:x9 240:=⟨_,z0⟩
def amo:x9 119:=⟨_,z0⟩
def amp:x9 122:=⟨_,z0⟩
def amq:x9 48:=⟨_,z0⟩
def amr:x9 115:=⟨_,z0⟩
def ams:x9 96:=⟨_,z0⟩
def amt:x9 76:=⟨_,z0⟩
def amu:x9 114:=⟨_,z0⟩
def amv:x9 178:=⟨_,z0⟩
def amw:x9 140:=⟨_,z0⟩
def amx:x9 127:=⟨_,z0⟩
def amy:x9 254:=⟨_,z0⟩
def amz:x9 11:=⟨_,z0⟩
def amA:x9 207:=⟨_,z0⟩
def amB:x9 56:=⟨_,z0⟩
def amC:x9 171:=⟨_,z0⟩
def amD:x9 34:=⟨_,z0⟩
def amE:x9 242:=⟨_,z0⟩
def amF:x9 222:=⟨_,z0⟩
def amG:x9 116:=⟨_,z0⟩
def amH:x9 197:=⟨_,z0⟩
end
end Go.am.R
end
