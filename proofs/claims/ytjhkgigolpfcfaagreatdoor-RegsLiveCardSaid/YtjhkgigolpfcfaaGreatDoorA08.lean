/- A part of the proof. No conditions. -/
import Derived.Test.YtjhkgigolpfcfaaGreatDoorA04
set_option linter.all false
set_option maxHeartbeats 16000000
noncomputable section
namespace Go.am.R
section
open Go.am Go.Proofs
set_option maxRecDepth 100000
set_option maxHeartbeats 16000000
def anR:x9 92:=⟨_,z0 Tryz.f92⟩
def anS:x9 120:=⟨_,z0 Tryz.f120⟩
def anT:x9 175:=⟨_,z0 Tryz.f175⟩
def anU:x9 230:=⟨_,z0 Tryz.f230⟩
def anV:x9 68:=⟨_,z0 Tryz.f68⟩
def anW:x9 224:=⟨_,z0 Tryz.f224⟩
def anX:x9 195:=⟨_,z0 Tryz.f195⟩
def anY:x9 118:=⟨_,z0 Tryz.f118⟩
def anZ:x9 21:=⟨_,z0 Tryz.f21⟩
def an0:x9 220:=⟨_,z0 Tryz.f220⟩
def an1:x9 121:=⟨_,z0 Tryz.f121⟩
def an2:x9 233:=⟨_,z0 Tryz.f233⟩
def amn:x9 240:=⟨_,z0 Tryz.f240⟩
def amo:x9 119:=⟨_,z0 Tryz.f119⟩
def amp:x9 122:=⟨_,z0 Tryz.f122⟩
def amq:x9 48:=⟨_,z0 Tryz.f48⟩
def amr:x9 115:=⟨_,z0 Tryz.f115⟩
def ams:x9 96:=⟨_,z0 Tryz.f96⟩
def amt:x9 76:=⟨_,z0 Tryz.f76⟩
def amu:x9 114:=⟨_,z0 Tryz.f114⟩
def amv:x9 178:=⟨_,z0 Tryz.f178⟩
def aoc:x9 143:=⟨_,z0 Tryz.f143⟩
def aod:x9 23:=⟨_,z0 Tryz.f23⟩
def anG:x9 82:=⟨_,z0 Tryz.f82⟩
def YY:x9 86:=⟨_,z0 Tryz.f86⟩
def YZ:x9 77:=⟨_,z0 Tryz.f77⟩
def am7:x9 232:=⟨_,z0 Tryz.f232⟩
def am8:x9 151:=⟨_,z0 Tryz.f151⟩
def amB:x9 56:=⟨_,z0 Tryz.f56⟩
def amC:x9 171:=⟨_,z0 Tryz.f171⟩
def amD:x9 34:=⟨_,z0 Tryz.f34⟩
def amE:x9 242:=⟨_,z0 Tryz.f242⟩
def Y0:x9 43:=⟨_,z0 Tryz.f43⟩
def Y2:x9 173:=⟨_,z0 Tryz.f173⟩
def aom:x9 88:=⟨_,z0 Tryz.f88⟩
def amG:x9 116:=⟨_,z0 Tryz.f116⟩
def Y3:x9 33:=⟨_,z0 Tryz.f33⟩
def Y4:x9 14:=⟨_,z0 Tryz.f14⟩
def Y5:x9 15:=⟨_,z0 Tryz.f15⟩
def anQ:x9 182:=⟨_,z0 Tryz.f182⟩
end
end Go.am.R
end
