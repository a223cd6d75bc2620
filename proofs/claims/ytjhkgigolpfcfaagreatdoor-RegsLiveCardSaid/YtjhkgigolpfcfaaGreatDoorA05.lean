/- A part of the proof. No conditions. -/
import Derived.Test.YtjhkgigolpfcfaaGreatDoorA04
set_option linter.all false
noncomputable section
namespace Go.am.R
section
open Go.am Go.Proofs
set_option maxRecDepth 100000
set_option maxHeartbeats 16000000
def ama:x9 199:=⟨_,z0 Tryz.f199⟩
def amb:x9 144:=⟨_,z0 Tryz.f144⟩
def amc:x9 211:=⟨_,z0 Tryz.f211⟩
def amd:x9 134:=⟨_,z0 Tryz.f134⟩
def ame:x9 218:=⟨_,z0 Tryz.f218⟩
def amf:x9 210:=⟨_,z0 Tryz.f210⟩
def amg:x9 248:=⟨_,z0 Tryz.f248⟩
def amh:x9 198:=⟨_,z0 Tryz.f198⟩
def ami:x9 206:=⟨_,z0 Tryz.f206⟩
def amj:x9 73:=⟨_,z0 Tryz.f73⟩
def amk:x9 35:=⟨_,z0 Tryz.f35⟩
def aml:x9 179:=⟨_,z0 Tryz.f179⟩
def amU:x9 49:=⟨_,z0 Tryz.f49⟩
def amV:x9 191:=⟨_,z0 Tryz.f191⟩
def amW:x9 22:=⟨_,z0 Tryz.f22⟩
def amX:x9 147:=⟨_,z0 Tryz.f147⟩
def amY:x9 51:=⟨_,z0 Tryz.f51⟩
def amZ:x9 238:=⟨_,z0 Tryz.f238⟩
def am0:x9 237:=⟨_,z0 Tryz.f237⟩
def am1:x9 13:=⟨_,z0 Tryz.f13⟩
def am2:x9 126:=⟨_,z0 Tryz.f126⟩
def X5:x9 46:=⟨_,z0 Tryz.f46⟩
def amw:x9 140:=⟨_,z0 Tryz.f140⟩
def amx:x9 127:=⟨_,z0 Tryz.f127⟩
def aoe:x9 200:=⟨_,z0 Tryz.f200⟩
def X6:x9 194:=⟨_,z0 Tryz.f194⟩
def aof:x9 59:=⟨_,z0 Tryz.f59⟩
def anI:x9 124:=⟨_,z0 Tryz.f124⟩
def anJ:x9 202:=⟨_,z0 Tryz.f202⟩
def am9:x9 29:=⟨_,z0 Tryz.f29⟩
def ana:x9 227:=⟨_,z0 Tryz.f227⟩
def anb:x9 219:=⟨_,z0 Tryz.f219⟩
def ane:x9 145:=⟨_,z0 Tryz.f145⟩
def aol:x9 244:=⟨_,z0 Tryz.f244⟩
def X7:x9 47:=⟨_,z0 Tryz.f47⟩
def Yz:x9 117:=⟨_,z0 Tryz.f117⟩
def ang:x9 235:=⟨_,z0 Tryz.f235⟩
def YA:x9 130:=⟨_,z0 Tryz.f130⟩
def anP:x9 245:=⟨_,z0 Tryz.f245⟩
def amH:x9 197:=⟨_,z0 Tryz.f197⟩
def YB:x9 41:=⟨_,z0 Tryz.f41⟩
end
end Go.am.R
end
