/- A part of the proof. No conditions. -/
import Derived.Test.YtjhkgigolpfcfaaGreatDoorA04
set_option linter.all false
noncomputable section
namespace Go.am.R
section
open Go.am Go.Proofs
set_option maxRecDepth 100000
set_option maxHeartbeats 16000000
def amI:x9 50:=⟨_,z0 Tryz.f50⟩
def amJ:x9 177:=⟨_,z0 Tryz.f177⟩
def amK:x9 234:=⟨_,z0 Tryz.f234⟩
def amL:x9 216:=⟨_,z0 Tryz.f216⟩
def amM:x9 249:=⟨_,z0 Tryz.f249⟩
def amN:x9 215:=⟨_,z0 Tryz.f215⟩
def amO:x9 133:=⟨_,z0 Tryz.f133⟩
def amP:x9 243:=⟨_,z0 Tryz.f243⟩
def amQ:x9 17:=⟨_,z0 Tryz.f17⟩
def amR:x9 74:=⟨_,z0 Tryz.f74⟩
def amS:x9 61:=⟨_,z0 Tryz.f61⟩
def amT:x9 241:=⟨_,z0 Tryz.f241⟩
def anu:x9 247:=⟨_,z0 Tryz.f247⟩
def anv:x9 142:=⟨_,z0 Tryz.f142⟩
def anw:x9 146:=⟨_,z0 Tryz.f146⟩
def anx:x9 229:=⟨_,z0 Tryz.f229⟩
def anz:x9 55:=⟨_,z0 Tryz.f55⟩
def anA:x9 27:=⟨_,z0 Tryz.f27⟩
def anB:x9 231:=⟨_,z0 Tryz.f231⟩
def anC:x9 89:=⟨_,z0 Tryz.f89⟩
def anD:x9 226:=⟨_,z0 Tryz.f226⟩
def am3:x9 131:=⟨_,z0 Tryz.f131⟩
def am4:x9 45:=⟨_,z0 Tryz.f45⟩
def am5:x9 141:=⟨_,z0 Tryz.f141⟩
def YC:x9 203:=⟨_,z0 Tryz.f203⟩
def am6:x9 221:=⟨_,z0 Tryz.f221⟩
def amz:x9 11:=⟨_,z0 Tryz.f11⟩
def aog:x9 129:=⟨_,z0 Tryz.f129⟩
def YD:x9 44:=⟨_,z0 Tryz.f44⟩
def anK:x9 208:=⟨_,z0 Tryz.f208⟩
def anL:x9 12:=⟨_,z0 Tryz.f12⟩
def anM:x9 132:=⟨_,z0 Tryz.f132⟩
def YE:x9 223:=⟨_,z0 Tryz.f223⟩
def amF:x9 222:=⟨_,z0 Tryz.f222⟩
def anO:x9 172:=⟨_,z0 Tryz.f172⟩
def YG:x9 205:=⟨_,z0 Tryz.f205⟩
def YH:x9 42:=⟨_,z0 Tryz.f42⟩
def YI:x9 85:=⟨_,z0 Tryz.f85⟩
def aon:x9 9:=⟨_,z0 Tryz.f9⟩
def anh:x9 83:=⟨_,z0 Tryz.f83⟩
def YJ:x9 84:=⟨_,z0 Tryz.f84⟩
end
end Go.am.R
end
