/- A part. No conditions. -/
import Derived.Test.YtodnahjlheaolaaGreatDoorA04
set_option linter.all false
set_option maxHeartbeats 16000000
noncomputable section
namespace Go.al.R
section
open Go.al Go.Proofs
set_option maxRecDepth 100000
set_option maxHeartbeats 16000000
def Vi:bh 75:=⟨_,bi Tryz.f75⟩
def Vj:bh 117:=⟨_,bi Tryz.f117⟩
def Vk:bh 163:=⟨_,bi Tryz.f163⟩
def Vl:bh 221:=⟨_,bi Tryz.f221⟩
def Vm:bh 52:=⟨_,bi Tryz.f52⟩
def Vn:bh 215:=⟨_,bi Tryz.f215⟩
def Vo:bh 185:=⟨_,bi Tryz.f185⟩
def Vp:bh 107:=⟨_,bi Tryz.f107⟩
def Vq:bh 17:=⟨_,bi Tryz.f17⟩
def Vr:bh 211:=⟨_,bi Tryz.f211⟩
def Vs:bh 118:=⟨_,bi Tryz.f118⟩
def Vt:bh 224:=⟨_,bi Tryz.f224⟩
def Vu:bh 231:=⟨_,bi Tryz.f231⟩
def Vv:bh 108:=⟨_,bi Tryz.f108⟩
def Vw:bh 119:=⟨_,bi Tryz.f119⟩
def Vx:bh 44:=⟨_,bi Tryz.f44⟩
def Vy:bh 104:=⟨_,bi Tryz.f104⟩
def Vz:bh 228:=⟨_,bi Tryz.f228⟩
def VA:bh 11:=⟨_,bi Tryz.f11⟩
def VB:bh 111:=⟨_,bi Tryz.f111⟩
def VC:bh 69:=⟨_,bi Tryz.f69⟩
def VD:bh 128:=⟨_,bi Tryz.f128⟩
def VE:bh 112:=⟨_,bi Tryz.f112⟩
def VF:bh 193:=⟨_,bi Tryz.f193⟩
def VG:bh 184:=⟨_,bi Tryz.f184⟩
def VH:bh 31:=⟨_,bi Tryz.f31⟩
def VI:bh 30:=⟨_,bi Tryz.f30⟩
def VJ:bh 127:=⟨_,bi Tryz.f127⟩
def VK:bh 22:=⟨_,bi Tryz.f22⟩
def VL:bh 159:=⟨_,bi Tryz.f159⟩
def VM:bh 26:=⟨_,bi Tryz.f26⟩
def VN:bh 113:=⟨_,bi Tryz.f113⟩
def VO:bh 66:=⟨_,bi Tryz.f66⟩
def VP:bh 186:=⟨_,bi Tryz.f186⟩
def VQ:bh 38:=⟨_,bi Tryz.f38⟩
def VS:bh 24:=⟨_,bi Tryz.f24⟩
def VT:bh 33:=⟨_,bi Tryz.f33⟩
def VU:bh 68:=⟨_,bi Tryz.f68⟩
def VV:bh 13:=⟨_,bi Tryz.f13⟩
def VW:bh 162:=⟨_,bi Tryz.f162⟩
def VX:bh 27:=⟨_,bi Tryz.f27⟩
def VY:bh 135:=⟨_,bi Tryz.f135⟩
end
end Go.al.R
end
