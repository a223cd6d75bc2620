/- A part. No conditions. -/
import Derived.Test.YtpplokbfajnjhaaGreatDoorA04
set_option linter.all false
noncomputable section
namespace Go.al.R
section
open Go.al Go.Proofs
set_option maxRecDepth 100000
set_option maxHeartbeats 16000000
def Vl:bj 73:=⟨_,bk Tryz.f73⟩
def Vm:bj 170:=⟨_,bk Tryz.f170⟩
def Vn:bj 70:=⟨_,bk Tryz.f70⟩
def Vo:bj 214:=⟨_,bk Tryz.f214⟩
def Vp:bj 37:=⟨_,bk Tryz.f37⟩
def Vq:bj 206:=⟨_,bk Tryz.f206⟩
def Vr:bj 182:=⟨_,bk Tryz.f182⟩
def Vs:bj 198:=⟨_,bk Tryz.f198⟩
def Vt:bj 8:=⟨_,bk Tryz.f8⟩
def Vu:bj 95:=⟨_,bk Tryz.f95⟩
def Vv:bj 181:=⟨_,bk Tryz.f181⟩
def Vw:bj 193:=⟨_,bk Tryz.f193⟩
def Vx:bj 203:=⟨_,bk Tryz.f203⟩
def Vy:bj 27:=⟨_,bk Tryz.f27⟩
def Vz:bj 166:=⟨_,bk Tryz.f166⟩
def VA:bj 217:=⟨_,bk Tryz.f217⟩
def VB:bj 108:=⟨_,bk Tryz.f108⟩
def VC:bj 78:=⟨_,bk Tryz.f78⟩
def VD:bj 71:=⟨_,bk Tryz.f71⟩
def VE:bj 109:=⟨_,bk Tryz.f109⟩
def VF:bj 99:=⟨_,bk Tryz.f99⟩
def VG:bj 74:=⟨_,bk Tryz.f74⟩
def VH:bj 55:=⟨_,bk Tryz.f55⟩
def VI:bj 12:=⟨_,bk Tryz.f12⟩
def VJ:bj 67:=⟨_,bk Tryz.f67⟩
def VK:bj 210:=⟨_,bk Tryz.f210⟩
def VL:bj 6:=⟨_,bk Tryz.f6⟩
def VM:bj 103:=⟨_,bk Tryz.f103⟩
def VN:bj 107:=⟨_,bk Tryz.f107⟩
def VO:bj 197:=⟨_,bk Tryz.f197⟩
def VP:bj 14:=⟨_,bk Tryz.f14⟩
def VQ:bj 118:=⟨_,bk Tryz.f118⟩
def VS:bj 212:=⟨_,bk Tryz.f212⟩
def VT:bj 211:=⟨_,bk Tryz.f211⟩
def VU:bj 162:=⟨_,bk Tryz.f162⟩
def VV:bj 194:=⟨_,bk Tryz.f194⟩
def VW:bj 224:=⟨_,bk Tryz.f224⟩
def VX:bj 33:=⟨_,bk Tryz.f33⟩
def VY:bj 66:=⟨_,bk Tryz.f66⟩
def VZ:bj 10:=⟨_,bk Tryz.f10⟩
def V0:bj 159:=⟨_,bk Tryz.f159⟩
end
end Go.al.R
end
