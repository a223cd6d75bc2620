/- A part. No conditions. -/
import Derived.Test.YtjapbgcbkolgmaaGreatDoorA06
set_option linter.all false
set_option maxHeartbeats 16000000
noncomputable section
namespace Go.al.R
section
open Go.al Go.Proofs
set_option maxRecDepth 100000
set_option maxHeartbeats 16000000
def U6:bH 78:=⟨_,bI Tryz.f78⟩
def U7:bH 85:=⟨_,bI Tryz.f85⟩
def U8:bH 203:=⟨_,bI Tryz.f203⟩
def U9:bH 200:=⟨_,bI Tryz.f200⟩
def U':bH 120:=⟨_,bI Tryz.f120⟩
def Va:bH 116:=⟨_,bI Tryz.f116⟩
def Vb:bH 36:=⟨_,bI Tryz.f36⟩
def Vc:bH 75:=⟨_,bI Tryz.f75⟩
def Ve:bH 199:=⟨_,bI Tryz.f199⟩
def Vf:bH 92:=⟨_,bI Tryz.f92⟩
def Vg:bH 353:=⟨_,bI Tryz.f353⟩
def Vh:bH 294:=⟨_,bI Tryz.f294⟩
def Vi:bH 98:=⟨_,bI Tryz.f98⟩
def Vj:bH 109:=⟨_,bI Tryz.f109⟩
def Vk:bH 25:=⟨_,bI Tryz.f25⟩
def Vl:bH 86:=⟨_,bI Tryz.f86⟩
def Vm:bH 121:=⟨_,bI Tryz.f121⟩
def Vn:bH 9:=⟨_,bI Tryz.f9⟩
def Vo:bH 101:=⟨_,bI Tryz.f101⟩
def Vp:bH 354:=⟨_,bI Tryz.f354⟩
def Vq:bH 69:=⟨_,bI Tryz.f69⟩
def Vr:bH 204:=⟨_,bI Tryz.f204⟩
def Vs:bH 208:=⟨_,bI Tryz.f208⟩
def Vt:bH 123:=⟨_,bI Tryz.f123⟩
def Vu:bH 29:=⟨_,bI Tryz.f29⟩
def Vv:bH 30:=⟨_,bI Tryz.f30⟩
def Vw:bH 80:=⟨_,bI Tryz.f80⟩
def Vx:bH 246:=⟨_,bI Tryz.f246⟩
end
end Go.al.R
end
