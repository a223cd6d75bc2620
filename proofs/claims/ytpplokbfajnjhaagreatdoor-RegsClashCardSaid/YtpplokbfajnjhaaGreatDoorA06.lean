/- A part. No conditions. -/
import Derived.Test.YtpplokbfajnjhaaGreatDoorA04
set_option linter.all false
noncomputable section
namespace Go.al.R
section
open Go.al Go.Proofs
set_option maxRecDepth 100000
set_option maxHeartbeats 16000000
def UF:bj 24:=⟨_,bk Tryz.f24⟩
def UG:bj 167:=⟨_,bk Tryz.f167⟩
def UH:bj 223:=⟨_,bk Tryz.f223⟩
def UI:bj 205:=⟨_,bk Tryz.f205⟩
def UJ:bj 238:=⟨_,bk Tryz.f238⟩
def UK:bj 204:=⟨_,bk Tryz.f204⟩
def UL:bj 119:=⟨_,bk Tryz.f119⟩
def UM:bj 232:=⟨_,bk Tryz.f232⟩
def UN:bj 7:=⟨_,bk Tryz.f7⟩
def UO:bj 69:=⟨_,bk Tryz.f69⟩
def UP:bj 58:=⟨_,bk Tryz.f58⟩
def UQ:bj 230:=⟨_,bk Tryz.f230⟩
def UR:bj 236:=⟨_,bk Tryz.f236⟩
def US:bj 132:=⟨_,bk Tryz.f132⟩
def UT:bj 136:=⟨_,bk Tryz.f136⟩
def UU:bj 218:=⟨_,bk Tryz.f218⟩
def UV:bj 43:=⟨_,bk Tryz.f43⟩
def UW:bj 65:=⟨_,bk Tryz.f65⟩
def UX:bj 252:=⟨_,bk Tryz.f252⟩
def UY:bj 26:=⟨_,bk Tryz.f26⟩
def UZ:bj 11:=⟨_,bk Tryz.f11⟩
def U0:bj 117:=⟨_,bk Tryz.f117⟩
def U1:bj 64:=⟨_,bk Tryz.f64⟩
def U2:bj 131:=⟨_,bk Tryz.f131⟩
def U3:bj 192:=⟨_,bk Tryz.f192⟩
def U4:bj 183:=⟨_,bk Tryz.f183⟩
def U5:bj 105:=⟨_,bk Tryz.f105⟩
def U6:bj 98:=⟨_,bk Tryz.f98⟩
def U7:bj 191:=⟨_,bk Tryz.f191⟩
def U8:bj 63:=⟨_,bk Tryz.f63⟩
def U9:bj 216:=⟨_,bk Tryz.f216⟩
def U':bj 208:=⟨_,bk Tryz.f208⟩
def Va:bj 135:=⟨_,bk Tryz.f135⟩
def Vb:bj 233:=⟨_,bk Tryz.f233⟩
def Vc:bj 32:=⟨_,bk Tryz.f32⟩
def Ve:bj 112:=⟨_,bk Tryz.f112⟩
def Vf:bj 111:=⟨_,bk Tryz.f111⟩
def Vg:bj 21:=⟨_,bk Tryz.f21⟩
def Vh:bj 129:=⟨_,bk Tryz.f129⟩
def Vi:bj 164:=⟨_,bk Tryz.f164⟩
def Vj:bj 30:=⟨_,bk Tryz.f30⟩
def Vk:bj 127:=⟨_,bk Tryz.f127⟩
end
end Go.al.R
end
