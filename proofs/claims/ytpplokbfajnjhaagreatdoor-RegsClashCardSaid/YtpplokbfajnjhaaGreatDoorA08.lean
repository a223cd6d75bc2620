/- A part. No conditions. -/
import Derived.Test.YtpplokbfajnjhaaGreatDoorA04
set_option linter.all false
set_option maxHeartbeats 16000000
noncomputable section
namespace Go.al.R
section
open Go.al Go.Proofs
set_option maxRecDepth 100000
set_option maxHeartbeats 16000000
def V1:bj 76:=⟨_,bk Tryz.f76⟩
def V2:bj 115:=⟨_,bk Tryz.f115⟩
def V3:bj 165:=⟨_,bk Tryz.f165⟩
def V4:bj 219:=⟨_,bk Tryz.f219⟩
def V5:bj 47:=⟨_,bk Tryz.f47⟩
def V6:bj 213:=⟨_,bk Tryz.f213⟩
def V7:bj 184:=⟨_,bk Tryz.f184⟩
def V8:bj 113:=⟨_,bk Tryz.f113⟩
def V9:bj 16:=⟨_,bk Tryz.f16⟩
def V':bj 209:=⟨_,bk Tryz.f209⟩
def Wa:bj 96:=⟨_,bk Tryz.f96⟩
def Wb:bj 222:=⟨_,bk Tryz.f222⟩
def Wc:bj 229:=⟨_,bk Tryz.f229⟩
def Wd:bj 114:=⟨_,bk Tryz.f114⟩
def We:bj 116:=⟨_,bk Tryz.f116⟩
def Wf:bj 22:=⟨_,bk Tryz.f22⟩
def Wg:bj 110:=⟨_,bk Tryz.f110⟩
def Wh:bj 226:=⟨_,bk Tryz.f226⟩
def Wi:bj 9:=⟨_,bk Tryz.f9⟩
def Wj:bj 100:=⟨_,bk Tryz.f100⟩
def Wk:bj 168:=⟨_,bk Tryz.f168⟩
def Wl:bj 133:=⟨_,bk Tryz.f133⟩
def Wm:bj 18:=⟨_,bk Tryz.f18⟩
def Wn:bj 57:=⟨_,bk Tryz.f57⟩
def Wo:bj 243:=⟨_,bk Tryz.f243⟩
def Wp:bj 171:=⟨_,bk Tryz.f171⟩
def Wq:bj 225:=⟨_,bk Tryz.f225⟩
def Ws:bj 196:=⟨_,bk Tryz.f196⟩
def Wt:bj 228:=⟨_,bk Tryz.f228⟩
def Wu:bj 75:=⟨_,bk Tryz.f75⟩
def Wv:bj 29:=⟨_,bk Tryz.f29⟩
def Ww:bj 102:=⟨_,bk Tryz.f102⟩
def Wx:bj 62:=⟨_,bk Tryz.f62⟩
def Wy:bj 185:=⟨_,bk Tryz.f185⟩
def Wz:bj 38:=⟨_,bk Tryz.f38⟩
def WA:bj 52:=⟨_,bk Tryz.f52⟩
def WB:bj 61:=⟨_,bk Tryz.f61⟩
def WC:bj 160:=⟨_,bk Tryz.f160⟩
def WD:bj 234:=⟨_,bk Tryz.f234⟩
def WE:bj 186:=⟨_,bk Tryz.f186⟩
def WF:bj 31:=⟨_,bk Tryz.f31⟩
end
end Go.al.R
end
