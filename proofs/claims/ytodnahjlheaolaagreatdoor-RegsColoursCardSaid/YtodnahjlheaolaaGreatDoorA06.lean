/- A part. No conditions. -/
import Derived.Test.YtodnahjlheaolaaGreatDoorA04
set_option linter.all false
noncomputable section
namespace Go.al.R
section
open Go.al Go.Proofs
set_option maxRecDepth 100000
set_option maxHeartbeats 16000000
def TX:bh 46:=⟨_,bi Tryz.f46⟩
def TY:bh 165:=⟨_,bi Tryz.f165⟩
def TZ:bh 225:=⟨_,bi Tryz.f225⟩
def T0:bh 207:=⟨_,bi Tryz.f207⟩
def T1:bh 240:=⟨_,bi Tryz.f240⟩
def T2:bh 206:=⟨_,bi Tryz.f206⟩
def T3:bh 100:=⟨_,bi Tryz.f100⟩
def T4:bh 234:=⟨_,bi Tryz.f234⟩
def T5:bh 16:=⟨_,bi Tryz.f16⟩
def T6:bh 60:=⟨_,bi Tryz.f60⟩
def T7:bh 36:=⟨_,bi Tryz.f36⟩
def T8:bh 232:=⟨_,bi Tryz.f232⟩
def T9:bh 238:=⟨_,bi Tryz.f238⟩
def T':bh 130:=⟨_,bi Tryz.f130⟩
def Ua:bh 134:=⟨_,bi Tryz.f134⟩
def Ub:bh 220:=⟨_,bi Tryz.f220⟩
def Uc:bh 47:=⟨_,bi Tryz.f47⟩
def Ud:bh 32:=⟨_,bi Tryz.f32⟩
def Ue:bh 254:=⟨_,bi Tryz.f254⟩
def Uf:bh 48:=⟨_,bi Tryz.f48⟩
def Ug:bh 110:=⟨_,bi Tryz.f110⟩
def Uh:bh 76:=⟨_,bi Tryz.f76⟩
def Ui:bh 74:=⟨_,bi Tryz.f74⟩
def Uj:bh 63:=⟨_,bi Tryz.f63⟩
def Uk:bh 245:=⟨_,bi Tryz.f245⟩
def Ul:bh 169:=⟨_,bi Tryz.f169⟩
def Um:bh 227:=⟨_,bi Tryz.f227⟩
def Un:bh 114:=⟨_,bi Tryz.f114⟩
def Uo:bh 137:=⟨_,bi Tryz.f137⟩
def Up:bh 198:=⟨_,bi Tryz.f198⟩
def Uq:bh 14:=⟨_,bi Tryz.f14⟩
def Ur:bh 210:=⟨_,bi Tryz.f210⟩
def Us:bh 133:=⟨_,bi Tryz.f133⟩
def Ut:bh 235:=⟨_,bi Tryz.f235⟩
def Uu:bh 25:=⟨_,bi Tryz.f25⟩
def Uv:bh 106:=⟨_,bi Tryz.f106⟩
def Uw:bh 105:=⟨_,bi Tryz.f105⟩
def Ux:bh 191:=⟨_,bi Tryz.f191⟩
def Uy:bh 71:=⟨_,bi Tryz.f71⟩
def Uz:bh 236:=⟨_,bi Tryz.f236⟩
def UA:bh 187:=⟨_,bi Tryz.f187⟩
def UB:bh 28:=⟨_,bi Tryz.f28⟩
end
end Go.al.R
end
