/- A part. No conditions. -/
import Derived.Test.YtpplokbfajnjhaaGreatDoorA04
set_option linter.all false
noncomputable section
namespace Go.al.R
section
open Go.al Go.Proofs
set_option maxRecDepth 100000
set_option maxHeartbeats 16000000
def T0:bj 188:=⟨_,bk Tryz.f188⟩
def T1:bj 134:=⟨_,bk Tryz.f134⟩
def T2:bj 200:=⟨_,bk Tryz.f200⟩
def T3:bj 120:=⟨_,bk Tryz.f120⟩
def T4:bj 207:=⟨_,bk Tryz.f207⟩
def T5:bj 199:=⟨_,bk Tryz.f199⟩
def T6:bj 237:=⟨_,bk Tryz.f237⟩
def T7:bj 187:=⟨_,bk Tryz.f187⟩
def T8:bj 195:=⟨_,bk Tryz.f195⟩
def T9:bj 68:=⟨_,bk Tryz.f68⟩
def T':bj 36:=⟨_,bk Tryz.f36⟩
def Ua:bj 169:=⟨_,bk Tryz.f169⟩
def Ub:bj 23:=⟨_,bk Tryz.f23⟩
def Uc:bj 180:=⟨_,bk Tryz.f180⟩
def Ud:bj 19:=⟨_,bk Tryz.f19⟩
def Ue:bj 137:=⟨_,bk Tryz.f137⟩
def Uf:bj 25:=⟨_,bk Tryz.f25⟩
def Ug:bj 227:=⟨_,bk Tryz.f227⟩
def Uh:bj 220:=⟨_,bk Tryz.f220⟩
def Ui:bj 54:=⟨_,bk Tryz.f54⟩
def Uj:bj 215:=⟨_,bk Tryz.f215⟩
def Uk:bj 34:=⟨_,bk Tryz.f34⟩
def Ul:bj 130:=⟨_,bk Tryz.f130⟩
def Um:bj 101:=⟨_,bk Tryz.f101⟩
def Un:bj 189:=⟨_,bk Tryz.f189⟩
def Uo:bj 128:=⟨_,bk Tryz.f128⟩
def Up:bj 72:=⟨_,bk Tryz.f72⟩
def Uq:bj 221:=⟨_,bk Tryz.f221⟩
def Ur:bj 139:=⟨_,bk Tryz.f139⟩
def Us:bj 44:=⟨_,bk Tryz.f44⟩
def Ut:bj 161:=⟨_,bk Tryz.f161⟩
def Uu:bj 35:=⟨_,bk Tryz.f35⟩
def Uv:bj 231:=⟨_,bk Tryz.f231⟩
def Uw:bj 106:=⟨_,bk Tryz.f106⟩
def Ux:bj 163:=⟨_,bk Tryz.f163⟩
def Uy:bj 53:=⟨_,bk Tryz.f53⟩
def Uz:bj 13:=⟨_,bk Tryz.f13⟩
def UA:bj 190:=⟨_,bk Tryz.f190⟩
def UB:bj 104:=⟨_,bk Tryz.f104⟩
def UC:bj 4:=⟨_,bk Tryz.f4⟩
def UD:bj 59:=⟨_,bk Tryz.f59⟩
def UE:bj 60:=⟨_,bk Tryz.f60⟩
end
end Go.al.R
end
