/- A part. No conditions. -/
import Derived.Test.YtcipmlnpjkngpaaGreatDoorA06
set_option linter.all false
noncomputable section
namespace Go.ak.R
section
open Go.ak Go.Proofs
set_option maxRecDepth 100000
set_option maxHeartbeats 16000000
def RZ:bE 132:=⟨_,bF Tryz.f132⟩
def R0:bE 152:=⟨_,bF Tryz.f152⟩
def R2:bE 216:=⟨_,bF Tryz.f216⟩
def R3:bE 104:=⟨_,bF Tryz.f104⟩
def R4:bE 215:=⟨_,bF Tryz.f215⟩
def R5:bE 131:=⟨_,bF Tryz.f131⟩
def R6:bE 7:=⟨_,bF Tryz.f7⟩
def R7:bE 56:=⟨_,bF Tryz.f56⟩
def R8:bE 302:=⟨_,bF Tryz.f302⟩
def R9:bE 125:=⟨_,bF Tryz.f125⟩
def R':bE 80:=⟨_,bF Tryz.f80⟩
def Sa:bE 61:=⟨_,bF Tryz.f61⟩
def Sb:bE 443:=⟨_,bF Tryz.f443⟩
def Sc:bE 79:=⟨_,bF Tryz.f79⟩
def Sd:bE 119:=⟨_,bF Tryz.f119⟩
def Se:bE 13:=⟨_,bF Tryz.f13⟩
def Sf:bE 55:=⟨_,bF Tryz.f55⟩
def Sg:bE 63:=⟨_,bF Tryz.f63⟩
def Sh:bE 111:=⟨_,bF Tryz.f111⟩
def Si:bE 105:=⟨_,bF Tryz.f105⟩
def Sj:bE 133:=⟨_,bF Tryz.f133⟩
def Sk:bE 101:=⟨_,bF Tryz.f101⟩
def Sn:bE 28:=⟨_,bF Tryz.f28⟩
def Sp:bE 53:=⟨_,bF Tryz.f53⟩
def Sq:bE 395:=⟨_,bF Tryz.f395⟩
def Sr:bE 49:=⟨_,bF Tryz.f49⟩
def Ss:bE 25:=⟨_,bF Tryz.f25⟩
def St:bE 23:=⟨_,bF Tryz.f23⟩
def Su:bE 396:=⟨_,bF Tryz.f396⟩
def Sv:bE 130:=⟨_,bF Tryz.f130⟩
def Sw:bE 30:=⟨_,bF Tryz.f30⟩
end
end Go.ak.R
end
