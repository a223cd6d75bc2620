/- A part. No conditions. -/
import Derived.Test.YtjapbgcbkolgmaaGreatDoorA06
set_option linter.all false
noncomputable section
namespace Go.al.R
section
open Go.al Go.Proofs
set_option maxRecDepth 100000
set_option maxHeartbeats 16000000
def Ua:bH 126:=⟨_,bI Tryz.f126⟩
def Ub:bH 146:=⟨_,bI Tryz.f146⟩
def Uc:bH 210:=⟨_,bI Tryz.f210⟩
def Ud:bH 118:=⟨_,bI Tryz.f118⟩
def Ue:bH 209:=⟨_,bI Tryz.f209⟩
def Uf:bH 125:=⟨_,bI Tryz.f125⟩
def Ug:bH 8:=⟨_,bI Tryz.f8⟩
def Uh:bH 94:=⟨_,bI Tryz.f94⟩
def Ui:bH 4:=⟨_,bI Tryz.f4⟩
def Uj:bH 119:=⟨_,bI Tryz.f119⟩
def Uk:bH 74:=⟨_,bI Tryz.f74⟩
def Ul:bH 198:=⟨_,bI Tryz.f198⟩
def Um:bH 16:=⟨_,bI Tryz.f16⟩
def Un:bH 97:=⟨_,bI Tryz.f97⟩
def Uo:bH 46:=⟨_,bI Tryz.f46⟩
def Up:bH 70:=⟨_,bI Tryz.f70⟩
def Uq:bH 416:=⟨_,bI Tryz.f416⟩
def Ur:bH 95:=⟨_,bI Tryz.f95⟩
def Us:bH 295:=⟨_,bI Tryz.f295⟩
def Ut:bH 172:=⟨_,bI Tryz.f172⟩
def Uu:bH 115:=⟨_,bI Tryz.f115⟩
def Uv:bH 6:=⟨_,bI Tryz.f6⟩
def Uw:bH 383:=⟨_,bI Tryz.f383⟩
def Ux:bH 389:=⟨_,bI Tryz.f389⟩
def Uy:bH 79:=⟨_,bI Tryz.f79⟩
def Uz:bH 7:=⟨_,bI Tryz.f7⟩
def UA:bH 390:=⟨_,bI Tryz.f390⟩
def UB:bH 56:=⟨_,bI Tryz.f56⟩
def UC:bH 57:=⟨_,bI Tryz.f57⟩
end
end Go.al.R
end
