/- A part. No conditions. -/
import Derived.Test.YtjapbgcbkolgmaaGreatDoorA06
set_option linter.all false
set_option maxHeartbeats 16000000
noncomputable section
namespace Go.al.R
section
open Go.al Go.Proofs
set_option maxRecDepth 100000
set_option maxHeartbeats 16000000
def UD:bH 52:=⟨_,bI Tryz.f52⟩
def UE:bH 297:=⟨_,bI Tryz.f297⟩
def UF:bH 293:=⟨_,bI Tryz.f293⟩
def UG:bH 117:=⟨_,bI Tryz.f117⟩
def UH:bH 414:=⟨_,bI Tryz.f414⟩
def UI:bH 388:=⟨_,bI Tryz.f388⟩
def UJ:bH 205:=⟨_,bI Tryz.f205⟩
def UK:bH 356:=⟨_,bI Tryz.f356⟩
def UL:bH 392:=⟨_,bI Tryz.f392⟩
def UM:bH 71:=⟨_,bI Tryz.f71⟩
def UN:bH 28:=⟨_,bI Tryz.f28⟩
def UO:bH 300:=⟨_,bI Tryz.f300⟩
def UP:bH 42:=⟨_,bI Tryz.f42⟩
def UQ:bH 93:=⟨_,bI Tryz.f93⟩
def UR:bH 12:=⟨_,bI Tryz.f12⟩
def US:bH 54:=⟨_,bI Tryz.f54⟩
def UT:bH 13:=⟨_,bI Tryz.f13⟩
def UU:bH 31:=⟨_,bI Tryz.f31⟩
def UV:bH 96:=⟨_,bI Tryz.f96⟩
def UW:bH 127:=⟨_,bI Tryz.f127⟩
def UX:bH 65:=⟨_,bI Tryz.f65⟩
def UY:bH 32:=⟨_,bI Tryz.f32⟩
def UZ:bH 53:=⟨_,bI Tryz.f53⟩
def U0:bH 207:=⟨_,bI Tryz.f207⟩
def U1:bH 136:=⟨_,bI Tryz.f136⟩
def U2:bH 43:=⟨_,bI Tryz.f43⟩
def U3:bH 15:=⟨_,bI Tryz.f15⟩
def U4:bH 33:=⟨_,bI Tryz.f33⟩
def U5:bH 147:=⟨_,bI Tryz.f147⟩
end
end Go.al.R
end
