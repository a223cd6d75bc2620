/- A part of the proof. No conditions. -/
import Derived.Test.YtjhkgigolpfcfaaGreatDoorA04
set_option linter.all false
noncomputable section
namespace Go.am.R
section
open Go.am Go.Proofs
set_option maxRecDepth 100000
set_option maxHeartbeats 16000000
def ani:x9 79:=⟨_,z0⟩
def anj:x9 180:=⟨_,z0⟩
def ank:x9 75:=⟨_,z0⟩
def anl:x9 225:=⟨_,z0⟩
def anm:x9 36:=⟨_,z0⟩
def ann:x9 217:=⟨_,z0⟩
def ano:x9 193:=⟨_,z0⟩
def anp:x9 209:=⟨_,z0⟩
def anq:x9 18:=⟨_,z0⟩
def anr:x9 93:=⟨_,z0⟩
def ans:x9 192:=⟨_,z0⟩
def ant:x9 204:=⟨_,z0⟩
def anu:x9 247:=⟨_,z0⟩
def anv:x9 142:=⟨_,z0⟩
def anw:x9 146:=⟨_,z0⟩
def anx:x9 229:=⟨_,z0⟩
def anz:x9 55:=⟨_,z0⟩
def anA:x9 27:=⟨_,z0⟩
def anB:x9 231:=⟨_,z0⟩
def anC:x9 89:=⟨_,z0⟩
def anD:x9 226:=⟨_,z0⟩
def anE:x9 80:=⟨_,z0⟩
def anF:x9 78:=⟨_,z0⟩
def anG:x9 82:=⟨_,z0⟩
def anH:x9 181:=⟨_,z0⟩
def anI:x9 124:=⟨_,z0⟩
def anJ:x9 202:=⟨_,z0⟩
def anK:x9 208:=⟨_,z0⟩
def anL:x9 12:=⟨_,z0⟩
def anM:x9 132:=⟨_,z0⟩
def anN:x9 28:=⟨_,z0⟩
def anO:x9 172:=⟨_,z0⟩
def anP:x9 245:=⟨_,z0⟩
def anQ:x9 182:=⟨_,z0⟩
end
end Go.am.R
end
