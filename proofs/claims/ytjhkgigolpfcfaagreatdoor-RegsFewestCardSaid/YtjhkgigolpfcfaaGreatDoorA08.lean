/- A part of the proof. No conditions. -/
import Derived.Test.YtjhkgigolpfcfaaGreatDoorA04
set_option linter.all false
set_option maxHeartbeats 16000000
noncomputable section
namespace Go.am.R
section
open Go.am Go.Proofs
set_option maxRecDepth 100000
set_option maxHeartbeats 16000000
def anR:x9 92:=⟨_,z0⟩
def anS:x9 120:=⟨_,z0⟩
def anT:x9 175:=⟨_,z0⟩
def anU:x9 230:=⟨_,z0⟩
def anV:x9 68:=⟨_,z0⟩
def anW:x9 224:=⟨_,z0⟩
def anX:x9 195:=⟨_,z0⟩
def anY:x9 118:=⟨_,z0⟩
def anZ:x9 21:=⟨_,z0⟩
def an0:x9 220:=⟨_,z0⟩
def an1:x9 121:=⟨_,z0⟩
def an2:x9 233:=⟨_,z0⟩
def an3:x9 214:=⟨_,z0⟩
def an4:x9 53:=⟨_,z0⟩
def an5:x9 176:=⟨_,z0⟩
def an6:x9 228:=⟨_,z0⟩
def an7:x9 113:=⟨_,z0⟩
def an8:x9 60:=⟨_,z0⟩
def an9:x9 263:=⟨_,z0⟩
def aoa:x9 52:=⟨_,z0⟩
def aob:x9 125:=⟨_,z0⟩
def aoc:x9 143:=⟨_,z0⟩
def aod:x9 23:=⟨_,z0⟩
def aoe:x9 200:=⟨_,z0⟩
def aof:x9 59:=⟨_,z0⟩
def aog:x9 129:=⟨_,z0⟩
def aoh:x9 239:=⟨_,z0⟩
def aoi:x9 91:=⟨_,z0⟩
def aoj:x9 39:=⟨_,z0⟩
def aok:x9 128:=⟨_,z0⟩
def aol:x9 244:=⟨_,z0⟩
def aom:x9 88:=⟨_,z0⟩
def aon:x9 9:=⟨_,z0⟩
def aoo:x9 149:=⟨_,z0⟩
end
end Go.am.R
end
