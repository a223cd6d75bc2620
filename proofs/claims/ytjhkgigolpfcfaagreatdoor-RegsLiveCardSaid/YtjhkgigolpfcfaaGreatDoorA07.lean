/- A part of the proof. No conditions. -/
import Derived.Test.YtjhkgigolpfcfaaGreatDoorA04
set_option linter.all false
noncomputable section
namespace Go.am.R
section
open Go.am Go.Proofs
set_option maxRecDepth 100000
set_option maxHeartbeats 16000000
def ani:x9 79:=⟨_,z0 Tryz.f79⟩
def anj:x9 180:=⟨_,z0 Tryz.f180⟩
def ank:x9 75:=⟨_,z0 Tryz.f75⟩
def anl:x9 225:=⟨_,z0 Tryz.f225⟩
def anm:x9 36:=⟨_,z0 Tryz.f36⟩
def ann:x9 217:=⟨_,z0 Tryz.f217⟩
def ano:x9 193:=⟨_,z0 Tryz.f193⟩
def anp:x9 209:=⟨_,z0 Tryz.f209⟩
def anq:x9 18:=⟨_,z0 Tryz.f18⟩
def anr:x9 93:=⟨_,z0 Tryz.f93⟩
def ans:x9 192:=⟨_,z0 Tryz.f192⟩
def ant:x9 204:=⟨_,z0 Tryz.f204⟩
def an3:x9 214:=⟨_,z0 Tryz.f214⟩
def an4:x9 53:=⟨_,z0 Tryz.f53⟩
def an5:x9 176:=⟨_,z0 Tryz.f176⟩
def an6:x9 228:=⟨_,z0 Tryz.f228⟩
def an7:x9 113:=⟨_,z0 Tryz.f113⟩
def an8:x9 60:=⟨_,z0 Tryz.f60⟩
def an9:x9 263:=⟨_,z0 Tryz.f263⟩
def aoa:x9 52:=⟨_,z0 Tryz.f52⟩
def aob:x9 125:=⟨_,z0 Tryz.f125⟩
def anE:x9 80:=⟨_,z0 Tryz.f80⟩
def anF:x9 78:=⟨_,z0 Tryz.f78⟩
def YK:x9 16:=⟨_,z0 Tryz.f16⟩
def amy:x9 254:=⟨_,z0 Tryz.f254⟩
def anH:x9 181:=⟨_,z0 Tryz.f181⟩
def YM:x9 236:=⟨_,z0 Tryz.f236⟩
def amA:x9 207:=⟨_,z0 Tryz.f207⟩
def aoh:x9 239:=⟨_,z0 Tryz.f239⟩
def aoi:x9 91:=⟨_,z0 Tryz.f91⟩
def aoj:x9 39:=⟨_,z0 Tryz.f39⟩
def aok:x9 128:=⟨_,z0 Tryz.f128⟩
def anN:x9 28:=⟨_,z0 Tryz.f28⟩
def anf:x9 196:=⟨_,z0 Tryz.f196⟩
def YO:x9 37:=⟨_,z0 Tryz.f37⟩
def YQ:x9 57:=⟨_,z0 Tryz.f57⟩
def YU:x9 201:=⟨_,z0 Tryz.f201⟩
def YV:x9 87:=⟨_,z0 Tryz.f87⟩
def YW:x9 174:=⟨_,z0 Tryz.f174⟩
def YX:x9 40:=⟨_,z0 Tryz.f40⟩
def aoo:x9 149:=⟨_,z0 Tryz.f149⟩
end
end Go.am.R
end
