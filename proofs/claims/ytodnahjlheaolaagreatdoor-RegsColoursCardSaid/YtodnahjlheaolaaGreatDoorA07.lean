/- A part. No conditions. -/
import Derived.Test.YtodnahjlheaolaaGreatDoorA04
set_option linter.all false
noncomputable section
namespace Go.al.R
section
open Go.al Go.Proofs
set_option maxRecDepth 100000
set_option maxHeartbeats 16000000
def UC:bh 58:=⟨_,bi Tryz.f58⟩
def UD:bh 168:=⟨_,bi Tryz.f168⟩
def UE:bh 61:=⟨_,bi Tryz.f61⟩
def UF:bh 216:=⟨_,bi Tryz.f216⟩
def UG:bh 37:=⟨_,bi Tryz.f37⟩
def UH:bh 208:=⟨_,bi Tryz.f208⟩
def UI:bh 183:=⟨_,bi Tryz.f183⟩
def UJ:bh 199:=⟨_,bi Tryz.f199⟩
def UK:bh 7:=⟨_,bi Tryz.f7⟩
def UL:bh 62:=⟨_,bi Tryz.f62⟩
def UM:bh 182:=⟨_,bi Tryz.f182⟩
def UN:bh 194:=⟨_,bi Tryz.f194⟩
def UO:bh 205:=⟨_,bi Tryz.f205⟩
def UP:bh 49:=⟨_,bi Tryz.f49⟩
def UQ:bh 164:=⟨_,bi Tryz.f164⟩
def UR:bh 219:=⟨_,bi Tryz.f219⟩
def US:bh 102:=⟨_,bi Tryz.f102⟩
def UT:bh 81:=⟨_,bi Tryz.f81⟩
def UU:bh 72:=⟨_,bi Tryz.f72⟩
def UV:bh 103:=⟨_,bi Tryz.f103⟩
def UW:bh 166:=⟨_,bi Tryz.f166⟩
def UX:bh 131:=⟨_,bi Tryz.f131⟩
def UY:bh 10:=⟨_,bi Tryz.f10⟩
def UZ:bh 190:=⟨_,bi Tryz.f190⟩
def U0:bh 171:=⟨_,bi Tryz.f171⟩
def U1:bh 73:=⟨_,bi Tryz.f73⟩
def U2:bh 223:=⟨_,bi Tryz.f223⟩
def U3:bh 197:=⟨_,bi Tryz.f197⟩
def U4:bh 230:=⟨_,bi Tryz.f230⟩
def U5:bh 57:=⟨_,bi Tryz.f57⟩
def U6:bh 70:=⟨_,bi Tryz.f70⟩
def U7:bh 99:=⟨_,bi Tryz.f99⟩
def U8:bh 214:=⟨_,bi Tryz.f214⟩
def U9:bh 213:=⟨_,bi Tryz.f213⟩
def U':bh 160:=⟨_,bi Tryz.f160⟩
def Va:bh 195:=⟨_,bi Tryz.f195⟩
def Vb:bh 226:=⟨_,bi Tryz.f226⟩
def Vc:bh 20:=⟨_,bi Tryz.f20⟩
def Ve:bh 172:=⟨_,bi Tryz.f172⟩
def Vf:bh 4:=⟨_,bi Tryz.f4⟩
def Vg:bh 64:=⟨_,bi Tryz.f64⟩
def Vh:bh 65:=⟨_,bi Tryz.f65⟩
end
end Go.al.R
end
