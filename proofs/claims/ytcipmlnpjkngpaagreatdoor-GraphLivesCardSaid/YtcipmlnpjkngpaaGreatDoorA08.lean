/- A part. No conditions. -/
import Derived.Test.YtcipmlnpjkngpaaGreatDoorA06
set_option linter.all false
set_option maxHeartbeats 16000000
noncomputable section
namespace Go.ak.R
section
open Go.ak Go.Proofs
set_option maxRecDepth 100000
set_option maxHeartbeats 16000000
def Sx:bE 52:=⟨_,bF Tryz.f52⟩
def Sy:bE 303:=⟨_,bF Tryz.f303⟩
def Sz:bE 299:=⟨_,bF Tryz.f299⟩
def SA:bE 103:=⟨_,bF Tryz.f103⟩
def SB:bE 420:=⟨_,bF Tryz.f420⟩
def SC:bE 394:=⟨_,bF Tryz.f394⟩
def SD:bE 8:=⟨_,bF Tryz.f8⟩
def SE:bE 99:=⟨_,bF Tryz.f99⟩
def SF:bE 398:=⟨_,bF Tryz.f398⟩
def SG:bE 77:=⟨_,bF Tryz.f77⟩
def SH:bE 24:=⟨_,bF Tryz.f24⟩
def SJ:bE 153:=⟨_,bF Tryz.f153⟩
def SK:bE 9:=⟨_,bF Tryz.f9⟩
def SL:bE 106:=⟨_,bF Tryz.f106⟩
def SM:bE 78:=⟨_,bF Tryz.f78⟩
def SN:bE 108:=⟨_,bF Tryz.f108⟩
def SO:bE 91:=⟨_,bF Tryz.f91⟩
def SP:bE 127:=⟨_,bF Tryz.f127⟩
def SQ:bE 6:=⟨_,bF Tryz.f6⟩
def SR:bE 110:=⟨_,bF Tryz.f110⟩
def SS:bE 27:=⟨_,bF Tryz.f27⟩
def SU:bE 71:=⟨_,bF Tryz.f71⟩
def SV:bE 210:=⟨_,bF Tryz.f210⟩
def SW:bE 214:=⟨_,bF Tryz.f214⟩
def SX:bE 213:=⟨_,bF Tryz.f213⟩
def SY:bE 31:=⟨_,bF Tryz.f31⟩
def SZ:bE 304:=⟨_,bF Tryz.f304⟩
def S5:bE 34:=⟨_,bF Tryz.f34⟩
def S6:bE 4:=⟨_,bF Tryz.f4⟩
def S7:bE 57:=⟨_,bF Tryz.f57⟩
def S8:bE 58:=⟨_,bF Tryz.f58⟩
end
end Go.ak.R
end
