/- A part. No conditions. -/
import Derived.Test.YtcipmlnpjkngpaaGreatDoorA06
set_option linter.all false
set_option maxHeartbeats 16000000
noncomputable section
namespace Go.ak.R
section
open Go.ak Go.Proofs
set_option maxRecDepth 100000
set_option maxHeartbeats 16000000
def TG:bE 94:=⟨_,bF Tryz.f94⟩
def TH:bE 207:=⟨_,bF Tryz.f207⟩
def TI:bE 421:=⟨_,bF Tryz.f421⟩
def TJ:bE 208:=⟨_,bF Tryz.f208⟩
def TK:bE 128:=⟨_,bF Tryz.f128⟩
def TL:bE 143:=⟨_,bF Tryz.f143⟩
def TM:bE 38:=⟨_,bF Tryz.f38⟩
def TN:bE 81:=⟨_,bF Tryz.f81⟩
def TO:bE 361:=⟨_,bF Tryz.f361⟩
def TP:bE 251:=⟨_,bF Tryz.f251⟩
def TQ:bE 359:=⟨_,bF Tryz.f359⟩
def TR:bE 300:=⟨_,bF Tryz.f300⟩
def TS:bE 107:=⟨_,bF Tryz.f107⟩
def TT:bE 35:=⟨_,bF Tryz.f35⟩
def TU:bE 36:=⟨_,bF Tryz.f36⟩
def TV:bE 11:=⟨_,bF Tryz.f11⟩
def TW:bE 422:=⟨_,bF Tryz.f422⟩
def TX:bE 100:=⟨_,bF Tryz.f100⟩
def TY:bE 301:=⟨_,bF Tryz.f301⟩
def TZ:bE 179:=⟨_,bF Tryz.f179⟩
def T0:bE 60:=⟨_,bF Tryz.f60⟩
def T1:bE 217:=⟨_,bF Tryz.f217⟩
def T2:bE 389:=⟨_,bF Tryz.f389⟩
def T3:bE 33:=⟨_,bF Tryz.f33⟩
def T4:bE 129:=⟨_,bF Tryz.f129⟩
def T5:bE 142:=⟨_,bF Tryz.f142⟩
def T6:bE 44:=⟨_,bF Tryz.f44⟩
def T7:bE 12:=⟨_,bF Tryz.f12⟩
def T8:bE 10:=⟨_,bF Tryz.f10⟩
def T9:bE 252:=⟨_,bF Tryz.f252⟩
end
end Go.ak.R
end
