/- A part. No conditions. -/
import Derived.Test.YtjapbgcbkolgmaaGreatDoorA06
set_option linter.all false
set_option maxHeartbeats 16000000
noncomputable section
namespace Go.al.R
section
open Go.al Go.Proofs
set_option maxRecDepth 100000
set_option maxHeartbeats 16000000
def Vy:bH 89:=⟨_,bI Tryz.f89⟩
def Vz:bH 201:=⟨_,bI Tryz.f201⟩
def VA:bH 415:=⟨_,bI Tryz.f415⟩
def VB:bH 202:=⟨_,bI Tryz.f202⟩
def VC:bH 122:=⟨_,bI Tryz.f122⟩
def VD:bH 137:=⟨_,bI Tryz.f137⟩
def VE:bH 55:=⟨_,bI Tryz.f55⟩
def VF:bH 296:=⟨_,bI Tryz.f296⟩
def VG:bH 355:=⟨_,bI Tryz.f355⟩
def VH:bH 245:=⟨_,bI Tryz.f245⟩
def VI:bH 14:=⟨_,bI Tryz.f14⟩
def VJ:bH 437:=⟨_,bI Tryz.f437⟩
def VK:bH 73:=⟨_,bI Tryz.f73⟩
def VL:bH 72:=⟨_,bI Tryz.f72⟩
def VM:bH 99:=⟨_,bI Tryz.f99⟩
def VN:bH 128:=⟨_,bI Tryz.f128⟩
def VO:bH 206:=⟨_,bI Tryz.f206⟩
def VP:bH 299:=⟨_,bI Tryz.f299⟩
def VQ:bH 138:=⟨_,bI Tryz.f138⟩
def VS:bH 11:=⟨_,bI Tryz.f11⟩
def VT:bH 211:=⟨_,bI Tryz.f211⟩
def VU:bH 100:=⟨_,bI Tryz.f100⟩
def VV:bH 10:=⟨_,bI Tryz.f10⟩
def VW:bH 49:=⟨_,bI Tryz.f49⟩
def VX:bH 298:=⟨_,bI Tryz.f298⟩
def VY:bH 27:=⟨_,bI Tryz.f27⟩
def VZ:bH 124:=⟨_,bI Tryz.f124⟩
def V0:bH 34:=⟨_,bI Tryz.f34⟩
end
end Go.al.R
end
