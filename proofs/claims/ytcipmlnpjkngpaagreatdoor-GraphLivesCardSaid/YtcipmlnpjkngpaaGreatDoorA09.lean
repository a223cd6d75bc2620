/- A part. No conditions. -/
import Derived.Test.YtcipmlnpjkngpaaGreatDoorA06
set_option linter.all false
set_option maxHeartbeats 16000000
noncomputable section
namespace Go.ak.R
section
open Go.ak Go.Proofs
set_option maxRecDepth 100000
set_option maxHeartbeats 16000000
def S9:bE 54:=⟨_,bF Tryz.f54⟩
def Ta:bE 90:=⟨_,bF Tryz.f90⟩
def Tc:bE 209:=⟨_,bF Tryz.f209⟩
def Td:bE 206:=⟨_,bF Tryz.f206⟩
def Te:bE 126:=⟨_,bF Tryz.f126⟩
def Tf:bE 102:=⟨_,bF Tryz.f102⟩
def Tg:bE 211:=⟨_,bF Tryz.f211⟩
def Ti:bE 362:=⟨_,bF Tryz.f362⟩
def Tj:bE 205:=⟨_,bF Tryz.f205⟩
def Tk:bE 97:=⟨_,bF Tryz.f97⟩
def Tl:bE 26:=⟨_,bF Tryz.f26⟩
def Tm:bE 306:=⟨_,bF Tryz.f306⟩
def Tn:bE 43:=⟨_,bF Tryz.f43⟩
def To:bE 98:=⟨_,bF Tryz.f98⟩
def Tp:bE 46:=⟨_,bF Tryz.f46⟩
def Tq:bE 76:=⟨_,bF Tryz.f76⟩
def Tr:bE 134:=⟨_,bF Tryz.f134⟩
def Ts:bE 212:=⟨_,bF Tryz.f212⟩
def Tt:bE 305:=⟨_,bF Tryz.f305⟩
def Tu:bE 144:=⟨_,bF Tryz.f144⟩
def Tv:bE 360:=⟨_,bF Tryz.f360⟩
def Tw:bE 75:=⟨_,bF Tryz.f75⟩
def Tx:bE 109:=⟨_,bF Tryz.f109⟩
def Ty:bE 59:=⟨_,bF Tryz.f59⟩
def Tz:bE 14:=⟨_,bF Tryz.f14⟩
def TA:bE 84:=⟨_,bF Tryz.f84⟩
def TB:bE 32:=⟨_,bF Tryz.f32⟩
def TC:bE 62:=⟨_,bF Tryz.f62⟩
def TD:bE 85:=⟨_,bF Tryz.f85⟩
def TE:bE 29:=⟨_,bF Tryz.f29⟩
def TF:bE 154:=⟨_,bF Tryz.f154⟩
end
end Go.ak.R
end
