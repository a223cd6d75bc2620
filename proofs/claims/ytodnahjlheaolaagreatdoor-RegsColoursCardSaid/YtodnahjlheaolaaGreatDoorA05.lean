/- A part. No conditions. -/
import Derived.Test.YtodnahjlheaolaaGreatDoorA04
set_option linter.all false
noncomputable section
namespace Go.al.R
section
open Go.al Go.Proofs
set_option maxRecDepth 100000
set_option maxHeartbeats 16000000
def Tg:bh 189:=⟨_,bi Tryz.f189⟩
def Ti:bh 132:=⟨_,bi Tryz.f132⟩
def Tj:bh 201:=⟨_,bi Tryz.f201⟩
def Tk:bh 101:=⟨_,bi Tryz.f101⟩
def Tl:bh 209:=⟨_,bi Tryz.f209⟩
def Tm:bh 200:=⟨_,bi Tryz.f200⟩
def Tn:bh 239:=⟨_,bi Tryz.f239⟩
def To:bh 188:=⟨_,bi Tryz.f188⟩
def Tp:bh 196:=⟨_,bi Tryz.f196⟩
def Tq:bh 59:=⟨_,bi Tryz.f59⟩
def Tr:bh 35:=⟨_,bi Tryz.f35⟩
def Ts:bh 167:=⟨_,bi Tryz.f167⟩
def Tt:bh 45:=⟨_,bi Tryz.f45⟩
def Tu:bh 181:=⟨_,bi Tryz.f181⟩
def Tv:bh 8:=⟨_,bi Tryz.f8⟩
def Tw:bh 138:=⟨_,bi Tryz.f138⟩
def Tx:bh 21:=⟨_,bi Tryz.f21⟩
def Ty:bh 229:=⟨_,bi Tryz.f229⟩
def Tz:bh 222:=⟨_,bi Tryz.f222⟩
def TA:bh 79:=⟨_,bi Tryz.f79⟩
def TB:bh 217:=⟨_,bi Tryz.f217⟩
def TC:bh 98:=⟨_,bi Tryz.f98⟩
def TD:bh 67:=⟨_,bi Tryz.f67⟩
def TE:bh 129:=⟨_,bi Tryz.f129⟩
def TF:bh 116:=⟨_,bi Tryz.f116⟩
def TG:bh 212:=⟨_,bi Tryz.f212⟩
def TH:bh 6:=⟨_,bi Tryz.f6⟩
def TI:bh 109:=⟨_,bi Tryz.f109⟩
def TJ:bh 192:=⟨_,bi Tryz.f192⟩
def TK:bh 34:=⟨_,bi Tryz.f34⟩
def TL:bh 218:=⟨_,bi Tryz.f218⟩
def TM:bh 23:=⟨_,bi Tryz.f23⟩
def TN:bh 233:=⟨_,bi Tryz.f233⟩
def TO:bh 136:=⟨_,bi Tryz.f136⟩
def TP:bh 161:=⟨_,bi Tryz.f161⟩
def TQ:bh 78:=⟨_,bi Tryz.f78⟩
def TR:bh 29:=⟨_,bi Tryz.f29⟩
def TS:bh 12:=⟨_,bi Tryz.f12⟩
def TT:bh 202:=⟨_,bi Tryz.f202⟩
def TU:bh 115:=⟨_,bi Tryz.f115⟩
def TV:bh 9:=⟨_,bi Tryz.f9⟩
def TW:bh 170:=⟨_,bi Tryz.f170⟩
end
end Go.al.R
end
