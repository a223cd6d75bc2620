/- A part. No conditions. -/
import Derived.Test.YtodnahjlheaolaaGreatDoorK00
import Derived.Test.YtodnahjlheaolaaGreatDoorA03
import Derived.KernelRfl
set_option linter.all false
noncomputable section
namespace Go.al.ake
section
open Go.al Go.al.R
theorem ajU:(Go.al.K.fi ajd 100000).exec (hd c0) ⟨ajb akl,[],none⟩ ⟨aja akm,akk⟩ (aki L1 akn aky)=ajf L1 akn aky:=by kernel_rfl
end
section
open Go.al Go.al.R
theorem ajV:(Go.al.K.fi ajd 100000).exec (hd c1) ⟨ajb L1,[],none⟩ ⟨aja akn,aky⟩ (aki L2 ako akz)=ajf L2 ako akz:=by kernel_rfl
end
section
open Go.al Go.al.R
theorem ajW:(Go.al.K.fi ajd 100000).exec (hd c2) ⟨ajb L2,[],none⟩ ⟨aja ako,akz⟩ (aki akp akq akA)=ajf akp akq akA:=by kernel_rfl
end
section
open Go.al Go.al.R
theorem ajX:(Go.al.K.fi ajd 100000).exec (hd c3) ⟨ajb akp,[],none⟩ ⟨aja akq,akA⟩ (aki akr aks akB)=ajf akr aks akB:=by kernel_rfl
end
section
open Go.al Go.al.R
theorem ajY:(Go.al.K.fi ajd 100000).exec (hd c4) ⟨ajb akr,[],none⟩ ⟨aja aks,akB⟩ (aki akt aku akC)=ajf akt aku akC:=by kernel_rfl
end
section
open Go.al Go.al.R
theorem ajZ:(Go.al.K.fi ajd 100000).exec (hd c5) ⟨ajb akt,[],none⟩ ⟨aja aku,akC⟩ (aki akv akw akD)=ajf akv akw akD:=by kernel_rfl
end
section
open Go.al Go.al.R
theorem aj0:(Go.al.K.fi ajd 100000).exec (hd c6) ⟨ajb akv,[],none⟩ ⟨aja akw,akD⟩ (aki akE akF akG)=ajf akE akF akG:=by kernel_rfl
end
end Go.al.ake
end
