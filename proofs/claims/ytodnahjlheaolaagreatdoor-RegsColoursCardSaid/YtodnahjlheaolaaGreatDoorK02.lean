/- A part. No conditions. -/
import Derived.Test.YtodnahjlheaolaaGreatDoorK00
import Derived.Test.YtodnahjlheaolaaGreatDoorA03
import Derived.KernelRfl
import Derived.Test.YtodnahjlheaolaaGreatDoorK01
set_option linter.all false
noncomputable section
namespace Go.al.ake
section
open Go.al Go.al.R
def aje(j:cC)(fr:Fr)(_:ai):Prop:=j=.ret/\fr.bA=[]/\fr.af.get .ai8 p0=.bool true
theorem aj1:(Go.al.K.fi ajd 100000).exec c7 ⟨ajb akE,[],none⟩ ⟨aja akF,akG⟩ aje=(cC.ret=cC.ret/\([]:List ah)=[]/\AV.bool true=AV.bool true):=by kernel_rfl
end
section
open Go.Proofs Go.al Go.al.R
theorem ajD{c:bw}{fr:Fr}{H:ai}{K:cC->Fr->ai->Prop}{C:Prop}(h:(Go.al.K.fi ajd 100000).exec c fr H K=C)(a:C):ai9 Tryz.prog 179 c fr H K:=ai9.run ajn (((Go.al.K.Ev ajd 100000).exec c fr H K).symm.trans h|>.mpr a)
theorem jN{c a:bw}{L:akg}{O:akh}{X:ah}{fr:Fr}{H:ai}{K:cC->Fr->ai->Prop}(b:c=.seq (hd c) a)(h:(Go.al.K.fi ajd 100000).exec (hd c) fr H (aki L O X)=ajf L O X)(d:ai9 Tryz.prog 179 a ⟨ajb L,[],none⟩ ⟨aja O,X⟩ K):ai9 Tryz.prog 179 c fr H K:=by rw[b];exact ai9.seq (ajD h (ajS L O X)) λj f g e=>ai9.at (by omega) e d
theorem aj2:ai9 Tryz.prog 179 b5 ⟨.ch,[],none⟩ ⟨.ch,akk⟩ aje:=by
 have c:ai9 Tryz.prog 179 c7 ⟨ajb akE,[],none⟩ ⟨aja akF,akG⟩ aje:=ajD aj1 ⟨rfl,rfl,rfl⟩;have d:ai9 Tryz.prog 179 c6 ⟨ajb akv,[],none⟩ ⟨aja akw,akD⟩ aje:=jN (by kernel_rfl) aj0 c;have e:ai9 Tryz.prog 179 c5 ⟨ajb akt,[],none⟩ ⟨aja aku,akC⟩ aje:=jN (by kernel_rfl) ajZ d;have f:ai9 Tryz.prog 179 c4 ⟨ajb akr,[],none⟩ ⟨aja aks,akB⟩ aje:=jN (by kernel_rfl) ajY e;have g:ai9 Tryz.prog 179 c3 ⟨ajb akp,[],none⟩ ⟨aja akq,akA⟩ aje:=jN (by kernel_rfl) ajX f;have h3:ai9 Tryz.prog 179 c2 ⟨ajb L2,[],none⟩ ⟨aja ako,akz⟩ aje:=jN (by kernel_rfl) ajW g;have h2:ai9 Tryz.prog 179 c1 ⟨ajb L1,[],none⟩ ⟨aja akn,aky⟩ aje:=jN (by kernel_rfl) ajV h3;have h1:ai9 Tryz.prog 179 c0 ⟨ajb akl,[],none⟩ ⟨aja akm,akk⟩ aje:=jN (by kernel_rfl) ajU h2;have h0:ai9 Tryz.prog 179 (hd b5) ⟨.ch,[],none⟩ ⟨.ch,akk⟩ (aki akl akm akk):=by
  have hb:hd b5=.region [O p0 (.bf (C (.bool false)))]:=by kernel_rfl
  rw[hb];intro h i w cc b a;exact ai9.run (ac:=ajd.br .none) ajn (n:=12) (show Xc (ajd.br .none) 12 (.region [O p0 (.bf (C (.bool false)))]) ⟨.ch,[],none⟩ ⟨.ch,akk⟩ (aki akl akm akk)from Xc.region (Xo.op (v:=.bool false) rfl (Xo.nil ⟨rfl,rfl,rfl,rfl,trivial,trivial⟩)))
 have hb:b5=.seq (hd b5) c0:=by kernel_rfl
 rw[hb];intro h i w cc b a;exact ai9.seq (K1:=aki akl akm akk) h0 λj l m k=>ai9.at (by omega) k h1
theorem aj3:zc Tryz.prog 5 aji:=by refine ajT ⟨⟨Tryz.f5,Tryz.func5,by kernel_rfl,by kernel_rfl⟩⟩ (n:=6) (by kernel_rfl) λ{d}{e}{w}c=>?_;refine ajR (ac:=ajd.br .none) (args:=[]) ajn (f:=5) (nt:=179) (rs:=[.tmp p0]) (body:=b5) (by kernel_rfl) (by simp) (v:=.bool true) ?_ (by simp[be]) c;intro d e w cc b a f g c k cs;refine(aj2 f g c k cs).mono ?_;rintro j fr H⟨rfl,h1,h2⟩;exact⟨trivial,h1,[.bool true],by simp only[fH,ahQ,h2],rfl⟩
end
end Go.al.ake
end
