/- A part of the proof. No conditions. -/
import Derived.Test.YtjhkgigolpfcfaaGreatDoorK00
import Derived.Test.YtjhkgigolpfcfaaGreatDoorA03
import Derived.KernelRfl
import Derived.Test.YtjhkgigolpfcfaaGreatDoorK01
set_option linter.all false
noncomputable section
namespace Go.am.R1
section
open Go.am Go.am.R
def ul(j:cP)(fr:Fr)(_:ai):Prop:=j=.ret/\fr.bI=[]/\fr.aa.get .alR p0=.bool true
theorem ahj:(Go.am.K.ft nq 100000).exec c7 ⟨kW L7,[],none⟩ ⟨j5 O7,X7⟩ ul=(cP.ret=cP.ret/\([]:List ab)=[]/\AV.bool true=AV.bool true):=by kernel_rfl
end
section
open Go.Proofs Go.am Go.am.R
theorem Rp{c:bt}{fr:Fr}{H:ai}{K:cP->Fr->ai->Prop}{C:Prop}(h:(Go.am.K.ft nq 100000).exec c fr H K=C)(a:C):iD Tryz.prog 179 c fr H K:=iD.run FA (((Go.am.K.DY nq 100000).exec c fr H K).symm.trans h|>.mpr a)
theorem jf{c a:bt}{L:LV}{O:LO}{X:ab}{fr:Fr}{H:ai}{K:cP->Fr->ai->Prop}(b:c=.seq (hd c) a)(h:(Go.am.K.ft nq 100000).exec (hd c) fr H (At L O X)=vI L O X)(d:iD Tryz.prog 179 a ⟨kW L,[],none⟩ ⟨j5 O,X⟩ K):iD Tryz.prog 179 c fr H K:=by rw[b];exact iD.seq (Rp h (aha L O X)) λj f H' e=>iD.at (by omega) e d
theorem ahk:iD Tryz.prog 179 zb ⟨.aL,[],none⟩ ⟨.aL,X0⟩ ul:=by
 have c:iD Tryz.prog 179 c7 ⟨kW L7,[],none⟩ ⟨j5 O7,X7⟩ ul:=Rp ahj ⟨rfl,rfl,rfl⟩;have d:iD Tryz.prog 179 c6 ⟨kW L6,[],none⟩ ⟨j5 O6,X6⟩ ul:=jf (by kernel_rfl) ahi c;have e:iD Tryz.prog 179 c5 ⟨kW L5,[],none⟩ ⟨j5 O5,X5⟩ ul:=jf (by kernel_rfl) ahh d;have f:iD Tryz.prog 179 c4 ⟨kW L4,[],none⟩ ⟨j5 O4,X4⟩ ul:=jf (by kernel_rfl) ahg e;have g:iD Tryz.prog 179 c3 ⟨kW L3,[],none⟩ ⟨j5 O3,X3⟩ ul:=jf (by kernel_rfl) ahf f;have h3:iD Tryz.prog 179 c2 ⟨kW L2,[],none⟩ ⟨j5 O2,X2⟩ ul:=jf (by kernel_rfl) ahe g;have h2:iD Tryz.prog 179 c1 ⟨kW L1,[],none⟩ ⟨j5 O1,X1⟩ ul:=jf (by kernel_rfl) ahd h3;have h1:iD Tryz.prog 179 c0 ⟨kW L0,[],none⟩ ⟨j5 O0,X0⟩ ul:=jf (by kernel_rfl) ahc h2;have h0:iD Tryz.prog 179 (hd zb) ⟨.aL,[],none⟩ ⟨.aL,X0⟩ (At L0 O0 X0):=by
  have hb:hd zb=.region [O p0 (.bg (C (.bool false)))]:=by kernel_rfl
  rw[hb];intro h i w cc b a;exact iD.run (ac:=nq.bw .none) FA (n:=12) (show Xc (nq.bw .none) 12 (.region [O p0 (.bg (C (.bool false)))]) ⟨.aL,[],none⟩ ⟨.aL,X0⟩ (At L0 O0 X0)from Xc.region (Xo.op (v:=.bool false) rfl (Xo.nil ⟨rfl,rfl,rfl,rfl,trivial,trivial⟩)))
 have hb:zb=.seq (hd zb) c0:=by kernel_rfl
 rw[hb];intro h i w cc b a;exact iD.seq (K1:=At L0 O0 X0) h0 λj l H' k=>iD.at (by omega) k h1
theorem ahl:xD Tryz.prog 10 Dd:=by refine ahb ⟨⟨Tryz.f10,Tryz.func10,by kernel_rfl,by kernel_rfl⟩⟩ (n:=6) (by kernel_rfl) λ{d}{e}{w}c=>?_;refine ag9 (ac:=nq.bw .none) (args:=[]) FA (f:=10) (nt:=179) (rs:=[.tmp p0]) (body:=zb) (by kernel_rfl) (by simp) (v:=.bool true) ?_ (by simp[bj]) c;intro d e w cc b a f g c k cs;refine(ahk f g c k cs).mono ?_;rintro j fr H⟨rfl,h1,h2⟩;exact⟨trivial,h1,[.bool true],by simp only[gZ,akt,h2],rfl⟩
end
end Go.am.R1
end
