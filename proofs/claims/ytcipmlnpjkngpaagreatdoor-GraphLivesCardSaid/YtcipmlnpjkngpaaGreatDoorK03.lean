/- A part. No conditions. -/
import Derived.Test.YtcipmlnpjkngpaaGreatDoorK00
import Derived.Test.YtcipmlnpjkngpaaGreatDoorA04
import Derived.KernelRfl
import Derived.Test.YtcipmlnpjkngpaaGreatDoorK01
import Derived.Test.YtcipmlnpjkngpaaGreatDoorK02
set_option linter.all false
noncomputable section
namespace Go.ak.R1
theorem ach:(Go.ak.K.dp kM 100000).call (.func 51 [] []) MX ⟨fK FT,MY⟩ (BM FU FW FX)=BN FU FW FX:=by kernel_rfl
def acd:List (Nat×aX):=(48,.fV (zk MV FN MW FO FP FQ))::(51,.fV (zk MX FT MY FU FW FX))::zl
def MZ:am aX:=sw 10 (sx acd)
theorem ace:(Go.ak.K.dp MZ 100000).exec (hd c7) ⟨kl L7,[],none⟩ ⟨fK O7,X7⟩ (At L8 O8 X8)=pI L8 O8 X8:=by kernel_rfl
section
open Go.Proofs Go.ak
theorem M5{f:Nat}{A:List AV}{O a:LO}{X b:af}{V:AV}(h:(Go.ak.K.dp kM 100000).call (.func f [] []) A ⟨fK O,X⟩ (BM V a b)=BN V a b):kA Tryz.prog f (.fV (zk A O X V a b)):=abX oJ (((Go.ak.K.xS kM 100000).call _ _ _ _).symm.trans h|>.mpr (abW V a b))
theorem aci:gC Tryz.prog (MZ.bN .none):=MT (vO (Aw ⟨M5 acg,M5 ach,MO,MQ,MR,trivial⟩))
theorem M6{t:am aX}(a:gC Tryz.prog (t.bN .none)){c:bg}{fr:Fr}{H:ai}{K:bU->Fr->ai->Prop}{C:Prop}(h:(Go.ak.K.dp t 100000).exec c fr H K=C)(b:C):gK Tryz.prog 246 c fr H K:=gK.run a (((Go.ak.K.xS t 100000).exec c fr H K).symm.trans h|>.mpr b)
theorem fO{t:am aX}(b:gC Tryz.prog (t.bN .none)){c a:bg}{L:LV}{O:LO}{X:af}{fr:Fr}{H:ai}{K:bU->Fr->ai->Prop}(h:(Go.ak.K.dp t 100000).exec (hd c) fr H (At L O X)=pI L O X)(d:gK Tryz.prog 246 a ⟨kl L,[],none⟩ ⟨fK O,X⟩ K)(e:c=.seq (hd c) a:=by kernel_rfl):gK Tryz.prog 246 c fr H K:=by rw[e];exact gK.seq (M6 b h (abT L O X)) λj g i f=>gK.at (by omega) f d
theorem acj:gK Tryz.prog 246 b5 ⟨.aF,[],none⟩ ⟨.aF,X0⟩ BO:=by
 have d:gK Tryz.prog 246 c8 ⟨kl L8,[],none⟩ ⟨fK O8,X8⟩ BO:=M6 oJ acf ⟨rfl,rfl,rfl⟩;have h1:gK Tryz.prog 246 c0 ⟨kl L0,[],none⟩ ⟨fK O0,X0⟩ BO:=fO oJ ab5 (fO oJ ab6 (fO oJ ab7 (fO oJ ab8 (fO oJ ab9 (fO oJ aca (fO oJ acb (fO aci ace d)))))));have h0:gK Tryz.prog 246 (hd b5) ⟨.aF,[],none⟩ ⟨.aF,X0⟩ (At L0 O0 X0):=by
  have hb:hd b5=.region [⟨some (z 1),.bw (.c (.bool false)),none,[],[]⟩]:=by kernel_rfl
  rw[hb];intro e f w cc b a;exact gK.run (ac:=kM.bN .none) oJ (n:=12) (show Xc (kM.bN .none) 12 (.region [⟨some (z 1),.bw (.c (.bool false)),none,[],[]⟩]) ⟨.aF,[],none⟩ ⟨.aF,X0⟩ (At L0 O0 X0)from Xc.region (Xo.op (v:=.bool false) rfl (Xo.nil ⟨rfl,rfl,rfl,rfl,trivial,trivial⟩)))
 have hb:b5=.seq (hd b5) c0:=by kernel_rfl
 rw[hb];intro e f w cc b a;exact gK.seq (K1:=At L0 O0 X0) h0 λj h i g=>gK.at (by omega) g h1
theorem ack:sS Tryz.prog 5 zi:=by refine abU ⟨⟨Tryz.f5,Tryz.func5,by kernel_rfl,by kernel_rfl⟩⟩ (n:=6) (by kernel_rfl) λ{d}{e}{w}c=>?_;refine abS (ac:=kM.bN .none) (args:=[]) oJ (f:=5) (nt:=246) (rs:=[.tmp (z 1)]) (body:=b5) (by kernel_rfl) (by simp) (v:=.bool true) ?_ (by simp[aR]) c;intro d e w cc b a f g c k cs;refine(acj f g c k cs).mono ?_;rintro j fr H⟨rfl,h1,h2⟩;exact⟨trivial,h1,[.bool true],by simp only[ee,aeT,h2],rfl⟩
end
end Go.ak.R1
end
