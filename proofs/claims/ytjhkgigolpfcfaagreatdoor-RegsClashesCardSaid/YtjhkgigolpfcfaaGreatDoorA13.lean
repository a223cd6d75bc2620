/- A part of the proof. No conditions. -/
import Derived.Test.YtjhkgigolpfcfaaGreatDoorA12
import Derived.Test.YtjhkgigolpfcfaaGreatDoorA11
import Derived.ChangeArms
import Derived.DataReads
import Derived.Test.YtjhkgigolpfcfaaGreatDoorK02
import Derived.HandedShaped
set_option linter.all false
set_option maxHeartbeats 16000000
open Nat renaming eq_of_beq_eq_true→agO,beq→agQ
noncomputable section
namespace Go.ak.R1
section
open Go.Proofs Go.ak Go.RowKit
def ES(f:Nat):aE:=if agQ f 10 then .gZ CB else mG.bq .none f
theorem afY{P:Program}{ab:Nat→aE}(a:j9 P ab)(f:Nat):kA P f (ab f):=by cases h:ab f with|none=>trivial|code b c body=>exact a.code f b c body h|gZ g=>exact a.gZ f g h|eB g=>exact a.eB f g h
theorem afZ:j9 Tryz.prog ES:=DE λf=>by
 unfold ES;split;·rename_i h;rw[agO h];exact afX
 exact afY ER f
theorem tbC:R.Tb ES:=by constructor<;>kernel_rfl
def gty:Qh Tryz.prog:={i:=3,u:=5,s:=9,is:=42,us:=51,e:=64,es:=52,st:=58,Cy:=50,j:=54,b:=56,bs:=22,g:=24,hi:=Tryz.underlying3,hu:=Tryz.underlying5,hs:=Tryz.underlying9,iW:=Tryz.underlying42,Qi:=Tryz.underlying51,kI:=Tryz.underlying52,Qj:=Tryz.underlying50,co:=Tryz.underlying22,he:=⟨_,Tryz.underlying64,rfl⟩,dW:=⟨_,Tryz.underlying58,rfl⟩,hj:=⟨_,Tryz.underlying54,rfl⟩,hb:=⟨_,Tryz.underlying56,rfl⟩,hg:=⟨_,Tryz.underlying24,rfl⟩,ci:=by kernel_rfl,cu:=by kernel_rfl,cs:=by kernel_rfl,Cz:=by kernel_rfl,Qk:=by kernel_rfl,br:=by kernel_rfl,Ql:=by kernel_rfl,Qm:=by kernel_rfl,ce:=by kernel_rfl,JK:=by kernel_rfl,cj:=by kernel_rfl,cb:=by kernel_rfl,cg:=by kernel_rfl}
theorem af2{w:World}(h:w.ShapedOpen Tryz.prog):(∃c e f,w.heap[0]?=some (.cells c e f))∧6≤w.heap.size:=by
 have hs:=h.1;have h0:(((begin Tryz.prog (λ_ _=>0) default).world.heap[0]?).bind Obj.row?).isSome=true:=by kernel_rfl
 have a:(((begin Tryz.prog (λ_ _=>0) default).world.heap[5]?).bind Obj.row?).isSome=true:=by kernel_rfl
 have j:Tryz.prog.globals.size=6:=by kernel_rfl
 obtain⟨⟨z0,t0⟩,b⟩:=Option.isSome_iff_exists.1 h0;obtain⟨⟨z5,t5⟩,d⟩:=Option.isSome_iff_exists.1 a;obtain⟨c0,g,_⟩:=hs 0 z0 t0 (by omega) b;obtain⟨c5,i,_⟩:=hs 5 z5 t5 (by omega) d;exact⟨⟨c0,t0,_,g⟩,(Array.getElem?_eq_some_iff.1 i).1⟩
theorem Qw{P:Program}{n:Nat}{w:World}:∀cs:List Value,be (yo P n w) (AW n w cs) cs|[]=>trivial|v::cs=>⟨Qa v,Qw cs⟩
theorem byt{g:G.bu}(h:Qo g):R.Cf g:=⟨h.nm,λb hb=>(h.bl b hb).st,λb hb=>(h.bl b hb).fn,λb hb=>(h.bl b hb).kd⟩
theorem af4{K:Type}{eA:TypeId×Value→K}{w:World}(j:w.ShapedOpen Tryz.prog){cs:Array Value}(h:nG eA Tryz.prog w 24 cs.toList):Calls Tryz.prog 7 #[.agg cs] w λe w'=>e=.returned (.bool true)∧Below w.heap.size w w':=by
 obtain⟨hg,b⟩:=af2 j;have d:Tryz.prog.globals.size=6:=by kernel_rfl
 obtain⟨g,l,n⟩:=afx (Y:=gty) (n:=6) hg h;obtain⟨m,o⟩:=R.afn (K:=λv _=>v=.bool true) tbC (λ{H K}h=>YF.gZ (show ES R.Ni=.gZ CB from rfl) rfl (h _ (bf.refl H))) l (byt n) λ_ _=>rfl;refine(UU afZ (f:=7) (nt:=116) (rs:=[.tmp R.p2]) (body:=R.NN) (by kernel_rfl) o (ρ:=yo Tryz.prog 6 w) ?_ (afq d b)).mono ?_;·simp only[be,VR];exact⟨Qw _,trivial⟩
 rintro e w'⟨v,H',c,rfl,rfl,p,_,i,_,a⟩;refine⟨?_,⟨a.os,a.tape,a.output,a.size,λk f=>a.block k f (by show¬(w.heap.size≤k);omega)⟩⟩;cases c<;>simp only[VR]at i;rw[←i]
end
end Go.ak.R1
end
