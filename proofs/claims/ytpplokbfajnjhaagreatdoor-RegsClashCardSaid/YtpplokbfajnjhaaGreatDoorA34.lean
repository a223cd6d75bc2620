/- A part. No conditions. -/
import Derived.Test.YtpplokbfajnjhaaGreatDoorA32
import Derived.Test.YtpplokbfajnjhaaGreatDoorA33
import Derived.Test.YtpplokbfajnjhaaGreatDoorK02
import Derived.HandedShaped
set_option linter.all false
open Nat renaming beq->ah8
noncomputable section
namespace Go.al.R1
section
open Go.Proofs Go.al Go.RowKit
def CU(f:Nat):aV:=if ah8 f 5 then .fF As else Ar f
theorem afL:iX Tryz.prog CU:=zh λf=>by
 unfold CU;split;·rename_i h;rw[ah5 h];exact afK
 exact O9 f
theorem tbC:R.Tb CU:=by constructor<;>kernel_rfl
def gty:OP Tryz.prog:={i:=3,u:=5,s:=9,is:=39,us:=41,e:=50,es:=42,st:=48,Ap:=40,j:=44,b:=46,bs:=22,g:=24,hi:=Tryz.underlying3,hu:=Tryz.underlying5,hs:=Tryz.underlying9,gQ:=Tryz.underlying39,OQ:=Tryz.underlying41,jv:=Tryz.underlying42,OS:=Tryz.underlying40,bG:=Tryz.underlying22,he:=⟨_,Tryz.underlying50,rfl⟩,de:=⟨_,Tryz.underlying48,rfl⟩,hj:=⟨_,Tryz.underlying44,rfl⟩,hb:=⟨_,Tryz.underlying46,rfl⟩,hg:=⟨_,Tryz.underlying24,rfl⟩,ci:=by kernel_rfl,cu:=by kernel_rfl,cs:=by kernel_rfl,Aq:=by kernel_rfl,OT:=by kernel_rfl,bB:=by kernel_rfl,OU:=by kernel_rfl,OV:=by kernel_rfl,ce:=by kernel_rfl,Hd:=by kernel_rfl,cj:=by kernel_rfl,cb:=by kernel_rfl,cg:=by kernel_rfl}
theorem afO{w:World}(h:w.ShapedOpen Tryz.prog):(∃c e f,w.heap[0]?=some (.cells c e f))/\6<=w.heap.size:=by
 have hs:=h.1;have h0:(((begin Tryz.prog (λ_ _=>0) default).world.heap[0]?).bind Obj.row?).isSome=true:=by kernel_rfl
 have a:(((begin Tryz.prog (λ_ _=>0) default).world.heap[5]?).bind Obj.row?).isSome=true:=by kernel_rfl
 have j:Tryz.prog.globals.size=6:=by kernel_rfl
 obtain⟨⟨z0,t0⟩,b⟩:=Option.isSome_iff_exists.1 h0;obtain⟨⟨z5,t5⟩,d⟩:=Option.isSome_iff_exists.1 a;obtain⟨c0,g,_⟩:=hs 0 z0 t0 aa b;obtain⟨c5,i,_⟩:=hs 5 z5 t5 aa d;exact⟨⟨c0,t0,_,g⟩,(Array.getElem?_eq_some_iff.1 i).1⟩
theorem Pe{P:Program}{n:Nat}{w:World}:∀cs:List Value,aZ (vJ P n w) (AW n w cs) cs|[]=>trivial|v::cs=>⟨OH v,Pe cs⟩
theorem CF{g:G.aP}(h:OX g):R.lT g:=⟨h.nm,λb hb=>(h.bl b hb).st,λb hb=>(h.bl b hb).fn,λb hb=>(h.bl b hb).kd⟩
theorem afP{K:Type}{da:TypeId×Value->K}{w:World}(j:w.ShapedOpen Tryz.prog){cs:Array Value}(h:lG da Tryz.prog w 24 cs.toList):Calls Tryz.prog 3 #[.agg cs] w λe w'=>e=.returned (.bool true)/\Below w.heap.size w w':=by
 obtain⟨hg,b⟩:=afO j;have d:Tryz.prog.globals.size=6:=by kernel_rfl
 obtain⟨g,l,n⟩:=afm (Y:=gty) (n:=6) hg h;obtain⟨m,o⟩:=R.afd (K:=λv _=>v=.bool true) tbC (λ{H K}h=>YF.fF (show CU R.KI=.fF As from rfl) rfl (h _ (aS.refl H))) l (CF n) λ_ _=>rfl;refine(TD afL (f:=3) (nt:=65) (rs:=[.tmp R.p2]) (body:=R.K5) (by kernel_rfl) o (ρ:=vJ Tryz.prog 6 w) ?_ (afg d b)).mono ?_;·simp only[aZ,VR];exact⟨Pe _,trivial⟩
 rintro e w'⟨v,H',c,rfl,rfl,p,_,i,_,a⟩;refine⟨?_,⟨a.os,a.tape,a.output,a.size,λk f=>a.block k f (by show¬(w.heap.size<=k);omega)⟩⟩;cases c<;>simp only[VR]at i;rw[<-i]
end
end Go.al.R1
end
