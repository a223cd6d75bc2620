/- A part. No conditions. -/
import Derived.Test.YtcipmlnpjkngpaaGreatDoorA29
import Derived.Test.YtcipmlnpjkngpaaGreatDoorK03
import Derived.HandedShaped
set_option linter.all false
open Nat renaming beq->aeF
noncomputable section
namespace Go.ak.R1
section
open Go.Proofs Go.ak Go.RowKit
def BP(f:Nat):aX:=if aeF f 5 then .fV zi else sx zl f
theorem acl:gC Tryz.prog BP:=vO λf=>by
 unfold BP;split;·rename_i h;rw[aey h];exact ack
 exact ab4 f
theorem tbC:R.Tb BP:=by constructor<;>kernel_rfl
def gty:MB Tryz.prog:={i:=3,u:=5,s:=9,is:=32,us:=42,e:=51,es:=43,st:=49,zf:=41,j:=45,b:=47,bs:=22,g:=24,hi:=Tryz.underlying3,hu:=Tryz.underlying5,hs:=Tryz.underlying9,dB:=Tryz.underlying32,kX:=Tryz.underlying42,gD:=Tryz.underlying43,MC:=Tryz.underlying41,bH:=Tryz.underlying22,he:=⟨_,Tryz.underlying51,rfl⟩,cz:=⟨_,Tryz.underlying49,rfl⟩,hj:=⟨_,Tryz.underlying45,rfl⟩,hb:=⟨_,Tryz.underlying47,rfl⟩,hg:=⟨_,Tryz.underlying24,rfl⟩,ci:=by kernel_rfl,cu:=by kernel_rfl,cs:=by kernel_rfl,zg:=by kernel_rfl,MD:=by kernel_rfl,bi:=by kernel_rfl,ME:=by kernel_rfl,MF:=by kernel_rfl,ce:=by kernel_rfl,FB:=by kernel_rfl,cj:=by kernel_rfl,cb:=by kernel_rfl,cg:=by kernel_rfl}
theorem aco{w:World}(h:w.ShapedOpen Tryz.prog):(∃c e f,w.heap[0]?=some (.cells c e f))/\6<=w.heap.size:=by
 have hs:=h.1;have h0:(((begin Tryz.prog (λ_ _=>0) default).world.heap[0]?).bind Obj.row?).isSome=true:=by kernel_rfl
 have a:(((begin Tryz.prog (λ_ _=>0) default).world.heap[5]?).bind Obj.row?).isSome=true:=by kernel_rfl
 have j:Tryz.prog.globals.size=6:=by kernel_rfl
 obtain⟨⟨z0,t0⟩,b⟩:=Option.isSome_iff_exists.1 h0;obtain⟨⟨z5,t5⟩,d⟩:=Option.isSome_iff_exists.1 a;obtain⟨c0,g,_⟩:=hs 0 z0 t0 ab b;obtain⟨c5,i,_⟩:=hs 5 z5 t5 ab d;exact⟨⟨c0,t0,_,g⟩,(Array.getElem?_eq_some_iff.1 i).1⟩
theorem M7{P:Program}{n:Nat}{w:World}:∀cs:List Value,aR (ul P n w) (AW n w cs) cs|[]=>trivial|v::cs=>⟨Mu v,M7 cs⟩
theorem Bt{g:G.aY}(h:MH g):R.mh g:=⟨h.nm,λb hb=>(h.bl b hb).st,λb hb=>(h.bl b hb).fn,λb hb=>(h.bl b hb).kd⟩
theorem acp{K:Type}{cP:TypeId×Value->K}{w:World}(l:w.ShapedOpen Tryz.prog){cs:Array Value}(h:kL cP Tryz.prog w 24 cs.toList):Calls Tryz.prog 3 #[.agg cs] w λe i=>e=.returned (.bool true)/\Below w.heap.size w i:=by
 obtain⟨hg,b⟩:=aco l;have d:Tryz.prog.globals.size=6:=by kernel_rfl
 obtain⟨g,n,o⟩:=abR (Y:=gty) (n:=6) hg h;obtain⟨m,p⟩:=R.abI (K:=λv _=>v=.bool true) tbC (λ{H K}h=>YF.fV (show BP R.JN=.fV zi from rfl) rfl (h _ (aZ.refl H))) n (Bt o) λ_ _=>rfl;refine(Rs acl (f:=3) (nt:=64) (rs:=[.tmp R.p2]) (body:=R.JO) (by kernel_rfl) p (ρ:=ul Tryz.prog 6 w) ?_ (abL d b)).mono ?_;·simp only[aR,VR];exact⟨M7 _,trivial⟩
 rintro e i⟨v,r,c,rfl,rfl,q,_,j,_,a⟩;refine⟨?_,⟨a.os,a.tape,a.output,a.size,λk f=>a.block k f (by show¬(w.heap.size<=k);omega)⟩⟩;cases c<;>simp only[VR]at j;rw[<-j]
end
end Go.ak.R1
end
