/- A part. No conditions. -/
import Derived.Test.YtjapbgcbkolgmaaGreatDoorA29
import Derived.Test.YtjapbgcbkolgmaaGreatDoorK03
import Derived.HandedShaped
set_option linter.all false
open Nat renaming beq->afw
noncomputable section
namespace Go.al.R1
section
open Go.Proofs Go.al Go.RowKit
def EB(f:Nat):aX:=if afw f 5 then .gf Bc else if afw f 1001 then .dD tq else if afw f 1002 then .dD Gv else if afw f 1003 then .dD Gu else sG Bf f
theorem aeM:fM Tryz.prog EB:=wg λf=>by
 unfold EB;split;·rename_i h;rw[afo h];exact aeL
 split;·rename_i h;rw[afo h];exact SY
 split;·rename_i h;rw[afo h];exact ae6
 split;·rename_i h;rw[afo h];exact ae5
 exact aew f
theorem tbC:R.Tb EB:=by constructor<;>kernel_rfl
def gty:OU Tryz.prog:={i:=3,u:=5,s:=9,is:=40,us:=44,e:=79,es:=45,st:=51,A9:=43,j:=47,b:=49,bs:=22,g:=24,hi:=Tryz.underlying3,hu:=Tryz.underlying5,hs:=Tryz.underlying9,dB:=Tryz.underlying40,BX:=Tryz.underlying44,gI:=Tryz.underlying45,OV:=Tryz.underlying43,bW:=Tryz.underlying22,he:=⟨_,Tryz.underlying79,rfl⟩,cD:=⟨_,Tryz.underlying51,rfl⟩,hj:=⟨_,Tryz.underlying47,rfl⟩,hb:=⟨_,Tryz.underlying49,rfl⟩,hg:=⟨_,Tryz.underlying24,rfl⟩,ci:=by kernel_rfl,cu:=by kernel_rfl,cs:=by kernel_rfl,Ba:=by kernel_rfl,OW:=by kernel_rfl,bk:=by kernel_rfl,OX:=by kernel_rfl,OY:=by kernel_rfl,ce:=by kernel_rfl,II:=by kernel_rfl,cj:=by kernel_rfl,cb:=by kernel_rfl,cg:=by kernel_rfl}
theorem aeP{w:World}(h:w.ShapedOpen Tryz.prog):(∃c e f,w.heap[0]?=some (.cells c e f))/\6<=w.heap.size:=by
 have hs:=h.1;have h0:(((begin Tryz.prog (λ_ _=>0) default).world.heap[0]?).bind Obj.row?).isSome=true:=by kernel_rfl
 have a:(((begin Tryz.prog (λ_ _=>0) default).world.heap[5]?).bind Obj.row?).isSome=true:=by kernel_rfl
 have j:Tryz.prog.globals.size=6:=by kernel_rfl
 obtain⟨⟨z0,t0⟩,b⟩:=Option.isSome_iff_exists.1 h0;obtain⟨⟨z5,t5⟩,d⟩:=Option.isSome_iff_exists.1 a;obtain⟨c0,g,_⟩:=hs 0 z0 t0 ab b;obtain⟨c5,i,_⟩:=hs 5 z5 t5 ab d;exact⟨⟨c0,t0,_,g⟩,(Array.getElem?_eq_some_iff.1 i).1⟩
theorem Pw{P:Program}{n:Nat}{w:World}:∀cs:List Value,aQ (uG P n w) (AW n w cs) cs|[]=>trivial|v::cs=>⟨OM v,Pw cs⟩
theorem Iz{g:G.be}(h:O9 g):R.qN g:=⟨h.nm,λb hb=>(h.bl b hb).st,λb hb=>(h.bl b hb).fn,λb hb=>(h.bl b hb).kd⟩
theorem aeQ{K:Type}{cV:TypeId×Value->K}{w:World}(l:w.ShapedOpen Tryz.prog){cs:Array Value}(h:kW cV Tryz.prog w 24 cs.toList):Calls Tryz.prog 3 #[.agg cs] w λe i=>e=.returned (.bool true)/\Below w.heap.size w i:=by
 obtain⟨hg,b⟩:=aeP l;have d:Tryz.prog.globals.size=6:=by kernel_rfl
 obtain⟨g,n,o⟩:=aej (Y:=gty) (n:=6) hg h;obtain⟨m,p⟩:=R.aea (K:=λv _=>v=.bool true) tbC (λ{H K}h=>YF.gf (show EB R.Mu=.gf Bc from rfl) rfl (h _ (aZ.refl H))) n (Iz o) λ_ _=>rfl;refine(TI aeM (f:=3) (nt:=241) (rs:=[.tmp R.p2]) (body:=R.Mv) (by kernel_rfl) p (ρ:=uG Tryz.prog 6 w) ?_ (aed d b)).mono ?_;·simp only[aQ,VR];exact⟨Pw _,trivial⟩
 rintro e i⟨v,r,c,rfl,rfl,q,_,j,_,a⟩;refine⟨?_,⟨a.os,a.tape,a.output,a.size,λk f=>a.block k f (by show¬(w.heap.size<=k);omega)⟩⟩;cases c<;>simp only[VR]at j;rw[<-j]
end
end Go.al.R1
end
