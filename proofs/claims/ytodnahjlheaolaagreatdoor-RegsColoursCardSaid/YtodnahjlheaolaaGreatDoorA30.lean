/- A part. No conditions. -/
import Derived.Test.YtodnahjlheaolaaGreatDoorA29
import Derived.Test.YtodnahjlheaolaaGreatDoorK02
import Derived.HandedShaped
set_option linter.all false
open Nat renaming beq->ahr
noncomputable section
namespace Go.al.ake
variable{A:World}
section
open Go.Proofs Go.al Go.RowKit
def ajj(f:Nat):aX:=if ahr f 5 then .ji aji else ajh f
theorem aj4:lI Tryz.prog ajj:=SK λf=>by
 unfold ajj;split;·rename_i h;rw[ahn h];exact aj3
 exact ajy f
theorem tbC:R.Tb ajj:=by constructor<;>kernel_rfl
def gty:GTy Tryz.prog:={i:=3,u:=5,s:=9,is:=25,us:=39,e:=48,es:=40,st:=46,CS:=38,j:=42,b:=44,bs:=22,g:=24,hi:=Tryz.underlying3,hu:=Tryz.underlying5,hs:=Tryz.underlying9,gZ:=Tryz.underlying25,hus:=Tryz.underlying39,jP:=Tryz.underlying40,aeZ:=Tryz.underlying38,bz:=Tryz.underlying22,he:=⟨_,Tryz.underlying48,rfl⟩,dg:=⟨_,Tryz.underlying46,rfl⟩,hj:=⟨_,Tryz.underlying42,rfl⟩,hb:=⟨_,Tryz.underlying44,rfl⟩,hg:=⟨_,Tryz.underlying24,rfl⟩,ci:=by kernel_rfl,cu:=by kernel_rfl,cs:=by kernel_rfl,CT:=by kernel_rfl,cus:=by kernel_rfl,bB:=by kernel_rfl,ae1:=by kernel_rfl,cbs:=by kernel_rfl,ce:=by kernel_rfl,Oy:=by kernel_rfl,cj:=by kernel_rfl,cb:=by kernel_rfl,cg:=by kernel_rfl}
theorem aj6(h:A.ShapedOpen Tryz.prog):(∃c e f,A.heap[0]?=some (.cells c e f))/\6<=A.heap.size:=by
 have hs:=h.1;have h0:(((begin Tryz.prog (λ_ _=>0) default).world.heap[0]?).bind Obj.row?).isSome=true:=by kernel_rfl
 have a:(((begin Tryz.prog (λ_ _=>0) default).world.heap[5]?).bind Obj.row?).isSome=true:=by kernel_rfl
 have j:Tryz.prog.globals.size=6:=by kernel_rfl
 obtain⟨⟨z0,t0⟩,b⟩:=Option.isSome_iff_exists.1 h0;obtain⟨⟨z5,t5⟩,d⟩:=Option.isSome_iff_exists.1 a;obtain⟨c0,g,_⟩:=hs 0 z0 t0 aa b;obtain⟨c5,i,_⟩:=hs 5 z5 t5 aa d;exact⟨⟨c0,t0,_,g⟩,(Array.getElem?_eq_some_iff.1 i).1⟩
theorem ajF{P:Program}{n:Nat}:∀cs:List Value,be (AG P n A) (AW n A cs) cs|[]=>trivial|v::cs=>⟨aeV v,ajF cs⟩
theorem MQ{g:G.aM}(h:GrB g):R.ml g:=⟨h.nm,λb hb=>(h.bl b hb).st,λb hb=>(h.bl b hb).fn,λb hb=>(h.bl b hb).kd⟩
theorem aj7{K:Type}{eG:TypeId×Value->K}(o:A.ShapedOpen Tryz.prog){cs:Array Value}(h:mH eG Tryz.prog A 24 cs.toList){i:Value}(h2:mH eG Tryz.prog A 25 [i]):Calls Tryz.prog 3 #[.agg cs,i] A λe j=>e=.returned (.bool true)/\Below A.heap.size A j:=by
 obtain⟨hg,b⟩:=aj6 o;have d:Tryz.prog.globals.size=6:=by kernel_rfl
 obtain⟨g,p,q⟩:=ahh (Y:=gty) (n:=6) hg h;obtain⟨_,l,r,hl⟩:=CU (Y:=gty) (n:=6) hg h2;obtain rfl:=(List.cons.inj r).1;obtain⟨m,s⟩:=R.ahf (K:=λv _=>v=.bool true) tbC (λ{H K}h=>YF.ji (show ajj R.V6=.ji aji from rfl) rfl (h _ (aR.refl H))) p (MQ q) hl λ_ _=>rfl;refine(afk aj4 (f:=3) (nt:=80) (rs:=[.tmp R.p4]) (body:=R.Yn) (by kernel_rfl) s (ρ:=AG Tryz.prog 6 A) ?_ (ahg d b)).mono ?_;·simp only[be,VR];exact⟨ajF _,aeV _,trivial⟩
 rintro e j⟨v,u,c,rfl,rfl,t,_,n,_,a⟩;refine⟨?_,⟨a.os,a.tape,a.output,a.size,λk f=>a.block k f (by show¬(A.heap.size<=k);omega)⟩⟩;cases c<;>simp only[VR]at n;rw[<-n]
end
end Go.al.ake
end
