/- A part of the proof. No conditions. -/
import Derived.Test.YtjhkgigolpfcfaaGreatDoorA31
import Derived.Test.YtjhkgigolpfcfaaGreatDoorK02
import Derived.HandedShaped
set_option linter.all false
open Nat renaming eq_of_beq_eq_true->aj4,beq->akb,le_of_ble_eq_true->akc
noncomputable section
namespace Go.am.R1
section
open Go.Proofs Go.am Go.RowKit
def FB(f:Nat):aG:=if akb f 10 then .ix Dd else if [3,14,15,16,27,43,44,46,47,86,87,130].any (akb f) then e f else nq.bw .none f
theorem ahm{P:Program}{ac:Nat->aG}(a:kr P ac)(f:Nat):kM P f (ac f):=by cases h:ac f with|none=>trivial|code b c body=>exact a.code f b c body h|ix g=>exact a.ix f g h|ez g=>exact a.ez f g h
theorem ahn:kr Tryz.prog FB:=Ee λf=>by
 unfold FB;split;·rename_i h;rw[aj4 h];exact ahl
 split;·exact o f
 exact ahm FA f
theorem tbC:R.Tb FB:=by constructor<;>kernel_rfl
def gty:Q' Tryz.prog:={i:=3,u:=5,s:=9,is:=42,us:=51,e:=64,es:=52,st:=58,Db:=50,j:=54,b:=56,bs:=22,g:=24,hi:=Tryz.underlying3,hu:=Tryz.underlying5,hs:=Tryz.underlying9,ji:=Tryz.underlying42,Ra:=Tryz.underlying51,k7:=Tryz.underlying52,Rb:=Tryz.underlying50,cA:=Tryz.underlying22,he:=⟨_,Tryz.underlying64,rfl⟩,eh:=⟨_,Tryz.underlying58,rfl⟩,hj:=⟨_,Tryz.underlying54,rfl⟩,hb:=⟨_,Tryz.underlying56,rfl⟩,hg:=⟨_,Tryz.underlying24,rfl⟩,ci:=by kernel_rfl,cu:=by kernel_rfl,cs:=by kernel_rfl,Dc:=by kernel_rfl,Rc:=by kernel_rfl,bx:=by kernel_rfl,Re:=by kernel_rfl,Rf:=by kernel_rfl,ce:=by kernel_rfl,Kq:=by kernel_rfl,cj:=by kernel_rfl,cb:=by kernel_rfl,cg:=by kernel_rfl}
theorem ahq{w:World}(h:w.ShapedOpen Tryz.prog):(∃c e f,w.heap[0]?=some (.cells c e f))/\6<=w.heap.size:=by
 have hs:=h.1;have h0:(((begin Tryz.prog (λ_ _=>0) default).world.heap[0]?).bind Obj.row?).isSome=true:=by kernel_rfl
 have a:(((begin Tryz.prog (λ_ _=>0) default).world.heap[5]?).bind Obj.row?).isSome=true:=by kernel_rfl
 have j:Tryz.prog.globals.size=6:=by kernel_rfl
 obtain⟨⟨z0,t0⟩,b⟩:=Option.isSome_iff_exists.1 h0;obtain⟨⟨z5,t5⟩,d⟩:=Option.isSome_iff_exists.1 a;obtain⟨c0,g,_⟩:=hs 0 z0 t0 af b;obtain⟨c5,i,_⟩:=hs 5 z5 t5 af d;exact⟨⟨c0,t0,_,g⟩,(Array.getElem?_eq_some_iff.1 i).1⟩
theorem Rr{P:Program}{n:Nat}{w:World}:∀cs:List Value,bj (y9 P n w) (AW n w cs) cs|[]=>trivial|v::cs=>⟨Q3 v,Rr cs⟩
theorem byt{g:G.bu}(h:Rh g):R.CQ g:=⟨h.nm,λb hb=>(h.bl b hb).st,λb hb=>(h.bl b hb).fn,λb hb=>(h.bl b hb).kd⟩
theorem ahs{K:Type}{eL:TypeId×Value->K}{w:World}(n:w.ShapedOpen Tryz.prog){cs:Array Value}(h:oG eL Tryz.prog w 24 cs.toList){z:Int}:Calls Tryz.prog 3 #[.agg cs,.int .i64 z] w λe w'=>e=.returned (.bool true)/\Below w.heap.size w w':=by
 obtain⟨hg,f⟩:=ahq n;have i:Tryz.prog.globals.size=6:=by kernel_rfl
 obtain⟨g,p,q⟩:=agV (Y:=gty) (n:=6) hg h;obtain⟨m,r⟩:=R.aay (z:=z) (K:=λv _=>v=.bool true) tbC (λ{H K}h=>YF.ix (show FB R.NT=.ix Dd from rfl) rfl (h _ (bm.refl H))) p (byt q) λ_ _=>rfl;refine(VO ahn (f:=3) (M:=58) (N:=[.tmp R.p4]) (body:=R.Zj) (by kernel_rfl) r (x:=y9 Tryz.prog 6 w) ?_ (agP i f)).mono ?_;·simp only[bj,VR];exact⟨Rr _,⟨rfl,trivial⟩,trivial⟩
 rintro e w'⟨v,H',c,rfl,rfl,s,_,l,_,d⟩;refine⟨?_,⟨d.os,d.tape,d.output,d.size,λk j=>d.block k j (by show¬(w.heap.size<=k);omega)⟩⟩;cases c<;>simp only[VR]at l;rw[<-l]
end
end Go.am.R1
end
