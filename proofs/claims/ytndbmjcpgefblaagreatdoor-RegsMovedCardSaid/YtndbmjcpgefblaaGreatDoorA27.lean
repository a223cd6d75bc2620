/- A part of the proof (an abstract machine, walks): no statement of its own, no conditions. -/
import Derived.Test.YtndbmjcpgefblaaGreatDoorA26
import Derived.Test.YtndbmjcpgefblaaGreatDoorA21
import Derived.Shelf.SlSortCmp.WholeK
import Derived.Shelf.Sort.Plain
import Derived.Shelf.Slices.In.SortNone
import Derived.Shelf.SlSortCmp.NoneTotal
import Derived.Shelf.SlicesG.Cmp
import Derived.Ground.Names2Prog
import Derived.Ground.NamesProg
import Derived.Ground.SlsfProg
import Derived.Ground.SlgcProg
import Derived.Test.YtndbmjcpgefblaaGreatDoorProg
import Derived.Shelf.SlSortCmp.QuietGrown
set_option linter.all false
namespace Go.Abs
section
variable [Ov]
variable {P:Program}
open Go.Sort Go.Proofs
def encP (x:Int × Int):List Value:=[.int .i64 x.1,.int .i64 x.2]
theorem flatK_at (zs:List (Int × Int)) (t:Nat) (h:t<zs.length*2):(flatK encP 2 zs.toArray)[t]! = if t % 2=0 then .int .i64 (zs[t / 2]'(by omega)).1 else .int .i64 (zs[t / 2]'(by omega)).2:=by
  rw [get_flatK _ _ _ t (by simpa using h)]
  have h2:t / 2<zs.length:=by omega
  have:(zs.toArray)[t / 2]! = zs[t / 2]:=by simp [getElem!_pos,h2]
  rw [this]
  rcases Nat.mod_two_eq_zero_or_one t with e | e<;>simp [e,encP]
theorem sortedP_perm {zs:List (Int × Int)} (hn:(zs.map (·.1)).Nodup) {d':Array (Int × Int)} {lt:Int × Int→Int × Int→Bool} (hlt:∀ x y,lt x y=decide (x.1<y.1)) (hp:PermIn 0 zs.toArray.size zs.toArray d') (hs:SortedIn lt 0 zs.toArray.size d'):d'=(sortP zs).toArray:=by
  obtain ⟨h1,_,h3⟩:=hp
  have e1:d'.extract 0 zs.toArray.size=d':=by rw [← h1];simp
  have e2:zs.toArray.extract 0 zs.toArray.size=zs.toArray:=by simp
  rw [e1,e2] at h3
  have hpw:d'.toList.Pairwise fun a b=>a.1≤b.1:=by
    rw [List.pairwise_iff_getElem]
    intro i j hi hj hij
    have hj':j<d'.size:=by simpa using hj
    have hi':i<d'.size:=by simpa using hi
    have:=hs i j (Nat.zero_le _) hij (by omega)
    rw [hlt,getElem!_pos d' j hj',getElem!_pos d' i hi'] at this
    simp only [decide_eq_false_iff_not,Array.getElem_toList] at this ⊢
    omega
  have:=sortP_unique (sortP_asc hn) hpw ((show d'.toList.Perm zs by simpa using h3).trans (sortP_perm zs).symm)
  rw [← this]
theorem gSortP_ok {f cmpF:FuncId} (hf:HasBody P f) {lt:Int × Int→Int × Int→Bool} (hlt:∀ x y,lt x y=decide (x.1<y.1))
    (hs:∀ (blk off cap:Nat) (d:Array (Int × Int)) (w:World),HoldsK encP 2 w blk off d→blk<w.heap.size→d.size<4611686018427387904 →
      Calls P f #[.slice (some ⟨blk,off,none⟩) d.size cap,.func (.func cmpF) #[] #[]] w fun e w'=>e=.returned (.tuple #[])∧∃ d' n os,PermIn 0 d.size d d'∧SortedIn lt 0 d.size d'∧w'=sortWorldK encP 2 w blk off n d' os)
    (hn:∀ (p:Option Addr) (cap:Nat) (fv:Value) (w:World),Calls P f #[.slice p 0 cap,fv] w fun e w'=>e=.returned (.tuple #[])∧w'=w):PrimOk P f (gSortP cmpF):=by
  intro Wr ρ H H' w args v argv hg ha hI fr cs hat
  unfold gSortP at hg
  split at hg
  · injection hg with hg;injection hg with hg1 hg2
    subst hg1;subst hg2
    obtain ⟨l⟩:=argv
    match l,ha with
    | [a,b],ha =>
      simp only [VRs,and_true] at ha
      have hc:a=.slice none 0 0:=ha.1.nilslice_inv
      subst hc
      refine comes_of_calls hf (hn none 0 b w) ?_ fr cs hat
      rintro e w' ⟨rfl,rfl⟩
      exact ⟨_,rfl,Post.same hI (by simp [VR,VRs])⟩
    | [],ha=>simp [VRs] at ha
    | [_],ha=>simp [VRs] at ha
    | _::_::_::_,ha=>simp [VRs] at ha
  · injection hg with hg;injection hg with hg1 hg2
    subst hg1;subst hg2
    obtain ⟨l⟩:=argv
    match l,ha with
    | [a,b],ha =>
      simp only [VRs,and_true] at ha
      have hc:∃ p cc,a=.slice p 0 cc:=by
        have ha1:=ha.1
        cases a with
        | slice a n' cc =>
          cases a with
          | none=>simp [VR] at ha1
          | some a=>simp only [VR] at ha1;exact ⟨some a,cc,by rw [ha1.1]⟩
        | _=>simp [VR] at ha1
      obtain ⟨p,cc,rfl⟩:=hc
      refine comes_of_calls hf (hn p cc b w) ?_ fr cs hat
      rintro e w' ⟨rfl,rfl⟩
      exact ⟨_,rfl,Post.same hI (by simp [VR,VRs])⟩
    | [],ha=>simp [VRs] at ha
    | [_],ha=>simp [VRs] at ha
    | _::_::_::_,ha=>simp [VRs] at ha
  · rename_i id n0 cap ex f'
    split at hg
    case h_2=>cases hg
    rename_i c m el par ho
    split at hg
    case isFalse=>cases hg
    rename_i hcnd
    simp only [Bool.and_eq_true] at hcnd
    obtain ⟨⟨hff,hmn⟩,hnb⟩:=hcnd
    have hff:=Nat.eq_of_beq_eq_true hff
    subst hff
    have hmn:=Nat.le_of_ble_eq_true hmn
    have hnb:=Nat.le_of_ble_eq_true hnb
    generalize hn1:n0+1=n at *
    split at hg
    case h_2=>cases hg
    rename_i zs hz
    split at hg
    case isFalse=>cases hg
    rename_i hnd
    injection hg with hg;injection hg with hg1 hg2
    subst hg1;subst hg2
    obtain ⟨hzl,hzg⟩:=pairsN_get hz
    have hfl:=flatP_length zs
    have hsl:(sortP zs).length=n:=by rw [(sortP_perm zs).length_eq,hzl]
    have hfl2:=flatP_length (sortP zs)
    obtain ⟨l⟩:=argv
    match l,ha with
    | [],ha=>simp [VRs] at ha
    | [_],ha=>simp [VRs] at ha
    | _::_::_::_,ha=>simp [VRs] at ha
    | [cv,fv],ha =>
      simp only [VRs,and_true] at ha
      obtain ⟨b,x,ob,eb,hlt',hob,hor⟩:=hI.blk (i:=id) (by rw [ho];simp)
      have hcv:∃ cc,cv=.slice (some ⟨b,x,none⟩) n cc:=by
        have ha1:=ha.1
        cases cv with
        | slice a n' cc =>
          cases a with
          | none=>simp [VR] at ha1
          | some a =>
            simp only [VR] at ha1
            obtain ⟨h1,h2,h3,h4,b',x',e',h5,h6⟩:=ha1
            rw [eb] at e';injection e' with e';injection e' with q1 q2;subst q1;subst q2
            rw [h5 (by omega),h1,Nat.add_zero]
            exact ⟨cc,by subst hn1;rfl⟩
        | _=>simp [VR] at ha1
      obtain ⟨cc,rfl⟩:=hcv
      have hfv:fv=.func (.func f') #[] #[]:=by
        have ha2:=ha.2
        cases fv with
        | func g a b =>
          cases g with
          | func g =>
            simp only [VR] at ha2
            obtain ⟨h1,h2,h3⟩:=ha2
            obtain ⟨a⟩:=a
            obtain ⟨b⟩:=b
            cases a with
            | cons _ _=>simp [VRs] at h2
            | nil =>
              cases b with
              | cons _ _=>simp [VRs] at h3
              | nil=>rw [h1]
          | _=>simp [VR] at ha2
        | _=>simp [VR] at ha2
      subst hfv
      rw [ho] at hor
      cases ob<;>simp only [OR] at hor
      rename_i cells el' fz
      obtain ⟨rfl,hsz,hval,hfrz⟩:=hor
      have hH:HoldsK encP 2 w b x zs.toArray:=by
        intro j hj
        have hj':j<zs.length*2:=by simpa using hj
        obtain ⟨y,hy,hv⟩:=hval j (by omega)
        have:=hzg j (by omega)
        rw [Nat.zero_add] at this
        rw [this] at hv
        constructor
        · simp only [World.cell?,hob,Option.isSome_none,Bool.false_eq_true,if_false,hy]
          rw [flatK_at zs j hj']
          have hfa:=flatP_at zs j
          rw [getElem?_pos (flatP zs) j (by omega),getElem?_pos zs (j / 2) (by omega)] at hfa
          simp only [Option.map_some,Option.some.injEq] at hfa
          rw [hfa] at hv
          rcases Nat.mod_two_eq_zero_or_one j with e | e
          · rw [e] at hv ⊢
            simp only [if_true] at hv ⊢
            cases y<;>simp only [VR] at hv
            rename_i kk z
            obtain ⟨h1,h2⟩:=hv
            have:kk=.i64:=by cases kk<;>simp [kc] at h1<;>rfl
            subst this;rw [← h2];rfl
          · rw [e] at hv ⊢
            simp only [Nat.one_ne_zero,if_false] at hv ⊢
            cases y<;>simp only [VR] at hv
            rename_i kk z
            obtain ⟨h1,h2⟩:=hv
            have:kk=.i64:=by cases kk<;>simp [kc] at h1<;>rfl
            subst this;rw [← h2];rfl
        · have:=hfrz trivial (x+j) (by omega) (by omega)
          obtain ⟨lo,hi⟩:=fz
          simp only [World.frozen?,hob]
          simp only at this
          simp;omega
      have hcalls:=hs b x cc zs.toArray w hH hlt' (by simp;omega)
      have hzs:zs.toArray.size=n:=by simpa using hzl
      rw [hzs] at hcalls
      refine comes_of_calls hf hcalls ?_ fr cs hat
      rintro e w' ⟨rfl,d',k,os,hp,hso,rfl⟩
      have hd':=sortedP_perm hnd hlt (by rw [hzs];exact hp) (by rw [hzs];exact hso)
      subst hd'
      refine ⟨_,rfl,?_⟩
      have hob':Inv P Wr ρ ((H.drops par).set id (.cells (writeCells c 0 (flatP (sortP zs))) m el' true [] 0)) { w with heap:=w.heap.setIfInBounds b (.cells (putCells (fun v=>v) x (flatK encP 2 (sortP zs).toArray) cells) el' fz) }∧Kept Wr w { w with heap:=w.heap.setIfInBounds b (.cells (putCells (fun v=>v) x (flatK encP 2 (sortP zs).toArray) cells) el' fz) }:=by
        have:=hI.update (i:=id) (b:=b) (x:=x) (o':=.cells (writeCells c 0 (flatP (sortP zs))) m el' true [] 0) (ob':=.cells (putCells (fun v=>v) x (flatK encP 2 (sortP zs).toArray) cells) el' fz) (w':={ w with heap:=w.heap.setIfInBounds b (.cells (putCells (fun v=>v) x (flatK encP 2 (sortP zs).toArray) cells) el' fz) })
          (by rw [ho];simp) (by rw [ho];rfl) eb rfl ?_ ?_ rfl rfl rfl rfl
        · rw [ho] at this;exact this
        · simp only [OR]
          refine ⟨trivial,by simp [putCells];exact hsz,fun i hi=>?_,fun _ i h1 h2=>hfrz trivial i h1 (by simpa [putCells] using h2)⟩
          rw [writeCells_get]
          by_cases hin:i<n*2
          · rw [if_pos (by omega)]
            have hfa:=flatP_at (sortP zs) i
            rw [getElem?_pos (flatP (sortP zs)) i (by omega),getElem?_pos (sortP zs) (i / 2) (by omega)] at hfa
            simp only [Option.map_some,Option.some.injEq] at hfa
            refine ⟨(flatK encP 2 (sortP zs).toArray)[i]!,?_,?_⟩
            · simp only [putCells,Array.getElem?_mapIdx]
              rw [getElem?_pos cells (x+i) (by omega)]
              simp only [Option.map_some,Option.some.injEq]
              rw [if_pos (by simp [hsl];omega)]
              congr 1;omega
            · rw [flatK_at _ i (by omega)]
              rw [Nat.sub_zero,List.getD_eq_getElem?_getD,getElem?_pos (flatP (sortP zs)) i (by omega),Option.getD_some,hfa]
              rcases Nat.mod_two_eq_zero_or_one i with e | e<;>simp [e,VR,kc]
          · rw [if_neg (by omega)]
            obtain ⟨y,hy,hv⟩:=hval i hi
            refine ⟨y,?_,hv⟩
            simp only [putCells,Array.getElem?_mapIdx,hy,Option.map_some]
            rw [if_neg (by simp [hsl];omega)]
        · have hinf:=hI.info id b x _ (by rw [ho];simp) eb hob
          rw [ho] at hinf
          simp only [InfoR] at hinf ⊢
          rw [hinf];simp [putCells]
      have hheap:(sortWorldK encP 2 w b x k (sortP zs).toArray os).heap=w.heap.setIfInBounds b (.cells (putCells (fun v=>v) x (flatK encP 2 (sortP zs).toArray) cells) el' fz)++os:=by
        show (w.heap.modify b (onCells _))++os=_
        congr 1
        apply Array.ext_getElem?
        intro i
        rw [Array.getElem?_modify,Array.getElem?_setIfInBounds]
        by_cases hi:b=i
        · subst hi
          rw [if_pos rfl,if_pos rfl,hob,if_pos hlt'];rfl
        · rw [if_neg hi,if_neg hi]
      obtain ⟨u1,u2⟩:=Inv.grow hob'.1 (w':=sortWorldK encP 2 w b x k (sortP zs).toArray os) (os:=os) hheap rfl rfl rfl
      exact ⟨ρ,Ext.refl ρ,by simp [VR,VRs],u1,hob'.2.trans u2⟩
  · cases hg
end
end Go.Abs
namespace Go.Proofs
open Go.Shelf
def Tryz.lays189_ren:Go.Shelf.Ren:=⟨fun | 189=>47 | 125=>78 | 257=>77 | 128=>105 | 129=>106 | 294=>96 | 295=>97 | 296=>98 | 297=>99 | 298=>100 | 299=>101 | 216=>102 | 300=>103 | 301=>104 | 328=>126 | 329=>127 | 330=>128 | 331=>129 | 332=>130 | 215=>80 | 343=>145 | n=>n,fun | 28=>22 | 3=>3 | 46=>130 | 0=>0 | 51=>161 | 53=>163 | 4=>4 | 183=>153 | 182=>152 | 131=>158 | 5=>5 | 9=>9 | 218=>189 | 222=>193 | 228=>206 | 229=>207 | n=>n,fun | n=>n⟩
theorem Tryz.lays189:Go.Proofs.Lays.n189 Tryz.prog Tryz.lays189_ren:={
  mixed:=by kernel_rfl
  f125:=Tryz.func78.trans (congrArg some (by kernel_rfl))
  f128:=Tryz.func105.trans (congrArg some (by kernel_rfl))
  f129:=Tryz.func106.trans (congrArg some (by kernel_rfl))
  f189:=Tryz.func47.trans (congrArg some (by kernel_rfl))
  f215:=Tryz.func80.trans (congrArg some (by kernel_rfl))
  f216:=Tryz.func102.trans (congrArg some (by kernel_rfl))
  f257:=Tryz.func77.trans (congrArg some (by kernel_rfl))
  f294:=Tryz.func96.trans (congrArg some (by kernel_rfl))
  f295:=Tryz.func97.trans (congrArg some (by kernel_rfl))
  f296:=Tryz.func98.trans (congrArg some (by kernel_rfl))
  f297:=Tryz.func99.trans (congrArg some (by kernel_rfl))
  f298:=Tryz.func100.trans (congrArg some (by kernel_rfl))
  f299:=Tryz.func101.trans (congrArg some (by kernel_rfl))
  f300:=Tryz.func103.trans (congrArg some (by kernel_rfl))
  f301:=Tryz.func104.trans (congrArg some (by kernel_rfl))
  f328:=Tryz.func126.trans (congrArg some (by kernel_rfl))
  f329:=Tryz.func127.trans (congrArg some (by kernel_rfl))
  f330:=Tryz.func128.trans (congrArg some (by kernel_rfl))
  f331:=Tryz.func129.trans (congrArg some (by kernel_rfl))
  f332:=Tryz.func130.trans (congrArg some (by kernel_rfl))
  f343:=Tryz.func145.trans (congrArg some (by kernel_rfl))
  t0:=Tryz.underlying0
  a0:=Tryz.isAgg0
  z0:=Tryz.sizeOf0
  v0:=Tryz.zeroValue0
  t3:=Tryz.underlying3
  a3:=Tryz.isAgg3
  z3:=Tryz.sizeOf3
  v3:=Tryz.zeroValue3
  t4:=Tryz.underlying4
  a4:=Tryz.isAgg4
  z4:=Tryz.sizeOf4
  v4:=Tryz.zeroValue4
  t5:=Tryz.underlying5
  a5:=Tryz.isAgg5
  z5:=Tryz.sizeOf5
  v5:=Tryz.zeroValue5
  t9:=Tryz.underlying9
  a9:=Tryz.isAgg9
  z9:=Tryz.sizeOf9
  v9:=Tryz.zeroValue9
  t28:=Tryz.underlying22
  a28:=Tryz.isAgg22
  z28:=Tryz.sizeOf22
  v28:=Tryz.zeroValue22
  t46:=Tryz.underlying130
  a46:=Tryz.isAgg130
  z46:=Tryz.sizeOf130
  v46:=Tryz.zeroValue130
  t51:=Tryz.underlying161
  a51:=Tryz.isAgg161
  z51:=Tryz.sizeOf161
  v51:=Tryz.zeroValue161
  t53:=Tryz.underlying163
  a53:=Tryz.isAgg163
  z53:=Tryz.sizeOf163
  v53:=Tryz.zeroValue163
  t131:=Tryz.underlying158
  a131:=Tryz.isAgg158
  z131:=Tryz.sizeOf158
  v131:=Tryz.zeroValue158
  t182:=Tryz.underlying152
  a182:=Tryz.isAgg152
  z182:=Tryz.sizeOf152
  v182:=Tryz.zeroValue152
  t183:=Tryz.underlying153
  a183:=Tryz.isAgg153
  z183:=Tryz.sizeOf153
  v183:=Tryz.zeroValue153
  t218:=Tryz.underlying189
  a218:=Tryz.isAgg189
  z218:=Tryz.sizeOf189
  v218:=Tryz.zeroValue189
  t222:=Tryz.underlying193
  a222:=Tryz.isAgg193
  z222:=Tryz.sizeOf193
  v222:=Tryz.zeroValue193
  t228:=Tryz.underlying206
  a228:=Tryz.isAgg206
  z228:=Tryz.sizeOf206
  v228:=Tryz.zeroValue206
  t229:=Tryz.underlying207
  a229:=Tryz.isAgg207
  z229:=Tryz.sizeOf207
  v229:=Tryz.zeroValue207 }
def Tryz.sortMv_ren:Go.Shelf.Ren:=⟨fun | 6=>53 | 15=>78 | 14=>79 | 28=>105 | 29=>106 | 20=>107 | 21=>108 | 22=>109 | 23=>110 | 24=>111 | 25=>112 | 26=>113 | 27=>114 | 46=>131 | 47=>127 | 48=>128 | 49=>132 | 50=>133 | 57=>146 | n=>n,fun | 22=>59 | 24=>60 | 25=>110 | 3=>3 | 39=>130 | 0=>0 | 53=>161 | 55=>163 | 4=>4 | 46=>153 | 45=>152 | 50=>158 | 5=>5 | 9=>9 | 66=>189 | 70=>193 | 76=>206 | 77=>207 | n=>n,fun | n=>n⟩
theorem Tryz.sortMv:Go.Proofs.SlLaysF0.n6 Tryz.prog Tryz.sortMv_ren:={
  mixed:=by kernel_rfl
  f6:=⟨Tryz.f53.name,by decide,Tryz.func53.trans (congrArg some (by kernel_rfl))⟩
  f14:=⟨Tryz.f79.name,by decide,Tryz.func79.trans (congrArg some (by kernel_rfl))⟩
  f15:=Tryz.func78.trans (congrArg some (by kernel_rfl))
  f20:=⟨Tryz.f107.name,by decide,Tryz.func107.trans (congrArg some (by kernel_rfl))⟩
  f21:=⟨Tryz.f108.name,by decide,Tryz.func108.trans (congrArg some (by kernel_rfl))⟩
  f22:=⟨Tryz.f109.name,by decide,Tryz.func109.trans (congrArg some (by kernel_rfl))⟩
  f23:=⟨Tryz.f110.name,by decide,Tryz.func110.trans (congrArg some (by kernel_rfl))⟩
  f24:=⟨Tryz.f111.name,by decide,Tryz.func111.trans (congrArg some (by kernel_rfl))⟩
  f25:=⟨Tryz.f112.name,by decide,Tryz.func112.trans (congrArg some (by kernel_rfl))⟩
  f26:=⟨Tryz.f113.name,by decide,Tryz.func113.trans (congrArg some (by kernel_rfl))⟩
  f27:=⟨Tryz.f114.name,by decide,Tryz.func114.trans (congrArg some (by kernel_rfl))⟩
  f28:=Tryz.func105.trans (congrArg some (by kernel_rfl))
  f29:=Tryz.func106.trans (congrArg some (by kernel_rfl))
  f46:=⟨Tryz.f131.name,by decide,Tryz.func131.trans (congrArg some (by kernel_rfl))⟩
  f47:=Tryz.func127.trans (congrArg some (by kernel_rfl))
  f48:=Tryz.func128.trans (congrArg some (by kernel_rfl))
  f49:=⟨Tryz.f132.name,by decide,Tryz.func132.trans (congrArg some (by kernel_rfl))⟩
  f50:=⟨Tryz.f133.name,by decide,Tryz.func133.trans (congrArg some (by kernel_rfl))⟩
  f57:=⟨Tryz.f146.name,by decide,Tryz.func146.trans (congrArg some (by kernel_rfl))⟩
  t0:=Tryz.underlying0
  a0:=Tryz.isAgg0
  z0:=Tryz.sizeOf0
  v0:=Tryz.zeroValue0
  t3:=Tryz.underlying3
  a3:=Tryz.isAgg3
  z3:=Tryz.sizeOf3
  v3:=Tryz.zeroValue3
  t4:=Tryz.underlying4
  a4:=Tryz.isAgg4
  z4:=Tryz.sizeOf4
  v4:=Tryz.zeroValue4
  t5:=Tryz.underlying5
  a5:=Tryz.isAgg5
  z5:=Tryz.sizeOf5
  v5:=Tryz.zeroValue5
  t9:=Tryz.underlying9
  a9:=Tryz.isAgg9
  z9:=Tryz.sizeOf9
  v9:=Tryz.zeroValue9
  t22:=Tryz.underlying59
  a22:=Tryz.isAgg59
  z22:=Tryz.sizeOf59
  v22:=Tryz.zeroValue59
  t25:=Tryz.underlying110
  a25:=Tryz.isAgg110
  z25:=Tryz.sizeOf110
  v25:=Tryz.zeroValue110
  t39:=Tryz.underlying130
  a39:=Tryz.isAgg130
  z39:=Tryz.sizeOf130
  v39:=Tryz.zeroValue130
  t45:=Tryz.underlying152
  a45:=Tryz.isAgg152
  z45:=Tryz.sizeOf152
  v45:=Tryz.zeroValue152
  t46:=Tryz.underlying153
  a46:=Tryz.isAgg153
  z46:=Tryz.sizeOf153
  v46:=Tryz.zeroValue153
  t50:=Tryz.underlying158
  a50:=Tryz.isAgg158
  z50:=Tryz.sizeOf158
  v50:=Tryz.zeroValue158
  t53:=Tryz.underlying161
  a53:=Tryz.isAgg161
  z53:=Tryz.sizeOf161
  v53:=Tryz.zeroValue161
  t55:=Tryz.underlying163
  a55:=Tryz.isAgg163
  z55:=Tryz.sizeOf163
  v55:=Tryz.zeroValue163
  t66:=Tryz.underlying189
  a66:=Tryz.isAgg189
  z66:=Tryz.sizeOf189
  v66:=Tryz.zeroValue189
  t70:=Tryz.underlying193
  a70:=Tryz.isAgg193
  z70:=Tryz.sizeOf193
  v70:=Tryz.zeroValue193
  t76:=Tryz.underlying206
  a76:=Tryz.isAgg206
  z76:=Tryz.sizeOf206
  v76:=Tryz.zeroValue206
  t77:=Tryz.underlying207
  a77:=Tryz.isAgg207
  z77:=Tryz.sizeOf207
  v77:=Tryz.zeroValue207 }
def Tryz.cmpMv_ren:Go.Shelf.Ren:=⟨fun | 5=>55 | 7=>80 | n=>n,fun | 22=>3 | 3=>3 | 4=>4 | n=>n,fun | n=>n⟩
theorem Tryz.cmpMv:Go.Proofs.SlLaysC2.n5 Tryz.prog Tryz.cmpMv_ren:={
  mixed:=by kernel_rfl
  f5:=⟨Tryz.f55.name,by decide,Tryz.func55.trans (congrArg some (by kernel_rfl))⟩
  f7:=⟨Tryz.f80.name,by decide,Tryz.func80.trans (congrArg some (by kernel_rfl))⟩
  t3:=Tryz.underlying3
  a3:=Tryz.isAgg3
  z3:=Tryz.sizeOf3
  v3:=Tryz.zeroValue3
  t4:=Tryz.underlying4
  a4:=Tryz.isAgg4
  z4:=Tryz.sizeOf4
  v4:=Tryz.zeroValue4
  t22:=Tryz.underlying3
  a22:=Tryz.isAgg3
  z22:=Tryz.sizeOf3
  v22:=Tryz.zeroValue3 }
end Go.Proofs
namespace Go.Proofs
open Go.Shelf Go.RowKit Go.Lib Go.Sort Go.Abs
set_option maxHeartbeats 1000000 in
theorem Tryz.to56 (x y:Int) (W:World):Calls Tryz.prog 56 #[.agg #[.int .i64 x,.int .i64 y]] W fun e w'=>e=.returned (.int .i64 x)∧∃ q os',w'=grow (W.drewN q) os':=by
  go_enter Tryz.func56,Tryz.ntmps56
  go_wp2
  go_ret
  exact ⟨rfl,0,_,by rw [alloc_eq_grow];rfl⟩
set_option maxHeartbeats 1000000 in
theorem Tryz.cl54 (x y:Int × Int) (W:World):Calls Tryz.prog 54 #[.agg #[.int .i64 x.1,.int .i64 x.2],.agg #[.int .i64 y.1,.int .i64 y.2]] W fun e w'=>e=.returned (.int .i64 (Lib.compareInt x.1 y.1))∧∃ q os',w'=grow (W.drewN q) os':=by
  obtain ⟨x1,x2⟩:=x
  obtain ⟨y1,y2⟩:=y
  have hcon:=fun W'=>AnyG.cmp_Compare_int Tryz.cmpMv x1 y1 W'
  change ∀ W',Calls Tryz.prog 55 _ _ _ at hcon
  have hct:=fun a b W'=>Tryz.to56 a b W'
  simp only []
  generalize Lib.compareInt x1 y1=r at hcon ⊢
  go_enter Tryz.func54,Tryz.ntmps54
  go_wp2_with fail
  generalize hW2:(W.alloc (Obj.cells #[Value.int IntKind.i64 x1,Value.int IntKind.i64 x2] 60)).alloc (Obj.cells #[Value.int IntKind.i64 y1,Value.int IntKind.i64 y2] 60)=W2
  have hWW:W2=grow W #[Obj.cells #[Value.int IntKind.i64 x1,Value.int IntKind.i64 x2] 60,Obj.cells #[Value.int IntKind.i64 y1,Value.int IntKind.i64 y2] 60]:=by
    rw [← hW2,alloc_eq_grow,alloc_eq_grow,grow_grow];rfl
  have hs:W2.heap.size=W.heap.size+2:=by rw [hWW];simp [grow]
  have a0:W2.cell? ⟨W.heap.size,0,none⟩=some (.int .i64 x1):=by rw [hWW];simp [grow,World.cell?]
  have a1:W2.cell? ⟨W.heap.size,1,none⟩=some (.int .i64 x2):=by rw [hWW];simp [grow,World.cell?]
  have b0:W2.cell? ⟨W.heap.size+1,0,none⟩=some (.int .i64 y1):=by rw [hWW];simp [grow,World.cell?]
  have b1:W2.cell? ⟨W.heap.size+1,1,none⟩=some (.int .i64 y2):=by rw [hWW];simp [grow,World.cell?]
  have ca0:∀ n os,(grow (W2.drewN n) os).cell? ⟨W.heap.size,0,none⟩=some (.int .i64 x1):=fun n os=>cell_grown (by show W.heap.size<_;omega) a0 n os
  have ca1:∀ n os,(grow (W2.drewN n) os).cell? ⟨W.heap.size,1,none⟩=some (.int .i64 x2):=fun n os=>cell_grown (by show W.heap.size<_;omega) a1 n os
  have cb0:∀ n os,(grow (W2.drewN n) os).cell? ⟨W.heap.size+1,0,none⟩=some (.int .i64 y1):=fun n os=>cell_grown (by show W.heap.size+1<_;omega) b0 n os
  have cb1:∀ n os,(grow (W2.drewN n) os).cell? ⟨W.heap.size+1,1,none⟩=some (.int .i64 y2):=fun n os=>cell_grown (by show W.heap.size+1<_;omega) b1 n os
  have hcg:∀ n os,Calls Tryz.prog 55 #[.int .i64 x1,.int .i64 y1] (grow (W2.drewN n) os) fun e w'=>e=.returned (.int .i64 r)∧∃ q os',w'=grow ((grow (W2.drewN n) os).drewN q) os':=fun n os=>(hcon _).mono fun e w' h=>⟨h.1,0,#[],by rw [h.2,grow_empty];rfl⟩
  have HW:∃ os0,W2=grow W os0:=⟨_,hWW⟩
  clear hW2 hWW a0 a1 b0 b1 hs hcon
  have mixed:Tryz.prog.follows .mixedOrders=true:=by kernel_rfl
  have aE:=Tryz.isAgg60
  have zE:=Tryz.sizeOf60
  go_quiet_grown (first | (go_at_call 56;refine Calls.grown_of (hct _ _ _)) | (go_at_call 55;refine Calls.grown_of (hcg _ _)))
  go_wp2
  go_ret
  refine ⟨rfl,?_⟩
  obtain ⟨os0,rfl⟩:=HW
  exact ⟨nq,os0++osq,by show grow (grow (W.drewN nq) os0) osq=_;rw [grow_grow]⟩
end Go.Proofs
