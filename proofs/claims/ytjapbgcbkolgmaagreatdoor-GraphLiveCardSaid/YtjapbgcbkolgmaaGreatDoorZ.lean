/-
  'lode/lodelaw11.GraphLive' returns true for every input, and its argument reads afterwards as before; the listed package variables hold at the beginning what the program's text lays (the card ties them). No other condition.
-/
import Derived.Test.YtjapbgcbkolgmaaGreatDoorA30
import Derived.Test.YtjapbgcbkolgmaaGreatDoorCards
import Derived.Test.YtjapbgcbkolgmaaGreatDoorTie
import Derived.SevenTiedAt
import Derived.LaidMore
import Derived.Test.YtjapbgcbkolgmaaGreatDoorRows
import Derived.WalkKit
import Derived.ProofKit
import Derived.OpenShut
import Derived.ShutString
import Derived.ChangeOld
namespace Go.Proofs.YtjapbgcbkolgmaaGreatDoor.graphLive
open Go.ChangeShapes Go.WideShapes Go.ChangeAt Go.RowKit
open Go.ChangeMaps(open_string shut_string)
set_option linter.all false
set_option maxHeartbeats 16000000
theorem kx{p:Prop}(h:p:=by as_aux_lemma=>kernel_rfl):p:=h
theorem an{a b:Bool}(h:a=true)(k:b=true):(a&&b)=true:=by rw[h,k];rfl
theorem noGo:Tryz.prog.funcs.toList.all (fun fn=>!fn.goes)=true:=by kernel_rfl
theorem goes_no(f:FuncId):Tryz.prog.goes f=false:=by
 have h:∀fn∈Tryz.prog.funcs.toList,fn.goes=false:=fun fn hf=>by simpa using List.all_eq_true.1 noGo fn hf
 have h1:∀g:FuncId,(Tryz.prog.funcs[g]?).any Func.goes=false:=fun g=>by cases hg:Tryz.prog.funcs[g]? with|none=>rfl|some fn=>exact h fn (Array.mem_toList_iff.2 (Array.mem_of_getElem? hg))
 have h2:Tryz.prog.funcs.any Func.goes=false:=by rw[←Array.any_toList,List.any_eq_false];exact fun fn hf=>by rw[h fn hf];simp
 unfold Program.goes;rw[h2,Bool.and_false,Bool.or_false,List.any_eq_false];exact fun g _=>by rw[h1 g];simp
theorem goesAt_no{P:Program}(h:∀f,P.goes f=false)(n:String):P.goesAt .entering n=false:=by unfold Program.goesAt Program.goesFrom;rw[Bool.or_false];cases P.funcNamed n with|none=>rfl|some f=>exact h f
theorem goesBy_no:false=Rows.graphLiveRow.goesBy Tryz.prog:=(goesAt_no goes_no _).symm
theorem own:ownKnob Tryz.prog.godebug=none:=by kernel_rfl
theorem laidOut:laidOutB Tryz.prog=true:=by kernel_rfl
theorem of_change_and_shaped{H:Type}{enc:TypeId×Value→H}{a:Assume}{C:Checked}{os:Os}{f:FuncId}{fn:Func}{s:ChangeSpec}{conds:List PathCond}{apart fresh handsOn again:Bool}{X:World→Array Value→Prop}(own:ownKnob C.prog.godebug=none)(started:os.Started)(noInit:C.prog.inits.idxOf? f=none)(hfn:C.prog.funcs[f]?=some fn)(witness:∃(w:World)(tape:Tape)(i:Input),w.os=os∧(w.forCall tape i).Shaped C.prog∧i.vars=[]∧Input.okWide C.prog (w.forCall tape i) .any w.heap.size f i∧((s.pre enc C.prog fn conds apart (w.forCall tape i).memory i.args∧X (w.forCall tape i).memory i.args)∧sizedMet enc C.prog fn (OpenSpec.ofChange s) apart (w.forCall tape i).memory i.args)∧a.holds C.prog (lone (Frame.enter C.prog f i.args .normal) [] (w.forCall tape i)))(contract:∀(W:World)(base:Nat)(args:Array Value)(ds gs:List (DataW H))(before:List MemPlace),(∀(j:Nat)t v,fn.params[j]?=some t→args[j]?=some v→Value.okWide C.prog W .any base t v)→DataW.Whole enc C.prog fn.params.toList s.vars apart W args.toList ds gs before→W.ShapedOpen C.prog→Calls C.prog f args W fun e W'=>∃v,e=.returned v∧s.post enc C.prog fn apart fresh handsOn again W args v W'):ReturnsInHanded a C os f .any (fun w args=>(s.pre enc C.prog fn conds apart w args∧X w args)∧sizedMet enc C.prog fn (OpenSpec.ofChange s) apart w args) (s.post enc C.prog fn apart fresh handsOn again):=by refine returnsInHanded_of_calls own started noInit witness ?_;intro w tape i _ hsh _ hok hpre hholds;obtain⟨_,_,_,fn',hfn',_,_,_,_,hval⟩:=hok;have e:fn'=fn:=Option.some.inj (hfn'.symm.trans hfn);subst e;obtain⟨⟨⟨ds,gs,before,hw,hc⟩,hx⟩,hz⟩:=hpre;have hw':=DataW.Whole.of_heap (w':=w.forCall tape i) (by rfl) hw;refine(contract (w.forCall tape i) w.heap.size i.args ds gs before hval hw' hsh).mono fun e W'⟨v,he,hp⟩=>?_;subst he;exact ChangeSpec.post_blind hp
def laid5:List (String×DataW Unit):=Rows.graphLiveRow.laid
theorem door_met(os:Os)(args:Array Value):laidMetH Tryz.prog laid5 ((World.doorLaid Tryz.prog 62 os).forCall (fun _ _=>0) ⟨#[],args,[]⟩).memory:=laidMetH_of_parts3 (fuel:=8) (laidMet_of_run' 8 kx kx) kx kx
set_option maxRecDepth 100000 in theorem lifted(os:Os)(started:os.Started)(H:Type)(enc:TypeId×Value→H):ReturnsInHanded {} Tryz.checked os 3 .any (fun w args=>(Rows.graphLiveSpec.pre enc Tryz.prog Tryz.f3 [] false w args∧laidMetH Tryz.prog laid5 w)∧sizedMet enc Tryz.prog Tryz.f3 (OpenSpec.ofChange Rows.graphLiveSpec) false w args) (Rows.graphLiveSpec.post enc Tryz.prog Tryz.f3 false true false false):=by
 refine of_change_and_shaped (C:=Tryz.checked) (X:=fun w _=>laidMetH Tryz.prog laid5 w) own started kx Tryz.func3 (ChangeSpec.witness_shaped (enc:=enc) (C:=Tryz.checked) (os:=os) (X:=fun w _=>laidMetH Tryz.prog laid5 w) false (World.doorLaid Tryz.prog 62 os) #[.agg #[.string ⟨#[]⟩,.int .i64 0,.int .i64 0,.slice none 0 0]] 8 rfl (World.shaped_of_RefB kx kx) kx kx kx (door_met os _)) ?_;intro W base args ds gs before hval0 hW hsh;have hval:∀(j:Nat)t v,Tryz.f3.params[j]?=some t→args[j]?=some v→Value.okWide Tryz.prog W .any base t v:=hval0;have hW':=hW;obtain⟨p,q,hA0,hV,rfl,hfz,hnd⟩:=hW;have hA:DataW.TrodAll enc Tryz.prog W 0 (fun _=>true) true Tryz.f3.params.toList args.toList ds p:=hA0;rw[Tryz.params3]at hA hval;obtain⟨v0,vs0,d0,ds0,p0,q0,hargs,rfl,rfl,h0,r0⟩:=trodAll_cons hA;obtain⟨rfl,rfl,rfl⟩:=trodAll_nil r0;obtain rfl:args= #[v0]:=by cases args;simp_all
 obtain⟨rfl,rfl⟩:=trodVars_none hV;obtain⟨cs,rfl,_⟩:=okWide_struct Tryz.underlying24 (hval 0 24 v0 rfl rfl);have k0:=h0;have lt0:∀x∈p0,x.block<W.heap.size:=by obtain⟨m,hm⟩:=k0;exact DataW.trod_lt m _ _ _ hm
 have w0:Go.al.kW enc Tryz.prog W 24 cs.toList:=by obtain⟨m,hm⟩:=h0;exact⟨m,_,hm⟩
 clear hA0 hval0;refine(Go.al.R1.aeQ hsh w0).mono fun e W'⟨he,bel⟩=>?_;subst he;exact⟨_,rfl,_,_,_,[],_,[],hW',trodAll_mk1 (shut_bool Tryz.underlying4 _),(trodAll_cons_mk (Below.trod laidOut kx (of_decide_eq_true kx) k0 bel lt0) trodAll_mk0),rfl,bel.frame _,fun h=>by cases h⟩
theorem facts:joinedFacts Tryz.prog 3 Tryz.f3 Rows.graphLiveSpec Rows.graphLiveRow=true:=by
 unfold joinedFacts;repeat' with_reducible(refine an ?_ ?_)
 all_goals exact kx
theorem over:Rows.graphLiveRow.holds Tryz.pinned (OpenSpec.ofChange Rows.graphLiveSpec):=OpenClaim.holds_of_wide 3 Tryz.f3 rfl rfl rfl rfl rfl rfl rfl ⟨rfl,rfl,rfl,rfl,rfl⟩ rfl rfl rfl rfl rfl kx Tryz.func3 facts (of_decide_eq_true kx) (by unfold Func.isWrapper;first|(rw[if_pos (by decide+kernel)];kernel_rfl)|(rw[if_neg (by decide+kernel)];exact⟨rfl,rfl⟩)) (fun os started H enc _=>lifted os started H enc)
theorem proved:Rows.GraphLiveSaid:=over
theorem card_holds:Rows.GraphLiveCardSaid:=Claim7.holds_tied_plain_at .later [] [.data,.data,.data,.sentinel,.sentinel] true (true,"98fa0285d95dc29a2c98f304d8c50f86ab66763768ac9664f4776760cd406087") true proved (fun _ h=>by cases h) kx (fun _ h=>by cases h) graphLive_row_tie rfl ⟨rfl,rfl⟩ kx rfl (fun f fn hf hfn=>by
 obtain rfl:f=3:=Option.some.inj ((show Tryz.prog.funcNamed Rows.graphLiveRow.func=some 3 by kernel_rfl).symm.trans hf)|>.symm;obtain rfl:fn=Tryz.f3:=(Option.some.inj (Tryz.func3.symm.trans hfn)).symm;exact⟨by kernel_rfl,fun j t ht=>by
  rw[Tryz.params3]at ht;obtain rfl:t=24:=by
   rcases j with _|j;·simpa using ht.symm
   simp at ht
  exact(show Tryz.prog.wantsStandIn 24=false by kernel_rfl)⟩) goesBy_no
#print axioms card_holds
end Go.Proofs.YtjapbgcbkolgmaaGreatDoor.graphLive
