/-
  The statement: AskDays. For all right realms and files, what is later than the day of the case changes no answer
-/
import Derived.Test.YtipjidjopglknaaGreatDoorEAQ
import Derived.Test.YtipjidjopglknaaGreatDoorCards
import Derived.Test.YtipjidjopglknaaGreatDoorTie
import Derived.ProofKit
import Derived.LaidMore
import Derived.OpenShut
import Derived.Stop.Joined
import Derived.SevenTiedAt
set_option linter.unusedSimpArgs false
set_option linter.unusedVariables false
namespace Go.Proofs.YtipjidjopglknaaGreatDoor
open Go Go.Proofs Cx Rm Go.RowKit Go.ChangeShapes Go.WideShapes
theorem alA:ownKnob Tryz.prog.godebug=none:=by kernel_rfl
abbrev Df:List (String×DataW Unit):=[("allonge/order.numbers",Rows.laid_allonge_order_numbers)]
theorem aly (os:Os)(args:Array Value):laidMetH Tryz.prog Df ((World.doorLaid Tryz.prog 400 os).forCall (fun _ _=>0) ⟨#[],args,[]⟩).memory:=
 laidMetH_of_parts3 (fuel:=8) (laidMet_of_run' 8 (by kernel_rfl) (by kernel_rfl)) (by kernel_rfl) (by kernel_rfl)
theorem alz {W:World}(h:laidMetH Tryz.prog Df W):CtxOK ctx (kl W):=by
 rw[MakeChecks.laidMetH_plain _ _ _ (by kernel_rfl)] at h;refine an9 (g:=0) (name:= "allonge/order.numbers") rfl (by kernel_rfl) (by kernel_rfl) ?_;exact Lib.tabIs_of_head (g:=0) (n:=10) (by kernel_rfl) (t:=159) (by kernel_rfl) (e:=3) (by kernel_rfl) (by kernel_rfl) (by kernel_rfl) (by kernel_rfl) h
theorem acN (ds:List D)(h:DTys ((aY iS 4).getD default).args ds):fH ctx 4 ((aY iS 4).getD default) ds (.v (.bool true)):=by
 obtain⟨d1,ds,rfl,h1,h⟩:=DTys.cons_inv h;obtain⟨d2,ds,rfl,h2,h⟩:=DTys.cons_inv h;obtain⟨d3,ds,rfl,h3,h⟩:=DTys.cons_inv h;obtain⟨d4,ds,rfl,h4,h⟩:=DTys.cons_inv h;obtain⟨d5,ds,rfl,h5,h⟩:=DTys.cons_inv h;obtain rfl:=h.nil_inv;obtain⟨r,rfl,hr⟩:=anj h1;obtain⟨n2,rfl,_⟩:=h2.int_inv;obtain⟨n3,rfl,_⟩:=h3.int_inv;obtain⟨c,rfl,hc⟩:=adA h4;obtain⟨n5,rfl,_⟩:=h5.int_inv;exact ak.fnOK aoa rfl (ab0 r hr n2 n3 c n5)
set_option maxRecDepth 100000 in
theorem acM (os:Os)(started:os.Started)(H:Type)(enc:TypeId×Value→H):
 ReturnsInHanded {} Tryz.checked os 4 .any (fun w args=>(Rows.askDaysSpec.pre enc Tryz.prog Tryz.f4 [] false w args∧laidMetH Tryz.prog Df w)∧sizedMet enc Tryz.prog Tryz.f4 (OpenSpec.ofChange Rows.askDaysSpec) false w args)
  (Rows.askDaysSpec.post enc Tryz.prog Tryz.f4 false true false false):=by
 refine returnsInHanded_of_change_and (C:=Tryz.checked) (X:=fun w _=>laidMetH Tryz.prog Df w) (fun _ _ _ hh h=>h.of_heap hh) alA started (by kernel_rfl) Tryz.func4
  (ChangeSpec.witness_shaped (enc:=enc) (C:=Tryz.checked) (os:=os) (X:=fun w _=>laidMetH Tryz.prog Df w) false (World.doorLaid Tryz.prog 400 os) #[.agg #[.slice none 0 0,.slice none 0 0,.slice none 0 0,.slice none 0 0,.slice none 0 0,.slice none 0 0,.slice none 0 0,.slice none 0 0],.int .i64 0,.int .i64 0,.agg #[.int .i64 0,.int .i64 0,.int .i64 0,.int .i64 0,.int .i64 0,.int .i64 0,.int .i64 0,.int .i64 0,.int .i64 0,.int .i64 0,.int .i64 0,.int .i64 0,.int .i64 0,.int .i64 0,.int .i64 0,.slice none 0 0,.slice none 0 0,.slice none 0 0,.slice none 0 0,.int .i64 0,.int .i64 0,.int .i64 0,.int .i64 0,.int .i64 0],.int .i64 0] 8 rfl (World.shaped_of_RefB (by kernel_rfl) (by kernel_rfl)) (by kernel_rfl) (by kernel_rfl) (by kernel_rfl) (aly os _)) ?_
 intro W base args ds gs before bX hW _ _ hL _;refine ajY (C:=ctx) (f:=4) (fn:=Tryz.f4) (sg:=(aY iS 4).getD default) (spec:=Rows.askDaysSpec) (tb:=4) (by kernel_rfl) (by kernel_rfl) (by kernel_rfl) rfl ?_ rfl Tryz.underlying4 rfl rfl acN W (alz hL) base args ds gs before bX hW;intro ds vp
 match ds,vp with
 |[_,_,_,_,_],_=>exact⟨rfl,rfl,rfl⟩
set_option maxHeartbeats 4000000 in
theorem acL:joinedFacts Tryz.pinned.checked.prog 4 Tryz.f4 Rows.askDaysSpec Rows.askDaysRow=true:=by
 unfold joinedFacts;simp only[aj]
 repeat' apply And.intro
 all_goals (as_aux_lemma=>kernel_rfl)
theorem Tf:Tryz.pinned.checked.prog.funcNamed Rows.askDaysRow.func=some 4:=by kernel_rfl
theorem acK:Tryz.f4.isInstance Tryz.pinned.checked.prog Rows.askDaysRow.origin Rows.askDaysRow.targs:=of_decide_eq_true (by kernel_rfl)
theorem acR:Tryz.f4.isWrapper Tryz.pinned.checked.prog Rows.askDaysRow.wrapper Rows.askDaysRow.mainSum:=by
 unfold Func.isWrapper;first|(rw[if_pos (by decide+kernel)];kernel_rfl)|(rw[if_neg (by decide+kernel)];exact⟨rfl,rfl⟩)
theorem acP:Rows.AskDaysSaid:=
 OpenClaim.holds_of_wide 4 Tryz.f4 rfl rfl rfl rfl rfl rfl rfl ⟨rfl,rfl,rfl,rfl,rfl⟩ rfl rfl rfl rfl rfl Tf Tryz.func4 acL acK acR
  (fun os started H enc _=>acM os started H enc)
theorem acQ:Rows.askDaysRow.wfByText (OpenSpec.ofChange Rows.askDaysSpec)=true:=by kernel_rfl
theorem anQ:Tryz.pinned.checked.prog.mainIs=some (true, "ee257981351e0712bce2ea051cdae8a4ae6dce47e8025b999d2f029cc1a116ed".toList):=by kernel_rfl
theorem anP:false=Tryz.pinned.checked.prog.looks []:=by kernel_rfl
theorem acO:(Tryz.f4.params.toList.all fun u=> !Tryz.prog.wantsStandIn u)=true:=by kernel_rfl
theorem acJ:false=Rows.askDaysRow.goesBy Tryz.pinned.checked.prog:=by kernel_rfl
theorem askDays_holds:Rows.AskDaysCardSaid:=
 Claim7.holds_tied_plain_at .later [] [.widerDeep] true (true, "ee257981351e0712bce2ea051cdae8a4ae6dce47e8025b999d2f029cc1a116ed") false
  acP (fun _ h=>by cases h) acQ (fun _ h=>by cases h) askDays_row_tie rfl ⟨rfl,rfl⟩ anQ rfl
  (fun f fn hf hfn=>by
    obtain rfl:f=4:=sM (Tf.symm.trans hf) |>.symm;obtain rfl:fn=Tryz.f4:=(sM (Tryz.func4.symm.trans hfn)).symm
    exact⟨anP,fun j t ht=>by
        have hm:t∈Tryz.f4.params.toList:=by simpa using gI ht
        exact(show Tryz.prog.wantsStandIn t=false by simpa using bz.1 acO t hm)⟩)
  acJ
#print axioms askDays_holds
end Go.Proofs.YtipjidjopglknaaGreatDoor
