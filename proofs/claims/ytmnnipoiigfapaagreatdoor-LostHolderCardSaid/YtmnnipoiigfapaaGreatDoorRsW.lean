/-
  The statement: LostHolder. LostHolder, as the card says.
-/
import Derived.Test.YtmnnipoiigfapaaGreatDoorHAR
import Derived.Test.YtmnnipoiigfapaaGreatDoorCards
import Derived.Test.YtmnnipoiigfapaaGreatDoorTie
import Derived.ProofKit
import Derived.LaidMore
import Derived.OpenShut
import Derived.Stop.Joined
import Derived.SevenTiedAt
set_option linter.unusedSimpArgs false
set_option linter.unusedVariables false
namespace Go.Proofs.YtmnnipoiigfapaaGreatDoor
open Go Go.Proofs Cx Rm Go.RowKit Go.ChangeShapes Go.WideShapes
theorem aoi:ownKnob Tryz.prog.godebug=none:=by kernel_rfl
abbrev D9:List (String×DataW Unit):=[("allonge/order.numbers",Rows.laid_allonge_order_numbers)]
theorem aog (os:Os)(args:Array Value):laidMetH Tryz.prog D9 ((World.doorLaid Tryz.prog 400 os).forCall (fun _ _=>0) ⟨#[],args,[]⟩).memory:=
 laidMetH_of_parts3 (fuel:=8) (laidMet_of_run' 8 (by kernel_rfl) (by kernel_rfl)) (by kernel_rfl) (by kernel_rfl)
theorem aoh {W:World}(h:laidMetH Tryz.prog D9 W):CtxOK ctx (nk W):=by
 rw[MakeChecks.laidMetH_plain _ _ _ (by kernel_rfl)] at h;refine arn (g:=0) (name:= "allonge/order.numbers") rfl (by kernel_rfl) (by kernel_rfl) ?_;exact Lib.tabIs_of_head (g:=0) (n:=10) (by kernel_rfl) (t:=192) (by kernel_rfl) (e:=3) (by kernel_rfl) (by kernel_rfl) (by kernel_rfl) (by kernel_rfl) h
theorem amn (ds:List D)(h:DTys ((bH vy 3).getD default).args ds):iv ctx 3 ((bH vy 3).getD default) ds (.v (.bool true)):=by
 obtain⟨d1,ds,rfl,h1,h⟩:=DTys.cons_inv h;obtain⟨d2,ds,rfl,h2,h⟩:=DTys.cons_inv h;obtain⟨d3,ds,rfl,h3,h⟩:=DTys.cons_inv h;obtain⟨d4,ds,rfl,h4,h⟩:=DTys.cons_inv h;obtain⟨d5,ds,rfl,h5,h⟩:=DTys.cons_inv h;obtain rfl:=h.nil_inv;obtain⟨r,rfl,hr⟩:=aqt h1;obtain⟨n2,rfl,_⟩:=h2.int_inv;obtain⟨f,rfl,hf⟩:=ahe h3;obtain⟨x,rfl,hx⟩:=amu h4;obtain⟨n5,rfl,g5⟩:=h5.i64_inv;exact aq.fnOK aro rfl (aek r hr n2 f hf x hx n5 g5)
set_option maxRecDepth 100000 in
theorem amm (os:Os)(started:os.Started)(H:Type)(enc:TypeId×Value→H):
 ReturnsInHanded {} Tryz.checked os 3 .any (fun w args=>(Rows.lostHolderSpec.pre enc Tryz.prog Tryz.f3 [] false w args∧laidMetH Tryz.prog D9 w)∧sizedMet enc Tryz.prog Tryz.f3 (OpenSpec.ofChange Rows.lostHolderSpec) false w args)
  (Rows.lostHolderSpec.post enc Tryz.prog Tryz.f3 false true false false):=by
 refine returnsInHanded_of_change_and (C:=Tryz.checked) (X:=fun w _=>laidMetH Tryz.prog D9 w) (fun _ _ _ hh h=>h.of_heap hh) aoi started (by kernel_rfl) Tryz.func3
  (ChangeSpec.witness_shaped (enc:=enc) (C:=Tryz.checked) (os:=os) (X:=fun w _=>laidMetH Tryz.prog D9 w) false (World.doorLaid Tryz.prog 400 os) #[.agg #[.slice none 0 0,.slice none 0 0,.slice none 0 0,.slice none 0 0,.slice none 0 0,.slice none 0 0,.slice none 0 0,.slice none 0 0],.int .i64 0,.agg #[.int .i64 0,.int .i64 0,.int .i64 0,.int .i64 0,.int .i64 0,.int .i64 0,.int .i64 0,.int .i64 0,.int .i64 0,.int .i64 0,.int .i64 0,.int .i64 0,.int .i64 0,.int .i64 0,.int .i64 0,.slice none 0 0,.slice none 0 0,.slice none 0 0,.slice none 0 0],.agg #[.int .i64 0,.int .i64 0,.int .i64 0,.int .i64 0,.int .i64 0,.slice none 0 0],.int .i64 0] 8 rfl (World.shaped_of_RefB (by kernel_rfl) (by kernel_rfl)) (by kernel_rfl) (by kernel_rfl) (by kernel_rfl) (aog os _)) ?_
 intro W base args ds gs before cu hW _ _ hL _;refine al8 (C:=ctx) (f:=3) (fn:=Tryz.f3) (sg:=(bH vy 3).getD default) (spec:=Rows.lostHolderSpec) (tb:=4) (by kernel_rfl) (by kernel_rfl) (by kernel_rfl) rfl ?_ rfl Tryz.underlying4 rfl rfl amn W (aoh hL) base args ds gs before cu hW;intro ds wJ
 match ds,wJ with
 |[_,_,_,_,_],_=>exact⟨rfl,rfl,rfl⟩
set_option maxHeartbeats 4000000 in
theorem aml:joinedFacts Tryz.pinned.checked.prog 3 Tryz.f3 Rows.lostHolderSpec Rows.lostHolderRow=true:=by
 unfold joinedFacts;simp only[ao]
 repeat' apply And.intro
 all_goals (as_aux_lemma=>kernel_rfl)
theorem Zt:Tryz.pinned.checked.prog.funcNamed Rows.lostHolderRow.func=some 3:=by kernel_rfl
theorem amk:Tryz.f3.isInstance Tryz.pinned.checked.prog Rows.lostHolderRow.origin Rows.lostHolderRow.targs:=of_decide_eq_true (by kernel_rfl)
theorem amr:Tryz.f3.isWrapper Tryz.pinned.checked.prog Rows.lostHolderRow.wrapper Rows.lostHolderRow.mainSum:=by
 unfold Func.isWrapper;first|(rw[if_pos (by decide+kernel)];kernel_rfl)|(rw[if_neg (by decide+kernel)];exact⟨rfl,rfl⟩)
theorem amp:Rows.LostHolderSaid:=
 OpenClaim.holds_of_wide 3 Tryz.f3 rfl rfl rfl rfl rfl rfl rfl ⟨rfl,rfl,rfl,rfl,rfl⟩ rfl rfl rfl rfl rfl Zt Tryz.func3 aml amk amr
  (fun os started H enc _=>amm os started H enc)
theorem amq:Rows.lostHolderRow.wfByText (OpenSpec.ofChange Rows.lostHolderSpec)=true:=by kernel_rfl
theorem aqY:Tryz.pinned.checked.prog.mainIs=some (true, "a399b5fb3ed0115138ca3e91a0991f1664a0c778265214f3fd6abae19e871963".toList):=by kernel_rfl
theorem aqX:false=Tryz.pinned.checked.prog.looks []:=by kernel_rfl
theorem amo:(Tryz.f3.params.toList.all fun u=> !Tryz.prog.wantsStandIn u)=true:=by kernel_rfl
theorem amj:false=Rows.lostHolderRow.goesBy Tryz.pinned.checked.prog:=by kernel_rfl
theorem lostHolder_holds:Rows.LostHolderCardSaid:=
 Claim7.holds_tied_plain_at .later [] [.widerDeep] true (true, "a399b5fb3ed0115138ca3e91a0991f1664a0c778265214f3fd6abae19e871963") false
  amp (fun _ h=>by cases h) amq (fun _ h=>by cases h) lostHolder_row_tie rfl ⟨rfl,rfl⟩ aqY rfl
  (fun f fn hf hfn=>by
    obtain rfl:f=3:=BQ (Zt.symm.trans hf) |>.symm;obtain rfl:fn=Tryz.f3:=(BQ (Tryz.func3.symm.trans hfn)).symm
    exact⟨aqX,fun j t ht=>by
        have hm:t∈Tryz.f3.params.toList:=by simpa using gR ht
        exact(show Tryz.prog.wantsStandIn t=false by simpa using bJ.1 amo t hm)⟩)
  amj
#print axioms lostHolder_holds
end Go.Proofs.YtmnnipoiigfapaaGreatDoor
