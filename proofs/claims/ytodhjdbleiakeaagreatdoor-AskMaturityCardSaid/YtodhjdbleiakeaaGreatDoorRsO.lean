/-
  The statement: AskMaturity. for all right realms, right files whose lists are hardly longer than they may be (allongeref21.Few), forums and days, the maturity does not depend on facts, is not before the day of the bill, and is an open day in the city of payment; on later days it is the same, once there is one; and a question about the bill has the same answer with and without facts (P21.4, P21.6, P21.10; 4, 11, 12, 14, 21). Without using the reference.
-/
import Derived.Test.YtodhjdbleiakeaaGreatDoorNAR
import Derived.Test.YtodhjdbleiakeaaGreatDoorCards
import Derived.Test.YtodhjdbleiakeaaGreatDoorTie
import Derived.ProofKit
import Derived.LaidMore
import Derived.OpenShut
import Derived.Stop.Joined
import Derived.SevenTiedAt
set_option linter.unusedSimpArgs false
set_option linter.unusedVariables false
namespace Go.Proofs.YtodhjdbleiakeaaGreatDoor
open Go Go.Proofs Cx Rm Go.RowKit Go.ChangeShapes Go.WideShapes
theorem ayO:ownKnob Tryz.prog.godebug=none:=by kernel_rfl
abbrev DP:List (String×DataW Unit):=[("allonge/order.numbers",Rows.laid_allonge_order_numbers)]
theorem ayM (os:Os)(args:Array Value):laidMetH Tryz.prog DP ((World.doorLaid Tryz.prog 400 os).forCall (fun _ _=>0) ⟨#[],args,[]⟩).memory:=
 laidMetH_of_parts3 (fuel:=8) (laidMet_of_run' 8 (by kernel_rfl) (by kernel_rfl)) (by kernel_rfl) (by kernel_rfl)
theorem ayN {W:World}(h:laidMetH Tryz.prog DP W):CtxOK ctx (mG W):=by
 rw[MakeChecks.laidMetH_plain _ _ _ (by kernel_rfl)] at h;refine aBC (g:=0) (name:= "allonge/order.numbers") rfl (by kernel_rfl) (by kernel_rfl) ?_;exact Lib.tabIs_of_head (g:=0) (n:=10) (by kernel_rfl) (t:=242) (by kernel_rfl) (e:=3) (by kernel_rfl) (by kernel_rfl) (by kernel_rfl) (by kernel_rfl) h
theorem ajs (ds:List D)(h:DTys ((ab af 10).getD default).args ds):lu ctx 10 ((ab af 10).getD default) ds (.v (.bool true)):=by
 obtain⟨d1,ds,rfl,h1,h⟩:=DTys.cons_inv h;obtain⟨d2,ds,rfl,h2,h⟩:=DTys.cons_inv h;obtain⟨d3,ds,rfl,h3,h⟩:=DTys.cons_inv h;obtain⟨d4,ds,rfl,h4,h⟩:=DTys.cons_inv h;obtain⟨d5,ds,rfl,h5,h⟩:=DTys.cons_inv h;obtain⟨d6,ds,rfl,h6,h⟩:=DTys.cons_inv h;obtain rfl:=h.nil_inv;obtain⟨r,rfl,hr⟩:=aAK h1;obtain⟨n2,rfl,_⟩:=h2.int_inv;obtain⟨n3,rfl,_⟩:=h3.int_inv;obtain⟨f,rfl,hf⟩:=apL h4;obtain⟨n5,rfl,_⟩:=h5.int_inv;obtain⟨n6,rfl,_⟩:=h6.int_inv;exact ak.fnOK aBD rfl (aiD r hr n2 n3 f hf n5 n6)
set_option maxRecDepth 100000 in
theorem ajr (os:Os)(started:os.Started)(H:Type)(enc:TypeId×Value→H):
 ReturnsInHanded {} Tryz.checked os 10 .any (fun w args=>(Rows.askMaturitySpec.pre enc Tryz.prog Tryz.f10 [] false w args∧laidMetH Tryz.prog DP w)∧sizedMet enc Tryz.prog Tryz.f10 (OpenSpec.ofChange Rows.askMaturitySpec) false w args)
  (Rows.askMaturitySpec.post enc Tryz.prog Tryz.f10 false true false false):=by
 refine returnsInHanded_of_change_and (C:=Tryz.checked) (X:=fun w _=>laidMetH Tryz.prog DP w) (fun _ _ _ hh h=>h.of_heap hh) ayO started (by kernel_rfl) Tryz.func10
  (ChangeSpec.witness_shaped (enc:=enc) (C:=Tryz.checked) (os:=os) (X:=fun w _=>laidMetH Tryz.prog DP w) false (World.doorLaid Tryz.prog 400 os) #[.agg #[.slice none 0 0,.slice none 0 0,.slice none 0 0,.slice none 0 0,.slice none 0 0,.slice none 0 0,.slice none 0 0,.slice none 0 0],.int .i64 0,.int .i64 0,.agg #[.int .i64 0,.int .i64 0,.int .i64 0,.int .i64 0,.int .i64 0,.int .i64 0,.int .i64 0,.int .i64 0,.int .i64 0,.int .i64 0,.int .i64 0,.int .i64 0,.int .i64 0,.int .i64 0,.int .i64 0,.slice none 0 0,.slice none 0 0,.slice none 0 0,.slice none 0 0],.int .i64 0,.int .i64 0] 8 rfl (World.shaped_of_RefB (by kernel_rfl) (by kernel_rfl)) (by kernel_rfl) (by kernel_rfl) (by kernel_rfl) (ayM os _)) ?_
 intro W base args ds gs before cr hW _ _ hL _;refine avV (C:=ctx) (f:=10) (fn:=Tryz.f10) (sg:=(ab af 10).getD default) (spec:=Rows.askMaturitySpec) (tb:=4) (by kernel_rfl) (by kernel_rfl) (by kernel_rfl) rfl ?_ rfl Tryz.underlying4 rfl rfl ajs W (ayN hL) base args ds gs before cr hW;intro ds vp
 match ds,vp with
 |[_,_,_,_,_,_],_=>exact⟨rfl,rfl,rfl⟩
set_option maxHeartbeats 4000000 in
theorem ajq:joinedFacts Tryz.pinned.checked.prog 10 Tryz.f10 Rows.askMaturitySpec Rows.askMaturityRow=true:=by
 unfold joinedFacts;simp only[ar]
 repeat' apply And.intro
 all_goals (as_aux_lemma=>kernel_rfl)
theorem XR:Tryz.pinned.checked.prog.funcNamed Rows.askMaturityRow.func=some 10:=by kernel_rfl
theorem ajp:Tryz.f10.isInstance Tryz.pinned.checked.prog Rows.askMaturityRow.origin Rows.askMaturityRow.targs:=of_decide_eq_true (by kernel_rfl)
theorem ajw:Tryz.f10.isWrapper Tryz.pinned.checked.prog Rows.askMaturityRow.wrapper Rows.askMaturityRow.mainSum:=by
 unfold Func.isWrapper;first|(rw[if_pos (by decide+kernel)];kernel_rfl)|(rw[if_neg (by decide+kernel)];exact⟨rfl,rfl⟩)
theorem aju:Rows.AskMaturitySaid:=
 OpenClaim.holds_of_wide 10 Tryz.f10 rfl rfl rfl rfl rfl rfl rfl ⟨rfl,rfl,rfl,rfl,rfl⟩ rfl rfl rfl rfl rfl XR Tryz.func10 ajq ajp ajw
  (fun os started H enc _=>ajr os started H enc)
theorem ajv:Rows.askMaturityRow.wfByText (OpenSpec.ofChange Rows.askMaturitySpec)=true:=by kernel_rfl
theorem aBh:Tryz.pinned.checked.prog.mainIs=some (true, "f63d2df4e85a4d567f4c37c870b2bcfa92ac30557806e13c1a0e5996749c07ab".toList):=by kernel_rfl
theorem aBg:false=Tryz.pinned.checked.prog.looks []:=by kernel_rfl
theorem ajt:(Tryz.f10.params.toList.all fun u=> !Tryz.prog.wantsStandIn u)=true:=by kernel_rfl
theorem ajo:false=Rows.askMaturityRow.goesBy Tryz.pinned.checked.prog:=by kernel_rfl
theorem askMaturity_holds:Rows.AskMaturityCardSaid:=
 Claim7.holds_tied_plain_at .later [] [.widerDeep] true (true, "f63d2df4e85a4d567f4c37c870b2bcfa92ac30557806e13c1a0e5996749c07ab") false
  aju (fun _ h=>by cases h) ajv (fun _ h=>by cases h) askMaturity_row_tie rfl ⟨rfl,rfl⟩ aBh rfl
  (fun f fn hf hfn=>by
    obtain rfl:f=10:=Au (XR.symm.trans hf) |>.symm;obtain rfl:fn=Tryz.f10:=(Au (Tryz.func10.symm.trans hfn)).symm
    exact⟨aBg,fun j t ht=>by
        have hm:t∈Tryz.f10.params.toList:=by simpa using gA ht
        exact(show Tryz.prog.wantsStandIn t=false by simpa using bL.1 ajt t hm)⟩)
  ajo
#print axioms askMaturity_holds
end Go.Proofs.YtodhjdbleiakeaaGreatDoor
