/-
  The statement: AskKnows. for all right realms, right files whose lists are hardly longer than they may be (allongeref21.Few), cases, forums and questions, and lists of at most 30 facts: if those of which nothing was known are added to the file, it is still right, the same order answers by the same path and with the same error, and an answer that was known is the same (P21.2, P21.5, P21.8; 12, 14, 15, 18, 19, 21), THE STAGE'S THEOREM. Without using the reference.
-/
import Derived.Test.YtodhjdbleiakeaaGreatDoorMAS
import Derived.Test.YtodhjdbleiakeaaGreatDoorCards
import Derived.Test.YtodhjdbleiakeaaGreatDoorTie
import Derived.ProofKit
import Derived.LaidMore
import Derived.OpenShut
import Derived.Stop.Joined
import Derived.SevenTiedAt
set_option linter.unusedSimpArgs false
set_option linter.unusedVariables false
namespace Go.Proofs.YtodhjdbleiakeaaGreatDoor
open Go Go.Proofs Cx Rm Go.RowKit Go.ChangeShapes Go.WideShapes
theorem azB:ownKnob Tryz.prog.godebug=none:=by kernel_rfl
abbrev Dz:List (String×DataW Unit):=[("allonge/order.numbers",Rows.laid_allonge_order_numbers)]
theorem azz (os:Os)(args:Array Value):laidMetH Tryz.prog Dz ((World.doorLaid Tryz.prog 400 os).forCall (fun _ _=>0) ⟨#[],args,[]⟩).memory:=
 laidMetH_of_parts3 (fuel:=8) (laidMet_of_run' 8 (by kernel_rfl) (by kernel_rfl)) (by kernel_rfl) (by kernel_rfl)
theorem azA {W:World}(h:laidMetH Tryz.prog Dz W):CtxOK ctx (mH W):=by
 rw[MakeChecks.laidMetH_plain _ _ _ (by kernel_rfl)] at h;refine aCn (g:=0) (name:= "allonge/order.numbers") rfl (by kernel_rfl) (by kernel_rfl) ?_;exact Lib.tabIs_of_head (g:=0) (n:=10) (by kernel_rfl) (t:=242) (by kernel_rfl) (e:=3) (by kernel_rfl) (by kernel_rfl) (by kernel_rfl) (by kernel_rfl) h
theorem ajZ (ds:List D)(h:DTys ((ab af 9).getD default).args ds):lh ctx 9 ((ab af 9).getD default) ds (.v (.bool true)):=by
 obtain⟨d1,ds,rfl,h1,h⟩:=DTys.cons_inv h;obtain⟨d2,ds,rfl,h2,h⟩:=DTys.cons_inv h;obtain⟨d3,ds,rfl,h3,h⟩:=DTys.cons_inv h;obtain⟨d4,ds,rfl,h4,h⟩:=DTys.cons_inv h;obtain⟨d5,ds,rfl,h5,h⟩:=DTys.cons_inv h;obtain rfl:=h.nil_inv;obtain⟨r,rfl,hr⟩:=aBy h1;obtain⟨n2,rfl,_⟩:=h2.int_inv;obtain⟨n3,rfl,_⟩:=h3.int_inv;obtain⟨c,rfl,hc⟩:=amA h4;obtain⟨fs,rfl,th⟩:=Z1 h5;exact ao.fnOK aCo rfl (ajc r hr n2 n3 c hc fs)
set_option maxRecDepth 100000 in
theorem ajY (os:Os)(started:os.Started)(H:Type)(enc:TypeId×Value→H):
 ReturnsInHanded {} Tryz.checked os 9 .any (fun w args=>(Rows.askKnowsSpec.pre enc Tryz.prog Tryz.f9 [] false w args∧laidMetH Tryz.prog Dz w)∧sizedMet enc Tryz.prog Tryz.f9 (OpenSpec.ofChange Rows.askKnowsSpec) false w args)
  (Rows.askKnowsSpec.post enc Tryz.prog Tryz.f9 false true false false):=by
 refine returnsInHanded_of_change_and (C:=Tryz.checked) (X:=fun w _=>laidMetH Tryz.prog Dz w) (fun _ _ _ hh h=>h.of_heap hh) azB started (by kernel_rfl) Tryz.func9
  (ChangeSpec.witness_shaped (enc:=enc) (C:=Tryz.checked) (os:=os) (X:=fun w _=>laidMetH Tryz.prog Dz w) false (World.doorLaid Tryz.prog 400 os) #[.agg #[.slice none 0 0,.slice none 0 0,.slice none 0 0,.slice none 0 0,.slice none 0 0,.slice none 0 0,.slice none 0 0,.slice none 0 0],.int .i64 0,.int .i64 0,.agg #[.int .i64 0,.int .i64 0,.int .i64 0,.int .i64 0,.int .i64 0,.int .i64 0,.int .i64 0,.int .i64 0,.int .i64 0,.int .i64 0,.int .i64 0,.int .i64 0,.int .i64 0,.int .i64 0,.int .i64 0,.slice none 0 0,.slice none 0 0,.slice none 0 0,.slice none 0 0,.int .i64 0,.int .i64 0,.int .i64 0,.int .i64 0,.int .i64 0],.slice none 0 0] 8 rfl (World.shaped_of_RefB (by kernel_rfl) (by kernel_rfl)) (by kernel_rfl) (by kernel_rfl) (by kernel_rfl) (azz os _)) ?_
 intro W base args ds gs before cA hW _ _ hL _;refine awD (C:=ctx) (f:=9) (fn:=Tryz.f9) (sg:=(ab af 9).getD default) (spec:=Rows.askKnowsSpec) (tb:=4) (by kernel_rfl) (by kernel_rfl) (by kernel_rfl) rfl ?_ rfl Tryz.underlying4 rfl rfl ajZ W (azA hL) base args ds gs before cA hW;intro ds vh
 match ds,vh with
 |[_,_,_,_,_],_=>exact⟨rfl,rfl,rfl⟩
set_option maxHeartbeats 4000000 in
theorem ajX:joinedFacts Tryz.pinned.checked.prog 9 Tryz.f9 Rows.askKnowsSpec Rows.askKnowsRow=true:=by
 unfold joinedFacts;simp only[ar]
 repeat' apply And.intro
 all_goals (as_aux_lemma=>kernel_rfl)
theorem Yb:Tryz.pinned.checked.prog.funcNamed Rows.askKnowsRow.func=some 9:=by kernel_rfl
theorem ajW:Tryz.f9.isInstance Tryz.pinned.checked.prog Rows.askKnowsRow.origin Rows.askKnowsRow.targs:=of_decide_eq_true (by kernel_rfl)
theorem aj3:Tryz.f9.isWrapper Tryz.pinned.checked.prog Rows.askKnowsRow.wrapper Rows.askKnowsRow.mainSum:=by
 unfold Func.isWrapper;first|(rw[if_pos (by decide+kernel)];kernel_rfl)|(rw[if_neg (by decide+kernel)];exact⟨rfl,rfl⟩)
theorem aj1:Rows.AskKnowsSaid:=
 OpenClaim.holds_of_wide 9 Tryz.f9 rfl rfl rfl rfl rfl rfl rfl ⟨rfl,rfl,rfl,rfl,rfl⟩ rfl rfl rfl rfl rfl Yb Tryz.func9 ajX ajW aj3
  (fun os started H enc _=>ajY os started H enc)
theorem aj2:Rows.askKnowsRow.wfByText (OpenSpec.ofChange Rows.askKnowsSpec)=true:=by kernel_rfl
theorem aB6:Tryz.pinned.checked.prog.mainIs=some (true, "f63d2df4e85a4d567f4c37c870b2bcfa92ac30557806e13c1a0e5996749c07ab".toList):=by kernel_rfl
theorem aB5:false=Tryz.pinned.checked.prog.looks []:=by kernel_rfl
theorem aj0:(Tryz.f9.params.toList.all fun u=> !Tryz.prog.wantsStandIn u)=true:=by kernel_rfl
theorem ajV:false=Rows.askKnowsRow.goesBy Tryz.pinned.checked.prog:=by kernel_rfl
theorem askKnows_holds:Rows.AskKnowsCardSaid:=
 Claim7.holds_tied_plain_at .later [] [.widerDeep] true (true, "f63d2df4e85a4d567f4c37c870b2bcfa92ac30557806e13c1a0e5996749c07ab") false
  aj1 (fun _ h=>by cases h) aj2 (fun _ h=>by cases h) askKnows_row_tie rfl ⟨rfl,rfl⟩ aB6 rfl
  (fun f fn hf hfn=>by
    obtain rfl:f=9:=Ah (Yb.symm.trans hf) |>.symm;obtain rfl:fn=Tryz.f9:=(Ah (Tryz.func9.symm.trans hfn)).symm
    exact⟨aB5,fun j t ht=>by
        have hm:t∈Tryz.f9.params.toList:=by simpa using gz ht
        exact(show Tryz.prog.wantsStandIn t=false by simpa using bK.1 aj0 t hm)⟩)
  ajV
#print axioms askKnows_holds
end Go.Proofs.YtodhjdbleiakeaaGreatDoor
