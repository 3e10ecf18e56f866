/-
  The statement: AmountParts. For all right realms and files, forums, signatures and days, the sum is that of the effect; before the maturity there is no interest and no loss by exchange; with a clause the interest is that of money; and the rest is the sum of the four, at most the greatest sum
-/
import Derived.Test.YtepfoekldooaeaaGreatDoorKAU
import Derived.Test.YtepfoekldooaeaaGreatDoorCards
import Derived.Test.YtepfoekldooaeaaGreatDoorTie
import Derived.ProofKit
import Derived.LaidMore
import Derived.OpenShut
import Derived.Stop.Joined
import Derived.SevenTiedAt
set_option linter.unusedSimpArgs false
set_option linter.unusedVariables false
namespace Go.Proofs.YtepfoekldooaeaaGreatDoor
open Go Go.Proofs Cx Rm Go.RowKit Go.ChangeShapes Go.WideShapes
theorem v5:ownKnob Tryz.prog.godebug=none:=by kernel_rfl
abbrev fR:List (String×DataW Unit):=[("allonge/order.numbers",Rows.laid_allonge_order_numbers)]
theorem vZ (os:Os)(args:Array Value):laidMetH Tryz.prog fR ((World.doorLaid Tryz.prog 400 os).forCall (fun _ _=>0) ⟨#[],args,[]⟩).memory:=
 laidMetH_of_parts3 (fuel:=8) (laidMet_of_run' 8 (by kernel_rfl) (by kernel_rfl)) (by kernel_rfl) (by kernel_rfl)
theorem v3 {W:World}(h:laidMetH Tryz.prog fR W):CtxOK ctx (kf W):=by
 rw[MakeChecks.laidMetH_plain _ _ _ (by kernel_rfl)] at h;refine Mq (g:=0) (name:= "allonge/order.numbers") rfl (by kernel_rfl) (by kernel_rfl) ?_;exact Lib.tabIs_of_head (g:=0) (n:=10) (by kernel_rfl) (t:=238) (by kernel_rfl) (e:=3) (by kernel_rfl) (by kernel_rfl) (by kernel_rfl) (by kernel_rfl) h
theorem aia (ds:List D)(h:DTys ((aa ae 11).getD default).args ds):jA ctx 11 ((aa ae 11).getD default) ds (.v (.bool true)):=by
 obtain⟨d1,ds,rfl,h1,h⟩:=DTys.cons_inv h;obtain⟨d2,ds,rfl,h2,h⟩:=DTys.cons_inv h;obtain⟨d3,ds,rfl,h3,h⟩:=DTys.cons_inv h;obtain⟨d4,ds,rfl,h4,h⟩:=DTys.cons_inv h;obtain⟨d5,ds,rfl,h5,h⟩:=DTys.cons_inv h;obtain rfl:=h.nil_inv;obtain⟨r,rfl,hr⟩:=L5 h1;obtain⟨n2,rfl,_⟩:=h2.int_inv;obtain⟨f,rfl,hf⟩:=GP h3;obtain⟨n4,rfl,_⟩:=h4.int_inv;obtain⟨n5,rfl,_⟩:=h5.int_inv;exact aj.fnOK Mr rfl (ag5 r hr n2 f hf n4 n5)
set_option maxRecDepth 100000 in
theorem ah9 (os:Os)(started:os.Started)(H:Type)(enc:TypeId×Value→H):
 ReturnsInHanded {} Tryz.checked os 11 .any (fun w args=>(Rows.amountPartsSpec.pre enc Tryz.prog Tryz.f11 [] false w args∧laidMetH Tryz.prog fR w)∧sizedMet enc Tryz.prog Tryz.f11 (OpenSpec.ofChange Rows.amountPartsSpec) false w args)
  (Rows.amountPartsSpec.post enc Tryz.prog Tryz.f11 false true false false):=by
 refine returnsInHanded_of_change_and (C:=Tryz.checked) (X:=fun w _=>laidMetH Tryz.prog fR w) (fun _ _ _ hh h=>h.of_heap hh) v5 started (by kernel_rfl) Tryz.func11
  (ChangeSpec.witness_shaped (enc:=enc) (C:=Tryz.checked) (os:=os) (X:=fun w _=>laidMetH Tryz.prog fR w) false (World.doorLaid Tryz.prog 400 os) #[.agg #[.slice none 0 0,.slice none 0 0,.slice none 0 0,.slice none 0 0,.slice none 0 0,.slice none 0 0,.slice none 0 0,.slice none 0 0],.int .i64 0,.agg #[.int .i64 0,.int .i64 0,.int .i64 0,.int .i64 0,.int .i64 0,.int .i64 0,.int .i64 0,.int .i64 0,.int .i64 0,.int .i64 0,.int .i64 0,.int .i64 0,.int .i64 0,.int .i64 0,.int .i64 0,.slice none 0 0,.slice none 0 0,.slice none 0 0,.slice none 0 0],.int .i64 0,.int .i64 0] 8 rfl (World.shaped_of_RefB (by kernel_rfl) (by kernel_rfl)) (by kernel_rfl) (by kernel_rfl) (by kernel_rfl) (vZ os _)) ?_
 intro W base args ds gs before bW hW _ _ hL _;refine H2 (C:=ctx) (f:=11) (fn:=Tryz.f11) (sg:=(aa ae 11).getD default) (spec:=Rows.amountPartsSpec) (tb:=4) (by kernel_rfl) (by kernel_rfl) (by kernel_rfl) rfl ?_ rfl Tryz.underlying4 rfl rfl aia W (v3 hL) base args ds gs before bW hW;intro ds mw
 match ds,mw with
 |[_,_,_,_,_],_=>exact⟨rfl,rfl,rfl⟩
set_option maxHeartbeats 4000000 in
theorem ah8:joinedFacts Tryz.pinned.checked.prog 11 Tryz.f11 Rows.amountPartsSpec Rows.amountPartsRow=true:=by
 unfold joinedFacts;simp only[Bool.and_eq_true]
 repeat' apply And.intro
 all_goals (as_aux_lemma=>kernel_rfl)
theorem Wo:Tryz.pinned.checked.prog.funcNamed Rows.amountPartsRow.func=some 11:=by kernel_rfl
theorem ah7:Tryz.f11.isInstance Tryz.pinned.checked.prog Rows.amountPartsRow.origin Rows.amountPartsRow.targs:=of_decide_eq_true (by kernel_rfl)
theorem aie:Tryz.f11.isWrapper Tryz.pinned.checked.prog Rows.amountPartsRow.wrapper Rows.amountPartsRow.mainSum:=by
 unfold Func.isWrapper;first|(rw[if_pos (by decide+kernel)];kernel_rfl)|(rw[if_neg (by decide+kernel)];exact⟨rfl,rfl⟩)
theorem aic:Rows.AmountPartsSaid:=
 OpenClaim.holds_of_wide 11 Tryz.f11 rfl rfl rfl rfl rfl rfl rfl ⟨rfl,rfl,rfl,rfl,rfl⟩ rfl rfl rfl rfl rfl Wo Tryz.func11 ah8 ah7 aie
  (fun os started H enc _=>ah9 os started H enc)
theorem aid:Rows.amountPartsRow.wfByText (OpenSpec.ofChange Rows.amountPartsSpec)=true:=by kernel_rfl
theorem wR:Tryz.pinned.checked.prog.mainIs=some (true, "c296379279b6b365cad427ea6039c54041c40be79fae0d5486415967cf0ef3f9".toList):=by kernel_rfl
theorem wQ:false=Tryz.pinned.checked.prog.looks []:=by kernel_rfl
theorem aib:(Tryz.f11.params.toList.all fun u=> !Tryz.prog.wantsStandIn u)=true:=by kernel_rfl
theorem ah6:false=Rows.amountPartsRow.goesBy Tryz.pinned.checked.prog:=by kernel_rfl
theorem amountParts_holds:Rows.AmountPartsCardSaid:=
 Claim7.holds_tied_plain_at .later [] [.widerDeep] true (true, "c296379279b6b365cad427ea6039c54041c40be79fae0d5486415967cf0ef3f9") false
  aic (fun _ h=>by cases h) aid (fun _ h=>by cases h) amountParts_row_tie rfl ⟨rfl,rfl⟩ wR rfl
  (fun f fn hf hfn=>by
    obtain rfl:f=11:=Option.some.inj (Wo.symm.trans hf) |>.symm;obtain rfl:fn=Tryz.f11:=(Option.some.inj (Tryz.func11.symm.trans hfn)).symm
    exact⟨wQ,fun j t ht=>by
        have hm:t∈Tryz.f11.params.toList:=by simpa using Array.mem_of_getElem? ht
        exact(show Tryz.prog.wantsStandIn t=false by simpa using List.all_eq_true.1 aib t hm)⟩)
  ah6
#print axioms amountParts_holds
end Go.Proofs.YtepfoekldooaeaaGreatDoor
