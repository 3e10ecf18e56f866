/-
  The statement: AmountCosts. For all right realms and files, forums, signatures and days, a further protest or notice raises the costs by its sum, and no other act does; and it changes neither the sum, nor the interest, nor the loss by exchange
-/
import Derived.Test.YtepfoekldooaeaaGreatDoorKAW
import Derived.Test.YtepfoekldooaeaaGreatDoorCards
import Derived.Test.YtepfoekldooaeaaGreatDoorTie
import Derived.ProofKit
import Derived.LaidMore
import Derived.OpenShut
import Derived.Stop.Joined
import Derived.SevenTiedAt
set_option linter.unusedSimpArgs false
set_option linter.unusedVariables false
namespace Go.Proofs.YtepfoekldooaeaaGreatDoor
open Go Go.Proofs Cx Rm Go.RowKit Go.ChangeShapes Go.WideShapes
theorem v5:ownKnob Tryz.prog.godebug=none:=by kernel_rfl
abbrev fR:List (String×DataW Unit):=[("allonge/order.numbers",Rows.laid_allonge_order_numbers)]
theorem vZ (os:Os)(args:Array Value):laidMetH Tryz.prog fR ((World.doorLaid Tryz.prog 400 os).forCall (fun _ _=>0) ⟨#[],args,[]⟩).memory:=
 laidMetH_of_parts3 (fuel:=8) (laidMet_of_run' 8 (by kernel_rfl) (by kernel_rfl)) (by kernel_rfl) (by kernel_rfl)
theorem v3 {W:World}(h:laidMetH Tryz.prog fR W):CtxOK ctx (kf W):=by
 rw[MakeChecks.laidMetH_plain _ _ _ (by kernel_rfl)] at h;refine Mq (g:=0) (name:= "allonge/order.numbers") rfl (by kernel_rfl) (by kernel_rfl) ?_;exact Lib.tabIs_of_head (g:=0) (n:=10) (by kernel_rfl) (t:=238) (by kernel_rfl) (e:=3) (by kernel_rfl) (by kernel_rfl) (by kernel_rfl) (by kernel_rfl) h
theorem ahJ (ds:List D)(h:DTys ((aa ae 12).getD default).args ds):jA ctx 12 ((aa ae 12).getD default) ds (.v (.bool true)):=by
 obtain⟨d1,ds,rfl,h1,h⟩:=DTys.cons_inv h;obtain⟨d2,ds,rfl,h2,h⟩:=DTys.cons_inv h;obtain⟨d3,ds,rfl,h3,h⟩:=DTys.cons_inv h;obtain⟨d4,ds,rfl,h4,h⟩:=DTys.cons_inv h;obtain⟨d5,ds,rfl,h5,h⟩:=DTys.cons_inv h;obtain⟨d6,ds,rfl,h6,h⟩:=DTys.cons_inv h;obtain rfl:=h.nil_inv;obtain⟨r,rfl,hr⟩:=L5 h1;obtain⟨n2,rfl,_⟩:=h2.int_inv;obtain⟨f,rfl,hf⟩:=GP h3;obtain⟨n4,rfl,_⟩:=h4.int_inv;obtain⟨n5,rfl,_⟩:=h5.int_inv;obtain⟨a,rfl,ha⟩:=Wg h6;exact aj.fnOK Mr rfl (ag2 r hr n2 f hf n4 n5 a ha)
set_option maxRecDepth 100000 in
theorem ahI (os:Os)(started:os.Started)(H:Type)(enc:TypeId×Value→H):
 ReturnsInHanded {} Tryz.checked os 12 .any (fun w args=>(Rows.amountCostsSpec.pre enc Tryz.prog Tryz.f12 [] false w args∧laidMetH Tryz.prog fR w)∧sizedMet enc Tryz.prog Tryz.f12 (OpenSpec.ofChange Rows.amountCostsSpec) false w args)
  (Rows.amountCostsSpec.post enc Tryz.prog Tryz.f12 false true false false):=by
 refine returnsInHanded_of_change_and (C:=Tryz.checked) (X:=fun w _=>laidMetH Tryz.prog fR w) (fun _ _ _ hh h=>h.of_heap hh) v5 started (by kernel_rfl) Tryz.func12
  (ChangeSpec.witness_shaped (enc:=enc) (C:=Tryz.checked) (os:=os) (X:=fun w _=>laidMetH Tryz.prog fR w) false (World.doorLaid Tryz.prog 400 os) #[.agg #[.slice none 0 0,.slice none 0 0,.slice none 0 0,.slice none 0 0,.slice none 0 0,.slice none 0 0,.slice none 0 0,.slice none 0 0],.int .i64 0,.agg #[.int .i64 0,.int .i64 0,.int .i64 0,.int .i64 0,.int .i64 0,.int .i64 0,.int .i64 0,.int .i64 0,.int .i64 0,.int .i64 0,.int .i64 0,.int .i64 0,.int .i64 0,.int .i64 0,.int .i64 0,.slice none 0 0,.slice none 0 0,.slice none 0 0,.slice none 0 0],.int .i64 0,.int .i64 0,.agg #[.int .i64 0,.int .i64 0,.int .i64 0,.int .i64 0,.int .i64 0,.int .i64 0,.int .i64 0,.int .i64 0,.int .i64 0]] 8 rfl (World.shaped_of_RefB (by kernel_rfl) (by kernel_rfl)) (by kernel_rfl) (by kernel_rfl) (by kernel_rfl) (vZ os _)) ?_
 intro W base args ds gs before bW hW _ _ hL _;refine H2 (C:=ctx) (f:=12) (fn:=Tryz.f12) (sg:=(aa ae 12).getD default) (spec:=Rows.amountCostsSpec) (tb:=4) (by kernel_rfl) (by kernel_rfl) (by kernel_rfl) rfl ?_ rfl Tryz.underlying4 rfl rfl ahJ W (v3 hL) base args ds gs before bW hW;intro ds mw
 match ds,mw with
 |[_,_,_,_,_,_],_=>exact⟨rfl,rfl,rfl⟩
set_option maxHeartbeats 4000000 in
theorem ahH:joinedFacts Tryz.pinned.checked.prog 12 Tryz.f12 Rows.amountCostsSpec Rows.amountCostsRow=true:=by
 unfold joinedFacts;simp only[Bool.and_eq_true]
 repeat' apply And.intro
 all_goals (as_aux_lemma=>kernel_rfl)
theorem Wl:Tryz.pinned.checked.prog.funcNamed Rows.amountCostsRow.func=some 12:=by kernel_rfl
theorem ahG:Tryz.f12.isInstance Tryz.pinned.checked.prog Rows.amountCostsRow.origin Rows.amountCostsRow.targs:=of_decide_eq_true (by kernel_rfl)
theorem ahN:Tryz.f12.isWrapper Tryz.pinned.checked.prog Rows.amountCostsRow.wrapper Rows.amountCostsRow.mainSum:=by
 unfold Func.isWrapper;first|(rw[if_pos (by decide+kernel)];kernel_rfl)|(rw[if_neg (by decide+kernel)];exact⟨rfl,rfl⟩)
theorem ahL:Rows.AmountCostsSaid:=
 OpenClaim.holds_of_wide 12 Tryz.f12 rfl rfl rfl rfl rfl rfl rfl ⟨rfl,rfl,rfl,rfl,rfl⟩ rfl rfl rfl rfl rfl Wl Tryz.func12 ahH ahG ahN
  (fun os started H enc _=>ahI os started H enc)
theorem ahM:Rows.amountCostsRow.wfByText (OpenSpec.ofChange Rows.amountCostsSpec)=true:=by kernel_rfl
theorem wR:Tryz.pinned.checked.prog.mainIs=some (true, "c296379279b6b365cad427ea6039c54041c40be79fae0d5486415967cf0ef3f9".toList):=by kernel_rfl
theorem wQ:false=Tryz.pinned.checked.prog.looks []:=by kernel_rfl
theorem ahK:(Tryz.f12.params.toList.all fun u=> !Tryz.prog.wantsStandIn u)=true:=by kernel_rfl
theorem ahF:false=Rows.amountCostsRow.goesBy Tryz.pinned.checked.prog:=by kernel_rfl
theorem amountCosts_holds:Rows.AmountCostsCardSaid:=
 Claim7.holds_tied_plain_at .later [] [.widerDeep] true (true, "c296379279b6b365cad427ea6039c54041c40be79fae0d5486415967cf0ef3f9") false
  ahL (fun _ h=>by cases h) ahM (fun _ h=>by cases h) amountCosts_row_tie rfl ⟨rfl,rfl⟩ wR rfl
  (fun f fn hf hfn=>by
    obtain rfl:f=12:=Option.some.inj (Wl.symm.trans hf) |>.symm;obtain rfl:fn=Tryz.f12:=(Option.some.inj (Tryz.func12.symm.trans hfn)).symm
    exact⟨wQ,fun j t ht=>by
        have hm:t∈Tryz.f12.params.toList:=by simpa using Array.mem_of_getElem? ht
        exact(show Tryz.prog.wantsStandIn t=false by simpa using List.all_eq_true.1 ahK t hm)⟩)
  ahF
#print axioms amountCosts_holds
end Go.Proofs.YtepfoekldooaeaaGreatDoor
