/-
  The statement: AmountExchange. For all right realms and files, forums, signatures and days, the loss by exchange is at most the sum; it is 0 if the signer has his seat where the currency is that of the bill, and if the realm had only one of its rates
-/
import Derived.Test.YtkhkejmimnklfaaGreatDoorKAR
import Derived.Test.YtkhkejmimnklfaaGreatDoorCards
import Derived.Test.YtkhkejmimnklfaaGreatDoorTie
import Derived.ProofKit
import Derived.LaidMore
import Derived.OpenShut
import Derived.Stop.Joined
import Derived.SevenTiedAt
set_option linter.unusedSimpArgs false
set_option linter.unusedVariables false
namespace Go.Proofs.YtkhkejmimnklfaaGreatDoor
open Go Go.Proofs Cx Rm Go.RowKit Go.ChangeShapes Go.WideShapes
theorem auS:ownKnob Tryz.prog.godebug=none:=by kernel_rfl
abbrev Ce:List (String×DataW Unit):=[("allonge/order.numbers",Rows.laid_allonge_order_numbers)]
theorem auQ (os:Os)(args:Array Value):laidMetH Tryz.prog Ce ((World.doorLaid Tryz.prog 400 os).forCall (fun _ _=>0) ⟨#[],args,[]⟩).memory:=
 laidMetH_of_parts3 (fuel:=8) (laidMet_of_run' 8 (by kernel_rfl) (by kernel_rfl)) (by kernel_rfl) (by kernel_rfl)
theorem auR {W:World}(h:laidMetH Tryz.prog Ce W):CtxOK ctx (lK W):=by
 rw[MakeChecks.laidMetH_plain _ _ _ (by kernel_rfl)] at h;refine axn (g:=0) (name:= "allonge/order.numbers") rfl (by kernel_rfl) (by kernel_rfl) ?_;exact Lib.tabIs_of_head (g:=0) (n:=10) (by kernel_rfl) (t:=215) (by kernel_rfl) (e:=3) (by kernel_rfl) (by kernel_rfl) (by kernel_rfl) (by kernel_rfl) h
theorem age (ds:List D)(h:DTys ((ab af 9).getD default).args ds):j5 ctx 9 ((ab af 9).getD default) ds (.v (.bool true)):=by
 obtain⟨d1,ds,rfl,h1,h⟩:=DTys.cons_inv h;obtain⟨d2,ds,rfl,h2,h⟩:=DTys.cons_inv h;obtain⟨d3,ds,rfl,h3,h⟩:=DTys.cons_inv h;obtain⟨d4,ds,rfl,h4,h⟩:=DTys.cons_inv h;obtain⟨d5,ds,rfl,h5,h⟩:=DTys.cons_inv h;obtain⟨d6,ds,rfl,h6,h⟩:=DTys.cons_inv h;obtain rfl:=h.nil_inv;obtain⟨r,rfl,hr⟩:=aww h1;obtain⟨n2,rfl,_⟩:=h2.int_inv;obtain⟨f,rfl,hf⟩:=amX h3;obtain⟨n4,rfl,_⟩:=h4.int_inv;obtain⟨n5,rfl,_⟩:=h5.int_inv;obtain⟨n6,rfl,_⟩:=h6.int_inv;exact ak.fnOK axo rfl (afA r hr n2 f hf n4 n5 n6)
set_option maxRecDepth 100000 in
theorem agd (os:Os)(started:os.Started)(H:Type)(enc:TypeId×Value→H):
 ReturnsInHanded {} Tryz.checked os 9 .any (fun w args=>(Rows.amountExchangeSpec.pre enc Tryz.prog Tryz.f9 [] false w args∧laidMetH Tryz.prog Ce w)∧sizedMet enc Tryz.prog Tryz.f9 (OpenSpec.ofChange Rows.amountExchangeSpec) false w args)
  (Rows.amountExchangeSpec.post enc Tryz.prog Tryz.f9 false true false false):=by
 refine returnsInHanded_of_change_and (C:=Tryz.checked) (X:=fun w _=>laidMetH Tryz.prog Ce w) (fun _ _ _ hh h=>h.of_heap hh) auS started (by kernel_rfl) Tryz.func9
  (ChangeSpec.witness_shaped (enc:=enc) (C:=Tryz.checked) (os:=os) (X:=fun w _=>laidMetH Tryz.prog Ce w) false (World.doorLaid Tryz.prog 400 os) #[.agg #[.slice none 0 0,.slice none 0 0,.slice none 0 0,.slice none 0 0,.slice none 0 0,.slice none 0 0,.slice none 0 0,.slice none 0 0],.int .i64 0,.agg #[.int .i64 0,.int .i64 0,.int .i64 0,.int .i64 0,.int .i64 0,.int .i64 0,.int .i64 0,.int .i64 0,.int .i64 0,.int .i64 0,.int .i64 0,.int .i64 0,.int .i64 0,.int .i64 0,.int .i64 0,.slice none 0 0,.slice none 0 0,.slice none 0 0,.slice none 0 0],.int .i64 0,.int .i64 0,.int .i64 0] 8 rfl (World.shaped_of_RefB (by kernel_rfl) (by kernel_rfl)) (by kernel_rfl) (by kernel_rfl) (by kernel_rfl) (auQ os _)) ?_
 intro W base args ds gs before cm hW _ _ hL _;refine as7 (C:=ctx) (f:=9) (fn:=Tryz.f9) (sg:=(ab af 9).getD default) (spec:=Rows.amountExchangeSpec) (tb:=4) (by kernel_rfl) (by kernel_rfl) (by kernel_rfl) rfl ?_ rfl Tryz.underlying4 rfl rfl age W (auR hL) base args ds gs before cm hW;intro ds uk
 match ds,uk with
 |[_,_,_,_,_,_],_=>exact⟨rfl,rfl,rfl⟩
set_option maxHeartbeats 4000000 in
theorem agc:joinedFacts Tryz.pinned.checked.prog 9 Tryz.f9 Rows.amountExchangeSpec Rows.amountExchangeRow=true:=by
 unfold joinedFacts;simp only[Bool.and_eq_true]
 repeat' apply And.intro
 all_goals (as_aux_lemma=>kernel_rfl)
theorem Vg:Tryz.pinned.checked.prog.funcNamed Rows.amountExchangeRow.func=some 9:=by kernel_rfl
theorem agb:Tryz.f9.isInstance Tryz.pinned.checked.prog Rows.amountExchangeRow.origin Rows.amountExchangeRow.targs:=of_decide_eq_true (by kernel_rfl)
theorem agj:Tryz.f9.isWrapper Tryz.pinned.checked.prog Rows.amountExchangeRow.wrapper Rows.amountExchangeRow.mainSum:=by
 unfold Func.isWrapper;first|(rw[if_pos (by decide+kernel)];kernel_rfl)|(rw[if_neg (by decide+kernel)];exact⟨rfl,rfl⟩)
theorem agh:Rows.AmountExchangeSaid:=
 OpenClaim.holds_of_wide 9 Tryz.f9 rfl rfl rfl rfl rfl rfl rfl ⟨rfl,rfl,rfl,rfl,rfl⟩ rfl rfl rfl rfl rfl Vg Tryz.func9 agc agb agj
  (fun os started H enc _=>agd os started H enc)
theorem agi:Rows.amountExchangeRow.wfByText (OpenSpec.ofChange Rows.amountExchangeSpec)=true:=by kernel_rfl
theorem aw2:Tryz.pinned.checked.prog.mainIs=some (true, "0c4efc3bfab166a1186ce4ea93942d9373863cbba0f96f15dd9c48c5f9b01c8e".toList):=by kernel_rfl
theorem aw1:false=Tryz.pinned.checked.prog.looks []:=by kernel_rfl
theorem agf:(Tryz.f9.params.toList.all fun u=> !Tryz.prog.wantsStandIn u)=true:=by kernel_rfl
theorem aga:false=Rows.amountExchangeRow.goesBy Tryz.pinned.checked.prog:=by kernel_rfl
theorem amountExchange_holds:Rows.AmountExchangeCardSaid:=
 Claim7.holds_tied_plain_at .later [] [.widerDeep] true (true, "0c4efc3bfab166a1186ce4ea93942d9373863cbba0f96f15dd9c48c5f9b01c8e") false
  agh (fun _ h=>by cases h) agi (fun _ h=>by cases h) amountExchange_row_tie rfl ⟨rfl,rfl⟩ aw2 rfl
  (fun f fn hf hfn=>by
    obtain rfl:f=9:=Option.some.inj (Vg.symm.trans hf) |>.symm;obtain rfl:fn=Tryz.f9:=(Option.some.inj (Tryz.func9.symm.trans hfn)).symm
    exact⟨aw1,fun j t ht=>by
        have hm:t∈Tryz.f9.params.toList:=by simpa using Array.mem_of_getElem? ht
        exact(show Tryz.prog.wantsStandIn t=false by simpa using List.all_eq_true.1 agf t hm)⟩)
  aga
#print axioms amountExchange_holds
end Go.Proofs.YtkhkejmimnklfaaGreatDoor
