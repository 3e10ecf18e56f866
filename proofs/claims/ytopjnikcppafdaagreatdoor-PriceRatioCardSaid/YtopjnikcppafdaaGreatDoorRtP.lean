/-
  The statement: PriceRatio. The worth is near the exact probability.
-/
import Derived.Test.YtopjnikcppafdaaGreatDoorKAQ
import Derived.Test.YtopjnikcppafdaaGreatDoorCards
import Derived.Test.YtopjnikcppafdaaGreatDoorTie
import Derived.ProofKit
import Derived.LaidMore
import Derived.OpenShut
import Derived.Stop.Joined
import Derived.SevenTiedAt
set_option linter.unusedSimpArgs false
set_option linter.unusedVariables false
namespace Go.Proofs.YtopjnikcppafdaaGreatDoor
open Go Go.Proofs Cx Rm Go.RowKit Go.ChangeShapes Go.WideShapes
theorem avL:ownKnob Tryz.prog.godebug=none:=by kernel_rfl
abbrev GA:List (String×DataW Unit):=[("allonge/order.numbers",Rows.laid_allonge_order_numbers)]
theorem avJ (os:Os)(args:Array Value):laidMetH Tryz.prog GA ((World.doorLaid Tryz.prog 400 os).forCall (fun _ _=>0) ⟨#[],args,[]⟩).memory:=
 laidMetH_of_parts3 (fuel:=8) (laidMet_of_run' 8 (by kernel_rfl) (by kernel_rfl)) (by kernel_rfl) (by kernel_rfl)
theorem avK {W:World}(h:laidMetH Tryz.prog GA W):CtxOK ctx (ls W):=by
 rw[MakeChecks.laidMetH_plain _ _ _ (by kernel_rfl)] at h;refine ayL (g:=2) (name:= "allonge/order.numbers") rfl (by kernel_rfl) (by kernel_rfl) ?_;exact Lib.tabIs_of_head (g:=2) (n:=10) (by kernel_rfl) (t:=259) (by kernel_rfl) (e:=3) (by kernel_rfl) (by kernel_rfl) (by kernel_rfl) (by kernel_rfl) h
theorem awO (ds:List D)(h:DTys ((bL wU 4).getD default).args ds):ij ctx 4 ((bL wU 4).getD default) ds (.v (.bool true)):=by
 obtain⟨d1,ds,rfl,h1,h⟩:=DTys.cons_inv h;obtain⟨d2,ds,rfl,h2,h⟩:=DTys.cons_inv h;obtain⟨d3,ds,rfl,h3,h⟩:=DTys.cons_inv h;obtain⟨d4,ds,rfl,h4,h⟩:=DTys.cons_inv h;obtain⟨d5,ds,rfl,h5,h⟩:=DTys.cons_inv h;obtain rfl:=h.nil_inv;obtain⟨r,rfl,hr⟩:=axE h1;obtain⟨n2,rfl,_⟩:=h2.int_inv;obtain⟨f,rfl,hf⟩:=aoA h3;obtain⟨n4,rfl,g4⟩:=h4.i64_inv;obtain⟨q,rfl,hq⟩:=awY h5;exact aj.fnOK ayM rfl (alh r hr n2 f hf n4 g4 q hq)
set_option maxRecDepth 100000 in
theorem awN (os:Os)(started:os.Started)(H:Type)(enc:TypeId×Value→H):
 ReturnsInHanded {} Tryz.checked os 4 .any (fun w args=>(Rows.priceRatioSpec.pre enc Tryz.prog Tryz.f4 [] false w args∧laidMetH Tryz.prog GA w)∧sizedMet enc Tryz.prog Tryz.f4 (OpenSpec.ofChange Rows.priceRatioSpec) false w args)
  (Rows.priceRatioSpec.post enc Tryz.prog Tryz.f4 false true false false):=by
 refine returnsInHanded_of_change_and (C:=Tryz.checked) (X:=fun w _=>laidMetH Tryz.prog GA w) (fun _ _ _ hh h=>h.of_heap hh) avL started (by kernel_rfl) Tryz.func4
  (ChangeSpec.witness_shaped (enc:=enc) (C:=Tryz.checked) (os:=os) (X:=fun w _=>laidMetH Tryz.prog GA w) false (World.doorLaid Tryz.prog 400 os) #[.agg #[.slice none 0 0,.slice none 0 0,.slice none 0 0,.slice none 0 0,.slice none 0 0,.slice none 0 0,.slice none 0 0,.slice none 0 0],.int .i64 0,.agg #[.int .i64 0,.int .i64 0,.int .i64 0,.int .i64 0,.int .i64 0,.int .i64 0,.int .i64 0,.int .i64 0,.int .i64 0,.int .i64 0,.int .i64 0,.int .i64 0,.int .i64 0,.int .i64 0,.int .i64 0,.slice none 0 0,.slice none 0 0,.slice none 0 0,.slice none 0 0],.int .i64 0,.agg #[.int .i64 0,.slice none 0 0]] 8 rfl (World.shaped_of_RefB (by kernel_rfl) (by kernel_rfl)) (by kernel_rfl) (by kernel_rfl) (by kernel_rfl) (avJ os _)) ?_
 intro W base args ds gs before cT hW _ _ hL _;refine atO (C:=ctx) (f:=4) (fn:=Tryz.f4) (sg:=(bL wU 4).getD default) (spec:=Rows.priceRatioSpec) (tb:=4) (by kernel_rfl) (by kernel_rfl) (by kernel_rfl) rfl ?_ rfl Tryz.underlying4 rfl rfl awO W (avK hL) base args ds gs before cT hW;intro ds jG
 match ds,jG with
 |[_,_,_,_,_],_=>exact⟨rfl,rfl,rfl⟩
set_option maxHeartbeats 4000000 in
theorem awM:joinedFacts Tryz.pinned.checked.prog 4 Tryz.f4 Rows.priceRatioSpec Rows.priceRatioRow=true:=by
 unfold joinedFacts;simp only[aw]
 repeat' apply And.intro
 all_goals (as_aux_lemma=>kernel_rfl)
theorem aim:Tryz.pinned.checked.prog.funcNamed Rows.priceRatioRow.func=some 4:=by kernel_rfl
theorem awL:Tryz.f4.isInstance Tryz.pinned.checked.prog Rows.priceRatioRow.origin Rows.priceRatioRow.targs:=of_decide_eq_true (by kernel_rfl)
theorem awS:Tryz.f4.isWrapper Tryz.pinned.checked.prog Rows.priceRatioRow.wrapper Rows.priceRatioRow.mainSum:=by
 unfold Func.isWrapper;first|(rw[if_pos (by decide+kernel)];kernel_rfl)|(rw[if_neg (by decide+kernel)];exact⟨rfl,rfl⟩)
theorem awQ:Rows.PriceRatioSaid:=
 OpenClaim.holds_of_wide 4 Tryz.f4 rfl rfl rfl rfl rfl rfl rfl ⟨rfl,rfl,rfl,rfl,rfl⟩ rfl rfl rfl rfl rfl aim Tryz.func4 awM awL awS
  (fun os started H enc _=>awN os started H enc)
theorem awR:Rows.priceRatioRow.wfByText (OpenSpec.ofChange Rows.priceRatioSpec)=true:=by kernel_rfl
theorem ayg:Tryz.pinned.checked.prog.mainIs=some (true, "5b8767a4af669ce6224829762ff8e4143423812e43ed4f5ff6d28c068a8b4b5f".toList):=by kernel_rfl
theorem ayf:false=Tryz.pinned.checked.prog.looks []:=by kernel_rfl
theorem awP:(Tryz.f4.params.toList.all fun u=> !Tryz.prog.wantsStandIn u)=true:=by kernel_rfl
theorem awK:false=Rows.priceRatioRow.goesBy Tryz.pinned.checked.prog:=by kernel_rfl
theorem priceRatio_holds:Rows.PriceRatioCardSaid:=
 Claim7.holds_tied_plain_at .later [] [.widerDeep] true (true, "5b8767a4af669ce6224829762ff8e4143423812e43ed4f5ff6d28c068a8b4b5f") false
  awQ (fun _ h=>by cases h) awR (fun _ h=>by cases h) priceRatio_row_tie rfl ⟨rfl,rfl⟩ ayg rfl
  (fun f fn hf hfn=>by
    obtain rfl:f=4:=tO (aim.symm.trans hf) |>.symm;obtain rfl:fn=Tryz.f4:=(tO (Tryz.func4.symm.trans hfn)).symm
    exact⟨ayf,fun j t ht=>by
        have hm:t∈Tryz.f4.params.toList:=by simpa using qf ht
        exact(show Tryz.prog.wantsStandIn t=false by simpa using da.1 awP t hm)⟩)
  awK
#print axioms priceRatio_holds
end Go.Proofs.YtopjnikcppafdaaGreatDoor
