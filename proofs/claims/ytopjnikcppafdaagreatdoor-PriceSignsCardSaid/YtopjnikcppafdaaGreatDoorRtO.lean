/-
  The statement: PriceSigns. A further signature never makes a price fall.
-/
import Derived.Test.YtopjnikcppafdaaGreatDoorMAR
import Derived.Test.YtopjnikcppafdaaGreatDoorCards
import Derived.Test.YtopjnikcppafdaaGreatDoorTie
import Derived.ProofKit
import Derived.LaidMore
import Derived.OpenShut
import Derived.Stop.Joined
import Derived.SevenTiedAt
set_option linter.defProp false
set_option linter.unusedSimpArgs false
set_option linter.unusedVariables false
namespace Go.Proofs.YtopjnikcppafdaaGreatDoor
open Go Go.Proofs Cx Rm Go.RowKit Go.ChangeShapes Go.WideShapes
def auC:ownKnob Tryz.prog.godebug=none:=by kernel_rfl
abbrev GK:List (String×DataW Unit):=[("allonge/order.numbers",Rows.laid_allonge_order_numbers)]
def auA (os:Os)(args:Array Value):laidMetH Tryz.prog GK ((World.doorLaid Tryz.prog 400 os).forCall (λ_ _=>0) ⟨#[],args,[]⟩).memory:=
 laidMetH_of_parts3 (fuel:=8) (laidMet_of_run' 8 (by kernel_rfl) (by kernel_rfl)) (by kernel_rfl) (by kernel_rfl)
def auB {W:World}(h:laidMetH Tryz.prog GK W):CtxOK ctx (lK W):=by
 rw[MakeChecks.laidMetH_plain _ _ _ (by kernel_rfl)] at h;refine axA (g:=2) (name:= "allonge/order.numbers") rfl (by kernel_rfl) (by kernel_rfl) ?_;exact Lib.tabIs_of_head (g:=2) (n:=10) (by kernel_rfl) (t:=259) (by kernel_rfl) (e:=3) (by kernel_rfl) (by kernel_rfl) (by kernel_rfl) (by kernel_rfl) h
def avE (ds:List D)(h:DTys ((bK xj 3).getD default).args ds):ff ctx 3 ((bK xj 3).getD default) ds (.v (.bool true)):=by
 obtain⟨d1,ds,rfl,h1,h⟩:=DTys.cons_inv h;obtain⟨d2,ds,rfl,h2,h⟩:=DTys.cons_inv h;obtain⟨d3,ds,rfl,h3,h⟩:=DTys.cons_inv h;obtain⟨d4,ds,rfl,h4,h⟩:=DTys.cons_inv h;obtain⟨d5,ds,rfl,h5,h⟩:=DTys.cons_inv h;obtain⟨d6,ds,rfl,h6,h⟩:=DTys.cons_inv h;obtain rfl:=h.nil_inv;obtain⟨r,rfl,hr⟩:=aww h1;obtain⟨n2,rfl,_⟩:=h2.int_inv;obtain⟨f,rfl,hf⟩:=anQ h3;obtain⟨n4,rfl,g4⟩:=h4.i64_inv;obtain⟨q,rfl,hq⟩:=avQ h5;obtain⟨s,rfl,hs⟩:=ajj h6;exact ah.fnOK axB rfl (akt r hr n2 f hf n4 g4 q hq s hs)
set_option maxRecDepth 100000 in
def avD (os:Os)(started:os.Started)(zzt:Type)(enc:TypeId×Value->zzt):
 ReturnsInHanded {} Tryz.checked os 3 .any (λw args=>(Rows.priceSignsSpec.pre enc Tryz.prog Tryz.f3 [] false w args/\laidMetH Tryz.prog GK w)/\sizedMet enc Tryz.prog Tryz.f3 (OpenSpec.ofChange Rows.priceSignsSpec) false w args)
  (Rows.priceSignsSpec.post enc Tryz.prog Tryz.f3 false true false false):=by
 refine returnsInHanded_of_change_and (C:=Tryz.checked) (X:=λw _=>laidMetH Tryz.prog GK w) (λ_ _ _ hh h=>h.of_heap hh) auC started (by kernel_rfl) Tryz.func3
  (ChangeSpec.witness_shaped (enc:=enc) (C:=Tryz.checked) (os:=os) (X:=λw _=>laidMetH Tryz.prog GK w) false (World.doorLaid Tryz.prog 400 os) #[.agg #[.slice none 0 0,.slice none 0 0,.slice none 0 0,.slice none 0 0,.slice none 0 0,.slice none 0 0,.slice none 0 0,.slice none 0 0],.int .i64 0,.agg #[.int .i64 0,.int .i64 0,.int .i64 0,.int .i64 0,.int .i64 0,.int .i64 0,.int .i64 0,.int .i64 0,.int .i64 0,.int .i64 0,.int .i64 0,.int .i64 0,.int .i64 0,.int .i64 0,.int .i64 0,.slice none 0 0,.slice none 0 0,.slice none 0 0,.slice none 0 0],.int .i64 0,.agg #[.int .i64 0,.slice none 0 0],.agg #[.int .i64 0,.int .i64 0,.int .i64 0,.int .i64 0,.int .i64 0,.int .i64 0,.int .i64 0,.int .i64 0,.int .i64 0]] 8 rfl (World.shaped_of_RefB (by kernel_rfl) (by kernel_rfl)) (by kernel_rfl) (by kernel_rfl) (by kernel_rfl) (auA os _)) ?_
 intro W base args ds gs before ct hW _ _ hL _;refine asI (C:=ctx) (f:=3) (fn:=Tryz.f3) (sg:=(bK xj 3).getD default) (spec:=Rows.priceSignsSpec) (tb:=4) (by kernel_rfl) (by kernel_rfl) (by kernel_rfl) rfl ?_ rfl Tryz.underlying4 rfl rfl avE W (auB hL) base args ds gs before ct hW;intro ds jS
 match ds,jS with
 |[_,_,_,_,_,_],_=>exact⟨rfl,rfl,rfl⟩
set_option maxHeartbeats 4000000 in
def avC:joinedFacts Tryz.pinned.checked.prog 3 Tryz.f3 Rows.priceSignsSpec Rows.priceSignsRow=true:=by
 unfold joinedFacts;simp only[ao]
 repeat' apply And.intro
 all_goals (as_aux_lemma=>kernel_rfl)
def ahK:Tryz.pinned.checked.prog.funcNamed Rows.priceSignsRow.func=some 3:=by kernel_rfl
def avB:Tryz.f3.isInstance Tryz.pinned.checked.prog Rows.priceSignsRow.origin Rows.priceSignsRow.targs:=of_decide_eq_true (by kernel_rfl)
def avI:Tryz.f3.isWrapper Tryz.pinned.checked.prog Rows.priceSignsRow.wrapper Rows.priceSignsRow.mainSum:=by
 unfold Func.isWrapper;first|(rw[if_pos (by decide+kernel)];kernel_rfl)|(rw[if_neg (by decide+kernel)];exact⟨rfl,rfl⟩)
def avG:Rows.PriceSignsSaid:=
 OpenClaim.holds_of_wide 3 Tryz.f3 rfl rfl rfl rfl rfl rfl rfl ⟨rfl,rfl,rfl,rfl,rfl⟩ rfl rfl rfl rfl rfl ahK Tryz.func3 avC avB avI
  (λos started zzt enc _=>avD os started zzt enc)
def avH:Rows.priceSignsRow.wfByText (OpenSpec.ofChange Rows.priceSignsSpec)=true:=by kernel_rfl
def aw6:Tryz.pinned.checked.prog.mainIs=some (true, "5b8767a4af669ce6224829762ff8e4143423812e43ed4f5ff6d28c068a8b4b5f".toList):=by kernel_rfl
def aw5:false=Tryz.pinned.checked.prog.looks []:=by kernel_rfl
def avF:(Tryz.f3.params.toList.all λu=> !Tryz.prog.wantsStandIn u)=true:=by kernel_rfl
def avA:false=Rows.priceSignsRow.goesBy Tryz.pinned.checked.prog:=by kernel_rfl
theorem priceSigns_holds:Rows.PriceSignsCardSaid:=
 Claim7.holds_tied_plain_at .later [] [.widerDeep] true (true, "5b8767a4af669ce6224829762ff8e4143423812e43ed4f5ff6d28c068a8b4b5f") false
  avG (λ_ h=>by cases h) avH (λ_ h=>by cases h) priceSigns_row_tie rfl ⟨rfl,rfl⟩ aw6 rfl
  (λf fn hf hfn=>by
    obtain rfl:f=3:=ur (ahK.symm.trans hf) |>.symm;obtain rfl:fn=Tryz.f3:=(ur (Tryz.func3.symm.trans hfn)).symm
    exact⟨aw5,λj t ht=>by
        have hm:t∈Tryz.f3.params.toList:=by simpa using qM ht
        exact(show Tryz.prog.wantsStandIn t=false by simpa using cN.1 avF t hm)⟩)
  avA
#print axioms priceSigns_holds
end Go.Proofs.YtopjnikcppafdaaGreatDoor
