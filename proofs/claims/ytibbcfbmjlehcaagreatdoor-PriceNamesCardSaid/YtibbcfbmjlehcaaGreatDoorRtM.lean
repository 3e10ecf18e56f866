/-
  The statement: PriceNames. Groups of one grade may change their names.
-/
import Derived.Test.YtibbcfbmjlehcaaGreatDoorNAR
import Derived.Test.YtibbcfbmjlehcaaGreatDoorCards
import Derived.Test.YtibbcfbmjlehcaaGreatDoorTie
import Derived.ProofKit
import Derived.LaidMore
import Derived.OpenShut
import Derived.Stop.Joined
import Derived.SevenTiedAt
set_option linter.defProp false
set_option linter.unusedSimpArgs false
set_option linter.unusedVariables false
namespace Go.Proofs.YtibbcfbmjlehcaaGreatDoor
open Go Go.Proofs Cx Rm Go.RowKit Go.ChangeShapes Go.WideShapes
def auw:ownKnob Tryz.prog.godebug=none:=by kernel_rfl
abbrev GA:List (String×DataW Unit):=[("allonge/order.numbers",Rows.laid_allonge_order_numbers)]
def auu (os:Os)(args:Array Value):laidMetH Tryz.prog GA ((World.doorLaid Tryz.prog 400 os).forCall (λ_ _=>0) ⟨#[],args,[]⟩).memory:=
 laidMetH_of_parts3 (fuel:=8) (laidMet_of_run' 8 (by kernel_rfl) (by kernel_rfl)) (by kernel_rfl) (by kernel_rfl)
def auv {W:World}(h:laidMetH Tryz.prog GA W):CtxOK ctx (lJ W):=by
 rw[MakeChecks.laidMetH_plain _ _ _ (by kernel_rfl)] at h;refine axz (g:=2) (name:= "allonge/order.numbers") rfl (by kernel_rfl) (by kernel_rfl) ?_;exact Lib.tabIs_of_head (g:=2) (n:=10) (by kernel_rfl) (t:=240) (by kernel_rfl) (e:=3) (by kernel_rfl) (by kernel_rfl) (by kernel_rfl) (by kernel_rfl) h
def avD (ds:List D)(h:DTys ((bH wY 4).getD default).args ds):iO ctx 4 ((bH wY 4).getD default) ds (.v (.bool true)):=by
 obtain⟨d1,ds,rfl,h1,h⟩:=DTys.cons_inv h;obtain⟨d2,ds,rfl,h2,h⟩:=DTys.cons_inv h;obtain⟨d3,ds,rfl,h3,h⟩:=DTys.cons_inv h;obtain⟨d4,ds,rfl,h4,h⟩:=DTys.cons_inv h;obtain⟨d5,ds,rfl,h5,h⟩:=DTys.cons_inv h;obtain⟨d6,ds,rfl,h6,h⟩:=DTys.cons_inv h;obtain⟨d7,ds,rfl,h7,h⟩:=DTys.cons_inv h;obtain rfl:=h.nil_inv;obtain⟨r,rfl,hr⟩:=awv h1;obtain⟨n2,rfl,_⟩:=h2.int_inv;obtain⟨f,rfl,hf⟩:=anE h3;obtain⟨n4,rfl,g4⟩:=h4.i64_inv;obtain⟨q,rfl,hq⟩:=avN h5;obtain⟨n6,rfl,_⟩:=h6.int_inv;obtain⟨n7,rfl,_⟩:=h7.int_inv;exact ah.fnOK axA rfl (ako r hr n2 f hf n4 g4 q hq n6 n7)
set_option maxRecDepth 100000 in
def avC (os:Os)(started:os.Started)(zzt:Type)(enc:TypeId×Value->zzt):
 ReturnsInHanded {} Tryz.checked os 4 .any (λw args=>(Rows.priceNamesSpec.pre enc Tryz.prog Tryz.f4 [] false w args/\laidMetH Tryz.prog GA w)/\sizedMet enc Tryz.prog Tryz.f4 (OpenSpec.ofChange Rows.priceNamesSpec) false w args)
  (Rows.priceNamesSpec.post enc Tryz.prog Tryz.f4 false true false false):=by
 refine returnsInHanded_of_change_and (C:=Tryz.checked) (X:=λw _=>laidMetH Tryz.prog GA w) (λ_ _ _ hh h=>h.of_heap hh) auw started (by kernel_rfl) Tryz.func4
  (ChangeSpec.witness_shaped (enc:=enc) (C:=Tryz.checked) (os:=os) (X:=λw _=>laidMetH Tryz.prog GA w) false (World.doorLaid Tryz.prog 400 os) #[.agg #[.slice none 0 0,.slice none 0 0,.slice none 0 0,.slice none 0 0,.slice none 0 0,.slice none 0 0,.slice none 0 0,.slice none 0 0],.int .i64 0,.agg #[.int .i64 0,.int .i64 0,.int .i64 0,.int .i64 0,.int .i64 0,.int .i64 0,.int .i64 0,.int .i64 0,.int .i64 0,.int .i64 0,.int .i64 0,.int .i64 0,.int .i64 0,.int .i64 0,.int .i64 0,.slice none 0 0,.slice none 0 0,.slice none 0 0,.slice none 0 0],.int .i64 0,.agg #[.int .i64 0,.slice none 0 0],.int .i64 0,.int .i64 0] 8 rfl (World.shaped_of_RefB (by kernel_rfl) (by kernel_rfl)) (by kernel_rfl) (by kernel_rfl) (by kernel_rfl) (auu os _)) ?_
 intro W base args ds gs before cu hW _ _ hL _;refine asB (C:=ctx) (f:=4) (fn:=Tryz.f4) (sg:=(bH wY 4).getD default) (spec:=Rows.priceNamesSpec) (tb:=4) (by kernel_rfl) (by kernel_rfl) (by kernel_rfl) rfl ?_ rfl Tryz.underlying4 rfl rfl avD W (auv hL) base args ds gs before cu hW;intro ds jO
 match ds,jO with
 |[_,_,_,_,_,_,_],_=>exact⟨rfl,rfl,rfl⟩
set_option maxHeartbeats 4000000 in
def avB:joinedFacts Tryz.pinned.checked.prog 4 Tryz.f4 Rows.priceNamesSpec Rows.priceNamesRow=true:=by
 unfold joinedFacts;simp only[ao]
 repeat' apply And.intro
 all_goals (as_aux_lemma=>kernel_rfl)
def ahy:Tryz.pinned.checked.prog.funcNamed Rows.priceNamesRow.func=some 4:=by kernel_rfl
def avA:Tryz.f4.isInstance Tryz.pinned.checked.prog Rows.priceNamesRow.origin Rows.priceNamesRow.targs:=of_decide_eq_true (by kernel_rfl)
def avH:Tryz.f4.isWrapper Tryz.pinned.checked.prog Rows.priceNamesRow.wrapper Rows.priceNamesRow.mainSum:=by
 unfold Func.isWrapper;first|(rw[if_pos (by decide+kernel)];kernel_rfl)|(rw[if_neg (by decide+kernel)];exact⟨rfl,rfl⟩)
def avF:Rows.PriceNamesSaid:=
 OpenClaim.holds_of_wide 4 Tryz.f4 rfl rfl rfl rfl rfl rfl rfl ⟨rfl,rfl,rfl,rfl,rfl⟩ rfl rfl rfl rfl rfl ahy Tryz.func4 avB avA avH
  (λos started zzt enc _=>avC os started zzt enc)
def avG:Rows.priceNamesRow.wfByText (OpenSpec.ofChange Rows.priceNamesSpec)=true:=by kernel_rfl
def aw4:Tryz.pinned.checked.prog.mainIs=some (true, "2eea7660366e7e750e1fdbab395b46ddf19c722c69e6af79a6e3fc0d5dd071b5".toList):=by kernel_rfl
def aw3:false=Tryz.pinned.checked.prog.looks []:=by kernel_rfl
def avE:(Tryz.f4.params.toList.all λu=> !Tryz.prog.wantsStandIn u)=true:=by kernel_rfl
def avz:false=Rows.priceNamesRow.goesBy Tryz.pinned.checked.prog:=by kernel_rfl
theorem priceNames_holds:Rows.PriceNamesCardSaid:=
 Claim7.holds_tied_plain_at .later [] [.widerDeep] true (true, "2eea7660366e7e750e1fdbab395b46ddf19c722c69e6af79a6e3fc0d5dd071b5") false
  avF (λ_ h=>by cases h) avG (λ_ h=>by cases h) priceNames_row_tie rfl ⟨rfl,rfl⟩ aw4 rfl
  (λf fn hf hfn=>by
    obtain rfl:f=4:=tZ (ahy.symm.trans hf) |>.symm;obtain rfl:fn=Tryz.f4:=(tZ (Tryz.func4.symm.trans hfn)).symm
    exact⟨aw3,λj t ht=>by
        have hm:t∈Tryz.f4.params.toList:=by simpa using qC ht
        exact(show Tryz.prog.wantsStandIn t=false by simpa using cP.1 avE t hm)⟩)
  avz
#print axioms priceNames_holds
end Go.Proofs.YtibbcfbmjlehcaaGreatDoor
