/-
  The statement: PriceGrows. More facts never make a price fall.
-/
import Derived.Test.YtibbcfbmjlehcaaGreatDoorGAR
import Derived.Test.YtibbcfbmjlehcaaGreatDoorCards
import Derived.Test.YtibbcfbmjlehcaaGreatDoorTie
import Derived.ProofKit
import Derived.LaidMore
import Derived.OpenShut
import Derived.Stop.Joined
import Derived.SevenTiedAt
set_option linter.defProp false
set_option linter.unusedSimpArgs false
set_option linter.unusedVariables false
namespace Go.Proofs.YtibbcfbmjlehcaaGreatDoor
open Go Go.Proofs Cx Rm Go.RowKit Go.ChangeShapes Go.WideShapes
def avo:ownKnob Tryz.prog.godebug=none:=by kernel_rfl
abbrev G4:List (String×DataW Unit):=[("allonge/order.numbers",Rows.laid_allonge_order_numbers)]
def avm (os:Os)(args:Array Value):laidMetH Tryz.prog G4 ((World.doorLaid Tryz.prog 400 os).forCall (λ_ _=>0) ⟨#[],args,[]⟩).memory:=
 laidMetH_of_parts3 (fuel:=8) (laidMet_of_run' 8 (by kernel_rfl) (by kernel_rfl)) (by kernel_rfl) (by kernel_rfl)
def avn {W:World}(h:laidMetH Tryz.prog G4 W):CtxOK ctx (lZ W):=by
 rw[MakeChecks.laidMetH_plain _ _ _ (by kernel_rfl)] at h;refine ayy (g:=2) (name:= "allonge/order.numbers") rfl (by kernel_rfl) (by kernel_rfl) ?_;exact Lib.tabIs_of_head (g:=2) (n:=10) (by kernel_rfl) (t:=240) (by kernel_rfl) (e:=3) (by kernel_rfl) (by kernel_rfl) (by kernel_rfl) (by kernel_rfl) h
def awu (ds:List D)(h:DTys ((bK xx 3).getD default).args ds):iW ctx 3 ((bK xx 3).getD default) ds (.v (.bool true)):=by
 obtain⟨d1,ds,rfl,h1,h⟩:=DTys.cons_inv h;obtain⟨d2,ds,rfl,h2,h⟩:=DTys.cons_inv h;obtain⟨d3,ds,rfl,h3,h⟩:=DTys.cons_inv h;obtain⟨d4,ds,rfl,h4,h⟩:=DTys.cons_inv h;obtain⟨d5,ds,rfl,h5,h⟩:=DTys.cons_inv h;obtain⟨d6,ds,rfl,h6,h⟩:=DTys.cons_inv h;obtain rfl:=h.nil_inv;obtain⟨r,rfl,hr⟩:=axp h1;obtain⟨n2,rfl,_⟩:=h2.int_inv;obtain⟨f,rfl,hf⟩:=aoq h3;obtain⟨n4,rfl,g4⟩:=h4.i64_inv;obtain⟨q,rfl,hq⟩:=awG h5;obtain⟨fs,rfl,rU⟩:=acG h6;exact ah.fnOK ayz rfl (ak5 r hr n2 f hf n4 g4 q hq fs rU.2)
set_option maxRecDepth 100000 in
def awt (os:Os)(started:os.Started)(zzt:Type)(enc:TypeId×Value->zzt):
 ReturnsInHanded {} Tryz.checked os 3 .any (λw args=>(Rows.priceGrowsSpec.pre enc Tryz.prog Tryz.f3 [] false w args/\laidMetH Tryz.prog G4 w)/\sizedMet enc Tryz.prog Tryz.f3 (OpenSpec.ofChange Rows.priceGrowsSpec) false w args)
  (Rows.priceGrowsSpec.post enc Tryz.prog Tryz.f3 false true false false):=by
 refine returnsInHanded_of_change_and (C:=Tryz.checked) (X:=λw _=>laidMetH Tryz.prog G4 w) (λ_ _ _ hh h=>h.of_heap hh) avo started (by kernel_rfl) Tryz.func3
  (ChangeSpec.witness_shaped (enc:=enc) (C:=Tryz.checked) (os:=os) (X:=λw _=>laidMetH Tryz.prog G4 w) false (World.doorLaid Tryz.prog 400 os) #[.agg #[.slice none 0 0,.slice none 0 0,.slice none 0 0,.slice none 0 0,.slice none 0 0,.slice none 0 0,.slice none 0 0,.slice none 0 0],.int .i64 0,.agg #[.int .i64 0,.int .i64 0,.int .i64 0,.int .i64 0,.int .i64 0,.int .i64 0,.int .i64 0,.int .i64 0,.int .i64 0,.int .i64 0,.int .i64 0,.int .i64 0,.int .i64 0,.int .i64 0,.int .i64 0,.slice none 0 0,.slice none 0 0,.slice none 0 0,.slice none 0 0],.int .i64 0,.agg #[.int .i64 0,.slice none 0 0],.slice none 0 0] 8 rfl (World.shaped_of_RefB (by kernel_rfl) (by kernel_rfl)) (by kernel_rfl) (by kernel_rfl) (by kernel_rfl) (avm os _)) ?_
 intro W base args ds gs before cv hW _ _ hL _;refine atp (C:=ctx) (f:=3) (fn:=Tryz.f3) (sg:=(bK xx 3).getD default) (spec:=Rows.priceGrowsSpec) (tb:=4) (by kernel_rfl) (by kernel_rfl) (by kernel_rfl) rfl ?_ rfl Tryz.underlying4 rfl rfl awu W (avn hL) base args ds gs before cv hW;intro ds jW
 match ds,jW with
 |[_,_,_,_,_,_],_=>exact⟨rfl,rfl,rfl⟩
set_option maxHeartbeats 4000000 in
def aws:joinedFacts Tryz.pinned.checked.prog 3 Tryz.f3 Rows.priceGrowsSpec Rows.priceGrowsRow=true:=by
 unfold joinedFacts;simp only[ao]
 repeat' apply And.intro
 all_goals (as_aux_lemma=>kernel_rfl)
def aid:Tryz.pinned.checked.prog.funcNamed Rows.priceGrowsRow.func=some 3:=by kernel_rfl
def awr:Tryz.f3.isInstance Tryz.pinned.checked.prog Rows.priceGrowsRow.origin Rows.priceGrowsRow.targs:=of_decide_eq_true (by kernel_rfl)
def awy:Tryz.f3.isWrapper Tryz.pinned.checked.prog Rows.priceGrowsRow.wrapper Rows.priceGrowsRow.mainSum:=by
 unfold Func.isWrapper;first|(rw[if_pos (by decide+kernel)];kernel_rfl)|(rw[if_neg (by decide+kernel)];exact⟨rfl,rfl⟩)
def aww:Rows.PriceGrowsSaid:=
 OpenClaim.holds_of_wide 3 Tryz.f3 rfl rfl rfl rfl rfl rfl rfl ⟨rfl,rfl,rfl,rfl,rfl⟩ rfl rfl rfl rfl rfl aid Tryz.func3 aws awr awy
  (λos started zzt enc _=>awt os started zzt enc)
def awx:Rows.priceGrowsRow.wfByText (OpenSpec.ofChange Rows.priceGrowsSpec)=true:=by kernel_rfl
def ax1:Tryz.pinned.checked.prog.mainIs=some (true, "2eea7660366e7e750e1fdbab395b46ddf19c722c69e6af79a6e3fc0d5dd071b5".toList):=by kernel_rfl
def ax0:false=Tryz.pinned.checked.prog.looks []:=by kernel_rfl
def awv:(Tryz.f3.params.toList.all λu=> !Tryz.prog.wantsStandIn u)=true:=by kernel_rfl
def awq:false=Rows.priceGrowsRow.goesBy Tryz.pinned.checked.prog:=by kernel_rfl
theorem priceGrows_holds:Rows.PriceGrowsCardSaid:=
 Claim7.holds_tied_plain_at .later [] [.widerDeep] true (true, "2eea7660366e7e750e1fdbab395b46ddf19c722c69e6af79a6e3fc0d5dd071b5") false
  aww (λ_ h=>by cases h) awx (λ_ h=>by cases h) priceGrows_row_tie rfl ⟨rfl,rfl⟩ ax1 rfl
  (λf fn hf hfn=>by
    obtain rfl:f=3:=uH (aid.symm.trans hf) |>.symm;obtain rfl:fn=Tryz.f3:=(uH (Tryz.func3.symm.trans hfn)).symm
    exact⟨ax0,λj t ht=>by
        have hm:t∈Tryz.f3.params.toList:=by simpa using q8 ht
        exact(show Tryz.prog.wantsStandIn t=false by simpa using cQ.1 awv t hm)⟩)
  awq
#print axioms priceGrows_holds
end Go.Proofs.YtibbcfbmjlehcaaGreatDoor
