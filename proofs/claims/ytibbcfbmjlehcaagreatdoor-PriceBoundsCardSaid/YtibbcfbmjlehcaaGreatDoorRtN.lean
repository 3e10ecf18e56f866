/-
  The statement: PriceBounds. What a price lies between.
-/
import Derived.Test.YtibbcfbmjlehcaaGreatDoorBAR
import Derived.Test.YtibbcfbmjlehcaaGreatDoorCards
import Derived.Test.YtibbcfbmjlehcaaGreatDoorTie
import Derived.ProofKit
import Derived.LaidMore
import Derived.OpenShut
import Derived.Stop.Joined
import Derived.SevenTiedAt
set_option linter.defProp false
set_option linter.unusedSimpArgs false
set_option linter.unusedVariables false
namespace Go.Proofs.YtibbcfbmjlehcaaGreatDoor
open Go Go.Proofs Cx Rm Go.RowKit Go.ChangeShapes Go.WideShapes
def auv:ownKnob Tryz.prog.godebug=none:=by kernel_rfl
abbrev GC:List (String×DataW Unit):=[("allonge/order.numbers",Rows.laid_allonge_order_numbers)]
def aut (os:Os)(args:Array Value):laidMetH Tryz.prog GC ((World.doorLaid Tryz.prog 400 os).forCall (λ_ _=>0) ⟨#[],args,[]⟩).memory:=
 laidMetH_of_parts3 (fuel:=8) (laidMet_of_run' 8 (by kernel_rfl) (by kernel_rfl)) (by kernel_rfl) (by kernel_rfl)
def auu {W:World}(h:laidMetH Tryz.prog GC W):CtxOK ctx (lF W):=by
 rw[MakeChecks.laidMetH_plain _ _ _ (by kernel_rfl)] at h;refine axv (g:=2) (name:= "allonge/order.numbers") rfl (by kernel_rfl) (by kernel_rfl) ?_;exact Lib.tabIs_of_head (g:=2) (n:=10) (by kernel_rfl) (t:=240) (by kernel_rfl) (e:=3) (by kernel_rfl) (by kernel_rfl) (by kernel_rfl) (by kernel_rfl) h
def avA (ds:List D)(h:DTys ((bH wV 5).getD default).args ds):iN ctx 5 ((bH wV 5).getD default) ds (.v (.bool true)):=by
 obtain⟨d1,ds,rfl,h1,h⟩:=DTys.cons_inv h;obtain⟨d2,ds,rfl,h2,h⟩:=DTys.cons_inv h;obtain⟨d3,ds,rfl,h3,h⟩:=DTys.cons_inv h;obtain⟨d4,ds,rfl,h4,h⟩:=DTys.cons_inv h;obtain⟨d5,ds,rfl,h5,h⟩:=DTys.cons_inv h;obtain rfl:=h.nil_inv;obtain⟨r,rfl,hr⟩:=aws h1;obtain⟨n2,rfl,_⟩:=h2.int_inv;obtain⟨f,rfl,hf⟩:=anE h3;obtain⟨n4,rfl,g4⟩:=h4.i64_inv;obtain⟨q,rfl,hq⟩:=avK h5;exact ah.fnOK axw rfl (akq r hr n2 f hf n4 g4 q hq)
set_option maxRecDepth 100000 in
def avz (os:Os)(started:os.Started)(zzt:Type)(enc:TypeId×Value->zzt):
 ReturnsInHanded {} Tryz.checked os 5 .any (λw args=>(Rows.priceBoundsSpec.pre enc Tryz.prog Tryz.f5 [] false w args/\laidMetH Tryz.prog GC w)/\sizedMet enc Tryz.prog Tryz.f5 (OpenSpec.ofChange Rows.priceBoundsSpec) false w args)
  (Rows.priceBoundsSpec.post enc Tryz.prog Tryz.f5 false true false false):=by
 refine returnsInHanded_of_change_and (C:=Tryz.checked) (X:=λw _=>laidMetH Tryz.prog GC w) (λ_ _ _ hh h=>h.of_heap hh) auv started (by kernel_rfl) Tryz.func5
  (ChangeSpec.witness_shaped (enc:=enc) (C:=Tryz.checked) (os:=os) (X:=λw _=>laidMetH Tryz.prog GC w) false (World.doorLaid Tryz.prog 400 os) #[.agg #[.slice none 0 0,.slice none 0 0,.slice none 0 0,.slice none 0 0,.slice none 0 0,.slice none 0 0,.slice none 0 0,.slice none 0 0],.int .i64 0,.agg #[.int .i64 0,.int .i64 0,.int .i64 0,.int .i64 0,.int .i64 0,.int .i64 0,.int .i64 0,.int .i64 0,.int .i64 0,.int .i64 0,.int .i64 0,.int .i64 0,.int .i64 0,.int .i64 0,.int .i64 0,.slice none 0 0,.slice none 0 0,.slice none 0 0,.slice none 0 0],.int .i64 0,.agg #[.int .i64 0,.slice none 0 0]] 8 rfl (World.shaped_of_RefB (by kernel_rfl) (by kernel_rfl)) (by kernel_rfl) (by kernel_rfl) (by kernel_rfl) (aut os _)) ?_
 intro W base args ds gs before cv hW _ _ hL _;refine asz (C:=ctx) (f:=5) (fn:=Tryz.f5) (sg:=(bH wV 5).getD default) (spec:=Rows.priceBoundsSpec) (tb:=4) (by kernel_rfl) (by kernel_rfl) (by kernel_rfl) rfl ?_ rfl Tryz.underlying4 rfl rfl avA W (auu hL) base args ds gs before cv hW;intro ds jN
 match ds,jN with
 |[_,_,_,_,_],_=>exact⟨rfl,rfl,rfl⟩
set_option maxHeartbeats 4000000 in
def avy:joinedFacts Tryz.pinned.checked.prog 5 Tryz.f5 Rows.priceBoundsSpec Rows.priceBoundsRow=true:=by
 unfold joinedFacts;simp only[ao]
 repeat' apply And.intro
 all_goals (as_aux_lemma=>kernel_rfl)
def ahC:Tryz.pinned.checked.prog.funcNamed Rows.priceBoundsRow.func=some 5:=by kernel_rfl
def avx:Tryz.f5.isInstance Tryz.pinned.checked.prog Rows.priceBoundsRow.origin Rows.priceBoundsRow.targs:=of_decide_eq_true (by kernel_rfl)
def avE:Tryz.f5.isWrapper Tryz.pinned.checked.prog Rows.priceBoundsRow.wrapper Rows.priceBoundsRow.mainSum:=by
 unfold Func.isWrapper;first|(rw[if_pos (by decide+kernel)];kernel_rfl)|(rw[if_neg (by decide+kernel)];exact⟨rfl,rfl⟩)
def avC:Rows.PriceBoundsSaid:=
 OpenClaim.holds_of_wide 5 Tryz.f5 rfl rfl rfl rfl rfl rfl rfl ⟨rfl,rfl,rfl,rfl,rfl⟩ rfl rfl rfl rfl rfl ahC Tryz.func5 avy avx avE
  (λos started zzt enc _=>avz os started zzt enc)
def avD:Rows.priceBoundsRow.wfByText (OpenSpec.ofChange Rows.priceBoundsSpec)=true:=by kernel_rfl
def aw1:Tryz.pinned.checked.prog.mainIs=some (true, "2eea7660366e7e750e1fdbab395b46ddf19c722c69e6af79a6e3fc0d5dd071b5".toList):=by kernel_rfl
def aw0:false=Tryz.pinned.checked.prog.looks []:=by kernel_rfl
def avB:(Tryz.f5.params.toList.all λu=> !Tryz.prog.wantsStandIn u)=true:=by kernel_rfl
def avw:false=Rows.priceBoundsRow.goesBy Tryz.pinned.checked.prog:=by kernel_rfl
theorem priceBounds_holds:Rows.PriceBoundsCardSaid:=
 Claim7.holds_tied_plain_at .later [] [.widerDeep] true (true, "2eea7660366e7e750e1fdbab395b46ddf19c722c69e6af79a6e3fc0d5dd071b5") false
  avC (λ_ h=>by cases h) avD (λ_ h=>by cases h) priceBounds_row_tie rfl ⟨rfl,rfl⟩ aw1 rfl
  (λf fn hf hfn=>by
    obtain rfl:f=5:=tX (ahC.symm.trans hf) |>.symm;obtain rfl:fn=Tryz.f5:=(tX (Tryz.func5.symm.trans hfn)).symm
    exact⟨aw0,λj t ht=>by
        have hm:t∈Tryz.f5.params.toList:=by simpa using qw ht
        exact(show Tryz.prog.wantsStandIn t=false by simpa using cN.1 avB t hm)⟩)
  avw
#print axioms priceBounds_holds
end Go.Proofs.YtibbcfbmjlehcaaGreatDoor
