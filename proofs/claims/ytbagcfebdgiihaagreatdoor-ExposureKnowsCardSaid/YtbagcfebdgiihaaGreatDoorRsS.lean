/-
  The statement: ExposureKnows. ExposureKnows, as the card says.
-/
import Derived.Test.YtbagcfebdgiihaaGreatDoorSAP
import Derived.Test.YtbagcfebdgiihaaGreatDoorCards
import Derived.Test.YtbagcfebdgiihaaGreatDoorTie
import Derived.ProofKit
import Derived.LaidMore
import Derived.OpenShut
import Derived.Stop.Joined
import Derived.SevenTiedAt
set_option linter.unusedSimpArgs false
set_option linter.unusedVariables false
namespace Go.Proofs.YtbagcfebdgiihaaGreatDoor
open Go Go.Proofs Cx Rm Go.RowKit Go.ChangeShapes Go.WideShapes
theorem amE:ownKnob Tryz.prog.godebug=none:=by kernel_rfl
abbrev CE:List (String×DataW Unit):=[("allonge/order.numbers",Rows.laid_allonge_order_numbers)]
theorem amC (os:Os)(args:Array Value):laidMetH Tryz.prog CE ((World.doorLaid Tryz.prog 400 os).forCall (fun _ _=>0) ⟨#[],args,[]⟩).memory:=
 laidMetH_of_parts3 (fuel:=8) (laidMet_of_run' 8 (by kernel_rfl) (by kernel_rfl)) (by kernel_rfl) (by kernel_rfl)
theorem amD {W:World}(h:laidMetH Tryz.prog CE W):CtxOK ctx (lV W):=by
 rw[MakeChecks.laidMetH_plain _ _ _ (by kernel_rfl)] at h;refine aps (g:=0) (name:= "allonge/order.numbers") rfl (by kernel_rfl) (by kernel_rfl) ?_;exact Lib.tabIs_of_head (g:=0) (n:=10) (by kernel_rfl) (t:=239) (by kernel_rfl) (e:=3) (by kernel_rfl) (by kernel_rfl) (by kernel_rfl) (by kernel_rfl) h
theorem ae6 (ds:List D)(h:DTys ((bu tD 4).getD default).args ds):j2 ctx 4 ((bu tD 4).getD default) ds (.v (.bool true)):=by
 obtain⟨d1,ds,rfl,h1,h⟩:=DTys.cons_inv h;obtain⟨d2,ds,rfl,h2,h⟩:=DTys.cons_inv h;obtain⟨d3,ds,rfl,h3,h⟩:=DTys.cons_inv h;obtain⟨d4,ds,rfl,h4,h⟩:=DTys.cons_inv h;obtain⟨d5,ds,rfl,h5,h⟩:=DTys.cons_inv h;obtain⟨d6,ds,rfl,h6,h⟩:=DTys.cons_inv h;obtain rfl:=h.nil_inv;obtain⟨r,rfl,hr⟩:=aom h1;obtain⟨n2,rfl,_⟩:=h2.int_inv;obtain⟨f,rfl,hf⟩:=afl h3;obtain⟨n4,rfl,_⟩:=h4.int_inv;obtain⟨n5,rfl,g5⟩:=h5.int_inv;have e5:IntKind.u64.min=0∧IntKind.u64.max=18446744073709551615:=by decide
 rw[e5.1,e5.2] at g5;obtain⟨k5,rfl⟩:=mh g5.1;obtain⟨l6,rfl,k6,_⟩:=h6.ints_inv;exact ak.fnOK apt rfl (abx r hr n2 f hf n4 k5 (by omega) l6 k6)
set_option maxRecDepth 100000 in
theorem ae5 (os:Os)(started:os.Started)(H:Type)(enc:TypeId×Value→H):
 ReturnsInHanded {} Tryz.checked os 4 .any (fun w args=>(Rows.exposureKnowsSpec.pre enc Tryz.prog Tryz.f4 [] false w args∧laidMetH Tryz.prog CE w)∧sizedMet enc Tryz.prog Tryz.f4 (OpenSpec.ofChange Rows.exposureKnowsSpec) false w args)
  (Rows.exposureKnowsSpec.post enc Tryz.prog Tryz.f4 false true false false):=by
 refine returnsInHanded_of_change_and (C:=Tryz.checked) (X:=fun w _=>laidMetH Tryz.prog CE w) (fun _ _ _ hh h=>h.of_heap hh) amE started (by kernel_rfl) Tryz.func4
  (ChangeSpec.witness_shaped (enc:=enc) (C:=Tryz.checked) (os:=os) (X:=fun w _=>laidMetH Tryz.prog CE w) false (World.doorLaid Tryz.prog 400 os) #[.agg #[.slice none 0 0,.slice none 0 0,.slice none 0 0,.slice none 0 0,.slice none 0 0,.slice none 0 0,.slice none 0 0,.slice none 0 0],.int .i64 0,.agg #[.int .i64 0,.int .i64 0,.int .i64 0,.int .i64 0,.int .i64 0,.int .i64 0,.int .i64 0,.int .i64 0,.int .i64 0,.int .i64 0,.int .i64 0,.int .i64 0,.int .i64 0,.int .i64 0,.int .i64 0,.slice none 0 0,.slice none 0 0,.slice none 0 0,.slice none 0 0],.int .i64 0,.int .u64 0,.slice none 0 0] 8 rfl (World.shaped_of_RefB (by kernel_rfl) (by kernel_rfl)) (by kernel_rfl) (by kernel_rfl) (by kernel_rfl) (amC os _)) ?_
 intro W base args ds gs before cf hW _ _ hL _;refine aj2 (C:=ctx) (f:=4) (fn:=Tryz.f4) (sg:=(bu tD 4).getD default) (spec:=Rows.exposureKnowsSpec) (tb:=4) (by kernel_rfl) (by kernel_rfl) (by kernel_rfl) rfl ?_ rfl Tryz.underlying4 rfl rfl ae6 W (amD hL) base args ds gs before cf hW;intro ds qT
 match ds,qT with
 |[_,_,_,_,_,_],_=>exact⟨rfl,rfl,rfl⟩
set_option maxHeartbeats 4000000 in
theorem ae4:joinedFacts Tryz.pinned.checked.prog 4 Tryz.f4 Rows.exposureKnowsSpec Rows.exposureKnowsRow=true:=by
 unfold joinedFacts;simp only[aq]
 repeat' apply And.intro
 all_goals (as_aux_lemma=>kernel_rfl)
theorem Uz:Tryz.pinned.checked.prog.funcNamed Rows.exposureKnowsRow.func=some 4:=by kernel_rfl
theorem ae3:Tryz.f4.isInstance Tryz.pinned.checked.prog Rows.exposureKnowsRow.origin Rows.exposureKnowsRow.targs:=of_decide_eq_true (by kernel_rfl)
theorem afa:Tryz.f4.isWrapper Tryz.pinned.checked.prog Rows.exposureKnowsRow.wrapper Rows.exposureKnowsRow.mainSum:=by
 unfold Func.isWrapper;first|(rw[if_pos (by decide+kernel)];kernel_rfl)|(rw[if_neg (by decide+kernel)];exact⟨rfl,rfl⟩)
theorem ae8:Rows.ExposureKnowsSaid:=
 OpenClaim.holds_of_wide 4 Tryz.f4 rfl rfl rfl rfl rfl rfl rfl ⟨rfl,rfl,rfl,rfl,rfl⟩ rfl rfl rfl rfl rfl Uz Tryz.func4 ae4 ae3 afa
  (fun os started H enc _=>ae5 os started H enc)
theorem ae9:Rows.exposureKnowsRow.wfByText (OpenSpec.ofChange Rows.exposureKnowsSpec)=true:=by kernel_rfl
theorem aoZ:Tryz.pinned.checked.prog.mainIs=some (true, "c1019dbb3a86099b2c42288fd1752d5b08e866cf7016f27c5744f8829eeea34b".toList):=by kernel_rfl
theorem aoY:false=Tryz.pinned.checked.prog.looks []:=by kernel_rfl
theorem ae7:(Tryz.f4.params.toList.all fun u=> !Tryz.prog.wantsStandIn u)=true:=by kernel_rfl
theorem ae2:false=Rows.exposureKnowsRow.goesBy Tryz.pinned.checked.prog:=by kernel_rfl
theorem exposureKnows_holds:Rows.ExposureKnowsCardSaid:=
 Claim7.holds_tied_plain_at .later [] [.widerDeep] true (true, "c1019dbb3a86099b2c42288fd1752d5b08e866cf7016f27c5744f8829eeea34b") false
  ae8 (fun _ h=>by cases h) ae9 (fun _ h=>by cases h) exposureKnows_row_tie rfl ⟨rfl,rfl⟩ aoZ rfl
  (fun f fn hf hfn=>by
    obtain rfl:f=4:=Ek (Uz.symm.trans hf) |>.symm;obtain rfl:fn=Tryz.f4:=(Ek (Tryz.func4.symm.trans hfn)).symm
    exact⟨aoY,fun j t ht=>by
        have hm:t∈Tryz.f4.params.toList:=by simpa using nf ht
        exact(show Tryz.prog.wantsStandIn t=false by simpa using df.1 ae7 t hm)⟩)
  ae2
#print axioms exposureKnows_holds
end Go.Proofs.YtbagcfebdgiihaaGreatDoor
