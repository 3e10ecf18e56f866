/-
  The statement: ExposureOf. ExposureOf, as the card says.
-/
import Derived.Test.YtbagcfebdgiihaaGreatDoorTAP
import Derived.Test.YtbagcfebdgiihaaGreatDoorCards
import Derived.Test.YtbagcfebdgiihaaGreatDoorTie
import Derived.ProofKit
import Derived.LaidMore
import Derived.OpenShut
import Derived.Stop.Joined
import Derived.SevenTiedAt
set_option linter.unusedSimpArgs false
set_option linter.unusedVariables false
namespace Go.Proofs.YtbagcfebdgiihaaGreatDoor
open Go Go.Proofs Cx Rm Go.RowKit Go.ChangeShapes Go.WideShapes
theorem amB:ownKnob Tryz.prog.godebug=none:=by kernel_rfl
abbrev Cm:List (String×DataW Unit):=[("allonge/order.numbers",Rows.laid_allonge_order_numbers)]
theorem amz (os:Os)(args:Array Value):laidMetH Tryz.prog Cm ((World.doorLaid Tryz.prog 400 os).forCall (fun _ _=>0) ⟨#[],args,[]⟩).memory:=
 laidMetH_of_parts3 (fuel:=8) (laidMet_of_run' 8 (by kernel_rfl) (by kernel_rfl)) (by kernel_rfl) (by kernel_rfl)
theorem amA {W:World}(h:laidMetH Tryz.prog Cm W):CtxOK ctx (lD W):=by
 rw[MakeChecks.laidMetH_plain _ _ _ (by kernel_rfl)] at h;refine ao8 (g:=0) (name:= "allonge/order.numbers") rfl (by kernel_rfl) (by kernel_rfl) ?_;exact Lib.tabIs_of_head (g:=0) (n:=10) (by kernel_rfl) (t:=239) (by kernel_rfl) (e:=3) (by kernel_rfl) (by kernel_rfl) (by kernel_rfl) (by kernel_rfl) h
theorem ae3 (ds:List D)(h:DTys ((bu sT 5).getD default).args ds):jP ctx 5 ((bu sT 5).getD default) ds (.v (.bool true)):=by
 obtain⟨d1,ds,rfl,h1,h⟩:=DTys.cons_inv h;obtain⟨d2,ds,rfl,h2,h⟩:=DTys.cons_inv h;obtain⟨d3,ds,rfl,h3,h⟩:=DTys.cons_inv h;obtain⟨d4,ds,rfl,h4,h⟩:=DTys.cons_inv h;obtain rfl:=h.nil_inv;obtain⟨r,rfl,hr⟩:=an9 h1;obtain⟨n2,rfl,_⟩:=h2.int_inv;obtain⟨l3,rfl,k3,g3⟩:=afi h3;obtain⟨n4,rfl,_⟩:=h4.int_inv;exact ak.fnOK ao9 rfl (abx r hr n2 l3 k3 g3 n4)
set_option maxRecDepth 100000 in
theorem ae2 (os:Os)(started:os.Started)(H:Type)(enc:TypeId×Value→H):
 ReturnsInHanded {} Tryz.checked os 5 .any (fun w args=>(Rows.exposureOfSpec.pre enc Tryz.prog Tryz.f5 [] false w args∧laidMetH Tryz.prog Cm w)∧sizedMet enc Tryz.prog Tryz.f5 (OpenSpec.ofChange Rows.exposureOfSpec) false w args)
  (Rows.exposureOfSpec.post enc Tryz.prog Tryz.f5 false true false false):=by
 refine returnsInHanded_of_change_and (C:=Tryz.checked) (X:=fun w _=>laidMetH Tryz.prog Cm w) (fun _ _ _ hh h=>h.of_heap hh) amB started (by kernel_rfl) Tryz.func5
  (ChangeSpec.witness_shaped (enc:=enc) (C:=Tryz.checked) (os:=os) (X:=fun w _=>laidMetH Tryz.prog Cm w) false (World.doorLaid Tryz.prog 400 os) #[.agg #[.slice none 0 0,.slice none 0 0,.slice none 0 0,.slice none 0 0,.slice none 0 0,.slice none 0 0,.slice none 0 0,.slice none 0 0],.int .i64 0,.slice none 0 0,.int .i64 0] 8 rfl (World.shaped_of_RefB (by kernel_rfl) (by kernel_rfl)) (by kernel_rfl) (by kernel_rfl) (by kernel_rfl) (amz os _)) ?_
 intro W base args ds gs before bY hW _ _ hL _;refine ajW (C:=ctx) (f:=5) (fn:=Tryz.f5) (sg:=(bu sT 5).getD default) (spec:=Rows.exposureOfSpec) (tb:=4) (by kernel_rfl) (by kernel_rfl) (by kernel_rfl) rfl ?_ rfl Tryz.underlying4 rfl rfl ae3 W (amA hL) base args ds gs before bY hW;intro ds qs
 match ds,qs with
 |[_,_,_,_],_=>exact⟨rfl,rfl,rfl⟩
set_option maxHeartbeats 4000000 in
theorem ae1:joinedFacts Tryz.pinned.checked.prog 5 Tryz.f5 Rows.exposureOfSpec Rows.exposureOfRow=true:=by
 unfold joinedFacts;simp only[aq]
 repeat' apply And.intro
 all_goals (as_aux_lemma=>kernel_rfl)
theorem Us:Tryz.pinned.checked.prog.funcNamed Rows.exposureOfRow.func=some 5:=by kernel_rfl
theorem ae0:Tryz.f5.isInstance Tryz.pinned.checked.prog Rows.exposureOfRow.origin Rows.exposureOfRow.targs:=of_decide_eq_true (by kernel_rfl)
theorem ae7:Tryz.f5.isWrapper Tryz.pinned.checked.prog Rows.exposureOfRow.wrapper Rows.exposureOfRow.mainSum:=by
 unfold Func.isWrapper;first|(rw[if_pos (by decide+kernel)];kernel_rfl)|(rw[if_neg (by decide+kernel)];exact⟨rfl,rfl⟩)
theorem ae5:Rows.ExposureOfSaid:=
 OpenClaim.holds_of_wide 5 Tryz.f5 rfl rfl rfl rfl rfl rfl rfl ⟨rfl,rfl,rfl,rfl,rfl⟩ rfl rfl rfl rfl rfl Us Tryz.func5 ae1 ae0 ae7
  (fun os started H enc _=>ae2 os started H enc)
theorem ae6:Rows.exposureOfRow.wfByText (OpenSpec.ofChange Rows.exposureOfSpec)=true:=by kernel_rfl
theorem aoJ:Tryz.pinned.checked.prog.mainIs=some (true, "c1019dbb3a86099b2c42288fd1752d5b08e866cf7016f27c5744f8829eeea34b".toList):=by kernel_rfl
theorem aoI:false=Tryz.pinned.checked.prog.looks []:=by kernel_rfl
theorem ae4:(Tryz.f5.params.toList.all fun u=> !Tryz.prog.wantsStandIn u)=true:=by kernel_rfl
theorem aeZ:false=Rows.exposureOfRow.goesBy Tryz.pinned.checked.prog:=by kernel_rfl
theorem exposureOf_holds:Rows.ExposureOfCardSaid:=
 Claim7.holds_tied_plain_at .later [] [.widerDeep] true (true, "c1019dbb3a86099b2c42288fd1752d5b08e866cf7016f27c5744f8829eeea34b") false
  ae5 (fun _ h=>by cases h) ae6 (fun _ h=>by cases h) exposureOf_row_tie rfl ⟨rfl,rfl⟩ aoJ rfl
  (fun f fn hf hfn=>by
    obtain rfl:f=5:=zI (Us.symm.trans hf) |>.symm;obtain rfl:fn=Tryz.f5:=(zI (Tryz.func5.symm.trans hfn)).symm
    exact⟨aoI,fun j t ht=>by
        have hm:t∈Tryz.f5.params.toList:=by simpa using mI ht
        exact(show Tryz.prog.wantsStandIn t=false by simpa using db.1 ae4 t hm)⟩)
  aeZ
#print axioms exposureOf_holds
end Go.Proofs.YtbagcfebdgiihaaGreatDoor
