/-
  The statement: AskNeeds. For all right realms and right files, what an answer needs are the unknown facts alone
-/
import Derived.Test.YtipjidjopglknaaGreatDoorNAR
import Derived.Test.YtipjidjopglknaaGreatDoorCards
import Derived.Test.YtipjidjopglknaaGreatDoorTie
import Derived.ProofKit
import Derived.LaidMore
import Derived.OpenShut
import Derived.Stop.Joined
import Derived.SevenTiedAt
set_option linter.unusedSimpArgs false
set_option linter.unusedVariables false
namespace Go.Proofs.YtipjidjopglknaaGreatDoor
open Go Go.Proofs Cx Rm Go.RowKit Go.ChangeShapes Go.WideShapes
theorem apG:ownKnob Tryz.prog.godebug=none:=by kernel_rfl
abbrev EN:List (String×DataW Unit):=[("allonge/order.numbers",Rows.laid_allonge_order_numbers)]
theorem apE (os:Os)(args:Array Value):laidMetH Tryz.prog EN ((World.doorLaid Tryz.prog 400 os).forCall (fun _ _=>0) ⟨#[],args,[]⟩).memory:=
 laidMetH_of_parts3 (fuel:=8) (laidMet_of_run' 8 (by kernel_rfl) (by kernel_rfl)) (by kernel_rfl) (by kernel_rfl)
theorem apF {W:World}(h:laidMetH Tryz.prog EN W):CtxOK ctx (kW W):=by
 rw[MakeChecks.laidMetH_plain _ _ _ (by kernel_rfl)] at h;refine asw (g:=0) (name:= "allonge/order.numbers") rfl (by kernel_rfl) (by kernel_rfl) ?_;exact Lib.tabIs_of_head (g:=0) (n:=10) (by kernel_rfl) (t:=159) (by kernel_rfl) (e:=3) (by kernel_rfl) (by kernel_rfl) (by kernel_rfl) (by kernel_rfl) h
theorem agh (ds:List D)(h:DTys ((aV eE 5).getD default).args ds):gh ctx 5 ((aV eE 5).getD default) ds (.v (.bool true)):=by
 obtain⟨d1,ds,rfl,h1,h⟩:=DTys.cons_inv h;obtain⟨d2,ds,rfl,h2,h⟩:=DTys.cons_inv h;obtain⟨d3,ds,rfl,h3,h⟩:=DTys.cons_inv h;obtain⟨d4,ds,rfl,h4,h⟩:=DTys.cons_inv h;obtain⟨d5,ds,rfl,h5,h⟩:=DTys.cons_inv h;obtain rfl:=h.nil_inv;obtain⟨r,rfl,hr⟩:=arD h1;obtain⟨n2,rfl,_⟩:=h2.int_inv;obtain⟨n3,rfl,_⟩:=h3.int_inv;obtain⟨c,rfl,hc⟩:=ag8 h4;obtain⟨n5,rfl,g5⟩:=h5.int_inv;have e5:IntKind.u16.min=0∧IntKind.u16.max=65535:=by decide
 rw[e5.1,e5.2] at g5;obtain⟨k5,rfl⟩:=tW g5.1;exact ak.fnOK asx rfl (afp r hr n2 n3 c hc k5 (by omega))
set_option maxRecDepth 100000 in
theorem agf (os:Os)(started:os.Started)(H:Type)(enc:TypeId×Value→H):
 ReturnsInHanded {} Tryz.checked os 5 .any (fun w args=>(Rows.askNeedsSpec.pre enc Tryz.prog Tryz.f5 [] false w args∧laidMetH Tryz.prog EN w)∧sizedMet enc Tryz.prog Tryz.f5 (OpenSpec.ofChange Rows.askNeedsSpec) false w args)
  (Rows.askNeedsSpec.post enc Tryz.prog Tryz.f5 false true false false):=by
 refine returnsInHanded_of_change_and (C:=Tryz.checked) (X:=fun w _=>laidMetH Tryz.prog EN w) (fun _ _ _ hh h=>h.of_heap hh) apG started (by kernel_rfl) Tryz.func5
  (ChangeSpec.witness_shaped (enc:=enc) (C:=Tryz.checked) (os:=os) (X:=fun w _=>laidMetH Tryz.prog EN w) false (World.doorLaid Tryz.prog 400 os) #[.agg #[.slice none 0 0,.slice none 0 0,.slice none 0 0,.slice none 0 0,.slice none 0 0,.slice none 0 0,.slice none 0 0,.slice none 0 0],.int .i64 0,.int .i64 0,.agg #[.int .i64 0,.int .i64 0,.int .i64 0,.int .i64 0,.int .i64 0,.int .i64 0,.int .i64 0,.int .i64 0,.int .i64 0,.int .i64 0,.int .i64 0,.int .i64 0,.int .i64 0,.int .i64 0,.int .i64 0,.slice none 0 0,.slice none 0 0,.slice none 0 0,.slice none 0 0,.int .i64 0,.int .i64 0,.int .i64 0,.int .i64 0,.int .i64 0],.int .u16 0] 8 rfl (World.shaped_of_RefB (by kernel_rfl) (by kernel_rfl)) (by kernel_rfl) (by kernel_rfl) (by kernel_rfl) (apE os _)) ?_
 intro W base args ds gs before cn hW _ _ hL _;refine anS (C:=ctx) (f:=5) (fn:=Tryz.f5) (sg:=(aV eE 5).getD default) (spec:=Rows.askNeedsSpec) (tb:=4) (by kernel_rfl) (by kernel_rfl) (by kernel_rfl) rfl ?_ rfl Tryz.underlying4 rfl rfl agh W (apF hL) base args ds gs before cn hW;intro ds wH
 match ds,wH with
 |[_,_,_,_,_],_=>exact⟨rfl,rfl,rfl⟩
set_option maxHeartbeats 4000000 in
theorem age:joinedFacts Tryz.pinned.checked.prog 5 Tryz.f5 Rows.askNeedsSpec Rows.askNeedsRow=true:=by
 unfold joinedFacts;simp only[ao]
 repeat' apply And.intro
 all_goals (as_aux_lemma=>kernel_rfl)
theorem Wj:Tryz.pinned.checked.prog.funcNamed Rows.askNeedsRow.func=some 5:=by kernel_rfl
theorem agd:Tryz.f5.isInstance Tryz.pinned.checked.prog Rows.askNeedsRow.origin Rows.askNeedsRow.targs:=of_decide_eq_true (by kernel_rfl)
theorem agl:Tryz.f5.isWrapper Tryz.pinned.checked.prog Rows.askNeedsRow.wrapper Rows.askNeedsRow.mainSum:=by
 unfold Func.isWrapper;first|(rw[if_pos (by decide+kernel)];kernel_rfl)|(rw[if_neg (by decide+kernel)];exact⟨rfl,rfl⟩)
theorem agj:Rows.AskNeedsSaid:=
 OpenClaim.holds_of_wide 5 Tryz.f5 rfl rfl rfl rfl rfl rfl rfl ⟨rfl,rfl,rfl,rfl,rfl⟩ rfl rfl rfl rfl rfl Wj Tryz.func5 age agd agl
  (fun os started H enc _=>agf os started H enc)
theorem agk:Rows.askNeedsRow.wfByText (OpenSpec.ofChange Rows.askNeedsSpec)=true:=by kernel_rfl
theorem asc:Tryz.pinned.checked.prog.mainIs=some (true, "ee257981351e0712bce2ea051cdae8a4ae6dce47e8025b999d2f029cc1a116ed".toList):=by kernel_rfl
theorem asb:false=Tryz.pinned.checked.prog.looks []:=by kernel_rfl
theorem agi:(Tryz.f5.params.toList.all fun u=> !Tryz.prog.wantsStandIn u)=true:=by kernel_rfl
theorem agc:false=Rows.askNeedsRow.goesBy Tryz.pinned.checked.prog:=by kernel_rfl
theorem askNeeds_holds:Rows.AskNeedsCardSaid:=
 Claim7.holds_tied_plain_at .later [] [.widerDeep] true (true, "ee257981351e0712bce2ea051cdae8a4ae6dce47e8025b999d2f029cc1a116ed") false
  agj (fun _ h=>by cases h) agk (fun _ h=>by cases h) askNeeds_row_tie rfl ⟨rfl,rfl⟩ asc rfl
  (fun f fn hf hfn=>by
    obtain rfl:f=5:=uc (Wj.symm.trans hf) |>.symm;obtain rfl:fn=Tryz.f5:=(uc (Tryz.func5.symm.trans hfn)).symm
    exact⟨asb,fun j t ht=>by
        have hm:t∈Tryz.f5.params.toList:=by simpa using il ht
        exact(show Tryz.prog.wantsStandIn t=false by simpa using bF.1 agi t hm)⟩)
  agc
#print axioms askNeeds_holds
end Go.Proofs.YtipjidjopglknaaGreatDoor
