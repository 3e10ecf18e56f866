/-
  The statement: BindGrows. For all right realms and files (small ones), courts and days, and further facts: what was Yes or No stays the same, and no sum becomes less.
-/
import Derived.Test.YtehiffddpebpkaaGreatDoorKAP
import Derived.Test.YtehiffddpebpkaaGreatDoorCards
import Derived.Test.YtehiffddpebpkaaGreatDoorTie
import Derived.ProofKit
import Derived.LaidMore
import Derived.OpenShut
import Derived.Stop.Joined
import Derived.SevenTiedAt
set_option linter.unusedSimpArgs false
set_option linter.unusedVariables false
namespace Go.Proofs.YtehiffddpebpkaaGreatDoor
open Go Go.Proofs Cx Rm Go.RowKit Go.ChangeShapes Go.WideShapes
theorem WR:ownKnob Tryz.prog.godebug=none:=by kernel_rfl
abbrev oT:List (String×DataW Unit):=[("allonge/order.numbers",Rows.laid_allonge_order_numbers)]
theorem VF (os:Os)(args:Array Value):laidMetH Tryz.prog oT ((World.doorLaid Tryz.prog 400 os).forCall (fun _ _=>0) ⟨#[],args,[]⟩).memory:=
 laidMetH_of_parts3 (fuel:=8) (laidMet_of_run' 8 (by kernel_rfl) (by kernel_rfl)) (by kernel_rfl) (by kernel_rfl)
theorem YV {W:World}(h:laidMetH Tryz.prog oT W):CtxOK ctx (JQ W):=by
 rw[MakeChecks.laidMetH_plain _ _ _ (by kernel_rfl)] at h
 refine YL (g:=0) (name:= "allonge/order.numbers") rfl (by kernel_rfl) (by kernel_rfl) ?_
 exact Lib.tabIs_of_head (g:=0) (n:=10) (by kernel_rfl) (t:=217) (by kernel_rfl) (e:=3) (by kernel_rfl) (by kernel_rfl) (by kernel_rfl) (by kernel_rfl) h
theorem OH (ds:List D)(h:DTys ((aa aq 5).getD default).args ds):FnOK ctx 5 ((aa aq 5).getD default) ds (.v (.bool true)):=by
 obtain⟨d1,ds,rfl,h1,h⟩:=DTys.cons_inv h
 obtain⟨d2,ds,rfl,h2,h⟩:=DTys.cons_inv h
 obtain⟨d3,ds,rfl,h3,h⟩:=DTys.cons_inv h
 obtain⟨d4,ds,rfl,h4,h⟩:=DTys.cons_inv h
 obtain⟨d5,ds,rfl,h5,h⟩:=DTys.cons_inv h
 obtain rfl:=h.nil_inv
 obtain⟨r,rfl,hr⟩:=abF h1
 obtain⟨n2,rfl,_⟩:=h2.int_inv
 obtain⟨f,rfl,_⟩:=acb h3
 obtain⟨n4,rfl,_⟩:=h4.int_inv
 obtain⟨fs,rfl,_⟩:=SW h5
 exact Runs.fnOK aiq rfl (Oh r hr n2 f n4 fs)
set_option maxRecDepth 100000 in
theorem Jz (os:Os)(started:os.Started)(H:Type)(enc:TypeId×Value→H):
 ReturnsInHanded {} Tryz.checked os 5 .any (fun w args=>(Rows.bindGrowsSpec.pre enc Tryz.prog Tryz.f5 [] false w args∧laidMetH Tryz.prog oT w)∧sizedMet enc Tryz.prog Tryz.f5 (OpenSpec.ofChange Rows.bindGrowsSpec) false w args)
  (Rows.bindGrowsSpec.post enc Tryz.prog Tryz.f5 false true false false):=by
 refine returnsInHanded_of_change_and (C:=Tryz.checked) (X:=fun w _=>laidMetH Tryz.prog oT w) (fun _ _ _ hh h=>h.of_heap hh) WR started (by kernel_rfl) Tryz.func5
  (ChangeSpec.witness_shaped (enc:=enc) (C:=Tryz.checked) (os:=os) (X:=fun w _=>laidMetH Tryz.prog oT w) false (World.doorLaid Tryz.prog 400 os) #[.agg #[.slice none 0 0,.slice none 0 0,.slice none 0 0,.slice none 0 0,.slice none 0 0,.slice none 0 0,.slice none 0 0,.slice none 0 0],.int .i64 0,.agg #[.int .i64 0,.int .i64 0,.int .i64 0,.int .i64 0,.int .i64 0,.int .i64 0,.int .i64 0,.int .i64 0,.int .i64 0,.int .i64 0,.int .i64 0,.int .i64 0,.int .i64 0,.int .i64 0,.int .i64 0,.slice none 0 0,.slice none 0 0,.slice none 0 0,.slice none 0 0],.int .i64 0,.slice none 0 0] 8 rfl (World.shaped_of_RefB (by kernel_rfl) (by kernel_rfl)) (by kernel_rfl) (by kernel_rfl) (by kernel_rfl) (VF os _)) ?_
 intro W base args ds gs before hval hW _ _ hL _
 refine Sp (C:=ctx) (f:=5) (fn:=Tryz.f5) (sg:=(aa aq 5).getD default) (spec:=Rows.bindGrowsSpec) (tb:=4) (by kernel_rfl) (by kernel_rfl) (by kernel_rfl) rfl ?_ rfl Tryz.underlying4 rfl rfl OH W (YV hL) base args ds gs before hval hW
 intro ds hds
 match ds,hds with
 |[_,_,_,_,_],_=>exact⟨rfl,rfl,rfl⟩
set_option maxHeartbeats 4000000 in
theorem Ic:joinedFacts Tryz.pinned.checked.prog 5 Tryz.f5 Rows.bindGrowsSpec Rows.bindGrowsRow=true:=by
 unfold joinedFacts
 simp only[Bool.and_eq_true]
 repeat' apply And.intro
 all_goals (as_aux_lemma=>kernel_rfl)
theorem bindGrows_named:Tryz.pinned.checked.prog.funcNamed Rows.bindGrowsRow.func=some 5:=by kernel_rfl
theorem OD:Tryz.f5.isInstance Tryz.pinned.checked.prog Rows.bindGrowsRow.origin Rows.bindGrowsRow.targs:=of_decide_eq_true (by kernel_rfl)
theorem QZ:Tryz.f5.isWrapper Tryz.pinned.checked.prog Rows.bindGrowsRow.wrapper Rows.bindGrowsRow.mainSum:=by
 unfold Func.isWrapper;first|(rw[if_pos (by decide+kernel)];kernel_rfl)|(rw[if_neg (by decide+kernel)];exact⟨rfl,rfl⟩)
theorem RF:Rows.BindGrowsSaid:=
 OpenClaim.holds_of_wide 5 Tryz.f5 rfl rfl rfl rfl rfl rfl rfl ⟨rfl,rfl,rfl,rfl,rfl⟩ rfl rfl rfl rfl rfl bindGrows_named Tryz.func5 Ic OD QZ
  (fun os started H enc _=>Jz os started H enc)
theorem P9:Rows.bindGrowsRow.wfByText (OpenSpec.ofChange Rows.bindGrowsSpec)=true:=by kernel_rfl
theorem abM:Tryz.pinned.checked.prog.mainIs=some (true, "7a89ebd8fe6190d5882d4bc529bbf5bee1142d07dde37d8d178d5560bbb31a51".toList):=by kernel_rfl
theorem Yd:false=Tryz.pinned.checked.prog.looks []:=by kernel_rfl
theorem Mp:(Tryz.f5.params.toList.all fun u=> !Tryz.prog.wantsStandIn u)=true:=by kernel_rfl
theorem QS:false=Rows.bindGrowsRow.goesBy Tryz.pinned.checked.prog:=by kernel_rfl
theorem bindGrows_holds:Rows.BindGrowsCardSaid:=
 Claim7.holds_tied_plain_at .later [] [.widerDeep] true (true, "7a89ebd8fe6190d5882d4bc529bbf5bee1142d07dde37d8d178d5560bbb31a51") false
  RF (fun _ h=>by cases h) P9 (fun _ h=>by cases h) bindGrows_row_tie rfl ⟨rfl,rfl⟩ abM rfl
  (fun f fn hf hfn=>by
    obtain rfl:f=5:=Option.some.inj (bindGrows_named.symm.trans hf) |>.symm
    obtain rfl:fn=Tryz.f5:=(Option.some.inj (Tryz.func5.symm.trans hfn)).symm
    exact⟨Yd,fun j t ht=>by
        have hm:t∈Tryz.f5.params.toList:=by simpa using Array.mem_of_getElem? ht
        exact(show Tryz.prog.wantsStandIn t=false by simpa using List.all_eq_true.1 Mp t hm)⟩)
  QS
#print axioms bindGrows_holds
end Go.Proofs.YtehiffddpebpkaaGreatDoor
