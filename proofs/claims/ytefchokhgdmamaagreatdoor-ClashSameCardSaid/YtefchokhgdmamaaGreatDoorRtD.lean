/-
  The statement: ClashSame. For all right realms and files, courts, questions and cases, it makes no difference which court is named first, and a court does not differ from itself
-/
import Derived.Test.YtefchokhgdmamaaGreatDoorHAR
import Derived.Test.YtefchokhgdmamaaGreatDoorCards
import Derived.Test.YtefchokhgdmamaaGreatDoorTie
import Derived.ProofKit
import Derived.LaidMore
import Derived.OpenShut
import Derived.Stop.Joined
import Derived.SevenTiedAt
set_option linter.unusedSimpArgs false
set_option linter.unusedVariables false
namespace Go.Proofs.YtefchokhgdmamaaGreatDoor
open Go Go.Proofs Cx Rm Go.RowKit Go.ChangeShapes Go.WideShapes
theorem ajA:ownKnob Tryz.prog.godebug=none:=by kernel_rfl
abbrev C2:List (String×DataW Unit):=[("allonge/order.numbers",Rows.laid_allonge_order_numbers)]
theorem ajy (os:Os)(args:Array Value):laidMetH Tryz.prog C2 ((World.doorLaid Tryz.prog 400 os).forCall (fun _ _=>0) ⟨#[],args,[]⟩).memory:=
 laidMetH_of_parts3 (fuel:=8) (laidMet_of_run' 8 (by kernel_rfl) (by kernel_rfl)) (by kernel_rfl) (by kernel_rfl)
theorem ajz {W:World}(h:laidMetH Tryz.prog C2 W):CtxOK ctx (mR W):=by
 rw[MakeChecks.laidMetH_plain _ _ _ (by kernel_rfl)] at h;refine ama (g:=0) (name:= "allonge/order.numbers") rfl (by kernel_rfl) (by kernel_rfl) ?_;exact Lib.tabIs_of_head (g:=0) (n:=10) (by kernel_rfl) (t:=169) (by kernel_rfl) (e:=3) (by kernel_rfl) (by kernel_rfl) (by kernel_rfl) (by kernel_rfl) h
theorem abZ (ds:List D)(h:DTys ((bx uz 5).getD default).args ds):hZ ctx 5 ((bx uz 5).getD default) ds (.v (.bool true)):=by
 obtain⟨d1,ds,rfl,h1,h⟩:=DTys.cons_inv h;obtain⟨d2,ds,rfl,h2,h⟩:=DTys.cons_inv h;obtain⟨d3,ds,rfl,h3,h⟩:=DTys.cons_inv h;obtain⟨d4,ds,rfl,h4,h⟩:=DTys.cons_inv h;obtain⟨d5,ds,rfl,h5,h⟩:=DTys.cons_inv h;obtain rfl:=h.nil_inv;obtain⟨r,rfl,hr⟩:=alb h1;obtain⟨n2,rfl,_⟩:=h2.int_inv;obtain⟨n3,rfl,_⟩:=h3.int_inv;obtain⟨n4,rfl,_⟩:=h4.int_inv;obtain⟨c,rfl,hc⟩:=abD h5;exact aw.fnOK amb rfl (aap r hr n2 n3 n4 c hc)
set_option maxRecDepth 100000 in
theorem abY (os:Os)(started:os.Started)(H:Type)(enc:TypeId×Value→H):
 ReturnsInHanded {} Tryz.checked os 5 .any (fun w args=>(Rows.clashSameSpec.pre enc Tryz.prog Tryz.f5 [] false w args∧laidMetH Tryz.prog C2 w)∧sizedMet enc Tryz.prog Tryz.f5 (OpenSpec.ofChange Rows.clashSameSpec) false w args)
  (Rows.clashSameSpec.post enc Tryz.prog Tryz.f5 false true false false):=by
 refine returnsInHanded_of_change_and (C:=Tryz.checked) (X:=fun w _=>laidMetH Tryz.prog C2 w) (fun _ _ _ hh h=>h.of_heap hh) ajA started (by kernel_rfl) Tryz.func5
  (ChangeSpec.witness_shaped (enc:=enc) (C:=Tryz.checked) (os:=os) (X:=fun w _=>laidMetH Tryz.prog C2 w) false (World.doorLaid Tryz.prog 400 os) #[.agg #[.slice none 0 0,.slice none 0 0,.slice none 0 0,.slice none 0 0,.slice none 0 0,.slice none 0 0,.slice none 0 0,.slice none 0 0],.int .i64 0,.int .i64 0,.int .i64 0,.agg #[.int .i64 0,.int .i64 0,.int .i64 0,.int .i64 0,.int .i64 0,.int .i64 0,.int .i64 0,.int .i64 0,.int .i64 0,.int .i64 0,.int .i64 0,.int .i64 0,.int .i64 0,.int .i64 0,.int .i64 0,.slice none 0 0,.slice none 0 0,.slice none 0 0,.slice none 0 0,.int .i64 0,.int .i64 0,.int .i64 0,.int .i64 0,.int .i64 0]] 8 rfl (World.shaped_of_RefB (by kernel_rfl) (by kernel_rfl)) (by kernel_rfl) (by kernel_rfl) (by kernel_rfl) (ajy os _)) ?_
 intro W base args ds gs before cj hW _ _ hL _;refine ah3 (C:=ctx) (f:=5) (fn:=Tryz.f5) (sg:=(bx uz 5).getD default) (spec:=Rows.clashSameSpec) (tb:=4) (by kernel_rfl) (by kernel_rfl) (by kernel_rfl) rfl ?_ rfl Tryz.underlying4 rfl rfl abZ W (ajz hL) base args ds gs before cj hW;intro ds vB
 match ds,vB with
 |[_,_,_,_,_],_=>exact⟨rfl,rfl,rfl⟩
set_option maxHeartbeats 4000000 in
theorem abX:joinedFacts Tryz.pinned.checked.prog 5 Tryz.f5 Rows.clashSameSpec Rows.clashSameRow=true:=by
 unfold joinedFacts;simp only[aj]
 repeat' apply And.intro
 all_goals (as_aux_lemma=>kernel_rfl)
theorem Td:Tryz.pinned.checked.prog.funcNamed Rows.clashSameRow.func=some 5:=by kernel_rfl
theorem abW:Tryz.f5.isInstance Tryz.pinned.checked.prog Rows.clashSameRow.origin Rows.clashSameRow.targs:=of_decide_eq_true (by kernel_rfl)
theorem ab3:Tryz.f5.isWrapper Tryz.pinned.checked.prog Rows.clashSameRow.wrapper Rows.clashSameRow.mainSum:=by
 unfold Func.isWrapper;first|(rw[if_pos (by decide+kernel)];kernel_rfl)|(rw[if_neg (by decide+kernel)];exact⟨rfl,rfl⟩)
theorem ab1:Rows.ClashSameSaid:=
 OpenClaim.holds_of_wide 5 Tryz.f5 rfl rfl rfl rfl rfl rfl rfl ⟨rfl,rfl,rfl,rfl,rfl⟩ rfl rfl rfl rfl rfl Td Tryz.func5 abX abW ab3
  (fun os started H enc _=>abY os started H enc)
theorem ab2:Rows.clashSameRow.wfByText (OpenSpec.ofChange Rows.clashSameSpec)=true:=by kernel_rfl
theorem alN:Tryz.pinned.checked.prog.mainIs=some (true, "a3d668e6c97eaf8f0fd00d2b197971d1e83be4dd1f3d82c91f46a6eaef084950".toList):=by kernel_rfl
theorem alM:false=Tryz.pinned.checked.prog.looks []:=by kernel_rfl
theorem ab0:(Tryz.f5.params.toList.all fun u=> !Tryz.prog.wantsStandIn u)=true:=by kernel_rfl
theorem abV:false=Rows.clashSameRow.goesBy Tryz.pinned.checked.prog:=by kernel_rfl
theorem clashSame_holds:Rows.ClashSameCardSaid:=
 Claim7.holds_tied_plain_at .later [] [.widerDeep] true (true, "a3d668e6c97eaf8f0fd00d2b197971d1e83be4dd1f3d82c91f46a6eaef084950") false
  ab1 (fun _ h=>by cases h) ab2 (fun _ h=>by cases h) clashSame_row_tie rfl ⟨rfl,rfl⟩ alN rfl
  (fun f fn hf hfn=>by
    obtain rfl:f=5:=EL (Td.symm.trans hf) |>.symm;obtain rfl:fn=Tryz.f5:=(EL (Tryz.func5.symm.trans hfn)).symm
    exact⟨alM,fun j t ht=>by
        have hm:t∈Tryz.f5.params.toList:=by simpa using gJ ht
        exact(show Tryz.prog.wantsStandIn t=false by simpa using bz.1 ab0 t hm)⟩)
  abV
#print axioms clashSame_holds
end Go.Proofs.YtefchokhgdmamaaGreatDoor
