/-
  The statement: DiligenceLater. for all right realms and files whose lists are hardly longer than they may be (allongeref21.Few), forums, signatures and two days on which the signature is there, what is Yes or No on the earlier day is so on the later one; and what is later than a day changes nothing on this day (P24.2, P24.4; 14, 21, 24). Without using the reference.
-/
import Derived.Test.YtodhjdbleiakeaaGreatDoorKAR
import Derived.Test.YtodhjdbleiakeaaGreatDoorCards
import Derived.Test.YtodhjdbleiakeaaGreatDoorTie
import Derived.ProofKit
import Derived.LaidMore
import Derived.OpenShut
import Derived.Stop.Joined
import Derived.SevenTiedAt
set_option linter.unusedSimpArgs false
set_option linter.unusedVariables false
namespace Go.Proofs.YtodhjdbleiakeaaGreatDoor
open Go Go.Proofs Cx Rm Go.RowKit Go.ChangeShapes Go.WideShapes
theorem avw:ownKnob Tryz.prog.godebug=none:=by kernel_rfl
abbrev BW:List (String×DataW Unit):=[("allonge/order.numbers",Rows.laid_allonge_order_numbers)]
theorem avu (os:Os)(args:Array Value):laidMetH Tryz.prog BW ((World.doorLaid Tryz.prog 400 os).forCall (fun _ _=>0) ⟨#[],args,[]⟩).memory:=
 laidMetH_of_parts3 (fuel:=8) (laidMet_of_run' 8 (by kernel_rfl) (by kernel_rfl)) (by kernel_rfl) (by kernel_rfl)
theorem avv {W:World}(h:laidMetH Tryz.prog BW W):CtxOK ctx (lU W):=by
 rw[MakeChecks.laidMetH_plain _ _ _ (by kernel_rfl)] at h;refine ayg (g:=0) (name:= "allonge/order.numbers") rfl (by kernel_rfl) (by kernel_rfl) ?_;exact Lib.tabIs_of_head (g:=0) (n:=10) (by kernel_rfl) (t:=242) (by kernel_rfl) (e:=3) (by kernel_rfl) (by kernel_rfl) (by kernel_rfl) (by kernel_rfl) h
theorem amf (ds:List D)(h:DTys ((ab af 7).getD default).args ds):kC ctx 7 ((ab af 7).getD default) ds (.v (.bool true)):=by
 obtain⟨d1,ds,rfl,h1,h⟩:=DTys.cons_inv h;obtain⟨d2,ds,rfl,h2,h⟩:=DTys.cons_inv h;obtain⟨d3,ds,rfl,h3,h⟩:=DTys.cons_inv h;obtain⟨d4,ds,rfl,h4,h⟩:=DTys.cons_inv h;obtain⟨d5,ds,rfl,h5,h⟩:=DTys.cons_inv h;obtain⟨d6,ds,rfl,h6,h⟩:=DTys.cons_inv h;obtain rfl:=h.nil_inv;obtain⟨r,rfl,hr⟩:=axo h1;obtain⟨n2,rfl,_⟩:=h2.int_inv;obtain⟨f,rfl,hf⟩:=ano h3;obtain⟨n4,rfl,_⟩:=h4.int_inv;obtain⟨n5,rfl,_⟩:=h5.int_inv;obtain⟨n6,rfl,_⟩:=h6.int_inv;exact ak.fnOK ayh rfl (afP r hr n2 f hf n4 n5 n6)
set_option maxRecDepth 100000 in
theorem ame (os:Os)(started:os.Started)(H:Type)(enc:TypeId×Value→H):
 ReturnsInHanded {} Tryz.checked os 7 .any (fun w args=>(Rows.diligenceLaterSpec.pre enc Tryz.prog Tryz.f7 [] false w args∧laidMetH Tryz.prog BW w)∧sizedMet enc Tryz.prog Tryz.f7 (OpenSpec.ofChange Rows.diligenceLaterSpec) false w args)
  (Rows.diligenceLaterSpec.post enc Tryz.prog Tryz.f7 false true false false):=by
 refine returnsInHanded_of_change_and (C:=Tryz.checked) (X:=fun w _=>laidMetH Tryz.prog BW w) (fun _ _ _ hh h=>h.of_heap hh) avw started (by kernel_rfl) Tryz.func7
  (ChangeSpec.witness_shaped (enc:=enc) (C:=Tryz.checked) (os:=os) (X:=fun w _=>laidMetH Tryz.prog BW w) false (World.doorLaid Tryz.prog 400 os) #[.agg #[.slice none 0 0,.slice none 0 0,.slice none 0 0,.slice none 0 0,.slice none 0 0,.slice none 0 0,.slice none 0 0,.slice none 0 0],.int .i64 0,.agg #[.int .i64 0,.int .i64 0,.int .i64 0,.int .i64 0,.int .i64 0,.int .i64 0,.int .i64 0,.int .i64 0,.int .i64 0,.int .i64 0,.int .i64 0,.int .i64 0,.int .i64 0,.int .i64 0,.int .i64 0,.slice none 0 0,.slice none 0 0,.slice none 0 0,.slice none 0 0],.int .i64 0,.int .i64 0,.int .i64 0] 8 rfl (World.shaped_of_RefB (by kernel_rfl) (by kernel_rfl)) (by kernel_rfl) (by kernel_rfl) (by kernel_rfl) (avu os _)) ?_
 intro W base args ds gs before cr hW _ _ hL _;refine atx (C:=ctx) (f:=7) (fn:=Tryz.f7) (sg:=(ab af 7).getD default) (spec:=Rows.diligenceLaterSpec) (tb:=4) (by kernel_rfl) (by kernel_rfl) (by kernel_rfl) rfl ?_ rfl Tryz.underlying4 rfl rfl amf W (avv hL) base args ds gs before cr hW;intro ds tP
 match ds,tP with
 |[_,_,_,_,_,_],_=>exact⟨rfl,rfl,rfl⟩
set_option maxHeartbeats 4000000 in
theorem amd:joinedFacts Tryz.pinned.checked.prog 7 Tryz.f7 Rows.diligenceLaterSpec Rows.diligenceLaterRow=true:=by
 unfold joinedFacts;simp only[Bool.and_eq_true]
 repeat' apply And.intro
 all_goals (as_aux_lemma=>kernel_rfl)
theorem Wi:Tryz.pinned.checked.prog.funcNamed Rows.diligenceLaterRow.func=some 7:=by kernel_rfl
theorem amc:Tryz.f7.isInstance Tryz.pinned.checked.prog Rows.diligenceLaterRow.origin Rows.diligenceLaterRow.targs:=of_decide_eq_true (by kernel_rfl)
theorem amj:Tryz.f7.isWrapper Tryz.pinned.checked.prog Rows.diligenceLaterRow.wrapper Rows.diligenceLaterRow.mainSum:=by
 unfold Func.isWrapper;first|(rw[if_pos (by decide+kernel)];kernel_rfl)|(rw[if_neg (by decide+kernel)];exact⟨rfl,rfl⟩)
theorem amh:Rows.DiligenceLaterSaid:=
 OpenClaim.holds_of_wide 7 Tryz.f7 rfl rfl rfl rfl rfl rfl rfl ⟨rfl,rfl,rfl,rfl,rfl⟩ rfl rfl rfl rfl rfl Wi Tryz.func7 amd amc amj
  (fun os started H enc _=>ame os started H enc)
theorem ami:Rows.diligenceLaterRow.wfByText (OpenSpec.ofChange Rows.diligenceLaterSpec)=true:=by kernel_rfl
theorem axW:Tryz.pinned.checked.prog.mainIs=some (true, "f63d2df4e85a4d567f4c37c870b2bcfa92ac30557806e13c1a0e5996749c07ab".toList):=by kernel_rfl
theorem axV:false=Tryz.pinned.checked.prog.looks []:=by kernel_rfl
theorem amg:(Tryz.f7.params.toList.all fun u=> !Tryz.prog.wantsStandIn u)=true:=by kernel_rfl
theorem amb:false=Rows.diligenceLaterRow.goesBy Tryz.pinned.checked.prog:=by kernel_rfl
theorem diligenceLater_holds:Rows.DiligenceLaterCardSaid:=
 Claim7.holds_tied_plain_at .later [] [.widerDeep] true (true, "f63d2df4e85a4d567f4c37c870b2bcfa92ac30557806e13c1a0e5996749c07ab") false
  amh (fun _ h=>by cases h) ami (fun _ h=>by cases h) diligenceLater_row_tie rfl ⟨rfl,rfl⟩ axW rfl
  (fun f fn hf hfn=>by
    obtain rfl:f=7:=Option.some.inj (Wi.symm.trans hf) |>.symm;obtain rfl:fn=Tryz.f7:=(Option.some.inj (Tryz.func7.symm.trans hfn)).symm
    exact⟨axV,fun j t ht=>by
        have hm:t∈Tryz.f7.params.toList:=by simpa using Array.mem_of_getElem? ht
        exact(show Tryz.prog.wantsStandIn t=false by simpa using List.all_eq_true.1 amg t hm)⟩)
  amb
#print axioms diligenceLater_holds
end Go.Proofs.YtodhjdbleiakeaaGreatDoor
