/-
  The statement: AskJoins. for all right realms, and cases whose lists are hardly longer than they may be (allongeref21.Few), forums and questions, the path is that of conflict.Law for the orders of the cities of the case, and the answer is that of order.Answer for the last order of the path and the variables that record.Vars returns for the file of the day (P21.1, P21.2; 9, 14, 18, 19, 21). Without using the reference.
-/
import Derived.Test.YtodhjdbleiakeaaGreatDoorLAR
import Derived.Test.YtodhjdbleiakeaaGreatDoorCards
import Derived.Test.YtodhjdbleiakeaaGreatDoorTie
import Derived.ProofKit
import Derived.LaidMore
import Derived.OpenShut
import Derived.Stop.Joined
import Derived.SevenTiedAt
set_option linter.unusedSimpArgs false
set_option linter.unusedVariables false
namespace Go.Proofs.YtodhjdbleiakeaaGreatDoor
open Go Go.Proofs Cx Rm Go.RowKit Go.ChangeShapes Go.WideShapes
theorem asc:ownKnob Tryz.prog.godebug=none:=by kernel_rfl
abbrev Ax:List (String×DataW Unit):=[("allonge/order.numbers",Rows.laid_allonge_order_numbers)]
theorem asa (os:Os)(args:Array Value):laidMetH Tryz.prog Ax ((World.doorLaid Tryz.prog 400 os).forCall (fun _ _=>0) ⟨#[],args,[]⟩).memory:=
 laidMetH_of_parts3 (fuel:=8) (laidMet_of_run' 8 (by kernel_rfl) (by kernel_rfl)) (by kernel_rfl) (by kernel_rfl)
theorem asb {W:World}(h:laidMetH Tryz.prog Ax W):CtxOK ctx (kV W):=by
 rw[MakeChecks.laidMetH_plain _ _ _ (by kernel_rfl)] at h;refine auT (g:=0) (name:= "allonge/order.numbers") rfl (by kernel_rfl) (by kernel_rfl) ?_;exact Lib.tabIs_of_head (g:=0) (n:=10) (by kernel_rfl) (t:=242) (by kernel_rfl) (e:=3) (by kernel_rfl) (by kernel_rfl) (by kernel_rfl) (by kernel_rfl) h
theorem adI (ds:List D)(h:DTys ((ae af 6).getD default).args ds):jU ctx 6 ((ae af 6).getD default) ds (.v (.bool true)):=by
 obtain⟨d1,ds,rfl,h1,h⟩:=DTys.cons_inv h;obtain⟨d2,ds,rfl,h2,h⟩:=DTys.cons_inv h;obtain⟨d3,ds,rfl,h3,h⟩:=DTys.cons_inv h;obtain⟨d4,ds,rfl,h4,h⟩:=DTys.cons_inv h;obtain rfl:=h.nil_inv;obtain⟨r,rfl,hr⟩:=at3 h1;obtain⟨n2,rfl,_⟩:=h2.int_inv;obtain⟨n3,rfl,_⟩:=h3.int_inv;obtain⟨c,rfl,hc⟩:=afU h4;exact ao.fnOK auU rfl (ac6 r hr n2 n3 c)
set_option maxRecDepth 100000 in
theorem adH (os:Os)(started:os.Started)(H:Type)(enc:TypeId×Value→H):
 ReturnsInHanded {} Tryz.checked os 6 .any (fun w args=>(Rows.askJoinsSpec.pre enc Tryz.prog Tryz.f6 [] false w args∧laidMetH Tryz.prog Ax w)∧sizedMet enc Tryz.prog Tryz.f6 (OpenSpec.ofChange Rows.askJoinsSpec) false w args)
  (Rows.askJoinsSpec.post enc Tryz.prog Tryz.f6 false true false false):=by
 refine returnsInHanded_of_change_and (C:=Tryz.checked) (X:=fun w _=>laidMetH Tryz.prog Ax w) (fun _ _ _ hh h=>h.of_heap hh) asc started (by kernel_rfl) Tryz.func6
  (ChangeSpec.witness_shaped (enc:=enc) (C:=Tryz.checked) (os:=os) (X:=fun w _=>laidMetH Tryz.prog Ax w) false (World.doorLaid Tryz.prog 400 os) #[.agg #[.slice none 0 0,.slice none 0 0,.slice none 0 0,.slice none 0 0,.slice none 0 0,.slice none 0 0,.slice none 0 0,.slice none 0 0],.int .i64 0,.int .i64 0,.agg #[.int .i64 0,.int .i64 0,.int .i64 0,.int .i64 0,.int .i64 0,.int .i64 0,.int .i64 0,.int .i64 0,.int .i64 0,.int .i64 0,.int .i64 0,.int .i64 0,.int .i64 0,.int .i64 0,.int .i64 0,.slice none 0 0,.slice none 0 0,.slice none 0 0,.slice none 0 0,.int .i64 0,.int .i64 0,.int .i64 0,.int .i64 0,.int .i64 0]] 8 rfl (World.shaped_of_RefB (by kernel_rfl) (by kernel_rfl)) (by kernel_rfl) (by kernel_rfl) (by kernel_rfl) (asa os _)) ?_
 intro W base args ds gs before cj hW _ _ hL _;refine apl (C:=ctx) (f:=6) (fn:=Tryz.f6) (sg:=(ae af 6).getD default) (spec:=Rows.askJoinsSpec) (tb:=4) (by kernel_rfl) (by kernel_rfl) (by kernel_rfl) rfl ?_ rfl Tryz.underlying4 rfl rfl adI W (asb hL) base args ds gs before cj hW;intro ds sk
 match ds,sk with
 |[_,_,_,_],_=>exact⟨rfl,rfl,rfl⟩
set_option maxHeartbeats 4000000 in
theorem adG:joinedFacts Tryz.pinned.checked.prog 6 Tryz.f6 Rows.askJoinsSpec Rows.askJoinsRow=true:=by
 unfold joinedFacts;simp only[Bool.and_eq_true]
 repeat' apply And.intro
 all_goals (as_aux_lemma=>kernel_rfl)
theorem Sv:Tryz.pinned.checked.prog.funcNamed Rows.askJoinsRow.func=some 6:=by kernel_rfl
theorem adF:Tryz.f6.isInstance Tryz.pinned.checked.prog Rows.askJoinsRow.origin Rows.askJoinsRow.targs:=of_decide_eq_true (by kernel_rfl)
theorem adM:Tryz.f6.isWrapper Tryz.pinned.checked.prog Rows.askJoinsRow.wrapper Rows.askJoinsRow.mainSum:=by
 unfold Func.isWrapper;first|(rw[if_pos (by decide+kernel)];kernel_rfl)|(rw[if_neg (by decide+kernel)];exact⟨rfl,rfl⟩)
theorem adK:Rows.AskJoinsSaid:=
 OpenClaim.holds_of_wide 6 Tryz.f6 rfl rfl rfl rfl rfl rfl rfl ⟨rfl,rfl,rfl,rfl,rfl⟩ rfl rfl rfl rfl rfl Sv Tryz.func6 adG adF adM
  (fun os started H enc _=>adH os started H enc)
theorem adL:Rows.askJoinsRow.wfByText (OpenSpec.ofChange Rows.askJoinsSpec)=true:=by kernel_rfl
theorem auC:Tryz.pinned.checked.prog.mainIs=some (true, "f63d2df4e85a4d567f4c37c870b2bcfa92ac30557806e13c1a0e5996749c07ab".toList):=by kernel_rfl
theorem auB:false=Tryz.pinned.checked.prog.looks []:=by kernel_rfl
theorem adJ:(Tryz.f6.params.toList.all fun u=> !Tryz.prog.wantsStandIn u)=true:=by kernel_rfl
theorem adE:false=Rows.askJoinsRow.goesBy Tryz.pinned.checked.prog:=by kernel_rfl
theorem askJoins_holds:Rows.AskJoinsCardSaid:=
 Claim7.holds_tied_plain_at .later [] [.widerDeep] true (true, "f63d2df4e85a4d567f4c37c870b2bcfa92ac30557806e13c1a0e5996749c07ab") false
  adK (fun _ h=>by cases h) adL (fun _ h=>by cases h) askJoins_row_tie rfl ⟨rfl,rfl⟩ auC rfl
  (fun f fn hf hfn=>by
    obtain rfl:f=6:=Option.some.inj (Sv.symm.trans hf) |>.symm;obtain rfl:fn=Tryz.f6:=(Option.some.inj (Tryz.func6.symm.trans hfn)).symm
    exact⟨auB,fun j t ht=>by
        have hm:t∈Tryz.f6.params.toList:=by simpa using Array.mem_of_getElem? ht
        exact(show Tryz.prog.wantsStandIn t=false by simpa using List.all_eq_true.1 adJ t hm)⟩)
  adE
#print axioms askJoins_holds
end Go.Proofs.YtodhjdbleiakeaaGreatDoor
