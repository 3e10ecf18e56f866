/-
  The statement: DiligenceCare. when a bill is presented, protested and notified on the day on which it is due, nothing is missed on a later day; when nothing is done, it is missed (P24.1, P24.2, P24.5).
-/
import Derived.Test.YtbeeplempgffoaaGreatDoorDAP
import Derived.Test.YtbeeplempgffoaaGreatDoorCards
import Derived.Test.YtbeeplempgffoaaGreatDoorTie
import Derived.ProofKit
import Derived.LaidMore
import Derived.OpenShut
import Derived.Stop.Joined
import Derived.SevenTiedAt
set_option linter.unusedSimpArgs false
set_option linter.unusedVariables false
namespace Go.Proofs.YtbeeplempgffoaaGreatDoor
open Go Go.Proofs Cx Rm Go.RowKit Go.ChangeShapes Go.WideShapes
theorem atE:ownKnob Tryz.prog.godebug=none:=by kernel_rfl
abbrev EZ:List (String×DataW Unit):=[("allonge/order.numbers",Rows.laid_allonge_order_numbers)]
theorem atC (os:Os)(args:Array Value):laidMetH Tryz.prog EZ ((World.doorLaid Tryz.prog 400 os).forCall (fun _ _=>0) ⟨#[],args,[]⟩).memory:=
 laidMetH_of_parts3 (fuel:=8) (laidMet_of_run' 8 (by kernel_rfl) (by kernel_rfl)) (by kernel_rfl) (by kernel_rfl)
theorem atD {W:World}(h:laidMetH Tryz.prog EZ W):CtxOK ctx (nq W):=by
 rw[MakeChecks.laidMetH_plain _ _ _ (by kernel_rfl)] at h;refine awE (g:=0) (name:= "allonge/order.numbers") rfl (by kernel_rfl) (by kernel_rfl) ?_;exact Lib.tabIs_of_head (g:=0) (n:=10) (by kernel_rfl) (t:=209) (by kernel_rfl) (e:=3) (by kernel_rfl) (by kernel_rfl) (by kernel_rfl) (by kernel_rfl) h
theorem ale (ds:List D)(h:DTys ((bS vE 4).getD default).args ds):l0 ctx 4 ((bS vE 4).getD default) ds (.v (.bool true)):=by
 obtain⟨d1,ds,rfl,h1,h⟩:=DTys.cons_inv h;obtain⟨d2,ds,rfl,h2,h⟩:=DTys.cons_inv h;obtain⟨d3,ds,rfl,h3,h⟩:=DTys.cons_inv h;obtain⟨d4,ds,rfl,h4,h⟩:=DTys.cons_inv h;obtain⟨d5,ds,rfl,h5,h⟩:=DTys.cons_inv h;obtain⟨d6,ds,rfl,h6,h⟩:=DTys.cons_inv h;obtain rfl:=h.nil_inv;obtain⟨r,rfl,hr⟩:=avF h1;obtain⟨n2,rfl,_⟩:=h2.int_inv;obtain⟨f,rfl,hf⟩:=amk h3;obtain⟨n4,rfl,_⟩:=h4.int_inv;obtain⟨n5,rfl,_⟩:=h5.int_inv;obtain⟨n6,rfl,_⟩:=h6.int_inv;exact ak.fnOK awF rfl (ajb r hr n2 f hf n4 n5 n6)
set_option maxRecDepth 100000 in
theorem ald (os:Os)(started:os.Started)(H:Type)(enc:TypeId×Value→H):
 ReturnsInHanded {} Tryz.checked os 4 .any (fun w args=>(Rows.diligenceCareSpec.pre enc Tryz.prog Tryz.f4 [] false w args∧laidMetH Tryz.prog EZ w)∧sizedMet enc Tryz.prog Tryz.f4 (OpenSpec.ofChange Rows.diligenceCareSpec) false w args)
  (Rows.diligenceCareSpec.post enc Tryz.prog Tryz.f4 false true false false):=by
 refine returnsInHanded_of_change_and (C:=Tryz.checked) (X:=fun w _=>laidMetH Tryz.prog EZ w) (fun _ _ _ hh h=>h.of_heap hh) atE started (by kernel_rfl) Tryz.func4
  (ChangeSpec.witness_shaped (enc:=enc) (C:=Tryz.checked) (os:=os) (X:=fun w _=>laidMetH Tryz.prog EZ w) false (World.doorLaid Tryz.prog 400 os) #[.agg #[.slice none 0 0,.slice none 0 0,.slice none 0 0,.slice none 0 0,.slice none 0 0,.slice none 0 0,.slice none 0 0,.slice none 0 0],.int .i64 0,.agg #[.int .i64 0,.int .i64 0,.int .i64 0,.int .i64 0,.int .i64 0,.int .i64 0,.int .i64 0,.int .i64 0,.int .i64 0,.int .i64 0,.int .i64 0,.int .i64 0,.int .i64 0,.int .i64 0,.int .i64 0,.slice none 0 0,.slice none 0 0,.slice none 0 0,.slice none 0 0],.int .i64 0,.int .i64 0,.int .i64 0] 8 rfl (World.shaped_of_RefB (by kernel_rfl) (by kernel_rfl)) (by kernel_rfl) (by kernel_rfl) (by kernel_rfl) (atC os _)) ?_
 intro W base args ds gs before cS hW _ _ hL _;refine aq8 (C:=ctx) (f:=4) (fn:=Tryz.f4) (sg:=(bS vE 4).getD default) (spec:=Rows.diligenceCareSpec) (tb:=4) (by kernel_rfl) (by kernel_rfl) (by kernel_rfl) rfl ?_ rfl Tryz.underlying4 rfl rfl ale W (atD hL) base args ds gs before cS hW;intro ds DY
 match ds,DY with
 |[_,_,_,_,_,_],_=>exact⟨rfl,rfl,rfl⟩
set_option maxHeartbeats 4000000 in
theorem alc:joinedFacts Tryz.pinned.checked.prog 4 Tryz.f4 Rows.diligenceCareSpec Rows.diligenceCareRow=true:=by
 unfold joinedFacts;simp only[az]
 repeat' apply And.intro
 all_goals (as_aux_lemma=>kernel_rfl)
theorem ZV:Tryz.pinned.checked.prog.funcNamed Rows.diligenceCareRow.func=some 4:=by kernel_rfl
theorem alb:Tryz.f4.isInstance Tryz.pinned.checked.prog Rows.diligenceCareRow.origin Rows.diligenceCareRow.targs:=of_decide_eq_true (by kernel_rfl)
theorem ali:Tryz.f4.isWrapper Tryz.pinned.checked.prog Rows.diligenceCareRow.wrapper Rows.diligenceCareRow.mainSum:=by
 unfold Func.isWrapper;first|(rw[if_pos (by decide+kernel)];kernel_rfl)|(rw[if_neg (by decide+kernel)];exact⟨rfl,rfl⟩)
theorem alg:Rows.DiligenceCareSaid:=
 OpenClaim.holds_of_wide 4 Tryz.f4 rfl rfl rfl rfl rfl rfl rfl ⟨rfl,rfl,rfl,rfl,rfl⟩ rfl rfl rfl rfl rfl ZV Tryz.func4 alc alb ali
  (fun os started H enc _=>ald os started H enc)
theorem alh:Rows.diligenceCareRow.wfByText (OpenSpec.ofChange Rows.diligenceCareSpec)=true:=by kernel_rfl
theorem awb:Tryz.pinned.checked.prog.mainIs=some (true, "910bf8ab54894ccb151465f318fbcff65847677fe2ce5caded0b63ef4e76dca1".toList):=by kernel_rfl
theorem awa:false=Tryz.pinned.checked.prog.looks []:=by kernel_rfl
theorem alf:(Tryz.f4.params.toList.all fun u=> !Tryz.prog.wantsStandIn u)=true:=by kernel_rfl
theorem ala:false=Rows.diligenceCareRow.goesBy Tryz.pinned.checked.prog:=by kernel_rfl
theorem diligenceCare_holds:Rows.DiligenceCareCardSaid:=
 Claim7.holds_tied_plain_at .later [] [.widerDeep] true (true, "910bf8ab54894ccb151465f318fbcff65847677fe2ce5caded0b63ef4e76dca1") false
  alg (fun _ h=>by cases h) alh (fun _ h=>by cases h) diligenceCare_row_tie rfl ⟨rfl,rfl⟩ awb rfl
  (fun f fn hf pP=>by
    obtain rfl:f=4:=Cu (ZV.symm.trans hf) |>.symm;obtain rfl:fn=Tryz.f4:=(Cu (Tryz.func4.symm.trans pP)).symm
    exact⟨awa,fun j t ht=>by
        have hm:t∈Tryz.f4.params.toList:=by simpa using oV ht
        exact(show Tryz.prog.wantsStandIn t=false by simpa using fl.1 alf t hm)⟩)
  ala
#print axioms diligenceCare_holds
end Go.Proofs.YtbeeplempgffoaaGreatDoor
