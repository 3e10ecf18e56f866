/-
  The statement: BindTells. for all right realms and files, every call of bind returns what the reference returns (P23.1 to P23.3).
-/
import Derived.Test.YtbeeplempgffoaaGreatDoorQAO
import Derived.Test.YtbeeplempgffoaaGreatDoorCards
import Derived.Test.YtbeeplempgffoaaGreatDoorTie
import Derived.ProofKit
import Derived.LaidMore
import Derived.OpenShut
import Derived.Stop.Joined
import Derived.SevenTiedAt
set_option linter.unusedSimpArgs false
set_option linter.unusedVariables false
namespace Go.Proofs.YtbeeplempgffoaaGreatDoor
open Go Go.Proofs Cx Rm Go.RowKit Go.ChangeShapes Go.WideShapes
theorem apV:ownKnob Tryz.prog.godebug=none:=by kernel_rfl
abbrev DD:List (String×DataW Unit):=[("allonge/order.numbers",Rows.laid_allonge_order_numbers)]
theorem apT (os:Os)(args:Array Value):laidMetH Tryz.prog DD ((World.doorLaid Tryz.prog 400 os).forCall (fun _ _=>0) ⟨#[],args,[]⟩).memory:=
 laidMetH_of_parts3 (fuel:=8) (laidMet_of_run' 8 (by kernel_rfl) (by kernel_rfl)) (by kernel_rfl) (by kernel_rfl)
theorem apU {W:World}(h:laidMetH Tryz.prog DD W):CtxOK ctx (mz W):=by
 rw[MakeChecks.laidMetH_plain _ _ _ (by kernel_rfl)] at h;refine asS (g:=0) (name:= "allonge/order.numbers") rfl (by kernel_rfl) (by kernel_rfl) ?_;exact Lib.tabIs_of_head (g:=0) (n:=10) (by kernel_rfl) (t:=209) (by kernel_rfl) (e:=3) (by kernel_rfl) (by kernel_rfl) (by kernel_rfl) (by kernel_rfl) h
theorem agU (ds:List D)(h:DTys ((bP uw 3).getD default).args ds):kX ctx 3 ((bP uw 3).getD default) ds (.v (.bool true)):=by
 obtain⟨d1,ds,rfl,h1,h⟩:=DTys.cons_inv h;obtain⟨d2,ds,rfl,h2,h⟩:=DTys.cons_inv h;obtain⟨d3,ds,rfl,h3,h⟩:=DTys.cons_inv h;obtain⟨d4,ds,rfl,h4,h⟩:=DTys.cons_inv h;obtain⟨d5,ds,rfl,h5,h⟩:=DTys.cons_inv h;obtain⟨d6,ds,rfl,h6,h⟩:=DTys.cons_inv h;obtain⟨d7,ds,rfl,h7,h⟩:=DTys.cons_inv h;obtain rfl:=h.nil_inv;obtain⟨r,rfl,hr⟩:=arP h1;obtain⟨n2,rfl,_⟩:=h2.int_inv;obtain⟨f,rfl,hf⟩:=aiT h3;obtain⟨n4,rfl,_⟩:=h4.int_inv;obtain⟨n5,rfl,_⟩:=h5.int_inv;obtain⟨n6,rfl,g6⟩:=h6.int_inv;have e6:IntKind.u8.min=0∧IntKind.u8.max=255:=by decide
 rw[e6.1,e6.2] at g6;obtain⟨k6,rfl⟩:=mT g6.1;obtain⟨n7,rfl,g7⟩:=h7.int_inv;have e7:IntKind.u8.min=0∧IntKind.u8.max=255:=by decide
 rw[e7.1,e7.2] at g7;obtain⟨k7,rfl⟩:=mT g7.1;exact aj.fnOK asT rfl (afZ r hr n2 f hf n4 n5 k6 (by omega) k7 (by omega))
set_option maxRecDepth 100000 in
theorem agT (os:Os)(started:os.Started)(H:Type)(enc:TypeId×Value→H):
 ReturnsInHanded {} Tryz.checked os 3 .any (fun w args=>(Rows.bindTellsSpec.pre enc Tryz.prog Tryz.f3 [] false w args∧laidMetH Tryz.prog DD w)∧sizedMet enc Tryz.prog Tryz.f3 (OpenSpec.ofChange Rows.bindTellsSpec) false w args)
  (Rows.bindTellsSpec.post enc Tryz.prog Tryz.f3 false true false false):=by
 refine returnsInHanded_of_change_and (C:=Tryz.checked) (X:=fun w _=>laidMetH Tryz.prog DD w) (fun _ _ _ hh h=>h.of_heap hh) apV started (by kernel_rfl) Tryz.func3
  (ChangeSpec.witness_shaped (enc:=enc) (C:=Tryz.checked) (os:=os) (X:=fun w _=>laidMetH Tryz.prog DD w) false (World.doorLaid Tryz.prog 400 os) #[.agg #[.slice none 0 0,.slice none 0 0,.slice none 0 0,.slice none 0 0,.slice none 0 0,.slice none 0 0,.slice none 0 0,.slice none 0 0],.int .i64 0,.agg #[.int .i64 0,.int .i64 0,.int .i64 0,.int .i64 0,.int .i64 0,.int .i64 0,.int .i64 0,.int .i64 0,.int .i64 0,.int .i64 0,.int .i64 0,.int .i64 0,.int .i64 0,.int .i64 0,.int .i64 0,.slice none 0 0,.slice none 0 0,.slice none 0 0,.slice none 0 0],.int .i64 0,.int .i64 0,.int .u8 0,.int .u8 0] 8 rfl (World.shaped_of_RefB (by kernel_rfl) (by kernel_rfl)) (by kernel_rfl) (by kernel_rfl) (by kernel_rfl) (apT os _)) ?_
 intro W base args ds gs before cT hW _ _ hL _;refine anF (C:=ctx) (f:=3) (fn:=Tryz.f3) (sg:=(bP uw 3).getD default) (spec:=Rows.bindTellsSpec) (tb:=4) (by kernel_rfl) (by kernel_rfl) (by kernel_rfl) rfl ?_ rfl Tryz.underlying4 rfl rfl agU W (apU hL) base args ds gs before cT hW;intro ds CG
 match ds,CG with
 |[_,_,_,_,_,_,_],_=>exact⟨rfl,rfl,rfl⟩
set_option maxHeartbeats 4000000 in
theorem agS:joinedFacts Tryz.pinned.checked.prog 3 Tryz.f3 Rows.bindTellsSpec Rows.bindTellsRow=true:=by
 unfold joinedFacts;simp only[ay]
 repeat' apply And.intro
 all_goals (as_aux_lemma=>kernel_rfl)
theorem W5:Tryz.pinned.checked.prog.funcNamed Rows.bindTellsRow.func=some 3:=by kernel_rfl
theorem agR:Tryz.f3.isInstance Tryz.pinned.checked.prog Rows.bindTellsRow.origin Rows.bindTellsRow.targs:=of_decide_eq_true (by kernel_rfl)
theorem agY:Tryz.f3.isWrapper Tryz.pinned.checked.prog Rows.bindTellsRow.wrapper Rows.bindTellsRow.mainSum:=by
 unfold Func.isWrapper;first|(rw[if_pos (by decide+kernel)];kernel_rfl)|(rw[if_neg (by decide+kernel)];exact⟨rfl,rfl⟩)
theorem agW:Rows.BindTellsSaid:=
 OpenClaim.holds_of_wide 3 Tryz.f3 rfl rfl rfl rfl rfl rfl rfl ⟨rfl,rfl,rfl,rfl,rfl⟩ rfl rfl rfl rfl rfl W5 Tryz.func3 agS agR agY
  (fun os started H enc _=>agT os started H enc)
theorem agX:Rows.bindTellsRow.wfByText (OpenSpec.ofChange Rows.bindTellsSpec)=true:=by kernel_rfl
theorem asn:Tryz.pinned.checked.prog.mainIs=some (true, "910bf8ab54894ccb151465f318fbcff65847677fe2ce5caded0b63ef4e76dca1".toList):=by kernel_rfl
theorem asl:false=Tryz.pinned.checked.prog.looks []:=by kernel_rfl
theorem agV:(Tryz.f3.params.toList.all fun u=> !Tryz.prog.wantsStandIn u)=true:=by kernel_rfl
theorem agQ:false=Rows.bindTellsRow.goesBy Tryz.pinned.checked.prog:=by kernel_rfl
theorem bindTells_holds:Rows.BindTellsCardSaid:=
 Claim7.holds_tied_plain_at .later [] [.widerDeep] true (true, "910bf8ab54894ccb151465f318fbcff65847677fe2ce5caded0b63ef4e76dca1") false
  agW (fun _ h=>by cases h) agX (fun _ h=>by cases h) bindTells_row_tie rfl ⟨rfl,rfl⟩ asn rfl
  (fun f fn hf oA=>by
    obtain rfl:f=3:=Bo (W5.symm.trans hf) |>.symm;obtain rfl:fn=Tryz.f3:=(Bo (Tryz.func3.symm.trans oA)).symm
    exact⟨asl,fun j t ht=>by
        have hm:t∈Tryz.f3.params.toList:=by simpa using nQ ht
        exact(show Tryz.prog.wantsStandIn t=false by simpa using eQ.1 agV t hm)⟩)
  agQ
#print axioms bindTells_holds
end Go.Proofs.YtbeeplempgffoaaGreatDoor
