/-
  The statement: LostObjects. LostObjects, as the card says.
-/
import Derived.Test.YtmnnipoiigfapaaGreatDoorKAQ
import Derived.Test.YtmnnipoiigfapaaGreatDoorCards
import Derived.Test.YtmnnipoiigfapaaGreatDoorTie
import Derived.ProofKit
import Derived.LaidMore
import Derived.OpenShut
import Derived.Stop.Joined
import Derived.SevenTiedAt
set_option linter.unusedSimpArgs false
set_option linter.unusedVariables false
namespace Go.Proofs.YtmnnipoiigfapaaGreatDoor
open Go Go.Proofs Cx Rm Go.RowKit Go.ChangeShapes Go.WideShapes
theorem NY:ownKnob Tryz.prog.godebug=none:=by kernel_rfl
abbrev po:List (String×DataW Unit):=[("allonge/order.numbers",Rows.laid_allonge_order_numbers)]
theorem NW (os:Os)(args:Array Value):laidMetH Tryz.prog po ((World.doorLaid Tryz.prog 400 os).forCall (fun _ _=>0) ⟨#[],args,[]⟩).memory:=
 laidMetH_of_parts3 (fuel:=8) (laidMet_of_run' 8 (by kernel_rfl) (by kernel_rfl)) (by kernel_rfl) (by kernel_rfl)
theorem NX {W:World}(h:laidMetH Tryz.prog po W):CtxOK ctx (lX W):=by
 rw[MakeChecks.laidMetH_plain _ _ _ (by kernel_rfl)] at h;refine abq (g:=0) (name:= "allonge/order.numbers") rfl (by kernel_rfl) (by kernel_rfl) ?_;exact Lib.tabIs_of_head (g:=0) (n:=10) (by kernel_rfl) (t:=192) (by kernel_rfl) (e:=3) (by kernel_rfl) (by kernel_rfl) (by kernel_rfl) (by kernel_rfl) h
theorem ajY (ds:List D)(h:DTys ((bz pI 5).getD default).args ds):gK ctx 5 ((bz pI 5).getD default) ds (.v (.bool true)):=by
 obtain⟨d1,ds,rfl,h1,h⟩:=DTys.cons_inv h;obtain⟨d2,ds,rfl,h2,h⟩:=DTys.cons_inv h;obtain⟨d3,ds,rfl,h3,h⟩:=DTys.cons_inv h;obtain⟨d4,ds,rfl,h4,h⟩:=DTys.cons_inv h;obtain⟨d5,ds,rfl,h5,h⟩:=DTys.cons_inv h;obtain⟨d6,ds,rfl,h6,h⟩:=DTys.cons_inv h;obtain⟨d7,ds,rfl,h7,h⟩:=DTys.cons_inv h;obtain rfl:=h.nil_inv;obtain⟨r,rfl,hr⟩:=aaH h1;obtain⟨n2,rfl,_⟩:=h2.int_inv;obtain⟨f,rfl,hf⟩:=UT h3;obtain⟨x,rfl,hx⟩:=Xx h4;obtain⟨n5,rfl,g5⟩:=h5.i64_inv;obtain⟨n6,rfl,g6⟩:=h6.i64_inv;obtain⟨n7,rfl,g7⟩:=h7.int_inv;have e7:IntKind.u16.min=0∧IntKind.u16.max=65535:=by decide
 rw[e7.1,e7.2] at g7;obtain⟨k7,rfl⟩:=q9 g7.1;exact ao.fnOK abr rfl (aca r hr n2 f hf x hx n5 g5 n6 g6 k7 (by omega))
set_option maxRecDepth 100000 in
theorem ajX (os:Os)(started:os.Started)(H:Type)(enc:TypeId×Value→H):
 ReturnsInHanded {} Tryz.checked os 5 .any (fun w args=>(Rows.lostObjectsSpec.pre enc Tryz.prog Tryz.f5 [] false w args∧laidMetH Tryz.prog po w)∧sizedMet enc Tryz.prog Tryz.f5 (OpenSpec.ofChange Rows.lostObjectsSpec) false w args)
  (Rows.lostObjectsSpec.post enc Tryz.prog Tryz.f5 false true false false):=by
 refine returnsInHanded_of_change_and (C:=Tryz.checked) (X:=fun w _=>laidMetH Tryz.prog po w) (fun _ _ _ hh h=>h.of_heap hh) NY started (by kernel_rfl) Tryz.func5
  (ChangeSpec.witness_shaped (enc:=enc) (C:=Tryz.checked) (os:=os) (X:=fun w _=>laidMetH Tryz.prog po w) false (World.doorLaid Tryz.prog 400 os) #[.agg #[.slice none 0 0,.slice none 0 0,.slice none 0 0,.slice none 0 0,.slice none 0 0,.slice none 0 0,.slice none 0 0,.slice none 0 0],.int .i64 0,.agg #[.int .i64 0,.int .i64 0,.int .i64 0,.int .i64 0,.int .i64 0,.int .i64 0,.int .i64 0,.int .i64 0,.int .i64 0,.int .i64 0,.int .i64 0,.int .i64 0,.int .i64 0,.int .i64 0,.int .i64 0,.slice none 0 0,.slice none 0 0,.slice none 0 0,.slice none 0 0],.agg #[.int .i64 0,.int .i64 0,.int .i64 0,.int .i64 0,.int .i64 0,.slice none 0 0],.int .i64 0,.int .i64 0,.int .u16 0] 8 rfl (World.shaped_of_RefB (by kernel_rfl) (by kernel_rfl)) (by kernel_rfl) (by kernel_rfl) (by kernel_rfl) (NW os _)) ?_
 intro W base args ds gs before bZ hW _ _ hL _;refine W4 (C:=ctx) (f:=5) (fn:=Tryz.f5) (sg:=(bz pI 5).getD default) (spec:=Rows.lostObjectsSpec) (tb:=4) (by kernel_rfl) (by kernel_rfl) (by kernel_rfl) rfl ?_ rfl Tryz.underlying4 rfl rfl ajY W (NX hL) base args ds gs before bZ hW;intro ds rR
 match ds,rR with
 |[_,_,_,_,_,_,_],_=>exact⟨rfl,rfl,rfl⟩
set_option maxHeartbeats 4000000 in
theorem ajW:joinedFacts Tryz.pinned.checked.prog 5 Tryz.f5 Rows.lostObjectsSpec Rows.lostObjectsRow=true:=by
 unfold joinedFacts;simp only[ak]
 repeat' apply And.intro
 all_goals (as_aux_lemma=>kernel_rfl)
theorem Xv:Tryz.pinned.checked.prog.funcNamed Rows.lostObjectsRow.func=some 5:=by kernel_rfl
theorem ajV:Tryz.f5.isInstance Tryz.pinned.checked.prog Rows.lostObjectsRow.origin Rows.lostObjectsRow.targs:=of_decide_eq_true (by kernel_rfl)
theorem aj2:Tryz.f5.isWrapper Tryz.pinned.checked.prog Rows.lostObjectsRow.wrapper Rows.lostObjectsRow.mainSum:=by
 unfold Func.isWrapper;first|(rw[if_pos (by decide+kernel)];kernel_rfl)|(rw[if_neg (by decide+kernel)];exact⟨rfl,rfl⟩)
theorem aj0:Rows.LostObjectsSaid:=
 OpenClaim.holds_of_wide 5 Tryz.f5 rfl rfl rfl rfl rfl rfl rfl ⟨rfl,rfl,rfl,rfl,rfl⟩ rfl rfl rfl rfl rfl Xv Tryz.func5 ajW ajV aj2
  (fun os started H enc _=>ajX os started H enc)
theorem aj1:Rows.lostObjectsRow.wfByText (OpenSpec.ofChange Rows.lostObjectsSpec)=true:=by kernel_rfl
theorem Qx:Tryz.pinned.checked.prog.mainIs=some (true, "a399b5fb3ed0115138ca3e91a0991f1664a0c778265214f3fd6abae19e871963".toList):=by kernel_rfl
theorem Qw:false=Tryz.pinned.checked.prog.looks []:=by kernel_rfl
theorem ajZ:(Tryz.f5.params.toList.all fun u=> !Tryz.prog.wantsStandIn u)=true:=by kernel_rfl
theorem ajU:false=Rows.lostObjectsRow.goesBy Tryz.pinned.checked.prog:=by kernel_rfl
theorem lostObjects_holds:Rows.LostObjectsCardSaid:=
 Claim7.holds_tied_plain_at .later [] [.widerDeep] true (true, "a399b5fb3ed0115138ca3e91a0991f1664a0c778265214f3fd6abae19e871963") false
  aj0 (fun _ h=>by cases h) aj1 (fun _ h=>by cases h) lostObjects_row_tie rfl ⟨rfl,rfl⟩ Qx rfl
  (fun f fn hf hfn=>by
    obtain rfl:f=5:=u9 (Xv.symm.trans hf) |>.symm;obtain rfl:fn=Tryz.f5:=(u9 (Tryz.func5.symm.trans hfn)).symm
    exact⟨Qw,fun j t ht=>by
        have hm:t∈Tryz.f5.params.toList:=by simpa using gq ht
        exact(show Tryz.prog.wantsStandIn t=false by simpa using bE.1 ajZ t hm)⟩)
  ajU
#print axioms lostObjects_holds
end Go.Proofs.YtmnnipoiigfapaaGreatDoor
