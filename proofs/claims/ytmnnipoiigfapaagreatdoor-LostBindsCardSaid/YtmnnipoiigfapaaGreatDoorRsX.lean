/-
  The statement: LostBinds. LostBinds, as the card says.
-/
import Derived.Test.YtmnnipoiigfapaaGreatDoorBAR
import Derived.Test.YtmnnipoiigfapaaGreatDoorCards
import Derived.Test.YtmnnipoiigfapaaGreatDoorTie
import Derived.ProofKit
import Derived.LaidMore
import Derived.OpenShut
import Derived.Stop.Joined
import Derived.SevenTiedAt
set_option linter.unusedSimpArgs false
set_option linter.unusedVariables false
namespace Go.Proofs.YtmnnipoiigfapaaGreatDoor
open Go Go.Proofs Cx Rm Go.RowKit Go.ChangeShapes Go.WideShapes
theorem aqL:ownKnob Tryz.prog.godebug=none:=by kernel_rfl
abbrev EZ:List (String×DataW Unit):=[("allonge/order.numbers",Rows.laid_allonge_order_numbers)]
theorem aqJ (os:Os)(args:Array Value):laidMetH Tryz.prog EZ ((World.doorLaid Tryz.prog 400 os).forCall (fun _ _=>0) ⟨#[],args,[]⟩).memory:=
 laidMetH_of_parts3 (fuel:=8) (laidMet_of_run' 8 (by kernel_rfl) (by kernel_rfl)) (by kernel_rfl) (by kernel_rfl)
theorem aqK {W:World}(h:laidMetH Tryz.prog EZ W):CtxOK ctx (nz W):=by
 rw[MakeChecks.laidMetH_plain _ _ _ (by kernel_rfl)] at h;refine atL (g:=0) (name:= "allonge/order.numbers") rfl (by kernel_rfl) (by kernel_rfl) ?_;exact Lib.tabIs_of_head (g:=0) (n:=10) (by kernel_rfl) (t:=192) (by kernel_rfl) (e:=3) (by kernel_rfl) (by kernel_rfl) (by kernel_rfl) (by kernel_rfl) h
theorem aoH (ds:List D)(h:DTys ((bI vN 6).getD default).args ds):iz ctx 6 ((bI vN 6).getD default) ds (.v (.bool true)):=by
 obtain⟨d1,ds,rfl,h1,h⟩:=DTys.cons_inv h;obtain⟨d2,ds,rfl,h2,h⟩:=DTys.cons_inv h;obtain⟨d3,ds,rfl,h3,h⟩:=DTys.cons_inv h;obtain⟨d4,ds,rfl,h4,h⟩:=DTys.cons_inv h;obtain⟨d5,ds,rfl,h5,h⟩:=DTys.cons_inv h;obtain⟨d6,ds,rfl,h6,h⟩:=DTys.cons_inv h;obtain rfl:=h.nil_inv;obtain⟨r,rfl,hr⟩:=asL h1;obtain⟨n2,rfl,_⟩:=h2.int_inv;obtain⟨n3,rfl,_⟩:=h3.int_inv;obtain⟨f,rfl,hf⟩:=ajs h4;obtain⟨x,rfl,hx⟩:=aoP h5;obtain⟨n6,rfl,g6⟩:=h6.i64_inv;exact ao.fnOK atM rfl (agp r hr n2 n3 f hf x hx n6 g6)
set_option maxRecDepth 100000 in
theorem aoG (os:Os)(started:os.Started)(H:Type)(enc:TypeId×Value→H):
 ReturnsInHanded {} Tryz.checked os 6 .any (fun w args=>(Rows.lostBindsSpec.pre enc Tryz.prog Tryz.f6 [] false w args∧laidMetH Tryz.prog EZ w)∧sizedMet enc Tryz.prog Tryz.f6 (OpenSpec.ofChange Rows.lostBindsSpec) false w args)
  (Rows.lostBindsSpec.post enc Tryz.prog Tryz.f6 false true false false):=by
 refine returnsInHanded_of_change_and (C:=Tryz.checked) (X:=fun w _=>laidMetH Tryz.prog EZ w) (fun _ _ _ hh h=>h.of_heap hh) aqL started (by kernel_rfl) Tryz.func6
  (ChangeSpec.witness_shaped (enc:=enc) (C:=Tryz.checked) (os:=os) (X:=fun w _=>laidMetH Tryz.prog EZ w) false (World.doorLaid Tryz.prog 400 os) #[.agg #[.slice none 0 0,.slice none 0 0,.slice none 0 0,.slice none 0 0,.slice none 0 0,.slice none 0 0,.slice none 0 0,.slice none 0 0],.int .i64 0,.int .i64 0,.agg #[.int .i64 0,.int .i64 0,.int .i64 0,.int .i64 0,.int .i64 0,.int .i64 0,.int .i64 0,.int .i64 0,.int .i64 0,.int .i64 0,.int .i64 0,.int .i64 0,.int .i64 0,.int .i64 0,.int .i64 0,.slice none 0 0,.slice none 0 0,.slice none 0 0,.slice none 0 0],.agg #[.int .i64 0,.int .i64 0,.int .i64 0,.int .i64 0,.int .i64 0,.slice none 0 0],.int .i64 0] 8 rfl (World.shaped_of_RefB (by kernel_rfl) (by kernel_rfl)) (by kernel_rfl) (by kernel_rfl) (by kernel_rfl) (aqJ os _)) ?_
 intro W base args ds gs before cq hW _ _ hL _;refine aot (C:=ctx) (f:=6) (fn:=Tryz.f6) (sg:=(bI vN 6).getD default) (spec:=Rows.lostBindsSpec) (tb:=4) (by kernel_rfl) (by kernel_rfl) (by kernel_rfl) rfl ?_ rfl Tryz.underlying4 rfl rfl aoH W (aqK hL) base args ds gs before cq hW;intro ds wW
 match ds,wW with
 |[_,_,_,_,_,_],_=>exact⟨rfl,rfl,rfl⟩
set_option maxHeartbeats 4000000 in
theorem aoF:joinedFacts Tryz.pinned.checked.prog 6 Tryz.f6 Rows.lostBindsSpec Rows.lostBindsRow=true:=by
 unfold joinedFacts;simp only[aq]
 repeat' apply And.intro
 all_goals (as_aux_lemma=>kernel_rfl)
theorem aa9:Tryz.pinned.checked.prog.funcNamed Rows.lostBindsRow.func=some 6:=by kernel_rfl
theorem aoE:Tryz.f6.isInstance Tryz.pinned.checked.prog Rows.lostBindsRow.origin Rows.lostBindsRow.targs:=of_decide_eq_true (by kernel_rfl)
theorem aoL:Tryz.f6.isWrapper Tryz.pinned.checked.prog Rows.lostBindsRow.wrapper Rows.lostBindsRow.mainSum:=by
 unfold Func.isWrapper;first|(rw[if_pos (by decide+kernel)];kernel_rfl)|(rw[if_neg (by decide+kernel)];exact⟨rfl,rfl⟩)
theorem aoJ:Rows.LostBindsSaid:=
 OpenClaim.holds_of_wide 6 Tryz.f6 rfl rfl rfl rfl rfl rfl rfl ⟨rfl,rfl,rfl,rfl,rfl⟩ rfl rfl rfl rfl rfl aa9 Tryz.func6 aoF aoE aoL
  (fun os started H enc _=>aoG os started H enc)
theorem aoK:Rows.lostBindsRow.wfByText (OpenSpec.ofChange Rows.lostBindsSpec)=true:=by kernel_rfl
theorem ath:Tryz.pinned.checked.prog.mainIs=some (true, "a399b5fb3ed0115138ca3e91a0991f1664a0c778265214f3fd6abae19e871963".toList):=by kernel_rfl
theorem atg:false=Tryz.pinned.checked.prog.looks []:=by kernel_rfl
theorem aoI:(Tryz.f6.params.toList.all fun u=> !Tryz.prog.wantsStandIn u)=true:=by kernel_rfl
theorem aoD:false=Rows.lostBindsRow.goesBy Tryz.pinned.checked.prog:=by kernel_rfl
theorem lostBinds_holds:Rows.LostBindsCardSaid:=
 Claim7.holds_tied_plain_at .later [] [.widerDeep] true (true, "a399b5fb3ed0115138ca3e91a0991f1664a0c778265214f3fd6abae19e871963") false
  aoJ (fun _ h=>by cases h) aoK (fun _ h=>by cases h) lostBinds_row_tie rfl ⟨rfl,rfl⟩ ath rfl
  (fun f fn hf hfn=>by
    obtain rfl:f=6:=Cw (aa9.symm.trans hf) |>.symm;obtain rfl:fn=Tryz.f6:=(Cw (Tryz.func6.symm.trans hfn)).symm
    exact⟨atg,fun j t ht=>by
        have hm:t∈Tryz.f6.params.toList:=by simpa using gT ht
        exact(show Tryz.prog.wantsStandIn t=false by simpa using bK.1 aoI t hm)⟩)
  aoD
#print axioms lostBinds_holds
end Go.Proofs.YtmnnipoiigfapaaGreatDoor
