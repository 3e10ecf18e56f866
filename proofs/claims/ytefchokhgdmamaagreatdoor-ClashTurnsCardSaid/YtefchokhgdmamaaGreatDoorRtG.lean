/-
  The statement: ClashTurns. For all right realms and files, the turn is the first one that turns the answer, by the order of lists
-/
import Derived.Test.YtefchokhgdmamaaGreatDoorUAV
import Derived.Test.YtefchokhgdmamaaGreatDoorCards
import Derived.Test.YtefchokhgdmamaaGreatDoorTie
import Derived.ProofKit
import Derived.LaidMore
import Derived.OpenShut
import Derived.Stop.Joined
import Derived.SevenTiedAt
set_option linter.unusedSimpArgs false
set_option linter.unusedVariables false
namespace Go.Proofs.YtefchokhgdmamaaGreatDoor
open Go Go.Proofs Cx Rm Go.RowKit Go.ChangeShapes Go.WideShapes
theorem DX:ownKnob Tryz.prog.godebug=none:=by kernel_rfl
abbrev kI:List (String×DataW Unit):=[("allonge/order.numbers",Rows.laid_allonge_order_numbers)]
theorem DV (os:Os)(args:Array Value):laidMetH Tryz.prog kI ((World.doorLaid Tryz.prog 400 os).forCall (fun _ _=>0) ⟨#[],args,[]⟩).memory:=
 laidMetH_of_parts3 (fuel:=8) (laidMet_of_run' 8 (by kernel_rfl) (by kernel_rfl)) (by kernel_rfl) (by kernel_rfl)
theorem DW {W:World}(h:laidMetH Tryz.prog kI W):CtxOK ctx (l9 W):=by
 rw[MakeChecks.laidMetH_plain _ _ _ (by kernel_rfl)] at h;refine Rw (g:=0) (name:= "allonge/order.numbers") rfl (by kernel_rfl) (by kernel_rfl) ?_;exact Lib.tabIs_of_head (g:=0) (n:=10) (by kernel_rfl) (t:=169) (by kernel_rfl) (e:=3) (by kernel_rfl) (by kernel_rfl) (by kernel_rfl) (by kernel_rfl) h
theorem aeD (ds:List D)(h:DTys ((bm m9 4).getD default).args ds):gX ctx 4 ((bm m9 4).getD default) ds (.v (.bool true)):=by
 obtain⟨d1,ds,rfl,h1,h⟩:=DTys.cons_inv h;obtain⟨d2,ds,rfl,h2,h⟩:=DTys.cons_inv h;obtain⟨d3,ds,rfl,h3,h⟩:=DTys.cons_inv h;obtain⟨d4,ds,rfl,h4,h⟩:=DTys.cons_inv h;obtain⟨d5,ds,rfl,h5,h⟩:=DTys.cons_inv h;obtain⟨d6,ds,rfl,h6,h⟩:=DTys.cons_inv h;obtain rfl:=h.nil_inv;obtain⟨r,rfl,hr⟩:=Ra h1;obtain⟨n2,rfl,_⟩:=h2.int_inv;obtain⟨n3,rfl,_⟩:=h3.int_inv;obtain⟨n4,rfl,_⟩:=h4.int_inv;obtain⟨c,rfl,hc⟩:=L4 h5;obtain⟨n6,rfl,g6⟩:=h6.int_inv;have e6:IntKind.u8.min=0∧IntKind.u8.max=255:=by decide
 rw[e6.1,e6.2] at g6;obtain⟨k6,rfl⟩:=tN g6.1;exact av.fnOK Rx rfl (acG r hr n2 n3 n4 c hc k6 (by omega))
set_option maxRecDepth 100000 in
theorem aeC (os:Os)(started:os.Started)(H:Type)(enc:TypeId×Value→H):
 ReturnsInHanded {} Tryz.checked os 4 .any (fun w args=>(Rows.clashTurnsSpec.pre enc Tryz.prog Tryz.f4 [] false w args∧laidMetH Tryz.prog kI w)∧sizedMet enc Tryz.prog Tryz.f4 (OpenSpec.ofChange Rows.clashTurnsSpec) false w args)
  (Rows.clashTurnsSpec.post enc Tryz.prog Tryz.f4 false true false false):=by
 refine returnsInHanded_of_change_and (C:=Tryz.checked) (X:=fun w _=>laidMetH Tryz.prog kI w) (fun _ _ _ hh h=>h.of_heap hh) DX started (by kernel_rfl) Tryz.func4
  (ChangeSpec.witness_shaped (enc:=enc) (C:=Tryz.checked) (os:=os) (X:=fun w _=>laidMetH Tryz.prog kI w) false (World.doorLaid Tryz.prog 400 os) #[.agg #[.slice none 0 0,.slice none 0 0,.slice none 0 0,.slice none 0 0,.slice none 0 0,.slice none 0 0,.slice none 0 0,.slice none 0 0],.int .i64 0,.int .i64 0,.int .i64 0,.agg #[.int .i64 0,.int .i64 0,.int .i64 0,.int .i64 0,.int .i64 0,.int .i64 0,.int .i64 0,.int .i64 0,.int .i64 0,.int .i64 0,.int .i64 0,.int .i64 0,.int .i64 0,.int .i64 0,.int .i64 0,.slice none 0 0,.slice none 0 0,.slice none 0 0,.slice none 0 0,.int .i64 0,.int .i64 0,.int .i64 0,.int .i64 0,.int .i64 0],.int .u8 0] 8 rfl (World.shaped_of_RefB (by kernel_rfl) (by kernel_rfl)) (by kernel_rfl) (by kernel_rfl) (by kernel_rfl) (DV os _)) ?_
 intro W base args ds gs before cl hW _ _ hL _;refine OM (C:=ctx) (f:=4) (fn:=Tryz.f4) (sg:=(bm m9 4).getD default) (spec:=Rows.clashTurnsSpec) (tb:=4) (by kernel_rfl) (by kernel_rfl) (by kernel_rfl) rfl ?_ rfl Tryz.underlying4 rfl rfl aeD W (DW hL) base args ds gs before cl hW;intro ds pS
 match ds,pS with
 |[_,_,_,_,_,_],_=>exact⟨rfl,rfl,rfl⟩
set_option maxHeartbeats 4000000 in
theorem aeB:joinedFacts Tryz.pinned.checked.prog 4 Tryz.f4 Rows.clashTurnsSpec Rows.clashTurnsRow=true:=by
 unfold joinedFacts;simp only[aj]
 repeat' apply And.intro
 all_goals (as_aux_lemma=>kernel_rfl)
theorem U9:Tryz.pinned.checked.prog.funcNamed Rows.clashTurnsRow.func=some 4:=by kernel_rfl
theorem aeA:Tryz.f4.isInstance Tryz.pinned.checked.prog Rows.clashTurnsRow.origin Rows.clashTurnsRow.targs:=of_decide_eq_true (by kernel_rfl)
theorem aeH:Tryz.f4.isWrapper Tryz.pinned.checked.prog Rows.clashTurnsRow.wrapper Rows.clashTurnsRow.mainSum:=by
 unfold Func.isWrapper;first|(rw[if_pos (by decide+kernel)];kernel_rfl)|(rw[if_neg (by decide+kernel)];exact⟨rfl,rfl⟩)
theorem aeF:Rows.ClashTurnsSaid:=
 OpenClaim.holds_of_wide 4 Tryz.f4 rfl rfl rfl rfl rfl rfl rfl ⟨rfl,rfl,rfl,rfl,rfl⟩ rfl rfl rfl rfl rfl U9 Tryz.func4 aeB aeA aeH
  (fun os started H enc _=>aeC os started H enc)
theorem aeG:Rows.clashTurnsRow.wfByText (OpenSpec.ofChange Rows.clashTurnsSpec)=true:=by kernel_rfl
theorem Fe:Tryz.pinned.checked.prog.mainIs=some (true, "a3d668e6c97eaf8f0fd00d2b197971d1e83be4dd1f3d82c91f46a6eaef084950".toList):=by kernel_rfl
theorem Fc:false=Tryz.pinned.checked.prog.looks []:=by kernel_rfl
theorem aeE:(Tryz.f4.params.toList.all fun u=> !Tryz.prog.wantsStandIn u)=true:=by kernel_rfl
theorem aez:false=Rows.clashTurnsRow.goesBy Tryz.pinned.checked.prog:=by kernel_rfl
theorem clashTurns_holds:Rows.ClashTurnsCardSaid:=
 Claim7.holds_tied_plain_at .later [] [.widerDeep] true (true, "a3d668e6c97eaf8f0fd00d2b197971d1e83be4dd1f3d82c91f46a6eaef084950") false
  aeF (fun _ h=>by cases h) aeG (fun _ h=>by cases h) clashTurns_row_tie rfl ⟨rfl,rfl⟩ Fe rfl
  (fun f fn hf hfn=>by
    obtain rfl:f=4:=tU (U9.symm.trans hf) |>.symm;obtain rfl:fn=Tryz.f4:=(tU (Tryz.func4.symm.trans hfn)).symm
    exact⟨Fc,fun j t ht=>by
        have hm:t∈Tryz.f4.params.toList:=by simpa using gE ht
        exact(show Tryz.prog.wantsStandIn t=false by simpa using bz.1 aeE t hm)⟩)
  aez
#print axioms clashTurns_holds
end Go.Proofs.YtefchokhgdmamaaGreatDoor
